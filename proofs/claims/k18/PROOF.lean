import PyProof.Rows.All
import Wide.All
import OpenK.AllK
import Wide.FinOn
import HandS.ForMost
import HandS.Exc
import HandS.Wide
import HandS.WideBits
import HandS.Gcd
import HandS.IsInst
import HandS.Flow
import HandS.Zip
import HandS.Rev
import HandS.TupMul
import HandS.TupAny
import HandS.ExcOwn
import HandS.Style
import KE.KStateDown
import Lean
import HandS.Ends
import HandS.More
import HandS.Words
import HandS.WordsExc
import HandS.Defaults
import HandS.Head0
import HandS.Head1
import HandS.Head2
import HandS.HeadEnd
import HandS.HeadHook1
import HandS.HeadHook2
import HandS.Deep
import KE.KDictKeyed
import PyProof.Rows.TupTab
import HandS.Conv
import PyProof.Draws
import PyProof.EnumMake
import PySem.Challenge.RW_wholetosses_k18_whole_least_means
import HandS.Head3
section
set_option Elab.async false
set_option linter.all false
set_option maxRecDepth 100000
/-! K1: values D, stores, results, the small language E / S, its evaluator. Own work. -/
namespace WT
open PySem

inductive D where
  | non | bl (b : Bool) | int (i : Int) | str (x : Str) | tup (xs : List D) | lst (xs : List D) | frz (ns : List Int)
  | dK (ks : List L2.Key) (vs : List D) | dT (ks : List NestedKey) (vs : List D) | ref (k : Nat) | exc (c : Str) (d : D)

abbrev Sto := List (List D)
inductive R (α : Type) where
  | ok (a : α) (st : Sto) | exn (c : Str) (d : D) (st : Sto) | bad
def R.bind {α β : Type} : R α → (α → Sto → R β) → R β
  | .ok a st, f => f a st
  | .exn c d st, _ => .exn c d st
  | .bad, _ => .bad
/-- no error leaves -/
def R.nox {α : Type} : R α → R α
  | .exn _ _ _ => .bad
  | r => r
@[simp] theorem R.nox_ok {α : Type} (a : α) (st : Sto) : (R.ok a st).nox = .ok a st := rfl
def R.ofO {α : Type} (st : Sto) : Option α → R α
  | some a => .ok a st
  | none => .bad
@[simp] theorem R.bind_ok {α β : Type} (a : α) (st : Sto) (f : α → Sto → R β) : (R.ok a st).bind f = f a st := rfl
@[simp] theorem R.bind_exn {α β : Type} (c : Str) (d : D) (st : Sto) (f : α → Sto → R β) : (R.exn c d st).bind f = .exn c d st := rfl
@[simp] theorem R.bind_bad {α β : Type} (f : α → Sto → R β) : (R.bad).bind f = .bad := rfl
@[simp] theorem R.ofO_some {α : Type} (st : Sto) (a : α) : R.ofO st (some a) = .ok a st := rfl
@[simp] theorem R.ofO_none {α : Type} (st : Sto) : R.ofO st (none : Option α) = .bad := rfl

def D.isNil : List D → Bool
  | [] => true
  | _ => false
/-! ### data without dicts, references: for == -/
mutual
def toPy : D → Option PyData
  | .non => some .none
  | .bl b => some (.bool b)
  | .int i => some (.int i)
  | .str x => some (.str x)
  | .tup xs => (toPys xs).map .tuple
  | .lst xs => (toPys xs).map .list
  | .frz _ => none
  | .dK _ _ => none
  | .dT _ _ => none
  | .ref _ => none
  | .exc _ _ => none
def toPys : List D → Option (List PyData)
  | [] => some []
  | x :: xs => match toPy x, toPys xs with
    | some a, some b => some (a :: b)
    | _, _ => none
end
/-- == of two data, where it is served -/
def eqD (a b : D) : Option Bool := match toPy a, toPy b with
  | some x, some y => if SeqAt.shaped x = true ∧ SeqAt.shaped y = true then some (PyData.eqv x y) else none
  | _, _ => none
/-! no list, no dict within -/
mutual
def noL : D → Bool
  | .non | .bl _ | .int _ | .str _ | .frz _ | .ref _ => true
  | .tup xs => noLs xs
  | .lst _ | .dK _ _ | .dT _ _ | .exc _ _ => false
def noLs : List D → Bool
  | [] => true
  | x :: xs => noL x && noLs xs
end
def flatD : D → Bool
  | .non | .bl _ | .int _ | .str _ => true
  | _ => false
def eqF : D → D → Bool
  | .non, .non => true
  | .bl a, .bl b => a == b
  | .bl a, .int j => (if a then 1 else 0) == j
  | .int i, .bl b => i == (if b then 1 else 0)
  | .int i, .int j => i == j
  | .str x, .str y => x == y
  | _, _ => false

/-! ### operations -/
def log2Lt (i : Int) (n : Nat) : Prop := i.natAbs.log2 < n
instance (i : Int) (n : Nat) : Decidable (log2Lt i n) := inferInstanceAs (Decidable (_ < _))
def mulOK (i j : Int) : Prop := ((-(2 ^ 64) < i ∧ i < 2 ^ 64) ∨ (-(2 ^ 64) < j ∧ j < 2 ^ 64)) ∨ (i.natAbs.log2 + j.natAbs.log2 < 1000000)
instance (i j : Int) : Decidable (mulOK i j) := inferInstanceAs (Decidable (_ ∨ _))
def divOK (j : Int) : Prop := j ≠ 0 ∧ log2Lt j 9000
instance (j : Int) : Decidable (divOK j) := inferInstanceAs (Decidable (_ ∧ _))
def powOK (i j : Int) : Prop := 0 ≤ j ∧ j ≤ 1000000 ∧ i.natAbs < 2 ^ 64
instance (i j : Int) : Decidable (powOK i j) := inferInstanceAs (Decidable (_ ∧ _))
def pwOK (i j : Int) : Prop := powOK i j ∨ (0 ≤ j ∧ ((i.natAbs.log2 + 1 : Nat) : Int) * j ≤ 2 ^ 27)
instance (i j : Int) : Decidable (pwOK i j) := inferInstanceAs (Decidable (_ ∨ _))
def repOK (n : Nat) (k : Int) : Prop := -(2 ^ 63) ≤ k ∧ k < 2 ^ 63 ∧ n * k.toNat ≤ sizeLine
instance (n : Nat) (k : Int) : Decidable (repOK n k) := inferInstanceAs (Decidable (_ ∧ _))
def repTOK (n : Nat) (k : Int) : Prop := n ≠ 0 ∧ 2 ≤ k ∧ k ≤ 1000 ∧ n ≤ 1000
instance (n : Nat) (k : Int) : Decidable (repTOK n k) := inferInstanceAs (Decidable (_ ∧ _))
def guardO {α : Type} (p : Prop) [Decidable p] (x : α) : Option α := if p then some x else none

def addD : D → D → Option D
  | .int a, .int b => some (.int (a + b))
  | .str a, .str b => guardO (a.length + b.length ≤ sizeLine) (.str (a ++ b))
  | .tup a, .tup b => guardO (a.length + b.length ≤ sizeLine) (.tup (a ++ b))
  | .lst a, .lst b => guardO (a.length + b.length ≤ sizeLine) (.lst (a ++ b))
  | _, _ => none
def mulD : D → D → Option D
  | .int a, .int b => guardO (mulOK a b) (.int (a * b))
  | .lst a, .int k => guardO (repOK a.length k) (.lst (List.replicate k.toNat a).flatten)
  | .tup a, .int k => if k = 1 ∨ a.isEmpty = true then guardO (-(2 ^ 63) ≤ k ∧ k < 2 ^ 63) (.tup a) else if k ≤ 0 then guardO (-1000 ≤ k) (.tup []) else guardO (repTOK a.length k) (.tup (List.replicate k.toNat a).flatten)
  | _, _ => none
def binD : Operator → D → D → Option D
  | .Add, a, b => addD a b
  | .Mult, a, b => mulD a b
  | .Sub, .int a, .int b => some (.int (a - b))
  | .FloorDiv, .int a, .int b => guardO (divOK b) (.int (a.fdiv b))
  | .Mod, .int a, .int b => guardO (b ≠ 0) (.int (a.fmod b))
  | .Pow, .int a, .int b => guardO (pwOK a b) (.int (a ^ b.toNat))
  | .LShift, .int a, .int b => guardO (powOK a b) (.int (a * 2 ^ b.toNat))
  | _, _, _ => none

/-- the items of a list or tuple that is walked or asked -/
def seqD (st : Sto) : D → Option (List D)
  | .lst xs => some xs
  | .tup xs => some xs
  | .ref k => st[k]?
  | _ => none
/-- dicts whose keys are ints and texts, whose values hold no lists: a key -/
def keyOf : D → Option L2.Key
  | .int i => some (.inl i)
  | .str x => some (.inr x)
  | _ => none
mutual
/-- a key of a dict whose keys are tuples of ints, also of such tuples -/
def keyNO : D → Option NestedKey
  | .non => some .none
  | .bl b => some (.num (if b = true then 1 else 0))
  | .int i => some (.num i)
  | .tup xs => (keyNOs xs).map .tup
  | .str _ => none
  | .lst _ => none
  | .frz _ => none
  | .dK _ _ => none
  | .dT _ _ => none
  | .ref _ => none
  | .exc _ _ => none
def keyNOs : List D → Option (List NestedKey)
  | [] => some []
  | x :: xs => match keyNO x, keyNOs xs with
    | some a, some b => some (a :: b)
    | _, _ => none
end
def keyTO : D → Option NestedKey
  | .tup xs => (keyNO (.tup xs)).bind fun k => if k.depth ≤ 8 then some k else none
  | _ => none
def valP {κ α : Type} [DecidableEq κ] : List κ → List α → κ → Option α
  | k' :: ks, v :: vs, k => if k' = k then some v else valP ks vs k
  | _, _, _ => none
def repP {κ α : Type} [DecidableEq κ] (k : κ) (v : α) : List κ → List α → List α
  | k' :: ks, w :: vs => (if k' = k then v else w) :: repP k v ks vs
  | _, _ => []
def inD (x : D) (xs : List D) : Bool := xs.any fun y => eqF y x
def lexLtD : List Int → List Int → Bool
  | x :: xs, y :: ys => if x = y then lexLtD xs ys else decide (x < y)
  | [], _ :: _ => true
  | _, [] => false
def cmpD : CmpOp → D → D → Option Bool
  | .Eq, a, b => eqD a b
  | .NotEq, a, b => (eqD a b).map (!·)
  | .Lt, .int a, .int b => some (decide (a < b))
  | .LtE, .int a, .int b => some (decide (a ≤ b))
  | .Gt, .int a, .int b => some (decide (b < a))
  | .GtE, .int a, .int b => some (decide (b ≤ a))
  | .In, a, .lst xs => guardO (flatD a = true ∧ xs.all flatD = true) (inD a xs)
  | .In, a, .tup xs => guardO (flatD a = true ∧ xs.all flatD = true) (inD a xs)
  | .NotIn, a, .lst xs => guardO (flatD a = true ∧ xs.all flatD = true) (!inD a xs)
  | .NotIn, a, .tup xs => guardO (flatD a = true ∧ xs.all flatD = true) (!inD a xs)
  | .In, a, .dK ks vs => (keyOf a).map fun k => (valP ks vs k).isSome
  | .NotIn, a, .dK ks vs => (keyOf a).map fun k => !(valP ks vs k).isSome
  | .In, a, .dT ks vs => (keyTO a).map fun k => (valP ks vs k).isSome
  | .NotIn, a, .dT ks vs => (keyTO a).map fun k => !(valP ks vs k).isSome
  | .Is, a, .non => some (match a with | .non => true | _ => false)
  | .IsNot, a, .non => some (match a with | .non => false | _ => true)
  | .Is, .bl a, .bl b => some (decide (a = b))
  | .IsNot, .bl a, .bl b => some (!decide (a = b))
  | _, _, _ => none
/-- truth -/
def truD (st : Sto) : D → Option Bool
  | .non => some false
  | .bl b => some b
  | .int i => some (i != 0)
  | .str x => guardO (x.length ≤ sizeLine) (x.length != 0)
  | .lst xs => some (!xs.isEmpty)
  | .tup xs => some (!xs.isEmpty)
  | _ => none
/-- x[i] -/
def ixD {α : Type} (xs : List α) (i : Int) : Option α := L2.atI xs i
def idxD (st : Sto) : D → D → Option D
  | .lst xs, .int i => ixD xs i
  | .tup xs, .int i => ixD xs i
  | .ref k, .int i => (st[k]?).bind fun xs => ixD xs i
  | .frz ns, .int i => ixD (ns.map D.int) i
  | .str z, .int i => if z.length ≤ sizeLine then (ixD z.cps.toList i).map fun c => .str ⟨#[c]⟩ else none
  | .dK ks vs, y => (keyOf y).bind fun k => valP ks vs k
  | .dT ks vs, y => (keyTO y).bind fun k => valP ks vs k
  | _, _ => none
/-- x[lo:hi] -/
def cutL {α : Type} (xs : List α) (lo hi : Option Int) : List α := (xs.drop (HT.sIx xs.length 0 lo)).take (HT.sIx xs.length xs.length hi - HT.sIx xs.length 0 lo)
def intO : Option D → Option (Option Int)
  | none => some none
  | some (.int i) => some (some i)
  | _ => none
def sliceD (x : D) (lo hi : Option Int) : Option D := match x with
  | .lst xs => some (.lst (cutL xs lo hi))
  | .tup xs => some (.tup (cutL xs lo hi))
  | _ => none
def revD : D → Option D
  | .lst xs => some (.lst xs.reverse)
  | .tup xs => some (.tup xs.reverse)
  | _ => none
/-- the built-in classes of isinstance -/
inductive Ty where
  | int | bool | str | tuple | list | dict
  deriving DecidableEq
def tyD : D → Option (List Ty)
  | .non => some []
  | .bl _ => some [.bool, .int]
  | .int _ => some [.int]
  | .str _ => some [.str]
  | .tup _ => some [.tuple]
  | .lst _ => some [.list]
  | .dK _ _ => some [.dict]
  | _ => none
def isiD (x : D) (ts : List Ty) : Option Bool := (tyD x).map fun own => ts.any fun t => own.contains t

/-- built-in functions -/
inductive Bi where
  | len | int | sum | all | any | max | min | max2 | min2 | tuple | list | abs | gcd | sorted
  deriving DecidableEq
def intsD : List D → Option (List Int)
  | [] => some []
  | .int i :: r => (intsD r).map (i :: ·)
  | _ => none
def blsD : List D → Option (List Bool)
  | [] => some []
  | .bl i :: r => (blsD r).map (i :: ·)
  | _ => none
def seqOf : D → Option (List D)
  | .lst xs => some xs
  | .tup xs => some xs
  | _ => none
def maxI : List Int → Option Int
  | [] => none
  | x :: xs => some (xs.foldl (fun m y => if m < y then y else m) x)
def minI : List Int → Option Int
  | [] => none
  | x :: xs => some (xs.foldl (fun m y => if y < m then y else m) x)
def insI (x : Int) : List Int → List Int
  | [] => [x]
  | y :: r => if x ≤ y then x :: y :: r else y :: insI x r
def sortI (xs : List Int) : List Int := xs.foldr insI []
def biD (st : Sto) : Bi → List D → Option D
  | .len, [.lst xs] => some (.int xs.length)
  | .len, [.tup xs] => some (.int xs.length)
  | .len, [.frz xs] => some (.int xs.length)
  | .len, [.dK ks _] => some (.int ks.length)
  | .len, [.str x] => guardO (x.length ≤ sizeLine) (.int x.length)
  | .len, [.ref k] => (st[k]?).map fun xs => .int xs.length
  | .int, [.int i] => some (.int i)
  | .int, [.bl b] => some (.int (if b then 1 else 0))
  | .sum, [x] => ((seqOf x).bind intsD).map fun ns => .int ns.sum
  | .all, [.lst x] => (blsD x).map fun bs => .bl (bs.all id)
  | .any, [.lst x] => (blsD x).map fun bs => .bl (bs.any id)
  | .max, [.lst x] => ((intsD x).bind maxI).map D.int
  | .min, [.lst x] => ((intsD x).bind minI).map D.int
  | .max2, [.int i, .int j] => some (.int (if j > i then j else i))
  | .min2, [.int i, .int j] => some (.int (if j < i then j else i))
  | .tuple, [.lst x] => some (.tup x)
  | .tuple, [.tup x] => some (.tup x)
  | .list, [.lst x] => some (.lst x)
  | .list, [.tup x] => some (.lst x)
  | .abs, [.int i] => some (.int (if i < 0 then -i else i))
  | .gcd, [.int i, .int j] => some (.int (Nat.gcd i.natAbs j.natAbs : Nat))
  | .sorted, [.lst x] => (intsD x).bind fun ns => guardO (ns.length < 64) (.lst ((sortI ns).map D.int))
  | _, _ => none

/-! ### dicts: operations -/
def isDK : D → Bool
  | .dK _ _ => true
  | _ => false
def isLst : D → Bool
  | .lst _ => true
  | _ => false
def dgetoD : D → D → D → Option D
  | .dK ks vs, y, z => if noL z then (keyOf y).map fun k => (valP ks vs k).getD z else none
  | _, _, _ => none
/-- d[k] = v -/
def dputD : D → D → D → Option D
  | .dK ks vs, y, v => if noL v && decide (ks.length < sizeLine) then (keyOf y).map fun k => if (valP ks vs k).isSome then .dK ks (repP k v ks vs) else .dK (ks ++ [k]) (vs ++ [v]) else none
  | .dT ks vs, y, v => if noL v && decide (ks.length < sizeLine) then (keyTO y).map fun k => if (valP ks vs k).isSome then .dT ks (repP k v ks vs) else .dT (ks ++ [k]) (vs ++ [v]) else none
  | _, _, _ => none
/-- xs.index(x) -/
def midxD (l x : D) : Option D := match toPy l, toPy x with
  | some (.list ps), some p => if SeqAt.shaped (.list ps) = true ∧ SeqAt.shaped p = true then (ps.findIdx? fun z => PyData.eqv z p).map fun j => D.int (j : Nat) else none
  | _, _ => none
/-- statements that change a list -/
inductive Mth where
  | extend | insert | reverse
  deriving DecidableEq
def mthD : Mth → List D → List D → Option (List D)
  | .extend, xs, [.lst ys] => guardO (noLs ys = true ∧ xs.length + ys.length ≤ sizeLine) (xs ++ ys)
  | .insert, xs, [.int i, d] => guardO (noL d = true ∧ xs.length < sizeLine ∧ 0 ≤ i ∧ i < 2 ^ 63) (xs.take i.toNat ++ [d] ++ xs.drop i.toNat)
  | .reverse, xs, [] => some xs.reverse
  | _, _, _ => none

/-! ### the language -/
mutual
inductive Tg where
  | name (i : Nat) | tup (ts : Tgs)
inductive Tgs where
  | nil | cons (t : Tg) (ts : Tgs)
end
mutual
inductive E where
  | var (i : Nat) | int (i : Int) | bl (b : Bool) | non | str (x : Str) | glob (c : Nat)
  | bin (op : Operator) (a b : E) | neg (a : E) | not (a : E)
  | cmp (op : CmpOp) (a b : E) | cmp2 (op op' : CmpOp) (a b c : E)
  | and (a b : E) | or (a b : E) | ife (c a b : E)
  | tup (es : Es) | lst (es : Es)
  | idx (a i : E) | slice (a : E) (lo hi : Eo)
  | isi (a : E) (ts : List Ty) (tupled : Bool)
  | rev (a : E)
  | rg1 (l : Bool) (b : E) | rg2 (l : Bool) (a b : E)
  | bi (f : Bi) (es : Es)
  | call (f : Nat) (es kes : Es) (ord : List Nat)
  | box (e : E)
  | comp (tg : Tg) (it : It) (hasIf : Bool) (cond elt : E)
  | comp2 (tg : Tg) (it : It) (tg1 : Tg) (it1 : It) (elt : E)
  | dnew (t : Bool) | dgeto (d k x : E) | midx (l x : E)
  | dead
inductive Es where
  | nil | cons (e : E) (es : Es)
inductive Eo where
  | no | yes (e : E)
inductive It where
  | seq (e : E) | range1 (a : E) | range2 (a b : E) | range3 (a b c : E) | enum (a : E) | zip (a b : E)
end

abbrev Env := List (Option D)
structure FnI where
  name : Str
  ps : List Str
  sem : List D → Sto → R D
structure GE where
  fns : List FnI
  cons : List (Str × D)

def slot (env : Env) (i : Nat) : Option D := (env[i]?).getD none
mutual
def bindTg : Tg → D → Env → Option Env
  | .name i, d, env => some (env.set i (some d))
  | .tup ts, d, env => match d with
    | .tup ds => bindTgs ts ds env
    | _ => none
def bindTgs : Tgs → List D → Env → Option Env
  | .nil, ds, env => match ds with
    | [] => some env
    | _ => none
  | .cons t ts, ds, env => match ds with
    | d :: ds => (bindTg t d env).bind fun env' => bindTgs ts ds env'
    | [] => none
end
mutual
def Tg.slots : Tg → List Nat
  | .name i => [i]
  | .tup ts => ts.slots
def Tgs.slots : Tgs → List Nat
  | .nil => []
  | .cons t ts => t.slots ++ ts.slots
end
def Tgs.len : Tgs → Nat
  | .nil => 0
  | .cons _ ts => ts.len + 1
def compLoop (f : D → Sto → R (Option D)) : List D → Sto → R (List D)
  | [], st => .ok [] st
  | x :: xs, st => (f x st).bind fun y st1 => (compLoop f xs st1).bind fun ys st2 => .ok (match y with | some z => z :: ys | none => ys) st2
def compCat (f : D → Sto → R (List D)) : List D → Sto → R (List D)
  | [], st => .ok [] st
  | x :: xs, st => (f x st).bind fun ys st1 => (compCat f xs st1).bind fun zs st2 => .ok (ys ++ zs) st2
/-- the slots forgotten -/
def clrs (env : Env) : List Nat → Env
  | [] => env
  | i :: is => (clrs env is).set i none
def rangeD (lo hi c : Int) : Option (List D) :=
  if -(2 ^ 62) ≤ lo ∧ lo < 2 ^ 62 ∧ -(2 ^ 62) ≤ hi ∧ hi < 2 ^ 62 then
    (if c = 1 then some ((List.range (hi - lo).toNat).map fun (k : Nat) => D.int (lo + k))
     else if c = -1 then some ((List.range (lo - hi).toNat).map fun (k : Nat) => D.int (lo - k)) else none)
  else none
/-- tuple(range(a, b)), list(range(a, b)) -/
def rgL (a b : Int) : List D := (List.range (b - a).toNat).map fun (i : Nat) => D.int (a + (i : Int))
def rgOk (a b : Int) : Prop := -(2 ^ 62) ≤ a ∧ a < 2 ^ 62 ∧ -(2 ^ 62) ≤ b ∧ b < 2 ^ 62 ∧ (b - a).toNat ≤ 2 ^ 24
instance (a b : Int) : Decidable (rgOk a b) := inferInstanceAs (Decidable (_ ∧ _))
def rgD (l : Bool) : D → D → Option D
  | .int a, .int b => guardO (rgOk a b) (if l then .lst (rgL a b) else .tup (rgL a b))
  | _, _ => none
def enumD (xs : List D) : List D := xs.mapIdx fun i x => D.tup [.int i, x]
def zipD (xs ys : List D) : List D := List.zipWith (fun x y => D.tup [x, y]) xs ys
/-- the named arguments in the parameters' order -/
def permL {α : Type} (ord : List Nat) (zs : List α) : List α := ord.filterMap fun i => zs[i]?
mutual
def evE (g : GE) : E → Env → Sto → R D
  | .var i, env, st => .ofO st (slot env i)
  | .int i, _, st => .ok (.int i) st
  | .bl b, _, st => .ok (.bl b) st
  | .non, _, st => .ok .non st
  | .str x, _, st => .ok (.str x) st
  | .glob c, _, st => .ofO st ((g.cons[c]?).map (·.2))
  | .bin op a b, env, st => (evE g a env st).bind fun x st1 => (evE g b env st1).bind fun y st2 => .ofO st2 (binD op x y)
  | .neg a, env, st => (evE g a env st).bind fun x st1 => match x with | .int i => .ok (.int (-i)) st1 | _ => .bad
  | .not a, env, st => (evE g a env st).bind fun x st1 => .ofO st1 ((truD st1 x).map fun b => D.bl (!b))
  | .cmp op a b, env, st => (evE g a env st).bind fun x st1 => (evE g b env st1).bind fun y st2 => .ofO st2 ((cmpD op x y).map D.bl)
  | .cmp2 op op' a b c, env, st => (evE g a env st).bind fun x st1 => (evE g b env st1).bind fun y st2 => match cmpD op x y with
    | some true => (evE g c env st2).bind fun z st3 => .ofO st3 ((cmpD op' y z).map D.bl)
    | some false => .ok (.bl false) st2
    | none => .bad
  | .and a b, env, st => (evE g a env st).bind fun x st1 => match truD st1 x with
    | some true => evE g b env st1
    | some false => .ok x st1
    | none => .bad
  | .or a b, env, st => (evE g a env st).bind fun x st1 => match truD st1 x with
    | some true => .ok x st1
    | some false => evE g b env st1
    | none => .bad
  | .ife c a b, env, st => (evE g c env st).bind fun x st1 => match truD st1 x with
    | some true => evE g a env st1
    | some false => evE g b env st1
    | none => .bad
  | .tup es, env, st => (evEs g es env st).bind fun xs st1 => .ofO st1 (guardO (xs.length ≤ sizeLine) (.tup xs))
  | .lst es, env, st => (evEs g es env st).bind fun xs st1 => .ofO st1 (guardO (xs.length ≤ sizeLine) (.lst xs))
  | .idx a i, env, st => (evE g a env st).bind fun x st1 => (evE g i env st1).bind fun y st2 => .ofO st2 (idxD st2 x y)
  | .slice a lo hi, env, st => (evE g a env st).bind fun x st1 => (evEo g lo env st1).bind fun l st2 => (evEo g hi env st2).bind fun u st3 => .ofO st3 (sliceD x l u)
  | .isi a ts _, env, st => (evE g a env st).bind fun x st1 => .ofO st1 ((isiD x ts).map D.bl)
  | .rev a, env, st => (evE g a env st).bind fun x st1 => .ofO st1 (revD x)
  | .rg1 l b, env, st => (evE g b env st).bind fun y st1 => .ofO st1 (rgD l (.int 0) y)
  | .rg2 l a b, env, st => (evE g a env st).bind fun x st1 => (evE g b env st1).bind fun y st2 => .ofO st2 (rgD l x y)
  | .bi f es, env, st => (evEs g es env st).bind fun xs st1 => .ofO st1 (biD st1 f xs)
  | .call f es kes ord, env, st => (evEs g es env st).bind fun xs st1 => (evEs g kes env st1).bind fun zs st2 => match g.fns[f]? with
    | some fi => if xs.length + (permL ord zs).length = fi.ps.length then fi.sem (xs ++ permL ord zs) st2 else .bad
    | none => .bad
  | .box e, env, st => (evE g e env st).bind fun x st1 => match x with
    | .lst xs => if noLs xs then .ok (.ref st1.length) (st1 ++ [xs]) else .bad
    | _ => .bad
  | .comp tg it hasIf cond elt, env, st => (evIt g it env st).bind fun xs st1 =>
      (compLoop (fun x st2 => match bindTg tg x env with
        | some env' => (if hasIf then (evE g cond env' st2).bind fun c st3 => match truD st3 c with
            | some true => (evE g elt env' st3).bind fun y st4 => .ok (some y) st4
            | some false => .ok none st3
            | none => .bad
          else (evE g elt env' st2).bind fun y st3 => .ok (some y) st3).nox
        | none => .bad) xs st1).bind fun ys st5 => .ofO st5 (guardO (ys.length ≤ sizeLine) (.lst ys))
  | .comp2 tg it tg1 it1 elt, env, st => (evIt g it env st).bind fun xs st1 =>
      (compCat (fun x st2 => match bindTg tg x (clrs env (tg.slots ++ tg1.slots)) with
        | some env' => ((evIt g it1 env' st2).bind fun ys st3 => compLoop (fun y st4 => match bindTg tg1 y env' with
          | some env2 => ((evE g elt env2 st4).bind fun z st5 => .ok (some z) st5).nox
          | none => .bad) ys st3).nox
        | none => .bad) xs st1).bind fun ys st5 => .ofO st5 (guardO (ys.length ≤ sizeLine) (.lst ys))
  | .dnew t, _, st => .ok (if t then .dT [] [] else .dK [] []) st
  | .dgeto d k e, env, st => (evE g d env st).bind fun x st1 => if isDK x then (evE g k env st1).bind fun y st2 => (evE g e env st2).bind fun z st3 => .ofO st3 (dgetoD x y z) else .bad
  | .midx l e, env, st => (evE g l env st).bind fun x st1 => if isLst x then (evE g e env st1).bind fun y st2 => .ofO st2 (midxD x y) else .bad
  | .dead, _, _ => .bad
def evEs (g : GE) : Es → Env → Sto → R (List D)
  | .nil, _, st => .ok [] st
  | .cons e es, env, st => (evE g e env st).bind fun x st1 => (evEs g es env st1).bind fun xs st2 => .ok (x :: xs) st2
def evEo (g : GE) : Eo → Env → Sto → R (Option Int)
  | .no, _, st => .ok none st
  | .yes e, env, st => (evE g e env st).bind fun x st1 => match x with | .int i => .ok (some i) st1 | _ => .bad
def evIt (g : GE) : It → Env → Sto → R (List D)
  | .seq e, env, st => (evE g e env st).bind fun x st1 => .ofO st1 (seqOf x)
  | .range1 a, env, st => (evE g a env st).bind fun x st1 => match x with | .int n => .ofO st1 (rangeD 0 n 1) | _ => .bad
  | .range2 a b, env, st => (evE g a env st).bind fun x st1 => (evE g b env st1).bind fun y st2 => match x, y with | .int m, .int n => .ofO st2 (rangeD m n 1) | _, _ => .bad
  | .range3 a b c, env, st => (evE g a env st).bind fun x st1 => (evE g b env st1).bind fun y st2 => (evE g c env st2).bind fun z st3 =>
      match x, y, z with | .int m, .int n, .int c => .ofO st3 (rangeD m n c) | _, _, _ => .bad
  | .enum a, env, st => (evE g a env st).bind fun x st1 => match x with | .lst xs => .ok (enumD xs) st1 | .tup xs => .ok (enumD xs) st1 | _ => .bad
  | .zip a b, env, st => (evE g a env st).bind fun x st1 => (evE g b env st1).bind fun y st2 => match x, y with
      | .lst xs, .lst ys => .ok (zipD xs ys) st2
      | .tup xs, .tup ys => .ok (zipD xs ys) st2
      | _, _ => .bad
end

/-! ### statements -/
inductive RS where
  | nx (env : Env) (st : Sto) | rt (d : D) (st : Sto) | bk (env : Env) (st : Sto) | ct (env : Env) (st : Sto)
  | exn (c : Str) (d : D) (env : Env) (st : Sto) | bad
/-- how a value goes to a name: a list of one's own that is changed later; a value that stands; one without lists (looked at) -/
inductive Ak where
  | own | pln | nl | n1
  deriving DecidableEq
mutual
inductive S where
  | ret (e : E) | retN
  | set (i : Nat) (k : Ak) (e : E)
  | setT (tg : Tg) (e : E)
  | par (i j : Nat) (ki kj : Ak) (a b : E)
  | par3 (i j l : Nat) (ki kj kl : Ak) (a b c : E)
  | move (i j : Nat)
  | aug (i : Nat) (op : Operator) (e : E)
  | setIx (i : Nat) (o nl : Bool) (ix e : E)
  | augIx (i : Nat) (o : Bool) (op : Operator) (ix e : E)
  | app (i : Nat) (o nl : Bool) (e : E)
  | mth (i : Nat) (o : Bool) (f : Mth) (es : Es)
  | dput (i : Nat) (k e : E)
  | ite (c : E) (a b : Ss)
  | whl (c : E) (body : Ss)
  | for_ (tg : Tg) (it : It) (body : Ss)
  | brk | cont | pass | drop (e : E)
  | kill (i : Nat)
  | raise_ (c : Str) (e : E)
  | dead
inductive Ss where
  | nil | cons (s : S) (ss : Ss)
end
def R.toS (r : R α) (env : Env) (f : α → Sto → RS) : RS := match r with
  | .ok a st => f a st
  | .exn c d st => .exn c d env st
  | .bad => .bad
@[simp] theorem R.toS_ok {α : Type} (a : α) (st : Sto) (env : Env) (f : α → Sto → RS) : (R.ok a st).toS env f = f a st := rfl
@[simp] theorem R.toS_exn {α : Type} (c : Str) (d : D) (st : Sto) (env : Env) (f : α → Sto → RS) : (R.exn c d st : R α).toS env f = .exn c d env st := rfl
@[simp] theorem R.toS_bad {α : Type} (env : Env) (f : α → Sto → RS) : (R.bad : R α).toS env f = .bad := rfl
/-- no list among its items -/
def noI : D → Bool
  | .lst xs => noLs xs
  | d => noL d
def akOk (k : Ak) (d : D) : Bool := match k with
  | .nl => noL d
  | .n1 => noI d
  | _ => true
def whN (c : Env → Sto → R Bool) (b : Env → Sto → RS) : Nat → Env → Sto → RS
  | 0, _, _ => .bad
  | n + 1, env, st => (c env st).toS env fun k st1 => match k with
    | false => .nx env st1
    | true => match b env st1 with
      | .nx env' st' => whN c b n env' st'
      | .ct env' st' => whN c b n env' st'
      | .bk env' st' => .nx env' st'
      | r => r
open Classical in
noncomputable def whD (c : Env → Sto → R Bool) (b : Env → Sto → RS) (env : Env) (st : Sto) : RS :=
  if h : ∃ n, whN c b n env st ≠ .bad then whN c b (Classical.choose h) env st else .bad
def forD (tg : Tg) (b : Env → Sto → RS) : List D → Env → Sto → RS
  | [], env, st => .nx env st
  | x :: xs, env, st => match bindTg tg x env with
    | none => .bad
    | some env1 => match b env1 st with
      | .nx env' st' => forD tg b xs env' st'
      | .ct env' st' => forD tg b xs env' st'
      | .bk env' st' => .nx env' st'
      | r => r
def setIxL (xs : List D) (ix : D) (d : D) : Option (List D) := match ix with
  | .int k => (L2.ixN xs.length k).map fun j => xs.set j d
  | _ => none
/-- a name's list is changed: the name's own, or the one that it refers to -/
def chg (i : Nat) (o ok : Bool) (env : Env) (st : Sto) (f : List D → Option (List D)) : RS := match slot env i with
  | some (.lst xs) => if o then match f xs with
    | some ys => .nx (env.set i (some (.lst ys))) st
    | none => .bad else .bad
  | some (.ref k) => if ok then match (st[k]?).bind f with
    | some ys => .nx env (st.set k ys)
    | none => .bad else .bad
  | _ => .bad
def isLs (env : Env) (st : Sto) (i : Nat) : Bool := match slot env i with
  | some (.lst _) => true
  | some (.ref k) => decide (k < st.length)
  | _ => false
def evC (g : GE) (c : E) (env : Env) (st : Sto) : R Bool := (evE g c env st).bind fun x st1 => .ofO st1 (truD st1 x)
mutual
noncomputable def evS (g : GE) : S → Env → Sto → RS
  | .ret e, env, st => (evE g e env st).toS env fun d st1 => .rt d st1
  | .retN, _, st => .rt .non st
  | .set i k e, env, st => (evE g e env st).toS env fun d st1 => if akOk k d then .nx (env.set i (some d)) st1 else .bad
  | .setT tg e, env, st => (evE g e env st).toS env fun d st1 => match bindTg tg d env with
    | some env' => .nx env' st1
    | none => .bad
  | .par i j ki kj a b, env, st => (evE g a env st).toS env fun x st1 => if akOk ki x then (evE g b env st1).toS env fun y st2 =>
      if akOk kj y then .nx ((env.set i (some x)).set j (some y)) st2 else .bad else .bad
  | .par3 i j l ki kj kl a b c, env, st => (evE g a env st).toS env fun x st1 => if akOk ki x then (evE g b env st1).toS env fun y st2 =>
      if akOk kj y then (evE g c env st2).toS env fun z st3 => if akOk kl z then .nx (((env.set i (some x)).set j (some y)).set l (some z)) st3 else .bad else .bad else .bad
  | .move i j, env, st => match slot env j with
    | some d => .nx ((env.set i (some d)).set j none) st
    | none => .bad
  | .aug i op e, env, st => match slot env i with
    | some x => (evE g e env st).toS env fun y st1 => match x, y, binD op x y with
      | .int _, .int _, some z => .nx (env.set i (some z)) st1
      | _, _, _ => .bad
    | none => .bad
  | .setIx i o nl ix e, env, st => if (slot env i).isNone then .bad else (evE g e env st).toS env fun d st1 => (evE g ix env st1).toS env fun k st2 =>
      if nl && !noL d then .bad else chg i o (noL d) env st2 fun xs => setIxL xs k d
  | .augIx i o op ix e, env, st => if !isLs env st i then .bad else (evE g ix env st).toS env fun k st1 => match (slot env i).bind fun d => idxD st1 d k with
    | some x => (evE g e env st1).toS env fun y st2 => match x, y, binD op x y with
      | .int _, .int _, some z => chg i o true env st2 fun xs => setIxL xs k z
      | _, _, _ => .bad
    | none => .bad
  | .app i o nl e, env, st => if !isLs env st i then .bad else (evE g e env st).toS env fun d st1 =>
      if nl && !noL d then .bad else chg i o (noL d) env st1 fun xs => guardO (xs.length < sizeLine) (xs ++ [d])
  | .mth i o f es, env, st => if !isLs env st i then .bad else (evEs g es env st).toS env fun ds st1 => chg i o true env st1 fun xs => mthD f xs ds
  | .dput i k e, env, st => if (slot env i).isNone then .bad else (evE g e env st).toS env fun v st1 => (evE g k env st1).toS env fun y st2 => match (slot env i).bind fun d => dputD d y v with
    | some d' => .nx (env.set i (some d')) st2
    | none => .bad
  | .ite c a b, env, st => (evC g c env st).toS env fun k st1 => match k with
    | true => evSs g a env st1
    | false => evSs g b env st1
  | .whl c body, env, st => whD (evC g c) (evSs g body) env st
  | .for_ tg it body, env, st => (evIt g it env st).toS env fun xs st1 => forD tg (evSs g body) xs env st1
  | .brk, env, st => .bk env st
  | .cont, env, st => .ct env st
  | .pass, env, st => .nx env st
  | .drop e, env, st => (evE g e env st).toS env fun _ st1 => .nx env st1
  | .kill i, env, st => .nx (env.set i none) st
  | .raise_ c e, env, st => (evE g e env st).toS env fun d st1 => .exn c d env st1
  | .dead, _, _ => .bad
noncomputable def evSs (g : GE) : Ss → Env → Sto → RS
  | .nil, env, st => .nx env st
  | .cons s ss, env, st => match evS g s env st with
    | .nx env' st' => evSs g ss env' st'
    | r => r
end
def RS.fin : RS → R D
  | .nx _ st => .ok .non st
  | .rt d st => .ok d st
  | .exn c d _ st => .exn c d st
  | _ => .bad
/-- a def's body at its arguments -/
noncomputable def evF (g : GE) (n : Nat) (body : Ss) (as : List D) (st : Sto) : R D := (evSs g body (as.map some ++ List.replicate (n - as.length) none) st).fin

/-! ### while, unfolded -/
theorem whN_mono {c : Env → Sto → R Bool} {b : Env → Sto → RS} : ∀ {n : Nat} {env : Env} {st : Sto}, whN c b n env st ≠ .bad → ∀ k, whN c b (n + k) env st = whN c b n env st
  | 0, _, _, h, _ => absurd rfl h
  | n + 1, env, st, h, k => by
    rw [show n + 1 + k = (n + k) + 1 by omega]
    unfold whN at h ⊢
    cases e : c env st with
    | bad => rfl
    | exn _ _ _ => rfl
    | ok t st1 =>
      rw [e] at h
      simp only [R.toS_ok] at h ⊢
      cases t with
      | false => rfl
      | true =>
        simp only at h ⊢
        cases e2 : b env st1 with
        | nx env' st' => rw [e2] at h; exact whN_mono h k
        | ct env' st' => rw [e2] at h; exact whN_mono h k
        | bk _ _ => rfl
        | rt _ _ => rfl
        | exn _ _ _ _ => rfl
        | bad => rfl
theorem whD_of {c : Env → Sto → R Bool} {b : Env → Sto → RS} {n : Nat} {env : Env} {st : Sto} (h : whN c b n env st ≠ .bad) : whD c b env st = whN c b n env st := by
  have ex : ∃ n, whN c b n env st ≠ .bad := ⟨n, h⟩
  unfold whD
  rw [dif_pos ex]
  have h2 := Classical.choose_spec ex
  generalize Classical.choose ex = m at h2
  rcases Nat.le_total n m with hl | hl
  · obtain ⟨k, rfl⟩ := Nat.exists_eq_add_of_le hl
    exact whN_mono h k
  · obtain ⟨k, rfl⟩ := Nat.exists_eq_add_of_le hl
    exact (whN_mono h2 k).symm
theorem whD_ne {c : Env → Sto → R Bool} {b : Env → Sto → RS} {env : Env} {st : Sto} (h : whD c b env st ≠ .bad) : ∃ n, whN c b n env st ≠ .bad := by
  unfold whD at h
  split at h
  · rename_i ex; exact ex
  · exact absurd rfl h
theorem whD_eq (c : Env → Sto → R Bool) (b : Env → Sto → RS) (env : Env) (st : Sto) : whD c b env st = (c env st).toS env fun k st1 => match k with
    | false => .nx env st1
    | true => match b env st1 with
      | .nx env' st' => whD c b env' st'
      | .ct env' st' => whD c b env' st'
      | .bk env' st' => .nx env' st'
      | r => r := by
  have key : ∀ env' st', ∀ r, (∃ n, whN c b n env' st' ≠ .bad) → (∀ n, whN c b n env' st' ≠ .bad → whN c b n env' st' = r) → whD c b env' st' = r := fun env' st' r ⟨n, hn⟩ h => by rw [whD_of hn, h n hn]
  have nokey : ∀ env' st', ¬ (∃ n, whN c b n env' st' ≠ .bad) → whD c b env' st' = .bad := fun env' st' h => by unfold whD; rw [dif_neg h]
  by_cases ex : ∃ n, whN c b n env st ≠ .bad
  · obtain ⟨n, hn⟩ := ex
    rw [whD_of hn]
    cases n with
    | zero => exact absurd rfl hn
    | succ n =>
      unfold whN at hn ⊢
      cases e : c env st with
      | bad => rfl
      | exn _ _ _ => rfl
      | ok t st1 =>
        rw [e] at hn
        simp only [R.toS_ok] at hn ⊢
        cases t with
        | false => rfl
        | true =>
          simp only at hn ⊢
          cases e2 : b env st1 with
          | nx env' st' => rw [e2] at hn; exact (whD_of hn).symm
          | ct env' st' => rw [e2] at hn; exact (whD_of hn).symm
          | bk _ _ => rfl
          | rt _ _ => rfl
          | exn _ _ _ _ => rfl
          | bad => rfl
  · rw [nokey env st ex]
    have h1 : whN c b 1 env st = .bad := Classical.byContradiction fun z => ex ⟨1, z⟩
    have hs : ∀ n, whN c b (n + 1) env st = .bad := fun n => Classical.byContradiction fun z => ex ⟨n + 1, z⟩
    unfold whN at hs
    cases e : c env st with
    | bad => rfl
    | exn _ _ _ => have := hs 0; rw [e] at this; cases this
    | ok t st1 =>
      rw [e] at hs
      simp only [R.toS_ok] at hs ⊢
      cases t with
      | false => have := hs 0; cases this
      | true =>
        simp only at hs ⊢
        cases e2 : b env st1 with
        | nx env' st' =>
          rw [e2] at hs
          exact (nokey env' st' fun ⟨n, hn⟩ => hn (hs n)).symm
        | ct env' st' =>
          rw [e2] at hs
          exact (nokey env' st' fun ⟨n, hn⟩ => hn (hs n)).symm
        | bk _ _ => have := hs 0; rw [e2] at this; cases this
        | rt _ _ => have := hs 0; rw [e2] at this; cases this
        | exn _ _ _ _ => have := hs 0; rw [e2] at this; cases this
        | bad => rfl
end WT
end

section
set_option Elab.async false
set_option linter.all false
set_option maxRecDepth 100000
/-! K2: how data stand in the abstract heap; states; what a step keeps. -/
namespace WT
open PySem PySem.Spec PyProof.Rows L2

abbrev St := L2.St
/-- the script, known to the object -/
def Fz (K : PySem.W.Frag) (H : Hp) (a : Addr) (ns : List Int) : Prop :=
  (∃ o, H a = some (.frz o (.lst (ns.map V.int)))) ∨
    ∃ (o : Obj) (its : Array Value) (n : Nat), K.lookup a = some o ∧ o.cls = .type "list" ∧ o.dict = none ∧ o.data = .seq its n ∧ its.size ≤ sizeLine ∧ Vals (ns.map V.int) its.toList
theorem Fz.sq {K : PySem.W.Frag} {H : Hp} {a : Addr} {ns : List Int} (h : Fz K H a ns) : SqL K H a (ns.map V.int) := by
  rcases h with ⟨o, h⟩ | h
  · exact .inl (.inr ⟨o, h⟩)
  · exact .inr h
/-! ### dicts whose keys are tuples of ints -/
mutual
def hash0 : NestedKey → Int
  | .none => reduceHash 0xFCA86420
  | .num i => hashInt i
  | .text _ => 0
  | .tup ks => reduceHash (Builtin.Tuple.tupleHashOf (hash0s ks))
def hash0s : List NestedKey → List Int
  | [] => []
  | k :: ks => hash0 k :: hash0s ks
end
mutual
def noTx : NestedKey → Bool
  | .none => true
  | .num _ => true
  | .text _ => false
  | .tup ks => noTxs ks
def noTxs : List NestedKey → Bool
  | [] => true
  | k :: ks => noTx k && noTxs ks
end
mutual
theorem hash0_eq (w : World) : ∀ k : NestedKey, noTx k = true → k.hash w = hash0 k
  | .none, _ => rfl
  | .num _, _ => rfl
  | .text _, h => by simp [noTx] at h
  | .tup ks, h => by
    rw [NestedKey.hash, hash0, hash0s_eq w ks (by simpa [noTx] using h)]
theorem hash0s_eq (w : World) : ∀ ks : List NestedKey, noTxs ks = true → NestedKey.hashes w ks = hash0s ks
  | [], _ => rfl
  | k :: ks, h => by
    rw [noTxs, Bool.and_eq_true] at h
    rw [NestedKey.hashes, hash0s, hash0_eq w k h.1, hash0s_eq w ks h.2]
end
/-- the dict's own object -/
def DTq (a : Addr) (xs : List (NestedKey × Addr × Value)) (h : Heap) : Prop :=
  ∃ o es ep, h.get? a = some o ∧ o.ExactDict ∧ o.data = .dict es ep ∧ es.toList = xs.map (fun x => (⟨hash0 x.1, .ref x.2.1, x.2.2⟩ : DictEntry)) ∧ (xs.map (·.1)).Nodup
def DTo (a : Addr) (xs : List (NestedKey × Addr × Value)) : HO := .ext (DTq a xs)
mutual
/-- a value is a key -/
inductive NK (K : PySem.W.Frag) (H : Hp) : NestedKey → V → Prop
  | none : NK K H .none .non
  | bl (b : Bool) : NK K H (.num (if b = true then 1 else 0)) (.bl b)
  | num (i : Int) : NK K H (.num i) (.int i)
  | tup {b : Addr} {vs : List V} {ks : List NestedKey} : SqT K H b vs → NKs K H ks vs → NK K H (.tup ks) (.ref b)
inductive NKs (K : PySem.W.Frag) (H : Hp) : List NestedKey → List V → Prop
  | nil : NKs K H [] []
  | cons {k : NestedKey} {v : V} {ks : List NestedKey} {vs : List V} : NK K H k v → NKs K H ks vs → NKs K H (k :: ks) (v :: vs)
end
mutual
theorem NK.mono {K : PySem.W.Frag} {H H' : Hp} (m : ∀ a vs, SqT K H a vs → SqT K H' a vs) : ∀ {k : NestedKey} {v : V}, NK K H k v → NK K H' k v
  | _, _, .none => .none
  | _, _, .bl b => .bl b
  | _, _, .num i => .num i
  | _, _, .tup e r => .tup (m _ _ e) (NKs.mono m r)
theorem NKs.mono {K : PySem.W.Frag} {H H' : Hp} (m : ∀ a vs, SqT K H a vs → SqT K H' a vs) : ∀ {ks : List NestedKey} {vs : List V}, NKs K H ks vs → NKs K H' ks vs
  | _, _, .nil => .nil
  | _, _, .cons r s => .cons (NK.mono m r) (NKs.mono m s)
end
/-- the entries: keys that stand -/
def NKx (K : PySem.W.Frag) (H : Hp) (xs : List (NestedKey × Addr × Value)) : Prop := ∀ x ∈ xs, NK K H x.1 (.ref x.2.1) ∧ noTx x.1 = true ∧ x.1.depth ≤ 8
theorem NKx.mono {K : PySem.W.Frag} {H H' : Hp} {xs : List (NestedKey × Addr × Value)} (h : NKx K H xs) (m : ∀ a vs, SqT K H a vs → SqT K H' a vs) : NKx K H' xs := fun x hx => ⟨(h x hx).1.mono m, (h x hx).2⟩
mutual
inductive Rep (K : PySem.W.Frag) (H : Hp) (μ : List Addr) : D → V → List Addr → List Addr → Prop
  | non : Rep K H μ .non .non [] []
  | bl (b : Bool) : Rep K H μ (.bl b) (.bl b) [] []
  | int (i : Int) : Rep K H μ (.int i) (.int i) [] []
  | str (x : Str) : Rep K H μ (.str x) (.str x) [] []
  | tup {a : Addr} {vs : List V} {ds : List D} {F : List Addr} : SqT K H a vs → Reps K H μ ds vs F → Rep K H μ (.tup ds) (.ref a) [] F
  | lst {a : Addr} {vs : List V} {ds : List D} {F : List Addr} : H a = some (.lst vs) → Reps K H μ ds vs F → Rep K H μ (.lst ds) (.ref a) [a] F
  | frz {a : Addr} {ns : List Int} : Fz K H a ns → Rep K H μ (.frz ns) (.ref a) [] []
  | dK {a : Addr} {kvs : List (Key × V)} {ks : List Key} {vs : List V} {ds : List D} {F : List Addr} : H a = some (.dK kvs) → kvs.map (·.1) = ks → kvs.map (·.2) = vs → Reps K H μ ds vs F → F = [] → Rep K H μ (.dK ks ds) (.ref a) [a] []
  | dT {a : Addr} {xs : List (NestedKey × Addr × Value)} {ks : List NestedKey} {vs : List V} {ds : List D} {F : List Addr} : H a = some (DTo a xs) → (a == sysModules) = false → xs.length ≤ sizeLine → xs.map (·.1) = ks → NKx K H xs → Vals vs (xs.map (·.2.2)) → Reps K H μ ds vs F → F = [] → Rep K H μ (.dT ks ds) (.ref a) [a] []
  | ref {a : Addr} {k : Nat} : μ[k]? = some a → Rep K H μ (.ref k) (.ref a) [] []
inductive Reps (K : PySem.W.Frag) (H : Hp) (μ : List Addr) : List D → List V → List Addr → Prop
  | nil : Reps K H μ [] [] []
  | cons {d : D} {v : V} {t F : List Addr} {ds : List D} {vs : List V} {G : List Addr} : Rep K H μ d v t F → Reps K H μ ds vs G → Reps K H μ (d :: ds) (v :: vs) (t ++ F ++ G)
end

section
variable {K : PySem.W.Frag} {H H1 H2 H' : Hp} {μ μ1 μ2 μ' : List Addr}
theorem Reps.length : ∀ {ds : List D} {vs : List V} {F : List Addr}, Reps K H μ ds vs F → ds.length = vs.length
  | _, _, _, .nil => rfl
  | _, _, _, .cons _ t => by simp [Reps.length t]
theorem Reps.get : ∀ {ds : List D} {vs : List V} {F : List Addr} {i : Nat} {d : D}, Reps K H μ ds vs F → ds[i]? = some d → ∃ v t G, vs[i]? = some v ∧ Rep K H μ d v t G ∧ ∀ a ∈ t ++ G, a ∈ F
  | _, _, _, _, _, .nil, h => by simp at h
  | _, _, _, 0, _, .cons r _, h => by
    simp at h
    subst h
    exact ⟨_, _, _, rfl, r, fun a ha => List.mem_append_left _ ha⟩
  | _, _, _, i + 1, d, .cons _ s, h => by
    obtain ⟨v, t, G, e, r, k⟩ := Reps.get s (i := i) (d := d) (by simpa using h)
    exact ⟨v, t, G, by simpa using e, r, fun a ha => List.mem_append_right _ (k a ha)⟩
theorem Reps.append : ∀ {ds : List D} {vs : List V} {F : List Addr} {es : List D} {ws : List V} {G : List Addr}, Reps K H μ ds vs F → Reps K H μ es ws G → ∃ L, Reps K H μ (ds ++ es) (vs ++ ws) L ∧ ∀ a ∈ L, a ∈ F ∨ a ∈ G
  | _, _, _, _, _, _, .nil, s => ⟨_, s, fun a h => .inr h⟩
  | _, _, _, _, _, _, .cons (t := t) (F := F) r u, s => by
    obtain ⟨L, h1, h2⟩ := Reps.append u s
    refine ⟨_, .cons r h1, fun a h => ?_⟩
    rcases List.mem_append.mp h with h | h
    · exact .inl (List.mem_append_left _ h)
    · rcases h2 a h with h | h
      · exact .inl (List.mem_append_right _ h)
      · exact .inr h
theorem Reps.drop : ∀ {ds : List D} {vs : List V} {F : List Addr} (n : Nat), Reps K H μ ds vs F → ∃ L, Reps K H μ (ds.drop n) (vs.drop n) L ∧ ∀ a ∈ L, a ∈ F
  | _, _, _, 0, r => ⟨_, r, fun _ h => h⟩
  | _, _, _, _ + 1, .nil => ⟨_, .nil, fun _ h => h⟩
  | _, _, _, n + 1, .cons _ s => by
    obtain ⟨L, h1, h2⟩ := Reps.drop n s
    exact ⟨L, h1, fun a h => List.mem_append_right _ (h2 a h)⟩
theorem Reps.take : ∀ {ds : List D} {vs : List V} {F : List Addr} (n : Nat), Reps K H μ ds vs F → ∃ L, Reps K H μ (ds.take n) (vs.take n) L ∧ ∀ a ∈ L, a ∈ F
  | _, _, _, 0, _ => ⟨[], .nil, fun _ h => by simp at h⟩
  | _, _, _, _ + 1, .nil => ⟨[], .nil, fun _ h => h⟩
  | _, _, _, n + 1, .cons r s => by
    obtain ⟨L, h1, h2⟩ := Reps.take n s
    refine ⟨_, .cons r h1, fun a h => ?_⟩
    rcases List.mem_append.mp h with h | h
    · exact List.mem_append_left _ h
    · exact List.mem_append_right _ (h2 a h)
theorem Reps.rep {ds : List D} {vs : List V} {F : List Addr} (r : Reps K H μ ds vs F) : ∀ n : Nat, ∃ L, Reps K H μ (List.replicate n ds).flatten (List.replicate n vs).flatten L ∧ ∀ a ∈ L, a ∈ F
  | 0 => ⟨[], .nil, fun _ h => by simp at h⟩
  | n + 1 => by
    obtain ⟨L, h1, h2⟩ := Reps.rep r n
    rw [List.replicate_succ, List.replicate_succ, List.flatten_cons, List.flatten_cons]
    obtain ⟨M, h3, h4⟩ := Reps.append r h1
    exact ⟨M, h3, fun a h => (h4 a h).elim id (h2 a)⟩
theorem Reps.set : ∀ {ds : List D} {vs : List V} {F : List Addr} (i : Nat) {d : D} {v : V} {t G : List Addr}, Reps K H μ ds vs F → Rep K H μ d v t G → ∃ L, Reps K H μ (ds.set i d) (vs.set i v) L ∧ ∀ a ∈ L, a ∈ F ∨ a ∈ t ++ G
  | _, _, _, _, _, _, _, _, .nil, _ => ⟨[], .nil, fun _ h => by simp at h⟩
  | _, _, _, 0, _, _, _, _, .cons _ s, r => ⟨_, .cons r s, fun a h => by
      rcases List.mem_append.mp h with h | h
      · exact .inr h
      · exact .inl (List.mem_append_right _ h)⟩
  | _, _, _, i + 1, _, _, _, _, .cons q s, r => by
    obtain ⟨L, h1, h2⟩ := Reps.set i s r
    refine ⟨_, .cons q h1, fun a h => ?_⟩
    rcases List.mem_append.mp h with h | h
    · exact .inl (List.mem_append_left _ h)
    · rcases h2 a h with h | h
      · exact .inl (List.mem_append_right _ h)
      · exact .inr h
mutual
theorem Rep.there : ∀ {d : D} {v : V} {t F : List Addr}, Rep K H μ d v t F → ∀ a ∈ t ++ F, H a ≠ none
  | _, _, _, _, .non, a, h => by simp at h
  | _, _, _, _, .bl _, a, h => by simp at h
  | _, _, _, _, .int _, a, h => by simp at h
  | _, _, _, _, .str _, a, h => by simp at h
  | _, _, _, _, .tup _ r, a, h => Reps.there r a (by simpa using h)
  | _, _, _, _, .lst e r, a, h => by
    rcases List.mem_append.mp h with h | h
    · have z := List.mem_singleton.mp h
      rw [z, e]
      simp
    · exact Reps.there r a h
  | _, _, _, _, .frz _, a, h => by simp at h
  | _, _, _, _, .ref _, a, h => by simp at h
  | _, _, _, _, .dT e _ _ _ _ _ _ _, a, h => by
    have z := List.mem_singleton.mp (by simpa using h : a ∈ [_])
    rw [z, e]
    simp
  | _, _, _, _, .dK e _ _ _ _, a, h => by
    have z := List.mem_singleton.mp (by simpa using h : a ∈ [_])
    rw [z, e]
    simp
theorem Reps.there : ∀ {ds : List D} {vs : List V} {F : List Addr}, Reps K H μ ds vs F → ∀ a ∈ F, H a ≠ none
  | _, _, _, .nil, a, h => by simp at h
  | _, _, _, .cons r s, a, h => by
    rcases List.mem_append.mp h with h | h
    · exact Rep.there r a h
    · exact Reps.there s a h
end
mutual
theorem Rep.noL : ∀ {d : D} {v : V} {t F : List Addr}, Rep K H μ d v t F → noL d = true → t = [] ∧ F = []
  | _, _, _, _, .non, _ => ⟨rfl, rfl⟩
  | _, _, _, _, .bl _, _ => ⟨rfl, rfl⟩
  | _, _, _, _, .int _, _ => ⟨rfl, rfl⟩
  | _, _, _, _, .str _, _ => ⟨rfl, rfl⟩
  | _, _, _, _, .tup _ r, h => ⟨rfl, Reps.noL r (by simpa [WT.noL] using h)⟩
  | _, _, _, _, .lst _ _, h => by simp [WT.noL] at h
  | _, _, _, _, .dK _ _ _ _ _, h => by simp [WT.noL] at h
  | _, _, _, _, .dT _ _ _ _ _ _ _ _, h => by simp [WT.noL] at h
  | _, _, _, _, .frz _, _ => ⟨rfl, rfl⟩
  | _, _, _, _, .ref _, _ => ⟨rfl, rfl⟩
theorem Reps.noL : ∀ {ds : List D} {vs : List V} {F : List Addr}, Reps K H μ ds vs F → noLs ds = true → F = []
  | _, _, _, .nil, _ => rfl
  | _, _, _, .cons r s, h => by
    rw [noLs, Bool.and_eq_true] at h
    obtain ⟨e1, e2⟩ := Rep.noL r h.1
    rw [e1, e2, Reps.noL s h.2]
    rfl
end

/-! ### steps -/
structure Step (μ : List Addr) (H : Hp) (μ' : List Addr) (H' : Hp) : Prop where
  keep : ∀ a o, H a = some o → a ∉ μ → H' a = some o
  tups : ∀ a xs, H a = some (.tup xs) → H' a = some (.tup xs)
  frzs : ∀ a o u, H a = some (.frz o u) → H' a = some (.frz o u)
  dom : ∀ a, H a ≠ none → H' a ≠ none
  ext : ∃ ν, μ' = μ ++ ν ∧ ∀ a ∈ ν, H a = none
theorem Step.refl : Step μ H μ H := ⟨fun _ _ h _ => h, fun _ _ h => h, fun _ _ _ h => h, fun _ h => h, [], by simp, fun _ h => by simp at h⟩
theorem Step.notin (s : Step μ H μ' H') {a : Addr} (h : H a ≠ none) (n : a ∉ μ) : a ∉ μ' := by
  obtain ⟨ν, rfl, hν⟩ := s.ext
  intro z
  rcases List.mem_append.mp z with z | z
  · exact n z
  · exact h (hν a z)
theorem Step.trans (s : Step μ H μ1 H1) (r : Step μ1 H1 μ2 H2) : Step μ H μ2 H2 where
  keep := fun a o h n => r.keep a o (s.keep a o h n) (s.notin (by rw [h]; simp) n)
  tups := fun a xs h => r.tups a xs (s.tups a xs h)
  frzs := fun a o u h => r.frzs a o u (s.frzs a o u h)
  dom := fun a h => r.dom a (s.dom a h)
  ext := by
    obtain ⟨ν, rfl, hν⟩ := s.ext
    obtain ⟨ν', rfl, hν'⟩ := r.ext
    refine ⟨ν ++ ν', by simp, fun a h => ?_⟩
    rcases List.mem_append.mp h with h | h
    · exact hν a h
    · cases e : H a with
      | none => rfl
      | some o => exact absurd (hν' a h) (s.dom a (by rw [e]; simp))
theorem Step.new {p : Addr} {o : HO} (h : H p = none) : Step μ H μ (upd H p o) where
  keep := fun a u e _ => by rw [upd_ne (ne_of_none e h)]; exact e
  tups := fun a u e => by rw [upd_ne (ne_of_none e h)]; exact e
  frzs := fun a o u e => by rw [upd_ne (ne_of_none e h)]; exact e
  dom := fun a e => by
    by_cases q : a = p
    · rw [q, upd_same]; simp
    · rw [upd_ne q]; exact e
  ext := ⟨[], by simp, fun _ h => by simp at h⟩
theorem Step.wasNone (s : Step μ H μ' H') {a : Addr} (h : H' a = none) : H a = none := by
  cases e : H a with
  | none => rfl
  | some o => exact absurd h (s.dom a (by rw [e]; simp))
theorem SqT.step {a : Addr} {vs : List V} (h : SqT K H a vs) (s : Step μ H μ' H') : SqT K H' a vs := by
  rcases h with (h | ⟨o, h⟩) | h
  · exact .inl (.inl (s.tups _ _ h))
  · exact .inl (.inr ⟨o, s.frzs _ _ _ h⟩)
  · exact .inr h
theorem Fz.step {a : Addr} {ns : List Int} (h : Fz K H a ns) (s : Step μ H μ' H') : Fz K H' a ns := by
  rcases h with ⟨o, h⟩ | h
  · exact .inl ⟨o, s.frzs _ _ _ h⟩
  · exact .inr h
mutual
theorem Rep.step : ∀ {d : D} {v : V} {t F : List Addr}, Rep K H μ d v t F → Step μ H μ' H' → (∀ a ∈ t ++ F, a ∉ μ) → Rep K H' μ' d v t F
  | _, _, _, _, .non, _, _ => .non
  | _, _, _, _, .bl b, _, _ => .bl b
  | _, _, _, _, .int b, _, _ => .int b
  | _, _, _, _, .str b, _, _ => .str b
  | _, _, _, _, .tup e r, s, n => .tup (SqT.step e s) (Reps.step r s fun a h => n a (by simpa using h))
  | _, _, _, _, .lst e r, s, n => .lst (s.keep _ _ e (n _ (by simp))) (Reps.step r s fun a h => n a (by simp [h]))
  | _, _, _, _, .frz e, s, _ => .frz (Fz.step e s)
  | _, _, _, _, .dT e h1 h2 h3 h4 h5 r hF, s, n => .dT (s.keep _ _ e (n _ (by simp))) h1 h2 h3 (h4.mono fun _ _ z => SqT.step z s) h5 (Reps.step r s fun a h => by rw [hF] at h; simp at h) hF
  | _, _, _, _, .dK e h1 h2 r hF, s, n => .dK (s.keep _ _ e (n _ (by simp))) h1 h2 (Reps.step r s fun a h => by rw [hF] at h; simp at h) hF
  | _, _, _, _, .ref e, s, _ => .ref (by
      obtain ⟨ν, rfl, _⟩ := s.ext
      rw [List.getElem?_append_left (List.getElem?_eq_some_iff.mp e).1]
      exact e)
theorem Reps.step : ∀ {ds : List D} {vs : List V} {F : List Addr}, Reps K H μ ds vs F → Step μ H μ' H' → (∀ a ∈ F, a ∉ μ) → Reps K H' μ' ds vs F
  | _, _, _, .nil, _, _ => .nil
  | _, _, _, .cons r t, s, n => .cons (Rep.step r s fun a h => n a (List.mem_append_left _ h)) (Reps.step t s fun a h => n a (List.mem_append_right _ h))
end

/-! ### states -/
/-- the boxes: lists that a reference stands for; their items hold no lists -/
def BoxOk (K : PySem.W.Frag) (H : Hp) (μ : List Addr) (st : Sto) : Prop := ∀ (k : Nat) (xs : List D), st[k]? = some xs → ∃ a vs, μ[k]? = some a ∧ H a = some (.lst vs) ∧ Reps K H μ xs vs []
structure SI (K : PySem.W.Frag) (ow : Nat → Bool) (Ok : Addr → Prop) (env : Env) (st : Sto) (μ : List Addr) (G : Addr → Option Nat) (σ : St) (H : Hp) : Prop where
  slot : ∀ (i : Nat) (d : D), WT.slot env i = some d → ∃ v t F, σ[i]? = some (some v) ∧ Rep K H μ d v t F ∧ (∀ a ∈ t, G a = if ow i then some i else none) ∧ (∀ a ∈ F, G a = none) ∧ ∀ a ∈ t ++ F, a ∉ μ ∧ Ok a
  box : BoxOk K H μ st
  muLen : μ.length = st.length
  muNd : μ.Nodup
  gmu : ∀ a ∈ μ, G a = none ∧ H a ≠ none
  gdom : ∀ a, G a ≠ none → H a ≠ none
  okn : ∀ a, H a = none → Ok a
  len : env.length ≤ σ.length
variable {ow : Nat → Bool} {Ok : Addr → Prop} {env : Env} {st : Sto} {G : Addr → Option Nat} {σ : St}
theorem SI.notLst (I : SI K ow Ok env st μ G σ H) {a : Addr} (h : a ∈ μ) : ∃ vs, H a = some (.lst vs) := by
  obtain ⟨k, hk, e⟩ := List.mem_iff_getElem.mp h
  have hk2 : k < st.length := by rw [← I.muLen]; exact hk
  obtain ⟨b, vs, e1, e2, _⟩ := I.box k _ (List.getElem?_eq_getElem hk2)
  rw [List.getElem?_eq_getElem hk] at e1
  cases e1
  rw [← e]
  exact ⟨vs, e2⟩
/-- a new object that is no box -/
theorem SI.new (I : SI K ow Ok env st μ G σ H) {p : Addr} {o : HO} (h : H p = none) : SI K ow Ok env st μ G σ (upd H p o) := by
  have s : Step μ H μ (upd H p o) := .new h
  refine ⟨fun i d e => ?_, fun k xs e => ?_, I.muLen, I.muNd, fun a ha => ⟨(I.gmu a ha).1, s.dom a (I.gmu a ha).2⟩, fun a ha => s.dom a (I.gdom a ha), fun a ha => I.okn a (s.wasNone ha), I.len⟩
  · obtain ⟨v, t, F, e1, r, g1, g2, g3⟩ := I.slot i d e
    exact ⟨v, t, F, e1, r.step s fun a ha => (g3 a ha).1, g1, g2, g3⟩
  · obtain ⟨a, vs, e1, e2, r⟩ := I.box k xs e
    exact ⟨a, vs, e1, by rw [upd_ne (ne_of_none e2 h)]; exact e2, r.step s fun b hb => by simp at hb⟩

/-- what is known of a value's lists: it is new, or it may be (top), or hold (inn), a list of these names' own -/
structure Pv where
  new : Bool
  top : List Nat
  inn : List Nat
structure PO (p : Pv) (G : Addr → Option Nat) (H : Hp) (μ' : List Addr) (Ok : Addr → Prop) (t F : List Addr) : Prop where
  top : ∀ a ∈ t, if p.new = true then H a = none ∧ a ∉ F else (G a = none ∨ ∃ i ∈ p.top, G a = some i)
  inn : ∀ a ∈ F, G a = none ∨ ∃ i ∈ p.inn, G a = some i
  out : ∀ a ∈ t ++ F, a ∉ μ' ∧ Ok a
/-- an error that leaves: its class's address by its name, its value in its own dict -/
def XR (CA : Str → Option Addr) (K : PySem.W.Frag) (H : Hp) (μ : List Addr) (Ok : Addr → Prop) (c : Str) (d : D) (cls : Value) (dd : Option Addr) : Prop :=
  ∃ C dx v t F, CA c = some C ∧ cls = .ref C ∧ dd = some dx ∧ H dx = some (.xd [("value", v)]) ∧ Rep K H μ d v t F ∧ ∀ a ∈ t ++ F, a ∉ μ ∧ Ok a
end

/-- the reading of an expression by its evaluation -/
structure Cfg where
  g : GE
  ow : Nat → Bool
  Ok : Addr → Prop
  CA : Str → Option Addr
  W : WX
def okE (c : Cfg) (K : PySem.W.Frag) (p : Pv) (env : Env) (μ : List Addr) (G : Addr → Option Nat) (σ : St) (H : Hp) (Q : VK) : D → Sto → Prop := fun d st' =>
  ∀ v H' μ' t F, SI K c.ow c.Ok env st' μ' G σ H' → Step μ H μ' H' → Rep K H' μ' d v t F → PO p G H μ' c.Ok t F → Q v H'
def exE (c : Cfg) (K : PySem.W.Frag) (env : Env) (μ : List Addr) (G : Addr → Option Nat) (σ : St) (H : Hp) : Str → D → Sto → Prop := fun x d st' =>
  ∀ cls dd H' μ', SI K c.ow c.Ok env st' μ' G σ H' → Step μ H μ' H' → XR c.CA K H' μ' c.Ok x d cls dd → c.W cls dd σ H'
def Fin {α : Type} (ok : α → Sto → Prop) (ex : Str → D → Sto → Prop) : R α → Prop
  | .ok a st => ok a st
  | .exn x d st => ex x d st
  | .bad => False
theorem Fin.bind {α β : Type} {ok : β → Sto → Prop} {ex : Str → D → Sto → Prop} {r : R α} {f : α → Sto → R β} : Fin ok ex (r.bind f) ↔ Fin (fun a st => Fin ok ex (f a st)) ex r := by cases r <;> rfl
theorem Fin.mono {α : Type} {ok ok' : α → Sto → Prop} {ex ex' : Str → D → Sto → Prop} {r : R α} (h : Fin ok ex r) (h1 : ∀ a st, r = .ok a st → ok a st → ok' a st) (h2 : ∀ x d st, ex x d st → ex' x d st) : Fin ok' ex' r := by
  cases r with
  | ok a st => exact h1 a st rfl h
  | exn x d st => exact h2 x d st h
  | bad => exact h
theorem Fin.ofO {α : Type} {ok : α → Sto → Prop} {ex : Str → D → Sto → Prop} {o : Option α} {st : Sto} (h : Fin ok ex (R.ofO st o)) : ∃ a, o = some a ∧ ok a st := by
  cases o with
  | none => exact h.elim
  | some a => exact ⟨a, rfl, h⟩
def TEv (c : Cfg) (K : PySem.W.Frag) (p : Pv) (s : Env → Sto → R D) : TE := fun σ H Q => ∃ env st μ G, SI K c.ow c.Ok env st μ G σ H ∧ Fin (okE c K p env μ G σ H Q) (exE c K env μ G σ H) (s env st)
/-- .. of a test -/
def okT (c : Cfg) (K : PySem.W.Frag) (env : Env) (μ : List Addr) (G : Addr → Option Nat) (σ : St) (H : Hp) (Q : Bool → Hp → Prop) : Bool → Sto → Prop := fun b st' =>
  ∀ H' μ', SI K c.ow c.Ok env st' μ' G σ H' → Step μ H μ' H' → Q b H'
def TTv (c : Cfg) (K : PySem.W.Frag) (s : Env → Sto → R Bool) : TT := fun σ H Q => ∃ env st μ G, SI K c.ow c.Ok env st μ G σ H ∧ Fin (okT c K env μ G σ H Q) (exE c K env μ G σ H) (s env st)
/-- .. of a list of expressions -/
def okA (c : Cfg) (K : PySem.W.Frag) (inn : List Nat) (env : Env) (μ : List Addr) (G : Addr → Option Nat) (σ : St) (H : Hp) (Q : List V → Hp → Prop) : List D → Sto → Prop := fun ds st' =>
  ∀ vs H' μ' F, SI K c.ow c.Ok env st' μ' G σ H' → Step μ H μ' H' → Reps K H' μ' ds vs F → (∀ a ∈ F, (G a = none ∨ ∃ i ∈ inn, G a = some i) ∧ a ∉ μ' ∧ c.Ok a) → Q vs H'
def TAv (c : Cfg) (K : PySem.W.Frag) (inn : List Nat) (s : Env → Sto → R (List D)) : TA := fun σ H Q => ∃ env st μ G, SI K c.ow c.Ok env st μ G σ H ∧ Fin (okA c K inn env μ G σ H Q) (exE c K env μ G σ H) (s env st)
theorem _root_.L2.PE.mono {X : Cx} {e : Expr} {t t' : TE} (h : PE X e t) (m : ∀ σ H Q, t' σ H Q → t σ H Q) : PE X e t' := ⟨fun pins s σ H Q I q => h.run pins s σ H Q I (m σ H Q q)⟩
theorem _root_.L2.PA.mono {X : Cx} {e : List Expr} {t t' : TA} (h : PA X e t) (m : ∀ σ H Q, t' σ H Q → t σ H Q) : PA X e t' := ⟨fun pos pins s σ H Q I q => h.run pos pins s σ H Q I (m σ H Q q)⟩
theorem _root_.L2.PT.mono {X : Cx} {e : Expr} {t t' : TT} (h : PT X e t) (m : ∀ σ H Q, t' σ H Q → t σ H Q) : PT X e t' := ⟨fun pins s σ H Q I q => h.run pins s σ H Q I (m σ H Q q)⟩
theorem _root_.L2.PSs.mono {X : Cx} {e : List Stmt} {t t' : TS} (h : PSs X e t) (m : ∀ D σ H, t' D σ H → t D σ H) : PSs X e t' := ⟨fun pins s σ H D I q => h.run pins s σ H D I (m D σ H q)⟩
theorem _root_.L2.PS.mono {X : Cx} {e : Stmt} {t t' : TS} (h : PS X e t) (m : ∀ D σ H, t' D σ H → t D σ H) : PS X e t' := ⟨fun pins s σ H D I q => h.run pins s σ H D I (m D σ H q)⟩

section
variable {c : Cfg} {K : PySem.W.Frag} {p : Pv} {env : Env} {μ μ1 : List Addr} {G : Addr → Option Nat} {σ : St} {H H1 : Hp}
theorem exE.step {x : Str} {d : D} {st : Sto} (h : exE c K env μ G σ H x d st) (s : Step μ H μ1 H1) : exE c K env μ1 G σ H1 x d st := fun cls dd H' μ' I s' e => h cls dd H' μ' I (s.trans s') e
/-- a value that was ahead stands behind a step -/
structure Held (K : PySem.W.Frag) (c : Cfg) (G : Addr → Option Nat) (p : Pv) (H0 : Hp) (d : D) (v : V) (t F : List Addr) (μ : List Addr) (H : Hp) : Prop where
  rep : Rep K H μ d v t F
  po : PO p G H0 μ c.Ok t F
theorem Held.step {H0 : Hp} {d : D} {v : V} {t F : List Addr} (h : Held K c G p H0 d v t F μ H) (s : Step μ H μ1 H1) : Held K c G p H0 d v t F μ1 H1 :=
  ⟨h.rep.step s fun a ha => (h.po.out a ha).1, h.po.top, h.po.inn, fun a ha => ⟨s.notin (h.rep.there a ha) (h.po.out a ha).1, (h.po.out a ha).2⟩⟩
/-- new of a later heap is new of an earlier one -/
theorem PO.back {H0 : Hp} {t F : List Addr} (h : PO p G H μ c.Ok t F) {μ2 : List Addr} (s : Step μ1 H0 μ2 H) : PO p G H0 μ c.Ok t F :=
  ⟨fun a ha => by
    have z := h.top a ha
    split at z
    · rename_i hn
      rw [if_pos hn]
      exact ⟨s.wasNone z.1, z.2⟩
    · rename_i hn
      rw [if_neg hn]
      exact z, h.inn, h.out⟩
end
end WT
end

section
set_option Elab.async false
set_option linter.all false
set_option maxRecDepth 100000
/-! K3: the operators and built-in functions by values. -/
namespace WT
open PySem PySem.Spec PyProof.Rows L2

/-- the heap as it was, or with one new object -/
def New1 (H H' : Hp) : Prop := H' = H ∨ ∃ p o, H p = none ∧ H' = upd H p o
section
variable {K : PySem.W.Frag} {H H' : Hp} {μ : List Addr}
theorem New1.keep (n : New1 H H') : ∀ a o, H a = some o → H' a = some o := fun a o e => by
  rcases n with rfl | ⟨p, u, hp, rfl⟩
  · exact e
  · rw [upd_ne (ne_of_none e hp)]; exact e
theorem SqT.ext {a : Addr} {vs : List V} (h : SqT K H a vs) (k : ∀ a o, H a = some o → H' a = some o) : SqT K H' a vs := by
  rcases h with (h | ⟨o, h⟩) | h
  · exact .inl (.inl (k _ _ h))
  · exact .inl (.inr ⟨o, k _ _ h⟩)
  · exact .inr h
mutual
theorem Rep.ext : ∀ {d : D} {v : V} {t F : List Addr}, Rep K H μ d v t F → (∀ a o, H a = some o → H' a = some o) → Rep K H' μ d v t F
  | _, _, _, _, .non, _ => .non
  | _, _, _, _, .bl b, _ => .bl b
  | _, _, _, _, .int b, _ => .int b
  | _, _, _, _, .str b, _ => .str b
  | _, _, _, _, .tup e r, k => .tup (SqT.ext e k) (Reps.ext r k)
  | _, _, _, _, .lst e r, k => .lst (k _ _ e) (Reps.ext r k)
  | _, _, _, _, .frz e, k => .frz (by
      rcases e with ⟨o, h⟩ | h
      · exact .inl ⟨o, k _ _ h⟩
      · exact .inr h)
  | _, _, _, _, .ref e, _ => .ref e
  | _, _, _, _, .dT e h1 h2 h3 h4 h5 r hF, k => .dT (k _ _ e) h1 h2 h3 (h4.mono fun _ _ z => SqT.ext z k) h5 (Reps.ext r k) hF
  | _, _, _, _, .dK e h1 h2 r hF, k => .dK (k _ _ e) h1 h2 (Reps.ext r k) hF
theorem Reps.ext : ∀ {ds : List D} {vs : List V} {F : List Addr}, Reps K H μ ds vs F → (∀ a o, H a = some o → H' a = some o) → Reps K H' μ ds vs F
  | _, _, _, .nil, _ => .nil
  | _, _, _, .cons r t, k => .cons (Rep.ext r k) (Reps.ext t k)
end
mutual
theorem Rep.moreMu : ∀ {d : D} {v : V} {t F ν : List Addr}, Rep K H μ d v t F → Rep K H (μ ++ ν) d v t F
  | _, _, _, _, _, .non => .non
  | _, _, _, _, _, .bl b => .bl b
  | _, _, _, _, _, .int b => .int b
  | _, _, _, _, _, .str b => .str b
  | _, _, _, _, _, .tup e r => .tup e (Reps.moreMu r)
  | _, _, _, _, _, .lst e r => .lst e (Reps.moreMu r)
  | _, _, _, _, _, .frz e => .frz e
  | _, _, _, _, _, .dT e h1 h2 h3 h4 h5 r hF => .dT e h1 h2 h3 h4 h5 (Reps.moreMu r) hF
  | _, _, _, _, _, .dK e h1 h2 r hF => .dK e h1 h2 (Reps.moreMu r) hF
  | _, _, _, _, _, .ref e => .ref (by rw [List.getElem?_append_left (List.getElem?_eq_some_iff.mp e).1]; exact e)
theorem Reps.moreMu : ∀ {ds : List D} {vs : List V} {F ν : List Addr}, Reps K H μ ds vs F → Reps K H (μ ++ ν) ds vs F
  | _, _, _, _, .nil => .nil
  | _, _, _, _, .cons r t => .cons (Rep.moreMu r) (Reps.moreMu t)
end
/-- what a value's rule hands on -/
def Out (K : PySem.W.Frag) (H : Hp) (μ : List Addr) (d : D) (B : Addr → Prop) (Q : VK) : Prop :=
  ∀ v H' t F, New1 H H' → Rep K H' μ d v t F → (∀ a ∈ t, H a = none ∧ a ∉ F) → (∀ a ∈ F, B a) → Q v H'
variable {B : Addr → Prop} {Q : VK}
theorem Out.int {i : Int} (h : Out K H μ (.int i) B Q) : Q (.int i) H := h _ _ _ _ (.inl rfl) (.int i) (fun _ h => by simp at h) fun _ h => by simp at h
theorem Out.bl {i : Bool} (h : Out K H μ (.bl i) B Q) : Q (.bl i) H := h _ _ _ _ (.inl rfl) (.bl i) (fun _ h => by simp at h) fun _ h => by simp at h
theorem Out.str {i : Str} (h : Out K H μ (.str i) B Q) : Q (.str i) H := h _ _ _ _ (.inl rfl) (.str i) (fun _ h => by simp at h) fun _ h => by simp at h
theorem Out.tup {ds : List D} {vs : List V} {F : List Addr} (h : Out K H μ (.tup ds) B Q) (r : Reps K H μ ds vs F) (b : ∀ a ∈ F, B a) {p : Addr} (hp : H p = none) : Q (.ref p) (upd H p (.tup vs)) :=
  h _ _ _ _ (.inr ⟨p, _, hp, rfl⟩) (.tup (.of upd_same) (r.ext (New1.keep (.inr ⟨p, _, hp, rfl⟩)))) (fun _ h => by simp at h) b
theorem Out.tupSame {ds : List D} {vs : List V} {F : List Addr} {a : Addr} (h : Out K H μ (.tup ds) B Q) (e : SqT K H a vs) (r : Reps K H μ ds vs F) (b : ∀ a ∈ F, B a) : Q (.ref a) H :=
  h _ _ _ _ (.inl rfl) (.tup e r) (fun _ h => by simp at h) b
theorem Out.lst {ds : List D} {vs : List V} {F : List Addr} (h : Out K H μ (.lst ds) B Q) (r : Reps K H μ ds vs F) (b : ∀ a ∈ F, B a) {p : Addr} (hp : H p = none) : Q (.ref p) (upd H p (.lst vs)) :=
  h _ _ _ _ (.inr ⟨p, _, hp, rfl⟩) (.lst upd_same (r.ext (New1.keep (.inr ⟨p, _, hp, rfl⟩)))) (fun a ha => by
    have e := List.mem_singleton.mp ha
    subst e
    exact ⟨hp, fun hm => r.there a hm hp⟩) b
/-- an operator by its evaluation -/
def R2v (K : PySem.W.Frag) (g : D → D → Option D) : R2 := fun x y H Q => ∃ μ d1 d2 d t1 F1 t2 F2, Rep K H μ d1 x t1 F1 ∧ Rep K H μ d2 y t2 F2 ∧ g d1 d2 = some d ∧ Out K H μ d (fun a => a ∈ F1 ∨ a ∈ F2) Q
end

theorem guardO_some {α : Type} {p : Prop} [Decidable p] {x y : α} (h : guardO p x = some y) : p ∧ x = y := by
  unfold guardO at h
  split at h
  · rename_i hp
    exact ⟨hp, Option.some.inj h⟩
  · cases h

section
variable {X : Cx}
theorem op_add_v : OpR X (binaryOp .Add) (R2v X.K addD) := by
  intro pins s σ H x y v u Q I rx ry h
  obtain ⟨μ, d1, d2, d, t1, F1, t2, F2, r1, r2, hg, q⟩ := h
  cases r1 <;> cases r2 <;> simp only [addD] at hg <;> first | (cases hg; done) | skip
  case int.int i j =>
    cases hg
    exact op_add pins s σ H _ _ v u Q I rx ry ⟨_, _, rfl, rfl, q.int⟩
  case str.str i j =>
    obtain ⟨hp, rfl⟩ := guardO_some hg
    exact op_add_str pins s σ H _ _ v u Q I rx ry ⟨_, _, rfl, rfl, hp, q.str⟩
  case tup.tup a vs ds e1 s1 b ws es e2 s2 =>
    obtain ⟨hp, rfl⟩ := guardO_some hg
    obtain ⟨L, s3, hL⟩ := s1.append s2
    refine op_catA pins s σ H _ _ v u Q I rx ry ⟨_, _, _, _, rfl, rfl, e1, e2, by rw [← s1.length, ← s2.length]; exact hp, fun z => ?_, fun z z2 => ?_, fun z z2 p hp => q.tup s3 hL hp⟩
    · subst z
      have z2 : ds = [] := List.eq_nil_of_length_eq_zero s1.length
      subst z2
      exact q.tupSame e2 (by simpa using s2) fun a ha => .inr ha
    · subst z2
      have z2 : es = [] := List.eq_nil_of_length_eq_zero s2.length
      subst z2
      exact q.tupSame e1 (by simpa using s1) fun a ha => .inl ha
  case lst.lst a vs ds e1 s1 b ws es e2 s2 =>
    obtain ⟨hp, rfl⟩ := guardO_some hg
    obtain ⟨L, s3, hL⟩ := s1.append s2
    exact op_cat pins s σ H _ _ v u Q I rx ry ⟨_, _, _, _, rfl, rfl, e1, e2, by rw [← s1.length, ← s2.length]; exact hp, fun p hp => q.lst s3 hL hp⟩

theorem tuple_mul1 (l : Addr) (items : Array Value) (n : Nat) (dd : Option Addr) (sl : Array (Option Value)) (x : Int) (u : Tok) (c0 : (decide (x < -(2 ^ 63)) || decide (x ≥ 2 ^ 63)) = false) (c1 : (items.isEmpty || x == 1) = true) :
    Meets (Builtin.«tuple.__mul__» ⟨[.ref l, .int x u], []⟩) (fun _ R s => s.heap.get? l = some { cls := .type "tuple", dict := dd, data := .seq items n, slots := sl } ∧ R (.ok (.ret (Value.ref l))) s) :=
  .of_wp fun prog w A R s h => by
    obtain ⟨hp, g, d, tk, os⟩ := s
    obtain ⟨hl, h⟩ := h
    have f1 := AutoSeq1.idx_int
    wp_walk using AutoSeq1.wpAny_loadPart' hl
    repeat (first
      | (refine wpAny_ite_false (decide_eq_false (by rw [c0]; exact Bool.false_ne_true)) ?_; wp_walk using AutoSeq1.wpAny_loadPart' hl)
      | (refine wpAny_ite_true (decide_eq_true c1) ?_; wp_walk using AutoSeq1.wpAny_loadPart' hl))
    all_goals exact ⟨_, rfl, h⟩
theorem tuple_mul0 (l : Addr) (items : Array Value) (n : Nat) (dd : Option Addr) (sl : Array (Option Value)) (x : Int) (u : Tok) (c0 : (decide (x < -(2 ^ 63)) || decide (x ≥ 2 ^ 63)) = false) (c1 : (items.isEmpty || x == 1) = false) (c2 : (decide (x ≤ 0) || items.isEmpty) = true) :
    Meets (Builtin.«tuple.__mul__» ⟨[.ref l, .int x u], []⟩) (fun _ R s => s.heap.get? l = some { cls := .type "tuple", dict := dd, data := .seq items n, slots := sl } ∧
      R (.ok (.ret (Value.ref s.heap.objs.size))) { s with heap := s.heap.push { cls := Value.type "tuple", data := Data.seq #[] }, toks := s.toks }) :=
  .of_wp fun prog w A R s h => by
    obtain ⟨hp, g, d, tk, os⟩ := s
    obtain ⟨hl, h⟩ := h
    have f1 := AutoSeq1.idx_int
    wp_walk using AutoSeq1.wpAny_loadPart' hl
    repeat (first
      | (refine wpAny_ite_false (decide_eq_false (by rw [c0]; exact Bool.false_ne_true)) ?_; wp_walk using AutoSeq1.wpAny_loadPart' hl)
      | (refine wpAny_ite_false (decide_eq_false (by rw [c1]; exact Bool.false_ne_true)) ?_; wp_walk using AutoSeq1.wpAny_loadPart' hl)
      | (refine wpAny_ite_true (decide_eq_true c2) ?_; wp_walk using AutoSeq1.wpAny_loadPart' hl))
    all_goals exact ⟨_, rfl, h⟩
/-- t * k: t itself (k = 1, or t empty); none (k below 1) -/
def rRep1 (K : PySem.W.Frag) : R2 := fun x y H Q => ∃ l k xs, x = .ref l ∧ y = .int k ∧ SqT K H l xs ∧ (-(2 ^ 63) ≤ k ∧ k < 2 ^ 63) ∧ (xs = [] ∨ k = 1) ∧ Q (.ref l) H
def rRep0 (K : PySem.W.Frag) : R2 := fun x y H Q => ∃ l k xs, x = .ref l ∧ y = .int k ∧ SqT K H l xs ∧ (-(2 ^ 63) ≤ k ∧ k ≤ 0) ∧ xs ≠ [] ∧ ∀ p, H p = none → Q (.ref p) (upd H p (.tup []))
theorem isE {xs : List V} {its : List Value} (r : L2.Vals xs its) : its.toArray.isEmpty = xs.isEmpty := by cases r <;> simp
theorem op_rep1 : OpR X (binaryOp .Mult) (rRep1 X.K) := by
  intro pins s σ H x y v u Q I rx ry h
  obtain ⟨l, k, xs, rfl, rfl, hT, ⟨h1, h2⟩, h3, q⟩ := h
  cases rx
  obtain ⟨t, rfl⟩ := ry
  obtain ⟨its, r, ⟨⟨cls, dd, data, sl⟩, ho, hc, n, hd⟩, hs⟩ := I.tuple hT
  simp only at hc hd
  subst hc hd
  have c0 : (decide (k < -(2 ^ 63)) || decide (k ≥ 2 ^ 63)) = false := by
    rw [decide_eq_false (by omega), decide_eq_false (by omega)] <;> rfl
  have c1 : (its.toArray.isEmpty || k == 1) = true := by
    rw [isE r]
    rcases h3 with h3 | h3
    · rw [h3] <;> rfl
    · rw [h3]; simp
  exact wpAny_binaryOp_repeat_ref (T := "tuple") (U := "int") (by decide) ⟨_, ho, rfl⟩ (fun s' => typeIs_int s' k t) noFill_tuple_mul F.fills_int_mul F.slot_int_rmul repeat_tuple F.slot_int_index.lookup
    (call_meets F.slot_int_rmul (typeIs_int s k t) F.entry_int_rmul (F.args_int_rmul_2 _ _) (int_rmul_tuple k t l its.toArray n dd sl)
      ⟨ho, rfl, ⟨_, ho, rfl⟩, call_meets F.slot_tuple_mul ⟨_, ho, rfl⟩ F.entry_tuple_mul (F.args_tuple_mul_2 _ _) (tuple_mul1 l its.toArray n dd sl k t c0 c1) ⟨ho, ⟨.ref l, H, I, rfl, q⟩⟩⟩)
theorem op_rep0 : OpR X (binaryOp .Mult) (rRep0 X.K) := by
  intro pins s σ H x y v u Q I rx ry h
  obtain ⟨l, k, xs, rfl, rfl, hT, ⟨h1, h2⟩, h3, q⟩ := h
  cases rx
  obtain ⟨t, rfl⟩ := ry
  obtain ⟨its, r, ⟨⟨cls, dd, data, sl⟩, ho, hc, n, hd⟩, hs⟩ := I.tuple hT
  simp only at hc hd
  subst hc hd
  have c0 : (decide (k < -(2 ^ 63)) || decide (k ≥ 2 ^ 63)) = false := by
    rw [decide_eq_false (by omega), decide_eq_false (by omega)] <;> rfl
  have c1 : (its.toArray.isEmpty || k == 1) = false := by
    rw [isE r]
    cases xs with
    | nil => exact absurd rfl h3
    | cons a b =>
      show (false || k == 1) = false
      rw [Bool.false_or]
      exact beq_eq_false_iff_ne.mpr (by omega)
  have c2 : (decide (k ≤ 0) || its.toArray.isEmpty) = true := by rw [decide_eq_true h2] <;> rfl
  refine wpAny_binaryOp_repeat_ref (T := "tuple") (U := "int") (by decide) ⟨_, ho, rfl⟩ (fun s' => typeIs_int s' k t) noFill_tuple_mul F.fills_int_mul F.slot_int_rmul repeat_tuple F.slot_int_index.lookup
    (call_meets F.slot_int_rmul (typeIs_int s k t) F.entry_int_rmul (F.args_int_rmul_2 _ _) (int_rmul_tuple k t l its.toArray n dd sl)
      ⟨ho, rfl, ⟨_, ho, rfl⟩, call_meets F.slot_tuple_mul ⟨_, ho, rfl⟩ F.entry_tuple_mul (F.args_tuple_mul_2 _ _) (tuple_mul0 l its.toArray n dd sl k t c0 c1 c2) ⟨ho, ?_⟩⟩)
  refine ⟨.ref s.heap.objs.size, _, I.laid (t' := s.toks) (o := .tup []) (fun b ob q => Heap.get?_push_of_some _ q) (Nat.le_refl _) ?_, rfl, q _ (I.hok.fresh (Nat.le_refl _))⟩
  exact ⟨Nat.zero_le _, [], .nil, IsTup.new _ _⟩
theorem mulOK.ok {i j : Int} (h : mulOK i j) : IntMulOk i j := by
  rcases h with h | h
  · exact CMul.ok h
  · exact CMulW.ok h
theorem op_mul_v : OpR X (binaryOp .Mult) (R2v X.K mulD) := by
  intro pins s σ H x y v u Q I rx ry h
  obtain ⟨μ, d1, d2, d, t1, F1, t2, F2, r1, r2, hg, q⟩ := h
  cases r1 <;> cases r2 <;> simp only [mulD] at hg <;> first | (cases hg; done) | skip
  case int.int i j =>
    obtain ⟨hp, rfl⟩ := guardO_some hg
    obtain ⟨t, rfl⟩ := rx
    obtain ⟨t', rfl⟩ := ry
    exact mul_int ⟨.int _, H, I.tok _, ⟨_, rfl⟩, q.int⟩ hp.ok
  case lst.int a vs ds e1 s1 k =>
    obtain ⟨⟨h1, h2, h3⟩, rfl⟩ := guardO_some hg
    obtain ⟨L, s3, hL⟩ := s1.rep k.toNat
    exact op_rep pins s σ H _ _ v u Q I rx ry ⟨_, _, _, rfl, rfl, e1, h1, h2, by rw [← s1.length]; exact h3, fun p hp => q.lst s3 (fun a ha => .inl (hL a ha)) hp⟩
  case tup.int a vs ds e1 s1 k =>
    split at hg
    · rename_i hk
      obtain ⟨hb, rfl⟩ := guardO_some hg
      refine op_rep1 pins s σ H _ _ v u Q I rx ry ⟨_, _, _, rfl, rfl, e1, hb, ?_, q.tupSame e1 s1 fun a ha => .inl ha⟩
      rcases hk with hk | hk
      · exact .inr hk
      · refine .inl ?_
        cases s1 with
        | nil => rfl
        | cons _ _ => cases hk
    · rename_i hk
      have hne : vs ≠ [] := fun z => by
        subst z
        cases s1
        exact hk (.inr rfl)
      split at hg
      · rename_i hk0
        obtain ⟨hb, rfl⟩ := guardO_some hg
        exact op_rep0 pins s σ H _ _ v u Q I rx ry ⟨_, _, _, rfl, rfl, e1, ⟨by omega, hk0⟩, hne, fun p hp => q.tup .nil (fun _ h => by simp at h) hp⟩
      · obtain ⟨⟨h1, h2, h3, h4⟩, rfl⟩ := guardO_some hg
        obtain ⟨L, s3, hL⟩ := s1.rep k.toNat
        exact op_repT pins s σ H _ _ v u Q I rx ry ⟨_, _, _, rfl, rfl, e1, hne, h2, h3, by rw [← s1.length]; exact h4, fun p hp => q.tup s3 (fun a ha => .inl (hL a ha)) hp⟩
theorem op_sub_v : OpR X (binaryOp .Sub) (R2v X.K (binD .Sub)) := by
  intro pins s σ H x y v u Q I rx ry h
  obtain ⟨μ, d1, d2, d, t1, F1, t2, F2, r1, r2, hg, q⟩ := h
  cases r1 <;> cases r2 <;> simp only [binD] at hg <;> first | (cases hg; done) | skip
  case int.int i j =>
    cases hg
    exact op_sub pins s σ H _ _ v u Q I rx ry ⟨_, _, rfl, rfl, q.int⟩
theorem op_div_v : OpR X (binaryOp .FloorDiv) (R2v X.K (binD .FloorDiv)) := by
  intro pins s σ H x y v u Q I rx ry h
  obtain ⟨μ, d1, d2, d, t1, F1, t2, F2, r1, r2, hg, q⟩ := h
  cases r1 <;> cases r2 <;> simp only [binD] at hg <;> first | (cases hg; done) | skip
  case int.int i j =>
    obtain ⟨⟨h1, h2⟩, rfl⟩ := guardO_some hg
    obtain ⟨t, rfl⟩ := rx
    obtain ⟨t', rfl⟩ := ry
    exact floordiv_int h1 ⟨.int _, H, I.tok _, ⟨_, rfl⟩, q.int⟩ (.inl (PyProof.noPylong_of_log2 h2))
theorem op_mod_v : OpR X (binaryOp .Mod) (R2v X.K (binD .Mod)) := by
  intro pins s σ H x y v u Q I rx ry h
  obtain ⟨μ, d1, d2, d, t1, F1, t2, F2, r1, r2, hg, q⟩ := h
  cases r1 <;> cases r2 <;> simp only [binD] at hg <;> first | (cases hg; done) | skip
  case int.int i j =>
    obtain ⟨h1, rfl⟩ := guardO_some hg
    exact op_modN pins s σ H _ _ v u Q I rx ry ⟨_, _, rfl, rfl, h1, q.int⟩
theorem op_pow_v : OpR X (binaryOp .Pow) (R2v X.K (binD .Pow)) := by
  intro pins s σ H x y v u Q I rx ry h
  obtain ⟨μ, d1, d2, d, t1, F1, t2, F2, r1, r2, hg, q⟩ := h
  cases r1 <;> cases r2 <;> simp only [binD] at hg <;> first | (cases hg; done) | skip
  case int.int i j =>
    obtain ⟨h1, rfl⟩ := guardO_some hg
    rcases h1 with h1 | ⟨h1, h2⟩
    · exact op_pow pins s σ H _ _ v u Q I rx ry ⟨_, _, rfl, rfl, h1, q.int⟩
    · obtain ⟨t, rfl⟩ := rx
      obtain ⟨t', rfl⟩ := ry
      refine pow_int h1 (Int.le_trans (Int.mul_le_mul_of_nonneg_right (Int.ofNat_le.mpr ?_) h1) h2) ⟨.int _, H, I.tok _, ⟨_, rfl⟩, q.int⟩
      unfold Builtin.Int.intBits
      split <;> omega
theorem op_shl_v : OpR X (binaryOp .LShift) (R2v X.K (binD .LShift)) := by
  intro pins s σ H x y v u Q I rx ry h
  obtain ⟨μ, d1, d2, d, t1, F1, t2, F2, r1, r2, hg, q⟩ := h
  cases r1 <;> cases r2 <;> simp only [binD] at hg <;> first | (cases hg; done) | skip
  case int.int i j =>
    obtain ⟨h1, rfl⟩ := guardO_some hg
    exact op_shl pins s σ H _ _ v u Q I rx ry ⟨_, _, rfl, rfl, h1, q.int⟩
theorem op_none_v {op : Operator} {f : Value → Value → Sem Value} (h : ∀ x y, binD op x y = none) : OpR X f (R2v X.K (binD op)) := by
  intro pins s σ H x y v u Q I rx ry hh
  obtain ⟨μ, d1, d2, d, t1, F1, t2, F2, r1, r2, hg, q⟩ := hh
  rw [h] at hg
  cases hg
theorem op_bin_v (op : Operator) : OpR X (binaryOp op) (R2v X.K (binD op)) := by
  cases op with
  | Add => exact op_add_v
  | Mult => exact op_mul_v
  | Sub => exact op_sub_v
  | FloorDiv => exact op_div_v
  | Mod => exact op_mod_v
  | Pow => exact op_pow_v
  | LShift => exact op_shl_v
  | _ => exact op_none_v fun _ _ => rfl
end
end WT
end

section
set_option Elab.async false
set_option linter.all false
set_option maxRecDepth 100000
/-! K4: comparisons, truth, subscripts, slices, isinstance, built-in functions by values. -/
namespace WT
open PySem PySem.Spec PyProof.Rows L2

section
variable {K : PySem.W.Frag} {H H' : Hp} {μ : List Addr}
mutual
theorem Rep.dp : ∀ {d : D} {v : V} {t F : List Addr} {y : PyData}, Rep K H μ d v t F → toPy d = some y → Dp K H v y
  | _, _, _, _, _, .non, h => by cases h; exact .non
  | _, _, _, _, _, .bl b, h => by cases h; exact .bl b
  | _, _, _, _, _, .int b, h => by cases h; exact .int b
  | _, _, _, _, _, .str b, h => by cases h; exact .str b
  | _, _, _, _, _, .tup e r, h => by
    rw [toPy] at h
    obtain ⟨ys, h1, rfl⟩ := Option.map_eq_some_iff.mp h
    exact .tup e (Reps.dp r h1)
  | _, _, _, _, _, .lst e r, h => by
    rw [toPy] at h
    obtain ⟨ys, h1, rfl⟩ := Option.map_eq_some_iff.mp h
    exact .lst (.of e) (Reps.dp r h1)
  | _, _, _, _, _, .frz _, h => by rw [toPy] at h; cases h
  | _, _, _, _, _, .ref _, h => by rw [toPy] at h; cases h
  | _, _, _, _, _, .dK _ _ _ _ _, h => by rw [toPy] at h; cases h
  | _, _, _, _, _, .dT _ _ _ _ _ _ _ _, h => by rw [toPy] at h; cases h
theorem Reps.dp : ∀ {ds : List D} {vs : List V} {F : List Addr} {ys : List PyData}, Reps K H μ ds vs F → toPys ds = some ys → DpAll K H vs ys
  | _, _, _, _, .nil, h => by cases h; exact .nil
  | _, _, _, _, .cons (d := d) (ds := ds) r t, h => by
    rw [toPys] at h
    cases e1 : toPy d with
    | none => rw [e1] at h; cases h
    | some a =>
      cases e2 : toPys ds with
      | none => rw [e1, e2] at h; cases h
      | some b =>
        rw [e1, e2] at h
        cases h
        exact .cons (Rep.dp r e1) (Reps.dp t e2)
end
def toV : D → V
  | .bl b => .bl b
  | .int i => .int i
  | .str x => .str x
  | _ => .non
theorem Rep.flat {d : D} {v : V} {t F : List Addr} (r : Rep K H μ d v t F) (f : flatD d = true) : v = toV d ∧ flatV v = true := by
  cases r <;> first | exact ⟨rfl, rfl⟩ | (cases f; done)
theorem Reps.flats : ∀ {ds : List D} {vs : List V} {F : List Addr}, Reps K H μ ds vs F → ds.all flatD = true → vs = ds.map toV ∧ vs.all flatV = true
  | _, _, _, .nil, _ => ⟨rfl, rfl⟩
  | _, _, _, .cons r t, f => by
    rw [List.all_cons, Bool.and_eq_true] at f
    obtain ⟨e1, e2⟩ := r.flat f.1
    obtain ⟨e3, e4⟩ := Reps.flats t f.2
    refine ⟨by rw [List.map_cons, ← e1, ← e3], ?_⟩
    rw [List.all_cons, e2, e4] <;> rfl
theorem eqV_to {a b : D} (ha : flatD a = true) (hb : flatD b = true) : eqV (toV a) (toV b) = eqF a b := by
  cases a <;> cases b <;> first | rfl | (cases ha; done) | (cases hb; done)
theorem inV_to {a : D} (ha : flatD a = true) : ∀ {xs : List D}, xs.all flatD = true → inV (toV a) (xs.map toV) = inD a xs
  | [], _ => rfl
  | x :: xs, h => by
    rw [List.all_cons, Bool.and_eq_true] at h
    have ih := inV_to ha h.2
    unfold inV inD at ih ⊢
    rw [List.map_cons, List.any_cons, List.any_cons, eqV_to h.1 ha, ih]
theorem Rep.non_iff {d : D} {v : V} {t F : List Addr} (r : Rep K H μ d v t F) : decide (v = .non) = (match d with | .non => true | _ => false) := by
  cases r <;> simp
theorem Rep.key {d : D} {v : V} {t F : List Addr} {k : Key} (r : Rep K H μ d v t F) (h : keyOf d = some k) : v = kV k := by
  cases r <;> cases h <;> rfl
/-- what a dict holds -/
theorem Reps.valP : ∀ {kvs : List (Key × V)} {ks : List Key} {vs : List V} {ds : List D} {F : List Addr} (k : Key), kvs.map (·.1) = ks → kvs.map (·.2) = vs → Reps K H μ ds vs F →
    (∃ d v t G, WT.valP ks ds k = some d ∧ valV kvs k = some v ∧ Rep K H μ d v t G ∧ ∀ a ∈ t ++ G, a ∈ F) ∨ (WT.valP ks ds k = none ∧ valV kvs k = none)
  | [], _, _, _, _, k, h1, h2, .nil => by cases h1; exact .inr ⟨rfl, rfl⟩
  | [], _, _, _, _, k, h1, h2, .cons _ _ => by cases h2
  | p :: kvs, ks, vs, ds, F, k, h1, h2, r => by
    cases r with
    | nil => cases h2
    | @cons d v t F ds vs G r rs =>
    rw [List.map_cons] at h1 h2
    obtain ⟨e1, e2⟩ := List.cons.inj h2
    subst h1
    by_cases e : p.1 = k
    · refine .inl ⟨d, v, t, F, ?_, ?_, r, fun a ha => List.mem_append_left _ ha⟩
      · unfold WT.valP; exact if_pos e
      · rw [valV_pos e, e1]
    · rcases Reps.valP k rfl e2 rs with ⟨d', v', t', G', a1, a2, a3, a4⟩ | ⟨a1, a2⟩
      · refine .inl ⟨d', v', t', G', ?_, ?_, a3, fun a ha => List.mem_append_right _ (a4 a ha)⟩
        · unfold WT.valP; rw [if_neg e]; exact a1
        · rw [valV_neg e]; exact a2
      · refine .inr ⟨?_, ?_⟩
        · unfold WT.valP; rw [if_neg e]; exact a1
        · rw [valV_neg e]; exact a2
mutual
theorem Rep.nk : ∀ {d : D} {v : V} {t F : List Addr} {k : NestedKey}, Rep K H μ d v t F → keyNO d = some k → NK K H k v
  | _, _, _, _, _, .non, h => by cases h; exact .none
  | _, _, _, _, _, .bl b, h => by cases h; exact .bl b
  | _, _, _, _, _, .int b, h => by cases h; exact .num b
  | _, _, _, _, _, .str b, h => by cases h
  | _, _, _, _, _, .tup e r, h => by
    rw [keyNO] at h
    obtain ⟨ks, h1, rfl⟩ := Option.map_eq_some_iff.mp h
    exact .tup e (Reps.nk r h1)
  | _, _, _, _, _, .lst _ _, h => by cases h
  | _, _, _, _, _, .frz _, h => by cases h
  | _, _, _, _, _, .ref _, h => by cases h
  | _, _, _, _, _, .dK _ _ _ _ _, h => by cases h
  | _, _, _, _, _, .dT _ _ _ _ _ _ _ _, h => by cases h
theorem Reps.nk : ∀ {ds : List D} {vs : List V} {F : List Addr} {ks : List NestedKey}, Reps K H μ ds vs F → keyNOs ds = some ks → NKs K H ks vs
  | _, _, _, _, .nil, h => by cases h; exact .nil
  | _, _, _, _, .cons (d := d) (ds := ds) r t, h => by
    rw [keyNOs] at h
    cases e1 : keyNO d with
    | none => rw [e1] at h; cases h
    | some a =>
      cases e2 : keyNOs ds with
      | none => rw [e1, e2] at h; cases h
      | some b =>
        rw [e1, e2] at h
        cases h
        exact .cons (Rep.nk r e1) (Reps.nk t e2)
end
mutual
theorem keyNO_tx : ∀ {d : D} {k : NestedKey}, keyNO d = some k → noTx k = true
  | .non, _, h => by cases h; rfl
  | .bl _, _, h => by cases h; rfl
  | .int _, _, h => by cases h; rfl
  | .str _, _, h => by cases h
  | .tup xs, _, h => by
    rw [keyNO] at h
    obtain ⟨ks, h1, rfl⟩ := Option.map_eq_some_iff.mp h
    rw [noTx]
    exact keyNOs_tx h1
  | .lst _, _, h => by cases h
  | .frz _, _, h => by cases h
  | .dK _ _, _, h => by cases h
  | .dT _ _, _, h => by cases h
  | .ref _, _, h => by cases h
  | .exc _ _, _, h => by cases h
theorem keyNOs_tx : ∀ {ds : List D} {ks : List NestedKey}, keyNOs ds = some ks → noTxs ks = true
  | [], _, h => by cases h; rfl
  | d :: ds, _, h => by
    rw [keyNOs] at h
    cases e1 : keyNO d with
    | none => rw [e1] at h; cases h
    | some a =>
      cases e2 : keyNOs ds with
      | none => rw [e1, e2] at h; cases h
      | some b =>
        rw [e1, e2] at h
        cases h
        rw [noTxs, keyNO_tx e1, keyNOs_tx e2]; rfl
end
/-- a key of a dict of tuples: the tuple's address -/
theorem Rep.keyT {d : D} {v : V} {t F : List Addr} {k : NestedKey} (r : Rep K H μ d v t F) (h : keyTO d = some k) : ∃ b, v = .ref b ∧ NK K H k (.ref b) ∧ noTx k = true ∧ k.depth ≤ 8 := by
  cases d <;> first | (cases h; done) | skip
  unfold keyTO at h
  obtain ⟨k', h1, h2⟩ := Option.bind_eq_some_iff.mp h
  split at h2
  · rename_i hd
    cases h2
    have n := r.nk h1
    cases r with
    | tup e rs => exact ⟨_, rfl, n, keyNO_tx h1, hd⟩
  · cases h2
theorem Reps.valT : ∀ {xs : List (NestedKey × Addr × Value)} {ks : List NestedKey} {vs : List V} {ds : List D} {F : List Addr} (k : NestedKey), xs.map (·.1) = ks → Vals vs (xs.map (·.2.2)) → Reps K H μ ds vs F →
    (∃ d v t G b u, WT.valP ks ds k = some d ∧ atKey xs k = some (b, u) ∧ RelV v u ∧ Rep K H μ d v t G ∧ ∀ a ∈ t ++ G, a ∈ F) ∨ (WT.valP ks ds k = none ∧ atKey xs k = none)
  | [], _, _, _, _, k, h1, h2, r => by
    subst h1
    cases h2
    cases r
    exact .inr ⟨rfl, rfl⟩
  | p :: xs, ks, vs, ds, F, k, h1, h2, r => by
    rw [List.map_cons] at h1 h2
    subst h1
    cases h2 with
    | cons e1 e2 =>
      cases r with
      | cons r rs =>
      by_cases e : p.1 = k
      · refine .inl ⟨_, _, _, _, p.2.1, p.2.2, ?_, ?_, e1, r, fun a ha => List.mem_append_left _ ha⟩
        · unfold WT.valP; exact if_pos e
        · simp [atKey, List.find?_cons, e]
      · have q : atKey (p :: xs) k = atKey xs k := by simp [atKey, List.find?_cons, e]
        rcases Reps.valT k rfl e2 rs with ⟨d', v', t', G', b, u, a1, a2, a3, a4, a5⟩ | ⟨a1, a2⟩
        · refine .inl ⟨d', v', t', G', b, u, ?_, by rw [q]; exact a2, a3, a4, fun a ha => List.mem_append_right _ (a5 a ha)⟩
          unfold WT.valP; rw [if_neg e]; exact a1
        · refine .inr ⟨?_, by rw [q]; exact a2⟩
          unfold WT.valP; rw [if_neg e]; exact a1
section
variable {X : Cx} {pins : List (Addr × Obj)} {σ : St} {H : Hp} {s : Shared}
mutual
theorem NK.is (I : Inv X pins σ H s) : ∀ {k : NestedKey} {v : V} {u : Value}, NK X.K H k v → RelV v u → NestedIs s.heap k u
  | _, _, u, .none, r => by obtain rfl : u = Value.none := r; exact .none
  | _, _, u, .bl b, r => by obtain rfl : u = Value.bool b := r; exact .bool rfl
  | _, _, u, .num i, r => by obtain ⟨t, rfl⟩ := r; exact .int i t
  | _, _, u, .tup (b := b) e ns, r => by
    obtain rfl : u = Value.ref b := r
    obtain ⟨its, rv, ⟨o, ho, hc, n, hd⟩, hz⟩ := I.tuple e
    exact .tup ho hc hd (NKs.is I ns rv)
theorem NKs.is (I : Inv X pins σ H s) : ∀ {ks : List NestedKey} {vs : List V} {us : List Value}, NKs X.K H ks vs → Vals vs us → NestedAll s.heap ks us
  | _, _, _, .nil, r => by cases r; exact .nil
  | _, _, _, .cons n ns, r => by
    cases r with
    | cons r rs => exact .cons (NK.is I n r) (NKs.is I ns rs)
end
theorem dto_of (I : Inv X pins σ H s) {a : Addr} {xs : List (NestedKey × Addr × Value)} (e : H a = some (DTo a xs)) (hk : NKx X.K H xs) : s.heap.DictOfH (nestedKind X.prog X.w) a xs := by
  obtain ⟨⟨o, es, ep, h1, h2, h3, h4, h5⟩, _⟩ := I.hok a _ e
  refine ⟨o, es, ep, h1, h2, h3, ?_, fun x hx => ⟨(hk x hx).1.is I rfl, (hk x hx).2.2⟩, h5⟩
  rw [h4]
  refine List.map_congr_left fun x hx => ?_
  unfold entryOfKey
  show _ = (⟨x.1.hash X.w, .ref x.2.1, x.2.2⟩ : DictEntry)
  rw [hash0_eq X.w x.1 (hk x hx).2.1]
theorem nk_room {prog : Program} {w : World} {A : Around} (hu : A.units + 64 < cLine) : (nestedKind prog w).room A.in1 := by
  show A.units + 1 + 8 < cLine
  omega
end
def R2c (K : PySem.W.Frag) (op : CmpOp) : R2 := fun x y H Q => ∃ μ d1 d2 b t1 F1 t2 F2, Rep K H μ d1 x t1 F1 ∧ Rep K H μ d2 y t2 F2 ∧ cmpD op d1 d2 = some b ∧ Q (.bl b) H
end

section
variable {X : Cx}
theorem eqD_some {a b : D} {r : Bool} (h : eqD a b = some r) : ∃ x y, toPy a = some x ∧ toPy b = some y ∧ SeqAt.shaped x = true ∧ SeqAt.shaped y = true ∧ r = PyData.eqv x y := by
  unfold eqD at h
  split at h
  · rename_i x y e1 e2
    split at h
    · rename_i hs
      cases h
      exact ⟨x, y, e1, e2, hs.1, hs.2, rfl⟩
    · cases h
  · cases h
theorem op_eq_v (hu : X.A.units + 64 < cLine) : OpR X (compareOp .Eq) (R2c X.K .Eq) := by
  intro pins s σ H x y v u Q I rx ry h
  obtain ⟨μ, d1, d2, b, t1, F1, t2, F2, r1, r2, hg, q⟩ := h
  obtain ⟨a, c, e1, e2, s1, s2, rfl⟩ := eqD_some hg
  exact op_eqD hu pins s σ H _ _ v u Q I rx ry ⟨_, _, r1.dp e1, r2.dp e2, s1, s2, q⟩
theorem op_ne_v (hu : X.A.units + 64 < cLine) : OpR X (compareOp .NotEq) (R2c X.K .NotEq) := by
  intro pins s σ H x y v u Q I rx ry h
  obtain ⟨μ, d1, d2, b, t1, F1, t2, F2, r1, r2, hg, q⟩ := h
  obtain ⟨z, h1, rfl⟩ := Option.map_eq_some_iff.mp (show (eqD d1 d2).map (!·) = some b from hg)
  obtain ⟨a, c, e1, e2, s1, s2, rfl⟩ := eqD_some h1
  exact op_neD hu pins s σ H _ _ v u Q I rx ry ⟨_, _, r1.dp e1, r2.dp e2, s1, s2, q⟩
theorem op_lt_v : OpR X (compareOp .Lt) (R2c X.K .Lt) := by
  intro pins s σ H x y v u Q I rx ry h
  obtain ⟨μ, d1, d2, d, t1, F1, t2, F2, r1, r2, hg, q⟩ := h
  cases r1 <;> cases r2 <;> simp only [cmpD] at hg <;> first | (cases hg; done) | skip
  cases hg
  exact op_lt pins s σ H _ _ v u Q I rx ry ⟨_, _, rfl, rfl, q⟩
theorem op_le_v : OpR X (compareOp .LtE) (R2c X.K .LtE) := by
  intro pins s σ H x y v u Q I rx ry h
  obtain ⟨μ, d1, d2, d, t1, F1, t2, F2, r1, r2, hg, q⟩ := h
  cases r1 <;> cases r2 <;> simp only [cmpD] at hg <;> first | (cases hg; done) | skip
  cases hg
  exact op_le pins s σ H _ _ v u Q I rx ry ⟨_, _, rfl, rfl, q⟩
theorem op_gt_v : OpR X (compareOp .Gt) (R2c X.K .Gt) := by
  intro pins s σ H x y v u Q I rx ry h
  obtain ⟨μ, d1, d2, d, t1, F1, t2, F2, r1, r2, hg, q⟩ := h
  cases r1 <;> cases r2 <;> simp only [cmpD] at hg <;> first | (cases hg; done) | skip
  cases hg
  exact op_gt pins s σ H _ _ v u Q I rx ry ⟨_, _, rfl, rfl, q⟩
theorem op_ge_v : OpR X (compareOp .GtE) (R2c X.K .GtE) := by
  intro pins s σ H x y v u Q I rx ry h
  obtain ⟨μ, d1, d2, d, t1, F1, t2, F2, r1, r2, hg, q⟩ := h
  cases r1 <;> cases r2 <;> simp only [cmpD] at hg <;> first | (cases hg; done) | skip
  cases hg
  exact op_ge pins s σ H _ _ v u Q I rx ry ⟨_, _, rfl, rfl, q⟩
theorem op_in_v (hu : X.A.units + 64 < cLine) : OpR X (compareOp .In) (R2c X.K .In) := by
  intro pins s σ H x y v u Q I rx ry h
  obtain ⟨μ, d1, d2, b, t1, F1, t2, F2, r1, r2, hg, q⟩ := h
  cases r2 <;> simp only [cmpD] at hg <;> first | (cases hg; done) | skip
  case dT a xs ks vs ds F e hs hl hk nk hv r2 hF =>
    obtain ⟨k, hk1, rfl⟩ := Option.map_eq_some_iff.mp hg
    obtain ⟨b, rfl, n1, n2, n3⟩ := r1.keyT hk1
    obtain rfl : u = Value.ref a := ry
    obtain rfl : v = Value.ref b := rx
    refine wpAny_in_heap (knd := nestedKind X.prog X.w) (k := k) (nk_room hu) ⟨n1.is I rfl, n3⟩ hs (dto_of I e nk) ⟨.bl (atKey xs k).isSome, H, I.tok _, rfl, ?_⟩
    rcases Reps.valT k hk hv r2 with ⟨d', v', t', G', b', u', a1, a2, a3, a4, a5⟩ | ⟨a1, a2⟩
    · rw [a1] at q; rw [a2]; exact q
    · rw [a1] at q; rw [a2]; exact q
  case dK a kvs ks vs ds F e hk hv r2 hF =>
    obtain ⟨k, hk1, rfl⟩ := Option.map_eq_some_iff.mp hg
    obtain rfl := r1.key hk1
    obtain rfl : u = Value.ref a := ry
    refine d_in (by omega) I (.k e) rx fun s' I' => ⟨.bl (valV kvs k).isSome, H, I', rfl, ?_⟩
    rcases Reps.valP k hk hv r2 with ⟨d', v', t', G', a1, a2, a3, a4⟩ | ⟨a1, a2⟩
    · rw [a1] at q; rw [a2]; exact q
    · rw [a1] at q; rw [a2]; exact q
  case tup a vs ds e r =>
    obtain ⟨⟨h1, h2⟩, rfl⟩ := guardO_some hg
    obtain ⟨rfl, f1⟩ := r1.flat h1
    obtain ⟨rfl, f2⟩ := r.flats h2
    rw [← inV_to h1 h2] at q
    exact op_in_seq pins s σ H _ _ v u Q I rx ry ⟨_, _, rfl, .inr e, f1, f2, q⟩
  case lst a vs ds e r =>
    obtain ⟨⟨h1, h2⟩, rfl⟩ := guardO_some hg
    obtain ⟨rfl, f1⟩ := r1.flat h1
    obtain ⟨rfl, f2⟩ := r.flats h2
    rw [← inV_to h1 h2] at q
    exact op_in_seq pins s σ H _ _ v u Q I rx ry ⟨_, _, rfl, .inl (.of e), f1, f2, q⟩
theorem op_notin_v (hu : X.A.units + 64 < cLine) : OpR X (compareOp .NotIn) (R2c X.K .NotIn) := by
  intro pins s σ H x y v u Q I rx ry h
  obtain ⟨μ, d1, d2, b, t1, F1, t2, F2, r1, r2, hg, q⟩ := h
  cases r2 <;> simp only [cmpD] at hg <;> first | (cases hg; done) | skip
  case dT a xs ks vs ds F e hs hl hk nk hv r2 hF =>
    obtain ⟨k, hk1, rfl⟩ := Option.map_eq_some_iff.mp hg
    obtain ⟨b, rfl, n1, n2, n3⟩ := r1.keyT hk1
    obtain rfl : u = Value.ref a := ry
    obtain rfl : v = Value.ref b := rx
    refine wpAny_notIn_heap (knd := nestedKind X.prog X.w) (k := k) (nk_room hu) ⟨n1.is I rfl, n3⟩ hs (dto_of I e nk) ⟨.bl (!(atKey xs k).isSome), H, I.tok _, rfl, ?_⟩
    rcases Reps.valT k hk hv r2 with ⟨d', v', t', G', b', u', a1, a2, a3, a4, a5⟩ | ⟨a1, a2⟩
    · rw [a1] at q; rw [a2]; exact q
    · rw [a1] at q; rw [a2]; exact q
  case dK a kvs ks vs ds F e hk hv r2 hF =>
    obtain ⟨k, hk1, rfl⟩ := Option.map_eq_some_iff.mp hg
    obtain rfl := r1.key hk1
    obtain rfl : u = Value.ref a := ry
    refine d_notIn (by omega) I (.k e) rx fun s' I' => ⟨.bl (!(valV kvs k).isSome), H, I', rfl, ?_⟩
    rcases Reps.valP k hk hv r2 with ⟨d', v', t', G', a1, a2, a3, a4⟩ | ⟨a1, a2⟩
    · rw [a1] at q; rw [a2]; exact q
    · rw [a1] at q; rw [a2]; exact q
  case tup a vs ds e r =>
    obtain ⟨⟨h1, h2⟩, rfl⟩ := guardO_some hg
    obtain ⟨rfl, f1⟩ := r1.flat h1
    obtain ⟨rfl, f2⟩ := r.flats h2
    rw [← inV_to h1 h2] at q
    exact op_notIn_seq pins s σ H _ _ v u Q I rx ry ⟨_, _, rfl, .inr e, f1, f2, q⟩
  case lst a vs ds e r =>
    obtain ⟨⟨h1, h2⟩, rfl⟩ := guardO_some hg
    obtain ⟨rfl, f1⟩ := r1.flat h1
    obtain ⟨rfl, f2⟩ := r.flats h2
    rw [← inV_to h1 h2] at q
    exact op_notIn_seq pins s σ H _ _ v u Q I rx ry ⟨_, _, rfl, .inl (.of e), f1, f2, q⟩
theorem op_is_v : OpR X (compareOp .Is) (R2c X.K .Is) := by
  intro pins s σ H x y v u Q I rx ry h
  obtain ⟨μ, d1, d2, b, t1, F1, t2, F2, r1, r2, hg, q⟩ := h
  have e := r1.non_iff
  cases r2 with
  | non => cases d1 <;> simp only [cmpD] at hg <;> cases hg <;> exact op_isN pins s σ H _ _ v u Q I rx ry ⟨rfl, by rw [e]; exact q⟩
  | bl c =>
    cases r1 <;> simp only [cmpD] at hg <;> first | (cases hg; done) | skip
    cases hg
    exact op_isBl pins s σ H _ _ v u Q I rx ry ⟨_, _, rfl, rfl, q⟩
  | _ => cases d1 <;> simp only [cmpD] at hg <;> cases hg
theorem op_isnot_v : OpR X (compareOp .IsNot) (R2c X.K .IsNot) := by
  intro pins s σ H x y v u Q I rx ry h
  obtain ⟨μ, d1, d2, b, t1, F1, t2, F2, r1, r2, hg, q⟩ := h
  have e := r1.non_iff
  cases r2 with
  | non => cases d1 <;> simp only [cmpD] at hg <;> cases hg <;> exact op_notN pins s σ H _ _ v u Q I rx ry ⟨rfl, by rw [e]; exact q⟩
  | bl c =>
    cases r1 <;> simp only [cmpD] at hg <;> first | (cases hg; done) | skip
    cases hg
    exact op_notBl pins s σ H _ _ v u Q I rx ry ⟨_, _, rfl, rfl, q⟩
  | _ => cases d1 <;> simp only [cmpD] at hg <;> cases hg
theorem op_cmp_v (hu : X.A.units + 64 < cLine) (op : CmpOp) : OpR X (compareOp op) (R2c X.K op) := by
  cases op with
  | Eq => exact op_eq_v hu
  | NotEq => exact op_ne_v hu
  | Lt => exact op_lt_v
  | LtE => exact op_le_v
  | Gt => exact op_gt_v
  | GtE => exact op_ge_v
  | In => exact op_in_v hu
  | NotIn => exact op_notin_v hu
  | Is => exact op_is_v
  | IsNot => exact op_isnot_v

/-! ### truth -/
theorem Rep.tru {K : PySem.W.Frag} {H : Hp} {μ : List Addr} {d : D} {v : V} {t F : List Addr} {st : Sto} {b : Bool} (r : Rep K H μ d v t F) (h : truD st d = some b) : TruV K v H b := by
  cases r <;> simp only [truD] at h <;> first | (cases h; done) | skip
  · cases h; rfl
  · cases h; rfl
  · cases h; rfl
  · obtain ⟨h1, rfl⟩ := guardO_some h
    refine ⟨h1, ?_⟩
    rename_i x
    cases e : x.length with
    | zero => rfl
    | succ n =>
      have e2 : ((n + 1 : Nat) : Int) ≠ 0 := by omega
      rw [bne_iff_ne.mpr e2, bne_iff_ne.mpr (Nat.succ_ne_zero n)]
  · cases h
    rename_i a vs ds e r
    exact .inr (.inl ⟨_, e, by cases r <;> rfl⟩)
  · cases h
    rename_i a vs ds e r
    exact .inl ⟨_, .of e, by cases r <;> rfl⟩

/-! ### x[i] -/
/-- what the boxes hold -/
def Bx (K : PySem.W.Frag) (H : Hp) (μ : List Addr) (st : Sto) (B : Addr → Prop) : Prop := ∀ (k : Nat) (xs : List D), st[k]? = some xs → ∃ a vs F, μ[k]? = some a ∧ H a = some (.lst vs) ∧ Reps K H μ xs vs F ∧ ∀ b ∈ F, B b
theorem atI_rep {K : PySem.W.Frag} {H : Hp} {μ : List Addr} {ds : List D} {vs : List V} {F : List Addr} {i : Int} {d : D} (r : Reps K H μ ds vs F) (h : ixD ds i = some d) : ∃ v t G, atI vs i = some v ∧ Rep K H μ d v t G ∧ ∀ a ∈ t ++ G, a ∈ F := by
  unfold ixD atI at h
  obtain ⟨j, h1, h2⟩ := Option.bind_eq_some_iff.mp h
  obtain ⟨v, t, G, e, q, k⟩ := r.get h2
  refine ⟨v, t, G, ?_, q, k⟩
  unfold atI
  rw [← r.length, h1]
  exact e
def R2i (K : PySem.W.Frag) : R2 := fun x y H Q => ∃ μ d1 d2 d t1 F1 t2 F2 st B, Rep K H μ d1 x t1 F1 ∧ Rep K H μ d2 y t2 F2 ∧ Bx K H μ st B ∧ idxD st d1 d2 = some d ∧
  ∀ v t F, Rep K H μ d v t F → (∀ a ∈ t ++ F, a ∈ F1 ∨ B a) → Q v H
theorem ix_dict (hu : X.A.units + 64 < cLine) : IxR X (fun x y H Q => ∃ a v, x = .ref a ∧ DGet H a y (some v) ∧ Q v H) := by
  intro value slice pins s σ H x y v u Q I rx ry h hs
  obtain ⟨a, w, rfl, g, q⟩ := h
  obtain rfl : v = Value.ref a := rx
  exact tail_any (dict_typeIs I g) PySem.F.slot_dict_getitem.lookup (d_getItem (by omega) I g ry fun w' s' I' rw' => ⟨w, H, I', rw', q⟩) hs
theorem ix_v (hu : X.A.units + 64 < cLine) : IxR X (R2i X.K) := by
  intro value slice pins s σ H x y v u Q I rx ry h hps
  obtain ⟨μ, d1, d2, d, t1, F1, t2, F2, st, B, r1, r2, bx, hg, q⟩ := h
  have dict : ∀ {a : Addr} {kvs : List (Key × V)} {ks : List Key} {vs : List V} {ds : List D} {F : List Addr} {k : Key}, x = .ref a → y = kV k → H a = some (.dK kvs) → kvs.map (·.1) = ks → kvs.map (·.2) = vs → Reps X.K H μ ds vs F → F = [] → WT.valP ks ds k = some d →
      wpAny (model X.prog X.w) X.A (subscriptTail value slice v u) (EP X pins σ Q) X.xe s := by
    intro a kvs ks vs ds F k ex ey e h1 h2 r hF hv
    subst ex ey
    rcases Reps.valP k h1 h2 r with ⟨d', v', t', G', a1, a2, a3, a4⟩ | ⟨a1, a2⟩
    · rw [hv] at a1
      cases a1
      refine ix_dict hu value slice pins s σ H _ _ v u Q I rx ry ⟨a, v', rfl, ?_, q _ _ _ a3 fun b hb => ?_⟩ hps
      · rw [← a2]; exact .k e
      · have := a4 b hb; rw [hF] at this; simp at this
    · rw [hv] at a1; cases a1
  have dictT : ∀ {a : Addr} {xs : List (NestedKey × Addr × Value)} {ks : List NestedKey} {vs : List V} {ds : List D} {F : List Addr} {k : NestedKey}, x = .ref a → keyTO d2 = some k → H a = some (DTo a xs) → xs.map (·.1) = ks → NKx X.K H xs → Vals vs (xs.map (·.2.2)) → Reps X.K H μ ds vs F → F = [] → WT.valP ks ds k = some d →
      wpAny (model X.prog X.w) X.A (subscriptTail value slice v u) (EP X pins σ Q) X.xe s := by
    intro a xs ks vs ds F k ex ek e h1 nk h2 r hF hv
    subst ex
    obtain ⟨b, rfl, n1, n2, n3⟩ := r2.keyT ek
    obtain rfl : v = Value.ref a := rx
    obtain rfl : u = Value.ref b := ry
    rcases Reps.valT k h1 h2 r with ⟨d', v', t', G', b', u', a1, a2, a3, a4, a5⟩ | ⟨a1, a2⟩
    · rw [hv] at a1
      cases a1
      have dd := dto_of I e nk
      refine tail_any dd.typeIs PySem.F.slot_dict_getitem.lookup (wpAny_getItem_heap (knd := nestedKind X.prog X.w) (k := k) (nk_room hu) ⟨n1.is I rfl, n3⟩ dd a2 ⟨v', H, I.tok _, a3, q _ _ _ a4 fun c hc => ?_⟩) hps
      have := a5 c hc
      rw [hF] at this; simp at this
    · rw [hv] at a1; cases a1
  cases r1
  case dT a xs ks vs ds F e hs hl hk nk hv r hF =>
    obtain ⟨k, hk1, hk2⟩ := Option.bind_eq_some_iff.mp (show (keyTO d2).bind (fun k => WT.valP ks ds k) = some d from by cases d2 <;> exact hg)
    exact dictT rfl hk1 e hk nk hv r hF hk2
  all_goals (cases r2 <;> simp only [idxD] at hg <;> first | (cases hg; done) | skip)
  case str.int z i =>
    split at hg
    · rename_i hz
      obtain ⟨c, h1, rfl⟩ := Option.map_eq_some_iff.mp hg
      exact ix_str value slice pins s σ H _ _ v u Q I rx ry ⟨_, _, _, rfl, rfl, hz, h1, q _ _ _ (.str _) fun _ h => by simp at h⟩ hps
    · cases hg
  case tup.int a vs ds e r i =>
    obtain ⟨w', t, G, e1, r3, k⟩ := atI_rep r hg
    exact ix_tup value slice pins s σ H _ _ v u Q I rx ry ⟨_, _, _, _, rfl, rfl, e, e1, q _ _ _ r3 fun a ha => .inl (k a ha)⟩ hps
  case lst.int a vs ds e r i =>
    obtain ⟨w', t, G, e1, r3, k⟩ := atI_rep r hg
    exact ix_list value slice pins s σ H _ _ v u Q I rx ry ⟨_, _, _, _, rfl, rfl, .of e, e1, q _ _ _ r3 fun a ha => .inl (k a ha)⟩ hps
  case frz.int a ns e i =>
    unfold ixD atI at hg
    obtain ⟨j, h1, h2⟩ := Option.bind_eq_some_iff.mp hg
    rw [List.getElem?_map] at h2
    obtain ⟨n, h3, rfl⟩ := Option.map_eq_some_iff.mp h2
    rw [List.length_map] at h1
    refine ix_list value slice pins s σ H _ _ v u Q I rx ry ⟨_, _, _, .int n, rfl, rfl, e.sq, ?_, q _ _ _ (.int n) fun _ h => by simp at h⟩ hps
    unfold atI
    rw [List.length_map, h1, Option.bind_some, List.getElem?_map, h3] <;> rfl
  case dK.int a kvs ks vs ds F e h1 h2 r hF i => exact dict rfl rfl e h1 h2 r hF (k := .inl i) hg
  case dK.str a kvs ks vs ds F e h1 h2 r hF i => exact dict rfl rfl e h1 h2 r hF (k := .inr i) hg
  case ref.int a k e i =>
    obtain ⟨xs, h1, h2⟩ := Option.bind_eq_some_iff.mp hg
    obtain ⟨a', vs, F, e1, e2, r, hB⟩ := bx _ _ h1
    rw [e] at e1
    cases e1
    obtain ⟨w', t, G, e3, r3, k⟩ := atI_rep r h2
    exact ix_list value slice pins s σ H _ _ v u Q I rx ry ⟨_, _, _, _, rfl, rfl, .of e2, e3, q _ _ _ r3 fun a ha => .inr (hB a (k a ha))⟩ hps

/-! ### x[lo:hi] -/
theorem cut_rep {K : PySem.W.Frag} {H : Hp} {μ : List Addr} {ds : List D} {vs : List V} {F : List Addr} (r : Reps K H μ ds vs F) (lo hi : Option Int) : ∃ L, Reps K H μ (cutL ds lo hi) (cutV vs lo hi) L ∧ ∀ a ∈ L, a ∈ F := by
  unfold cutL cutV
  rw [← r.length]
  obtain ⟨L, h1, h2⟩ := r.drop (HT.sIx ds.length 0 lo)
  obtain ⟨M, h3, h4⟩ := h1.take (HT.sIx ds.length ds.length hi - HT.sIx ds.length 0 lo)
  exact ⟨M, h3, fun a ha => h2 a (h4 a ha)⟩
def R2s (K : PySem.W.Frag) : V → Option Int → Option Int → Hp → VK → Prop := fun x lo hi H Q => ∃ μ d1 d t1 F1, Rep K H μ d1 x t1 F1 ∧ sliceD d1 lo hi = some d ∧ Out K H μ d (fun a => a ∈ F1) Q
theorem sl_v : SlR X (R2s X.K) := by
  intro pins s σ H x v vl vu lo hi sl Q I rx hs pl pu h
  obtain ⟨μ, d1, d, t1, F1, r1, hg, q⟩ := h
  cases r1 <;> simp only [sliceD] at hg <;> first | (cases hg; done) | skip
  case tup a vs ds e r =>
    cases hg
    obtain ⟨L, h1, h2⟩ := cut_rep r lo hi
    refine sl_tupA pins s σ H _ v vl vu lo hi sl Q I rx hs pl pu ⟨_, _, rfl, e, fun z => ?_, fun z p hp => q.tup h1 h2 hp⟩
    have e2 : cutL ds lo hi = ds := by
      unfold cutL
      rw [r.length, z.1, z.2, List.drop_zero, Nat.sub_zero, ← r.length, List.take_length]
    rw [e2] at q
    exact q.tupSame e r fun _ h => h
  case lst a vs ds e r =>
    cases hg
    obtain ⟨L, h1, h2⟩ := cut_rep r lo hi
    exact sl_list pins s σ H _ v vl vu lo hi sl Q I rx hs pl pu ⟨_, _, rfl, .of e, fun p hp => q.lst h1 h2 hp⟩

/-! ### isinstance -/
def Ty.nm : Ty → String
  | .int => "int" | .bool => "bool" | .str => "str" | .tuple => "tuple" | .list => "list" | .dict => "dict"
def tyS : D → Option String
  | .non => some "NoneType"
  | .bl _ => some "bool"
  | .int _ => some "int"
  | .str _ => some "str"
  | .tup _ => some "tuple"
  | .lst _ => some "list"
  | .dK _ _ => some "dict"
  | _ => none
theorem kit_all : ∀ (d : D) (own : List Ty) (a : String), tyD d = some own → tyS d = some a → ∀ t : Ty, kitB a t.nm = some (own.contains t) := by
  intro d own a h1 h2 t
  cases d <;> cases h1 <;> cases h2 <;> cases t <;> decide +kernel
theorem Rep.ty {K : PySem.W.Frag} {H : Hp} {μ : List Addr} {d : D} {v : V} {t F : List Addr} {a : String} (r : Rep K H μ d v t F) (h : tyS d = some a) : TyX K H v (.type a) := by
  cases r <;> cases h
  · exact .base .non
  · exact .base (.bl _)
  · exact .base (.int _)
  · exact .base (.str _)
  · rename_i a vs ds e r
    rcases e with (e | ⟨o, e⟩) | ⟨o, its, n, e1, e2, _⟩
    · exact .base (.tup e)
    · exact .fTuple e
    · exact .kTuple e1 e2
  · rename_i a vs ds e r
    exact .base (.lst e)
  · rename_i e _ _ _ _
    exact .base (.dK e)
theorem kitAny_v {K : PySem.W.Frag} {d : D} {own : List Ty} {a : String} (h1 : tyD d = some own) (h2 : tyS d = some a) : ∀ ts : List Ty, PySem.W.kitAny K (.type a) (ts.map fun t => Value.type t.nm) = some (ts.any fun t => own.contains t)
  | [] => rfl
  | t :: ts => by
    refine kitAny_cons (b := own.contains t) (kit_ty (kit_all d own a h1 h2 t)) (fun hb => ?_) fun hb => ?_
    · rw [List.any_cons, hb, Bool.false_or]
      exact kitAny_v h1 h2 ts
    · rw [List.any_cons, hb, Bool.true_or]
theorem tyD_tyS {d : D} {own : List Ty} (h : tyD d = some own) : ∃ a, tyS d = some a := by
  cases d <;> first | (cases h; done) | exact ⟨_, rfl⟩

/-! ### built-in functions -/
def RBi (K : PySem.W.Frag) (f : Bi) : List V → Hp → VK → Prop := fun xs H Q => ∃ μ ds F st B d, Reps K H μ ds xs F ∧ Bx K H μ st B ∧ biD st f ds = some d ∧ Out K H μ d (fun a => a ∈ F) Q
theorem Reps.one {K : PySem.W.Frag} {H : Hp} {μ : List Addr} {d : D} {vs : List V} {F : List Addr} (r : Reps K H μ [d] vs F) : ∃ v t G, vs = [v] ∧ Rep K H μ d v t G ∧ F = t ++ G := by
  cases r with
  | cons r s =>
    cases s
    exact ⟨_, _, _, rfl, r, by simp⟩
theorem Reps.two {K : PySem.W.Frag} {H : Hp} {μ : List Addr} {d e : D} {vs : List V} {F : List Addr} (r : Reps K H μ [d, e] vs F) : ∃ v t G w u L, vs = [v, w] ∧ Rep K H μ d v t G ∧ Rep K H μ e w u L := by
  cases r with
  | cons r s =>
    cases s with
    | cons r2 s2 =>
      cases s2
      exact ⟨_, _, _, _, _, _, rfl, r, r2⟩
theorem Reps.ints {K : PySem.W.Frag} {H : Hp} {μ : List Addr} : ∀ {ds : List D} {vs : List V} {F : List Addr} {ns : List Int}, Reps K H μ ds vs F → intsD ds = some ns → vs = ns.map V.int
  | _, _, _, _, .nil, h => by cases h; rfl
  | _, _, _, _, .cons (d := d) r s, h => by
    cases r <;> simp only [intsD] at h <;> first | (cases h; done) | skip
    obtain ⟨ms, h1, rfl⟩ := Option.map_eq_some_iff.mp h
    rw [s.ints h1] <;> rfl
theorem Reps.bls {K : PySem.W.Frag} {H : Hp} {μ : List Addr} : ∀ {ds : List D} {vs : List V} {F : List Addr} {ns : List Bool}, Reps K H μ ds vs F → blsD ds = some ns → vs = ns.map V.bl
  | _, _, _, _, .nil, h => by cases h; rfl
  | _, _, _, _, .cons (d := d) r s, h => by
    cases r <;> simp only [blsD] at h <;> first | (cases h; done) | skip
    obtain ⟨ms, h1, rfl⟩ := Option.map_eq_some_iff.mp h
    rw [s.bls h1] <;> rfl
theorem max_foldl : ∀ (xs : List Int) (x m : Int), m ∈ x :: xs → (∀ y ∈ x :: xs, y ≤ m) → xs.foldl (fun m y => if m < y then y else m) x = m
  | [], x, m, h, _ => (List.mem_singleton.mp h).symm
  | y :: ys, x, m, h, b => by
    rw [List.foldl_cons]
    refine max_foldl ys _ m ?_ fun z hz => ?_
    · have b1 := b x (by simp)
      have b2 := b y (by simp)
      rcases List.mem_cons.mp h with h | h
      · rw [if_neg (by omega)]; simp [h]
      · rcases List.mem_cons.mp h with h | h
        · split
          · simp [h]
          · have : x = m := by omega
            simp [this]
        · simp [h]
    · rcases List.mem_cons.mp hz with e | hz
      · rw [e]; split
        · exact b y (by simp)
        · exact b x (by simp)
      · exact b z (by simp [hz])
theorem min_foldl : ∀ (xs : List Int) (x m : Int), m ∈ x :: xs → (∀ y ∈ x :: xs, m ≤ y) → xs.foldl (fun m y => if y < m then y else m) x = m
  | [], x, m, h, _ => (List.mem_singleton.mp h).symm
  | y :: ys, x, m, h, b => by
    rw [List.foldl_cons]
    refine min_foldl ys _ m ?_ fun z hz => ?_
    · have b1 := b x (by simp)
      have b2 := b y (by simp)
      rcases List.mem_cons.mp h with h | h
      · rw [if_neg (by omega)]; simp [h]
      · rcases List.mem_cons.mp h with h | h
        · split
          · simp [h]
          · have : x = m := by omega
            simp [this]
        · simp [h]
    · rcases List.mem_cons.mp hz with e | hz
      · rw [e]; split
        · exact b y (by simp)
        · exact b x (by simp)
      · exact b z (by simp [hz])
theorem insI_perm (x : Int) : ∀ xs : List Int, (insI x xs).Perm (x :: xs)
  | [] => .refl _
  | y :: r => by
    unfold insI
    split
    · exact .refl _
    · exact ((insI_perm x r).cons y).trans (.swap x y r)
theorem insI_sorted (x : Int) : ∀ xs : List Int, xs.Pairwise (· ≤ ·) → (insI x xs).Pairwise (· ≤ ·)
  | [], _ => by simp [insI]
  | y :: r, h => by
    unfold insI
    have h1 := List.pairwise_cons.mp h
    split
    · rename_i hxy
      refine List.pairwise_cons.mpr ⟨fun z hz => ?_, h⟩
      rcases List.mem_cons.mp hz with e | hz
      · rw [e]; exact hxy
      · exact Int.le_trans hxy (h1.1 z hz)
    · rename_i hxy
      refine List.pairwise_cons.mpr ⟨fun z hz => ?_, insI_sorted x r h1.2⟩
      rcases List.mem_cons.mp ((insI_perm x r).mem_iff.mp hz) with e | hz
      · omega
      · exact h1.1 z hz
theorem sortI_perm : ∀ xs : List Int, (sortI xs).Perm xs
  | [] => .refl _
  | x :: xs => (insI_perm x _).trans ((sortI_perm xs).cons x)
theorem sortI_sorted : ∀ xs : List Int, (sortI xs).Pairwise (· ≤ ·)
  | [] => .nil
  | x :: xs => insI_sorted x _ (sortI_sorted xs)
theorem sorted_one {xs ys : List Int} (p : xs.Perm ys) (h1 : xs.Pairwise (· ≤ ·)) (h2 : ys.Pairwise (· ≤ ·)) : xs = ys :=
  p.eq_of_pairwise (fun a b _ _ h3 h4 => Int.le_antisymm h3 h4) h1 h2
theorem preSum_list (ns : List Int) : ∀ n, n ≤ ns.length → preSum (fun i => ns.getD i 0) n = (ns.take n).sum
  | 0, _ => by simp [preSum]
  | n + 1, h => by
    rw [preSum, preSum_list ns n (by omega), List.take_succ, List.sum_append, List.getD_eq_getElem?_getD]
    rw [List.getElem?_eq_getElem (by omega)]
    simp
theorem cr_sumT (hc : X.calm = true) : CallR X (.builtin "sum") (fun vs H Q => ∃ (a : Addr) (ns : List Int), vs = [V.ref a] ∧ SqT X.K H a (ns.map V.int) ∧ Q (.int ns.sum) H) := by
  intro pins s σ H vs us Q I r h
  obtain ⟨a, ns, rfl, hs, q⟩ := h
  obtain ⟨its, rv, hl, _⟩ := I.tuple hs
  rw [Vals.ref1 r]
  refine call_sum_walkG (wpAny_pyIter_tuple (show s.heap.IsTuple a its.toArray from hl) ?_)
  have hlt : a < s.heap.objs.size := hl.lt
  refine ⟨_, _, _, _, _, _, (fun i => ns.getD i 0), rfl, Walks.tuple (A := X.A.in1) (I.ok.hd hc) s.heap.objs.size a (Nat.ne_of_lt hlt) its.toArray, ?_, ?_, ?_, ?_⟩
  · exact ⟨⟨_, Heap.get?_push_size _ rfl, rfl, rfl⟩, hl.push _⟩
  · intro b hb
    rw [Heap.size_push]
    rcases List.mem_cons.mp hb with e | hb
    · rw [e]; exact Nat.lt_succ_self _
    · rw [List.mem_singleton.mp hb]; exact Nat.lt_succ_of_lt hlt
  · intro i v hv
    have hv' : its[i]? = some v := by simpa using hv
    have hi := (Vals.ints rv)
    have hlen : its.length = ns.length := by rw [← rv.length, List.length_map]
    have hin : i < ns.length := by rw [← hlen]; exact (List.getElem?_eq_some_iff.mp hv').1
    obtain ⟨u, hu, ru⟩ := rv.get (i := i) (x := V.int (ns.getD i 0)) (by
      rw [List.getElem?_map, List.getElem?_eq_getElem hin, List.getD_eq_getElem?_getD, List.getElem?_eq_getElem hin] <;> rfl)
    rw [hv'] at hu
    cases hu
    exact ru
  · intro h' tk t' hk
    have hlen : its.length = ns.length := by rw [← rv.length, List.length_map]
    have e : preSum (fun i => ns.getD i 0) its.toArray.size = ns.sum := by
      rw [List.size_toArray, hlen, preSum_list ns _ (Nat.le_refl _), List.take_length]
    rw [e]
    refine ⟨.int _, H, I.kept fun b o eo => hk b o (fun hmem => ?_) (Heap.get?_push_of_some _ eo), ⟨_, rfl⟩, q⟩
    rw [List.mem_singleton.mp hmem] at eo
    exact absurd (Heap.lt_size eo) (Nat.lt_irrefl _)

theorem Out.frame {K : PySem.W.Frag} {H : Hp} {μ : List Addr} {d : D} {B B' : Addr → Prop} {Q : VK} (h : Out K H μ d B Q) (hb : ∀ a, B' a → B a) : Out K H μ d B' Q := fun v H' t F n r x y => h v H' t F n r x fun a ha => hb a (y a ha)
def BiOk (X : Cx) (f : Bi) (v : Value) : Prop := CallR X v (RBi X.K f)
theorem bi_len : CallR X (.builtin "len") (RBi X.K .len) := by
  intro pins s σ H xs us Q I r h
  obtain ⟨μ, ds, F, st, B, d, rs, bx, hg, q⟩ := h
  match ds, rs, hg with
  | [], _, hg => cases hg
  | _ :: _ :: _, _, hg => simp [biD] at hg
  | [x], rs, hg =>
    obtain ⟨v, t, G, rfl, r1, -⟩ := rs.one
    clear rs
    cases r1 <;> simp only [biD] at hg <;> first | (cases hg; done) | skip
    case str x =>
      obtain ⟨h1, rfl⟩ := guardO_some hg
      exact call_len pins s σ H _ us Q I r ⟨_, x.length, rfl, ⟨h1, rfl⟩, q.int⟩
    case tup a vs ds e r1 =>
      cases hg
      exact call_len pins s σ H _ us Q I r ⟨_, ds.length, rfl, .inr ⟨_, e, r1.length⟩, q.int⟩
    case lst a vs ds e r1 =>
      cases hg
      exact call_len pins s σ H _ us Q I r ⟨_, ds.length, rfl, .inl ⟨_, .of e, r1.length⟩, q.int⟩
    case frz a ns e =>
      cases hg
      exact call_len pins s σ H _ us Q I r ⟨_, ns.length, rfl, .inl ⟨_, e.sq, by rw [List.length_map]⟩, q.int⟩
    case ref a k e =>
      obtain ⟨ys, h1, rfl⟩ := Option.map_eq_some_iff.mp hg
      obtain ⟨a', vs, F', e1, e2, r2, _⟩ := bx _ _ h1
      rw [e] at e1
      cases e1
      exact call_len pins s σ H _ us Q I r ⟨_, ys.length, rfl, .inl ⟨_, .of e2, r2.length⟩, q.int⟩
    case dK a kvs ks vs ds F e hk hv r2 hF =>
      cases hg
      refine call_lenD pins s σ H _ us Q I r ⟨_, kvs, rfl, e, ?_⟩
      rw [show kvs.length = ks.length by rw [← hk, List.length_map]]
      exact q.int
theorem bi_int : CallR X (.type "int") (RBi X.K .int) := by
  intro pins s σ H xs us Q I r h
  obtain ⟨μ, ds, F, st, B, d, rs, bx, hg, q⟩ := h
  match ds, rs, hg with
  | [], _, hg => cases hg
  | _ :: _ :: _, _, hg => simp [biD] at hg
  | [x], rs, hg =>
    obtain ⟨v, t, G, rfl, r1, -⟩ := rs.one
    clear rs
    cases r1 <;> simp only [biD] at hg <;> first | (cases hg; done) | skip
    case bl b =>
      cases hg
      exact call_int1 pins s σ H _ us Q I r (.inr ⟨b, rfl, q.int⟩)
    case int b =>
      cases hg
      exact call_int1 pins s σ H _ us Q I r (.inl ⟨b, rfl, q.int⟩)
theorem bi_abs : CallR X (.builtin "abs") (RBi X.K .abs) := by
  intro pins s σ H xs us Q I r h
  obtain ⟨μ, ds, F, st, B, d, rs, bx, hg, q⟩ := h
  match ds, rs, hg with
  | [], _, hg => cases hg
  | _ :: _ :: _, _, hg => simp [biD] at hg
  | [x], rs, hg =>
    obtain ⟨v, t, G, rfl, r1, -⟩ := rs.one
    clear rs
    cases r1 <;> simp only [biD] at hg <;> first | (cases hg; done) | skip
    case int b =>
      cases hg
      exact call_abs pins s σ H _ us Q I r ⟨b, rfl, q.int⟩
theorem bi_sum (hc : X.calm = true) : CallR X (.builtin "sum") (RBi X.K .sum) := by
  intro pins s σ H xs us Q I r h
  obtain ⟨μ, ds, F, st, B, d, rs, bx, hg, q⟩ := h
  match ds, rs, hg with
  | [], _, hg => cases hg
  | _ :: _ :: _, _, hg => simp [biD] at hg
  | [x], rs, hg =>
    obtain ⟨v, t, G, rfl, r1, -⟩ := rs.one
    clear rs
    obtain ⟨ns, h1, rfl⟩ := Option.map_eq_some_iff.mp (show ((seqOf x).bind intsD).map (fun ns => D.int ns.sum) = some d from hg)
    cases r1 <;> simp only [seqOf, Option.bind_none, Option.bind_some] at h1 <;> first | (cases h1; done) | skip
    case tup a vs ds e r1 =>
      have e2 := r1.ints h1
      subst e2
      exact cr_sumT hc pins s σ H _ us Q I r ⟨_, _, rfl, e, q.int⟩
    case lst a vs ds e r1 =>
      have e2 := r1.ints h1
      subst e2
      exact cr_sum hc pins s σ H _ us Q I r ⟨_, _, rfl, .of e, q.int⟩
theorem bi_all (hc : X.calm = true) : CallR X (.builtin "all") (RBi X.K .all) := by
  intro pins s σ H xs us Q I r h
  obtain ⟨μ, ds, F, st, B, d, rs, bx, hg, q⟩ := h
  match ds, rs, hg with
  | [], _, hg => cases hg
  | _ :: _ :: _, _, hg => simp [biD] at hg
  | [x], rs, hg =>
    obtain ⟨v, t, G, rfl, r1, -⟩ := rs.one
    clear rs
    cases r1 <;> simp only [biD] at hg <;> first | (cases hg; done) | skip
    case lst a vs ds e r1 =>
      obtain ⟨ns, h1, rfl⟩ := Option.map_eq_some_iff.mp hg
      have e2 := r1.bls h1
      subst e2
      exact cr_all hc pins s σ H _ us Q I r ⟨_, _, rfl, .of e, q.bl⟩
theorem bi_any (hc : X.calm = true) : CallR X (.builtin "any") (RBi X.K .any) := by
  intro pins s σ H xs us Q I r h
  obtain ⟨μ, ds, F, st, B, d, rs, bx, hg, q⟩ := h
  match ds, rs, hg with
  | [], _, hg => cases hg
  | _ :: _ :: _, _, hg => simp [biD] at hg
  | [x], rs, hg =>
    obtain ⟨v, t, G, rfl, r1, -⟩ := rs.one
    clear rs
    cases r1 <;> simp only [biD] at hg <;> first | (cases hg; done) | skip
    case lst a vs ds e r1 =>
      obtain ⟨ns, h1, rfl⟩ := Option.map_eq_some_iff.mp hg
      have e2 := r1.bls h1
      subst e2
      exact cr_any hc pins s σ H _ us Q I r ⟨_, _, rfl, .of e, q.bl⟩
theorem bi_max (hc : X.calm = true) : CallR X (.builtin "max") (RBi X.K .max) := by
  intro pins s σ H xs us Q I r h
  obtain ⟨μ, ds, F, st, B, d, rs, bx, hg, q⟩ := h
  match ds, rs, hg with
  | [], _, hg => cases hg
  | _ :: _ :: _, _, hg => simp [biD] at hg
  | [x], rs, hg =>
    obtain ⟨v, t, G, rfl, r1, -⟩ := rs.one
    clear rs
    cases r1 <;> simp only [biD] at hg <;> first | (cases hg; done) | skip
    case lst a vs ds e r1 =>
      obtain ⟨m, h1, rfl⟩ := Option.map_eq_some_iff.mp hg
      obtain ⟨ns, h2, h3⟩ := Option.bind_eq_some_iff.mp h1
      have e2 := r1.ints h2
      subst e2
      cases ns with
      | nil => cases h3
      | cons x ys =>
        cases h3
        exact cr_max hc pins s σ H _ us Q I r ⟨_, _, rfl, .of e, by simp, fun m hm hle => by rw [← max_foldl ys x m hm hle]; exact q.int⟩
theorem bi_min (hc : X.calm = true) : CallR X (.builtin "min") (RBi X.K .min) := by
  intro pins s σ H xs us Q I r h
  obtain ⟨μ, ds, F, st, B, d, rs, bx, hg, q⟩ := h
  match ds, rs, hg with
  | [], _, hg => cases hg
  | _ :: _ :: _, _, hg => simp [biD] at hg
  | [x], rs, hg =>
    obtain ⟨v, t, G, rfl, r1, -⟩ := rs.one
    clear rs
    cases r1 <;> simp only [biD] at hg <;> first | (cases hg; done) | skip
    case lst a vs ds e r1 =>
      obtain ⟨m, h1, rfl⟩ := Option.map_eq_some_iff.mp hg
      obtain ⟨ns, h2, h3⟩ := Option.bind_eq_some_iff.mp h1
      have e2 := r1.ints h2
      subst e2
      cases ns with
      | nil => cases h3
      | cons x ys =>
        cases h3
        exact cr_min hc pins s σ H _ us Q I r ⟨_, _, rfl, .of e, by simp, fun m hm hle => by rw [← min_foldl ys x m hm hle]; exact q.int⟩
theorem bi_max2 (hc : X.calm = true) : CallR X (.builtin "max") (RBi X.K .max2) := by
  intro pins s σ H xs us Q I r h
  obtain ⟨μ, ds, F, st, B, d, rs, bx, hg, q⟩ := h
  match ds, rs, hg with
  | [], _, hg => cases hg
  | [_], _, hg => simp [biD] at hg
  | _ :: _ :: _ :: _, _, hg => simp [biD] at hg
  | [x, y], rs, hg =>
    obtain ⟨v, t, G, v2, t2, G2, rfl, r1, r2⟩ := rs.two
    clear rs
    cases r1 <;> cases r2 <;> simp only [biD] at hg <;> first | (cases hg; done) | skip
    cases hg
    exact call_max2 hc pins s σ H _ us Q I r ⟨_, _, rfl, q.int⟩
theorem bi_min2 (hc : X.calm = true) : CallR X (.builtin "min") (RBi X.K .min2) := by
  intro pins s σ H xs us Q I r h
  obtain ⟨μ, ds, F, st, B, d, rs, bx, hg, q⟩ := h
  match ds, rs, hg with
  | [], _, hg => cases hg
  | [_], _, hg => simp [biD] at hg
  | _ :: _ :: _ :: _, _, hg => simp [biD] at hg
  | [x, y], rs, hg =>
    obtain ⟨v, t, G, v2, t2, G2, rfl, r1, r2⟩ := rs.two
    clear rs
    cases r1 <;> cases r2 <;> simp only [biD] at hg <;> first | (cases hg; done) | skip
    cases hg
    exact call_min2 hc pins s σ H _ us Q I r ⟨_, _, rfl, q.int⟩
theorem bi_gcd : CallR X (.builtin "math.gcd") (RBi X.K .gcd) := by
  intro pins s σ H xs us Q I r h
  obtain ⟨μ, ds, F, st, B, d, rs, bx, hg, q⟩ := h
  match ds, rs, hg with
  | [], _, hg => cases hg
  | [_], _, hg => simp [biD] at hg
  | _ :: _ :: _ :: _, _, hg => simp [biD] at hg
  | [x, y], rs, hg =>
    obtain ⟨v, t, G, v2, t2, G2, rfl, r1, r2⟩ := rs.two
    clear rs
    cases r1 <;> cases r2 <;> simp only [biD] at hg <;> first | (cases hg; done) | skip
    cases hg
    exact cr_gcd pins s σ H _ us Q I r ⟨_, _, rfl, q.int⟩
theorem bi_tuple : CallR X (.type "tuple") (RBi X.K .tuple) := by
  intro pins s σ H xs us Q I r h
  obtain ⟨μ, ds, F, st, B, d, rs, bx, hg, q⟩ := h
  match ds, rs, hg with
  | [], _, hg => cases hg
  | _ :: _ :: _, _, hg => simp [biD] at hg
  | [x], rs, hg =>
    obtain ⟨v, t, G, rfl, r1, rfl⟩ := rs.one
    clear rs
    cases r1 <;> simp only [biD] at hg <;> first | (cases hg; done) | skip
    case tup a vs ds e r1 =>
      cases hg
      exact call_tuple_of pins s σ H _ us Q I r ⟨_, _, rfl, .inr ⟨e, q.tupSame e r1 fun a ha => List.mem_append_right _ ha⟩⟩
    case lst a vs ds e r1 =>
      cases hg
      exact call_tuple_of pins s σ H _ us Q I r ⟨_, _, rfl, .inl ⟨.of e, fun p hp => q.tup r1 (fun a ha => List.mem_append_right _ ha) hp⟩⟩
theorem bi_list : CallR X (.type "list") (RBi X.K .list) := by
  intro pins s σ H xs us Q I r h
  obtain ⟨μ, ds, F, st, B, d, rs, bx, hg, q⟩ := h
  match ds, rs, hg with
  | [], _, hg => cases hg
  | _ :: _ :: _, _, hg => simp [biD] at hg
  | [x], rs, hg =>
    obtain ⟨v, t, G, rfl, r1, rfl⟩ := rs.one
    clear rs
    cases r1 <;> simp only [biD] at hg <;> first | (cases hg; done) | skip
    case tup a vs ds e r1 =>
      cases hg
      exact call_list_of pins s σ H _ us Q I r ⟨_, _, rfl, .inr e, fun p hp => q.lst r1 (fun a ha => List.mem_append_right _ ha) hp⟩
    case lst a vs ds e r1 =>
      cases hg
      exact call_list_of pins s σ H _ us Q I r ⟨_, _, rfl, .inl (.of e), fun p hp => q.lst r1 (fun a ha => List.mem_append_right _ ha) hp⟩
theorem reps_ints {K : PySem.W.Frag} {H : Hp} {μ : List Addr} : ∀ ns : List Int, Reps K H μ (ns.map D.int) (ns.map V.int) []
  | [] => .nil
  | n :: ns => .cons (.int n) (reps_ints ns)
theorem bi_sorted : CallR X (.builtin "sorted") (RBi X.K .sorted) := by
  intro pins s σ H xs us Q I r h
  obtain ⟨μ, ds, F, st, B, d, rs, bx, hg, q⟩ := h
  match ds, rs, hg with
  | [], _, hg => cases hg
  | _ :: _ :: _, _, hg => simp [biD] at hg
  | [x], rs, hg =>
    obtain ⟨v, t, G, rfl, r1, rfl⟩ := rs.one
    clear rs
    cases r1 <;> simp only [biD] at hg <;> first | (cases hg; done) | skip
    case lst a vs ds e r1 =>
      obtain ⟨ns, h1, h2⟩ := Option.bind_eq_some_iff.mp hg
      obtain ⟨h3, rfl⟩ := guardO_some h2
      have e2 := r1.ints h1
      subst e2
      refine cr_sorted pins s σ H _ us Q I r ⟨_, _, rfl, .of e, h3, fun ns' p p1 p2 hp => ?_⟩
      have e3 : ns' = sortI ns := sorted_one (p1.trans (sortI_perm ns).symm) p2 (sortI_sorted ns)
      subst e3
      exact q.lst (reps_ints _) (fun _ h => by simp at h) hp
/-- the name of a built-in function, what it stands for; gcd is the module's -/
def Bi.nm : Bi → Str
  | .len => "len" | .int => "int" | .sum => "sum" | .all => "all" | .any => "any" | .max => "max" | .min => "min" | .max2 => "max" | .min2 => "min" | .tuple => "tuple" | .list => "list" | .abs => "abs" | .gcd => "gcd" | .sorted => "sorted"
def Bi.vl : Bi → Value
  | .len => .builtin "len" | .int => .type "int" | .sum => .builtin "sum" | .all => .builtin "all" | .any => .builtin "any" | .max => .builtin "max" | .min => .builtin "min" | .max2 => .builtin "max" | .min2 => .builtin "min"
  | .tuple => .type "tuple" | .list => .type "list" | .abs => .builtin "abs" | .gcd => .builtin "math.gcd" | .sorted => .builtin "sorted"
theorem bi_ok (hc : X.calm = true) (f : Bi) : CallR X f.vl (RBi X.K f) := by
  cases f with
  | len => exact bi_len
  | int => exact bi_int
  | sum => exact bi_sum hc
  | all => exact bi_all hc
  | any => exact bi_any hc
  | max => exact bi_max hc
  | min => exact bi_min hc
  | max2 => exact bi_max2 hc
  | min2 => exact bi_min2 hc
  | tuple => exact bi_tuple
  | list => exact bi_list
  | abs => exact bi_abs
  | gcd => exact bi_gcd
  | sorted => exact bi_sorted
end
end WT
end

section
set_option Elab.async false
set_option linter.all false
set_option maxRecDepth 100000
set_option autoImplicit false
/-! K4r: x[::-1] of a tuple. -/
namespace WT
open PySem PySem.Spec PyProof.Rows L2 HT
section
variable {prog : Program} {w : World} {A : Around} {E : Value → Shared → Prop} {s : Shared}
theorem adjust_rev (n : Int) : Builtin.Slice.sliceAdjust none none (-1) n = (n - 1, -1) := by
  unfold Builtin.Slice.sliceAdjust
  simp
theorem places_rev (n : Nat) : Builtin.Slice.slicePlaces ((n : Int) - 1) (-1) (-1) = n := by
  unfold Builtin.Slice.slicePlaces
  rw [if_neg (by decide)]
  split
  · have e : (-(-1) : Int) = 1 := by decide
    rw [e, Int.ediv_one]
    omega
  · have : n = 0 := by omega
    subst this
    rfl
theorem sliceApplied_rev {sl : Addr} {vl vu vs : Value} {n : Nat} {Q : Int × Int × Nat → Shared → Prop} (hs : s.heap.IsSliceOf sl vl vu vs) (pl : IsPart vl none) (pu : IsPart vu none) (ps : IsPart vs (some (-1))) (h : Q ((n : Int) - 1, -1, n) s) :
    wpAny (model prog w) A (Builtin.Slice.sliceApplied (.ref sl) (pure (n : Int))) Q E s := by
  obtain ⟨os, hos, hcs, hds⟩ := id hs
  cases pl
  cases pu
  cases ps with
  | int i t =>
    unfold Builtin.Slice.sliceApplied Builtin.Slice.sliceFields
    refine wpAny_bind (wpAny_bind (wpAny_field hos hds (x := .none) rfl (wpAny_bind (wpAny_field hos hds (x := .none) rfl (wpAny_bind (wpAny_field hos hds (x := .int (-1) t) rfl (wpAny_pure ?_)))))))
    refine wpAny_bind (slicePart_int ?_)
    show wpAny _ _ (if ((-1 : Int) == 0) = true then _ else _) _ _ s
    rw [if_neg (by decide)]
    refine wpAny_bind (slicePart_none (wpAny_bind (slicePart_none (wpAny_bind (wpAny_pure ?_)))))
    show wpAny _ _ (match Builtin.Slice.sliceAdjust none none (-1) (n : Int) with | (lo, hi) => pure (lo, (-1 : Int), Builtin.Slice.slicePlaces lo hi (-1))) _ _ s
    rw [adjust_rev]
    show wpAny _ _ (pure ((n : Int) - 1, (-1 : Int), Builtin.Slice.slicePlaces ((n : Int) - 1) (-1) (-1))) _ _ s
    rw [places_rev]
    exact wpAny_pure h
theorem pick_rev (xs : Array Value) : (List.range xs.size).filterMap (fun (m : Nat) => xs[(((xs.size : Int) - 1) + (m : Int) * -1).toNat]?) = xs.toList.reverse := by
  have e : (fun (m : Nat) => xs[(((xs.size : Int) - 1) + (m : Int) * -1).toNat]?) = fun (m : Nat) => xs[xs.size - 1 - m]? := by
    funext m
    have : (((xs.size : Int) - 1) + (m : Int) * -1).toNat = xs.size - 1 - m := by omega
    rw [this]
  rw [e]
  have h1 : (List.range xs.size).filterMap (fun (m : Nat) => xs[xs.size - 1 - m]?) = ((List.range xs.size).map fun k => xs.size - 1 - k).filterMap (xs[·]?) := by
    rw [List.filterMap_map]
    rfl
  rw [h1, PySem.W.krv_range, List.filterMap_reverse, PySem.W.krv_all]
theorem getItem_tuple_rev {t sl : Addr} {items : Array Value} {vl vu vs : Value} {Q : Value → Shared → Prop} (ht : IsTup s.heap t items) (hs : s.heap.IsSliceOf sl vl vu vs) (pl : IsPart vl none) (pu : IsPart vu none) (ps : IsPart vs (some (-1)))
    (h : Q (.ref s.heap.objs.size) { s with heap := s.heap.push { cls := .type "tuple", data := .seq items.toList.reverse.toArray } }) (hsz : items.size ≤ sizeLine) : wpAny (model prog w) A (getItem (.ref t) (.ref sl)) Q E s := by
  have htake : sizeOk (.seq items.toList.reverse.toArray) := by
    show items.toList.reverse.toArray.size ≤ sizeLine
    rw [List.size_toArray, List.length_reverse, Array.length_toList]
    exact hsz
  obtain ⟨os, hos, hcs, hds⟩ := id hs
  have hTs : s.TypeIs (.ref sl) "slice" := ⟨os, hos, hcs⟩
  unfold getItem
  try with_reducible refine wpAny_holding ?_
  first | refine wpAny_bind (wpAny_pure ?_) | skip
  refine wpAny_bind (wpAny_sequenceKey ht.typeIs (by decide) ?_)
  refine wpAny_bind (wpAny_callSpecial?_slot (name := Str.ofString "__getitem__") ht.typeIs PyProof.Rows.slot_tuple_getitem
    (wpAny_call_entry PyProof.Rows.slot_tuple_getitem ht.typeIs entry_tuple_getitem ?_ (args_tuple_getitem _ _)))
  show wpAny _ _ (Builtin.Tuple.tupleItemsOf (.ref t) >>= _) _ _ s
  refine wpAny_bind (tupleItemsOf_ ht ?_)
  refine wpAny_bind (wpAny_typeOf hTs ?_)
  rw [if_pos (by decide)]
  refine wpAny_bind (sliceApplied_rev hs pl pu ps ?_)
  have hno : ¬ ((((items.size : Int) - 1) == 0 && (-1 : Int) == 1 && items.size == items.size) = true) := by
    intro q
    rw [Bool.and_eq_true, Bool.and_eq_true] at q
    exact absurd (eq_of_beq q.1.2) (by decide)
  show wpAny _ _ (if (((items.size : Int) - 1) == 0 && (-1 : Int) == 1 && items.size == items.size) = true then _ else _) _ _ s
  rw [if_neg hno, pick_rev]
  first
    | exact wpAny_bind (m := Builtin.Tuple.tupleExact _) (wpAny_newObj_type (wpAny_pure ⟨_, rfl, wpAny_pure h⟩) htake)
    | exact wpAny_bind (m := Builtin.Tuple.tupleExact _) (wpAny_newObj_type (wpAny_bind (wpAny_pure (wpAny_pure ⟨_, rfl, wpAny_pure h⟩))) htake)
    | exact wpAny_bind (wpAny_bind (m := Builtin.Tuple.tupleExact _) (wpAny_newObj_type (wpAny_pure (wpAny_pure ⟨_, rfl, wpAny_pure h⟩)) htake))
    | exact wpAny_bind (wpAny_bind (m := Builtin.Tuple.tupleExact _) (wpAny_newObj_type (wpAny_pure ⟨_, rfl, wpAny_pure h⟩) htake))
end
section
variable {X : Cx}
def tRevA (K : PySem.W.Frag) (te : TE) : TE := fun σ H Q => te σ H fun x H1 => ∃ a xs, x = .ref a ∧ ((SqL K H1 a xs ∧ ∀ p, H1 p = none → Q (.ref p) (upd H1 p (.lst xs.reverse))) ∨ (SqT K H1 a xs ∧ ∀ p, H1 p = none → Q (.ref p) (upd H1 p (.tup xs.reverse))))
theorem pe_revA {e : Expr} {te : TE} {k : Nat} {p1 p2 p3 pos : Pos} (he : PE X e te) : PE X (.Subscript e (.Slice none none (some (.UnaryOp .USub (.Constant (.int 1) k p1) p2)) p3) pos) (tRevA X.K te) := by
  refine ⟨fun pins s σ H Q I h => ?_⟩
  refine Subscript_ (thn (he.run pins s σ H _ I h) fun v s1 ⟨x, H1, I1, r1, q1⟩ => ?_)
  obtain ⟨a, xs, ex, q⟩ := q1
  subst ex
  cases r1
  have hst : L2.PO X (some (.UnaryOp .USub (.Constant (.int 1) k p1) p2)) (tPart (tUn (rU fun i => .int (-i)) (tC (.int 1)))) := po_some (pe_un un_neg pe_int)
  refine wpAny_Slice (thn (po_none.run pins s1 σ H1 (fun o H2 => o = none ∧ H2 = H1) I1 ⟨rfl, rfl⟩) fun vl s2 ⟨l, H2, I2, pl, el, e2⟩ => ?_)
  subst el e2
  refine thn (po_none.run pins s2 σ H2 (fun o H3 => o = none ∧ H3 = H2) I2 ⟨rfl, rfl⟩) fun vu s3 ⟨u, H3, I3, pu, eu, e3⟩ => ?_
  subst eu e3
  refine thn (hst.run pins s3 σ H3 (fun o H4 => o = some (-1) ∧ H4 = H3) I3 ⟨1, rfl, -1, rfl, rfl, rfl⟩) fun vs s4 ⟨o, H4, I4, ps, eo, e4⟩ => ?_
  subst eo e4
  have I5 : Inv X pins σ H4 { s4 with heap := s4.heap.push { cls := .type "slice", data := .fields #[vl, vu, vs] } } := I4.kept (t' := s4.toks) fun b ob q => Heap.get?_push_of_some _ q
  show wpAny (model X.prog X.w) X.A (subscriptTail e (.Slice none none (some (.UnaryOp .USub (.Constant (.int 1) k p1) p2)) p3) (.ref a) (.ref s4.heap.objs.size)) (EP X pins σ Q) X.xe { s4 with heap := s4.heap.push { cls := .type "slice", data := .fields #[vl, vu, vs] } }
  rcases q with ⟨hx, q⟩ | ⟨hx, q⟩
  · obtain ⟨its, r, ht, hz⟩ := I5.list hx
    have hlen := r.length
    refine tail_any (ops := [.ref a, .ref s4.heap.objs.size]) ht.isList.typeIs (PySem.slot_list_getitem.lookup) ?_ (by with_unfolding_all rfl)
    refine wpAny_getItem_list_slice ht.isList (Heap.IsSliceOf.new _ vl vu vs) pl pu ps (by decide) ?_ (by rw [List.size_toArray]; omega)
    rw [PySem.W.krv_pick]
    refine ⟨.ref _, _, I5.laid (t' := s4.toks) (o := .lst xs.reverse) (fun b ob q => Heap.get?_push_of_some _ q) (Nat.le_refl _) ?_, rfl, q _ (I5.hok.fresh (Nat.le_refl _))⟩
    exact ⟨by rw [List.length_reverse]; exact hz, _, 0, r.reverse, Heap.get?_push_size _ rfl⟩
  · obtain ⟨its, r, ht, hz⟩ := I5.tuple hx
    have hlen := r.length
    refine tail_any (ops := [.ref a, .ref s4.heap.objs.size]) ht.typeIs PyProof.Rows.slot_tuple_getitem.lookup ?_ (by with_unfolding_all rfl)
    refine getItem_tuple_rev ht (Heap.IsSliceOf.new _ vl vu vs) pl pu ps ?_ (by rw [List.size_toArray]; omega)
    refine ⟨.ref _, _, I5.laid (t' := s4.toks) (o := .tup xs.reverse) (fun b ob q => Heap.get?_push_of_some _ q) (Nat.le_refl _) ?_, rfl, q _ (I5.hok.fresh (Nat.le_refl _))⟩
    exact ⟨by rw [List.length_reverse]; exact hz, _, r.reverse, IsTup.new _ _⟩
theorem rev_rep {K : PySem.W.Frag} {H : Hp} {μ : List Addr} : ∀ {ds : List D} {vs : List V} {F : List Addr}, Reps K H μ ds vs F → ∃ L, Reps K H μ ds.reverse vs.reverse L ∧ ∀ a ∈ L, a ∈ F
  | _, _, _, .nil => ⟨[], .nil, fun _ h => h⟩
  | _, _, _, .cons r s => by
    obtain ⟨L, h1, h2⟩ := rev_rep s
    obtain ⟨L2, h3, h4⟩ := h1.append (.cons r .nil)
    refine ⟨L2, by simpa using h3, fun a ha => ?_⟩
    rcases h4 a ha with h | h
    · exact List.mem_append_right _ (h2 a h)
    · exact List.mem_append_left _ (by simpa using h)
end
end WT
end

section
set_option Elab.async false
set_option linter.all false
set_option maxRecDepth 100000
set_option autoImplicit false
/-! K5: which text an expression of E is (mE), what is known of its lists (pvE), the context. -/
namespace WT
open PySem PySem.Spec PyProof.Rows L2

/-- names of a def by slot; the defs and constants that are in reach, by name; for each def how many arguments stand ahead where the others are named, whether its answer is a new list -/
structure MC where
  N : List Str
  fns : List (Str × List Str)
  cons : List Str
  kw : Nat → List (Nat × List Str × List Nat)
  rn : Nat → Bool
  ow : Nat → Bool
  gcd : Bool
def visB (sc : Scope) (x : Str) : Bool := match sc.names.lookup x with | some .local => true | some .cell => true | some .free => true | _ => false
def locB (sc : Scope) (x : Str) : Bool := match sc.names.lookup x with | some .local => true | some .cell => true | _ => false
def glB (sc : Scope) (x : Str) : Bool := match sc.names.lookup x with | some .globalImplicit => true | _ => false
def plB (x : Str) : Bool := !(x == ("__debug__" : Str)) && !(x == ("__classdict__" : Str))
def plainX : Expr → Bool
  | .Starred _ _ => false
  | .Slice _ _ _ _ => false
  | _ => true
def Ty.sname (t : Ty) : Str := Str.ofString t.nm
/-- what an expression is where it is asked as a test -/
def tOk : E → Bool
  | .ife _ _ _ => false
  | .box _ => false
  | .not a => tOk a
  | .and a b => tOk a && tOk b
  | .or a b => tOk a && tOk b
  | _ => true
mutual
def mTg (m : MC) (sc : Scope) : Tg → Expr → Bool
  | .name i, .Name x _ => decide (m.N[i]? = some x) && locB sc x
  | .tup ts, .Tuple es _ _ => mTgs m sc ts es
  | _, _ => false
def mTgs (m : MC) (sc : Scope) : Tgs → List Expr → Bool
  | .nil, [] => true
  | .cons t ts, e :: es => mTg m sc t e && mTgs m sc ts es
  | _, _ => false
end
def ownOf (N : List Str) (scope : Scope) : List (Str × Nat) := scope.names.filterMap fun (n, k) => if k == .local || k == .cell then (N.findIdx? (· == n)).map fun i => (n, i) else none
def tysM : List Ty → List Expr → Scope → Bool
  | [], [], _ => true
  | t :: ts, .Name x _ :: es, sc => x == t.sname && glB sc x && tysM ts es sc
  | _, _, _ => false
def kwsM : List Keyword → List Str → Bool
  | [], [] => true
  | k :: ks, x :: xs => decide (k.arg = some x) && kwsM ks xs
  | _, _ => false
def kwNm (kws : List Keyword) : List Str := kws.filterMap (·.arg)
def kwVals : List Keyword → List Expr
  | [] => []
  | k :: ks => k.value :: kwVals ks
def mRev (f : Expr → Bool) (x : Expr) : Bool := match x with
  | .Subscript y (.Slice none none (some (.UnaryOp .USub (.Constant (.int j) _ _) _)) _) _ => decide (j = 1) && f y
  | _ => false
def rgNm (l : Bool) : Str := if l then "list" else "tuple"
def mRg1 (l : Bool) (sc : Scope) (f : Expr → Bool) (x : Expr) : Bool := match x with
  | .Call (.Name n _) [.Call (.Name r _) [y] [] _] [] _ => n == rgNm l && glB sc n && r == ("range" : Str) && glB sc r && f y
  | _ => false
def mRg2 (l : Bool) (sc : Scope) (f h : Expr → Bool) (x : Expr) : Bool := match x with
  | .Call (.Name n _) [.Call (.Name r _) [y, z] [] _] [] _ => n == rgNm l && glB sc n && r == ("range" : Str) && glB sc r && f y && h z
  | _ => false
mutual
def mE (m : MC) : E → Scope → Expr → Bool
  | .var i, sc, .Name x _ => decide (m.N[i]? = some x) && visB sc x && plB x
  | .int i, _, .Constant (.int j) _ _ => i == j
  | .bl i, _, .Constant (.bool j) _ _ => i == j
  | .non, _, .Constant .none _ _ => true
  | .str i, _, .Constant (.str j) _ _ => i == j
  | .glob c, sc, .Name x _ => decide (m.cons[c]? = some x) && glB sc x && plB x
  | .bin op a b, sc, .BinOp x op' y _ => decide (op = op') && mE m a sc x && mE m b sc y
  | .neg a, sc, .UnaryOp .USub x _ => mE m a sc x
  | .not a, sc, .UnaryOp .Not x _ => mE m a sc x
  | .cmp op a b, sc, .Compare x [op'] [y] _ => decide (op = op') && mE m a sc x && mE m b sc y && !behindInMarks op y
  | .cmp2 op op2 a b c, sc, .Compare x [op', op2'] [y, z] _ => decide (op = op') && decide (op2 = op2') && mE m a sc x && mE m b sc y && mE m c sc z && !behindInMarks op2 z
  | .and a b, sc, .BoolOp .And (x :: y :: r) pos => mE m a sc x && (match r with
    | [] => mE m b sc y
    | _ :: _ => mE m b sc (.BoolOp .And (y :: r) pos))
  | .or a b, sc, .BoolOp .Or (x :: y :: r) pos => mE m a sc x && (match r with
    | [] => mE m b sc y
    | _ :: _ => mE m b sc (.BoolOp .Or (y :: r) pos))
  | .ife c a b, sc, .IfExp z x y _ => mE m c sc z && tOk c && mE m a sc x && mE m b sc y
  | .tup es, sc, .Tuple xs _ _ => mEs m es sc xs
  | .lst es, sc, .List xs _ => mEs m es sc xs
  | .idx a i, sc, .Subscript x y _ => mE m a sc x && mE m i sc y
  | .slice a lo hi, sc, .Subscript x (.Slice l h none _) _ => mE m a sc x && mEo m lo sc l && mEo m hi sc h
  | .rev a, sc, x => mRev (fun y => mE m a sc y) x
  | .rg1 l b, sc, x => mRg1 l sc (fun y => mE m b sc y) x
  | .rg2 l a b, sc, x => mRg2 l sc (fun y => mE m a sc y) (fun y => mE m b sc y) x
  | .isi a ts false, sc, .Call (.Name f _) [x, .Name t _] [] _ => f == ("isinstance" : Str) && glB sc f && mE m a sc x && tysM ts [.Name t ⟨0, 0, 0, 0⟩] sc
  | .isi a ts true, sc, .Call (.Name f _) [x, .Tuple es _ _] [] _ => f == ("isinstance" : Str) && glB sc f && mE m a sc x && tysM ts es sc && decide (ts.length ≤ 100)
  | .bi f es, sc, .Call (.Name x _) (e :: r) [] _ => x == f.nm && glB sc x && mEs m es sc (e :: r) && (m.gcd || !decide (f = .gcd))
  | .call f es kes ord, sc, .Call (.Name x _) xs kws _ => (match m.fns[f]? with
    | some (n, ps) => x == n && glB sc x && plB x && mEs m es sc xs && mEs m kes sc (kwVals kws) && kwsM kws (kwNm kws) && decide ((kws.isEmpty = true ∧ ord = []) ∨ (xs.length, kwNm kws, ord) ∈ m.kw f)
    | none => false)
  | .box e, sc, x => mE m e sc x && plainX x
  | .comp tg it hasIf cond elt, sc, .ListComp x [⟨t, i, ifs, n⟩] scope _ =>
      decide (n = 0) && blkC m.N sc scope (ownOf m.N scope) && ((ownOf m.N scope).all fun p => decide (p.2 ∈ tg.slots)) && (tg.slots.all fun k => decide (k ∈ (ownOf m.N scope).map (·.2))) && mTg m scope tg t && mIt m it sc i &&
        (match hasIf, ifs with
        | false, [] => true
        | true, [z] => mE m cond (relS scope sc) z && tOk cond
        | _, _ => false) && mE m elt (relS scope sc) x
  | .comp2 tg it tg1 it1 elt, sc, .ListComp x [⟨t, i, [], n⟩, ⟨t1, i1, [], n1⟩] scope _ =>
      decide (n = 0) && decide (n1 = 0) && blkC m.N sc scope (ownOf m.N scope) && ((ownOf m.N scope).all fun p => decide (p.2 ∈ tg.slots ++ tg1.slots)) && ((tg.slots ++ tg1.slots).all fun k => decide (k ∈ (ownOf m.N scope).map (·.2))) && mTg m scope tg t && mIt m it sc i && mTg m scope tg1 t1 && mIt m it1 (relS scope sc) i1 && mE m elt (relS scope sc) x
  | .dnew _, _, .Dict [] [] _ => true
  | .dgeto d k e, sc, .Call (.Attribute (.Name x p) f ap) [y, z] [] cp => f == ("get" : Str) && ap.endLine == cp.line && mE m d sc (.Name x p) && mE m k sc y && mE m e sc z
  | .midx l e, sc, .Call (.Attribute (.Name x p) f ap) [y] [] cp => f == ("index" : Str) && ap.endLine == cp.line && mE m l sc (.Name x p) && mE m e sc y
  | .dead, _, x => plainX x
  | _, _, _ => false
def mEs (m : MC) : Es → Scope → List Expr → Bool
  | .nil, _, [] => true
  | .cons e es, sc, x :: xs => mE m e sc x && mEs m es sc xs
  | _, _, _ => false
def mEo (m : MC) : Eo → Scope → Option Expr → Bool
  | .no, _, none => true
  | .yes e, sc, some x => mE m e sc x
  | _, _, _ => false
def mIt (m : MC) : It → Scope → Expr → Bool
  | .seq e, sc, x => mE m e sc x && (match x with | .Set _ _ _ => false | _ => true)
  | .range1 a, sc, .Call (.Name f _) [x] [] _ => f == ("range" : Str) && glB sc f && mE m a sc x
  | .range2 a b, sc, .Call (.Name f _) [x, y] [] _ => f == ("range" : Str) && glB sc f && mE m a sc x && mE m b sc y
  | .range3 a b c, sc, .Call (.Name f _) [x, y, z] [] _ => f == ("range" : Str) && glB sc f && mE m a sc x && mE m b sc y && mE m c sc z
  | .enum a, sc, .Call (.Name f _) [x] [] _ => f == ("enumerate" : Str) && glB sc f && mE m a sc x
  | .zip a b, sc, .Call (.Name f _) [x, y] [] _ => f == ("zip" : Str) && glB sc f && mE m a sc x && mE m b sc y
  | _, _, _ => false
end
/-- enumerate, zip want a written pair as target -/
def itTg : It → Tg → Bool
  | .enum _, .tup _ => true
  | .zip _ _, .tup _ => true
  | .enum _, _ => false
  | .zip _ _, _ => false
  | _, _ => true

/-! ### what is known of a value's lists -/
def Pv.new1 (inn : List Nat) : Pv := ⟨true, [], inn⟩
def Pv.join (p q : Pv) : Pv := ⟨p.new && q.new, p.top ++ q.top, p.inn ++ q.inn⟩
mutual
def pvE (m : MC) : E → Option Pv
  | .var i => some (if m.ow i then ⟨false, [i], []⟩ else ⟨false, [], []⟩)
  | .int _ => some (.new1 [])
  | .bl _ => some (.new1 [])
  | .non => some (.new1 [])
  | .str _ => some (.new1 [])
  | .glob _ => some (.new1 [])
  | .bin _ a b => match pvE m a, pvE m b with | some p, some q => some (.new1 (p.inn ++ q.inn)) | _, _ => none
  | .neg a => (pvE m a).map fun _ => .new1 []
  | .not a => (pvE m a).map fun _ => .new1 []
  | .cmp _ a b => match pvE m a, pvE m b with | some p, some q => some (.new1 []) | _, _ => none
  | .cmp2 _ _ a b c => match pvE m a, pvE m b, pvE m c with | some p, some q, some r => some (.new1 []) | _, _, _ => none
  | .and a b => match pvE m a, pvE m b with | some p, some q => some (p.join q) | _, _ => none
  | .or a b => match pvE m a, pvE m b with | some p, some q => some (p.join q) | _, _ => none
  | .ife c a b => match pvE m c, pvE m a, pvE m b with | some _, some p, some q => some (p.join q) | _, _, _ => none
  | .tup es => (pvEs m es).map fun l => .new1 l
  | .lst es => (pvEs m es).map fun l => .new1 l
  | .idx a i => match pvE m a, pvE m i with | some p, some _ => some ⟨false, p.inn, p.inn⟩ | _, _ => none
  | .slice a lo hi => match pvE m a, pvEo m lo, pvEo m hi with | some p, true, true => some (.new1 p.inn) | _, _, _ => none
  | .isi a _ _ => (pvE m a).map fun _ => .new1 []
  | .rev a => (pvE m a).map fun p => .new1 p.inn
  | .rg1 _ b => (pvE m b).map fun _ => .new1 []
  | .rg2 _ a b => match pvE m a, pvE m b with | some _, some _ => some (.new1 []) | _, _ => none
  | .bi _ es => (pvEs m es).map fun l => .new1 l
  | .call f es kes _ => match pvEs m es, pvEs m kes with | some l, some l' => some ⟨m.rn f, l ++ l', l ++ l'⟩ | _, _ => none
  | .box e => match pvE m e with | some p => if p.new then some (.new1 []) else none | none => none
  | .comp tg it hasIf cond elt => match pvIt m it, pvE m cond, pvE m elt with
    | some l, some _, some p => if l.isEmpty && (tg.slots.all fun i => !m.ow i) && itTg it tg then some (.new1 (p.top ++ p.inn)) else none
    | _, _, _ => none
  | .comp2 tg it tg1 it1 elt => match pvIt m it, pvIt m it1, pvE m elt with
    | some l, some l1, some p => if l.isEmpty && l1.isEmpty && (tg.slots.all fun i => !m.ow i) && (tg1.slots.all fun i => !m.ow i) && itTg it tg && itTg it1 tg1 then some (.new1 (p.top ++ p.inn)) else none
    | _, _, _ => none
  | .dnew _ => some (.new1 [])
  | .dgeto d k e => match pvE m d, pvE m k, pvE m e with | some _, some _, some _ => some (.new1 []) | _, _, _ => none
  | .midx l e => match pvE m l, pvE m e with | some _, some _ => some (.new1 []) | _, _ => none
  | .dead => some (.new1 [])
def pvEs (m : MC) : Es → Option (List Nat)
  | .nil => some []
  | .cons e es => match pvE m e, pvEs m es with | some p, some l => some (p.top ++ p.inn ++ l) | _, _ => none
def pvEo (m : MC) : Eo → Bool
  | .no => true
  | .yes e => (pvE m e).isSome
/-- .. of what is walked: its items -/
def pvIt (m : MC) : It → Option (List Nat)
  | .seq e => (pvE m e).map (·.inn)
  | .range1 a => (pvE m a).map fun _ => []
  | .range2 a b => match pvE m a, pvE m b with | some _, some _ => some [] | _, _ => none
  | .range3 a b c => match pvE m a, pvE m b, pvE m c with | some _, some _, some _ => some [] | _, _, _ => none
  | .enum a => (pvE m a).map (·.inn)
  | .zip a b => match pvE m a, pvE m b with | some p, some q => some (p.inn ++ q.inn) | _, _ => none
end

/-! ### a def's promise, the context -/
def spF (K : PySem.W.Frag) (CA : Str → Option Addr) (rn : Bool) (sem : List D → Sto → R D) (n : Nat) : Sp := fun vs H Q E => ∃ (ds : List D) (st : Sto) (μ F : List Addr) (A : Addr → Prop), ds.length = n ∧ Reps K H μ ds vs F ∧ BoxOk K H μ st ∧ μ.length = st.length ∧ μ.Nodup ∧
  (∀ a ∈ F, a ∉ μ ∧ A a) ∧ Fin (fun d st' => ∀ v H' μ' t F', Step μ H μ' H' → BoxOk K H' μ' st' → μ'.length = st'.length → μ'.Nodup → Rep K H' μ' d v t F' → (∀ a ∈ t ++ F', a ∉ μ' ∧ (H a = none ∨ A a)) → (rn = true → ∀ a ∈ t, H a = none ∧ a ∉ F') → Q v H')
    (fun x d st' => ∀ cls dd H' μ', Step μ H μ' H' → BoxOk K H' μ' st' → μ'.length = st'.length → μ'.Nodup → XR CA K H' μ' (fun a => H a = none ∨ A a) x d cls dd → E cls dd H') (sem ds st)
/-- how the arguments are bound: all in a row, or some behind by their names -/
def KBd (K : PySem.W.Frag) (fd : FuncData) (ps : List Str) (kw : List (Nat × List Str × List Nat)) : Prop :=
  ∀ (s : Shared) (us ws : List Value), K.In s.heap → (us.length = ps.length → BindsTo s fd ⟨us, []⟩ (ps.zip us)) ∧ ∀ q ∈ kw, us.length = q.1 → ws.length = q.2.1.length → BindsTo s fd ⟨us, q.2.1.zip ws⟩ (ps.zip (us ++ permL q.2.2 ws))
def freeNames : List Str := ["len", "int", "sum", "all", "any", "max", "min", "tuple", "list", "abs", "sorted", "isinstance", "bool", "str", "dict", "range", "enumerate", "zip"]
structure XOk (m : MC) (c : Cfg) (k : Nat) (sc : Scope) (X : Cx) : Prop where
  hN : X.N = m.N
  nd : m.N.Nodup
  sc : X.env.scope = sc
  ow : c.ow = m.ow
  calm : X.calm = true
  room : Room k X.A
  tk : Takes X c.W
  fns : ∀ (i : Nat) (n : Str) (ps : List Str), m.fns[i]? = some (n, ps) → ∃ fi f fd, c.g.fns[i]? = some fi ∧ fi.ps = ps ∧ X.mg n = some (.ref f) ∧ PySem.W.keepIn X.K (.ref f) = true ∧
    FnOk X.prog X.w X.K X.mg X.base (L2.CX X.prog X.w) k f fd ps (spF X.K c.CA (m.rn i) fi.sem ps.length) ∧ KBd X.K fd ps (m.kw i)
  cons : ∀ (i : Nat) (x : Str), m.cons[i]? = some x → ∃ d v u, c.g.cons[i]? = some (x, d) ∧ X.mg x = some u ∧ RelV v u ∧ ∀ H μ, Rep X.K H μ d v [] []
  free : ∀ x ∈ freeNames, X.mg x = none
  gcd : m.gcd = true → X.mg "gcd" = some (.builtin "math.gcd")

section
variable {m : MC} {c : Cfg} {k : Nat} {sc : Scope} {X : Cx}
theorem XOk.vis (x : XOk m c k sc X) {y : Str} (h : visB sc y = true) : Vis X.env.scope y := by
  rw [x.sc]
  unfold visB at h
  split at h
  · exact .inl (by assumption)
  · exact .inr (.inl (by assumption))
  · exact .inr (.inr (by assumption))
  · cases h
theorem XOk.loc (x : XOk m c k sc X) {y : Str} (h : locB sc y = true) : Loc X.env.scope y := by
  rw [x.sc]
  unfold locB at h
  split at h
  · exact .inl (by assumption)
  · exact .inr (by assumption)
  · cases h
theorem XOk.gl (x : XOk m c k sc X) {y : Str} (h : glB sc y = true) : Gl X y := by
  show X.env.scope.names.lookup y = _
  rw [x.sc]
  unfold glB at h
  split at h
  · assumption
  · cases h
theorem plB_ok {y : Str} (h : plB y = true) : (y == ("__debug__" : Str)) = false ∧ (y == ("__classdict__" : Str)) = false := by
  unfold plB at h
  rw [Bool.and_eq_true, Bool.not_eq_true', Bool.not_eq_true'] at h
  exact h
theorem star_of {x : Expr} (h : plainX x = true) (es : List Expr) (env : PySem.Env) : starEach (x :: es) env = (false, eval x env) :: starEach es env := by
  cases x <;> first | rfl | (cases h; done)
theorem ix_of {x : Expr} (h : plainX x = true) : PlainIx x := by
  intro o i
  cases x <;> first | rfl | (cases h; done)
theorem mE_plain : ∀ {e : E} {x : Expr}, mE m e sc x = true → plainX x = true := by
  intro e x h
  cases x <;> first | rfl | skip
  · cases e <;> simp [mE, mRev, mRg1, mRg2, plainX] at h
  · cases e <;> simp [mE, mRev, mRg1, mRg2, plainX] at h
theorem mEs_star : ∀ {es : Es} {xs : List Expr}, mEs m es sc xs = true → ∀ (env : PySem.Env) (pos : Pos), (backTo pos (starEach xs env)).any (·.1) = false
  | .nil, [], _, _, _ => rfl
  | .cons e es, x :: xs, h, env, pos => by
    rw [mEs, Bool.and_eq_true] at h
    rw [star_of (mE_plain h.1)]
    show (false || (backTo pos (starEach xs env)).any (·.1)) = false
    rw [mEs_star h.2 env pos] <;> rfl
  | .nil, _ :: _, h, _, _ => by simp [mEs] at h
  | .cons _ _, [], h, _, _ => by simp [mEs] at h
end
end WT
end

section
set_option Elab.async false
set_option linter.all false
set_option maxRecDepth 100000
set_option autoImplicit false
/-! K6: an expression does what it is evaluated to. -/
namespace WT
open PySem PySem.Spec PyProof.Rows L2

def Snd (m : MC) (g : GE) (k : Nat) (e : E) (p : Pv) : Prop := ∀ (c : Cfg) (sc : Scope) (X : Cx) (x : Expr), c.g = g → XOk m c k sc X → mE m e sc x = true → PE X x (TEv c X.K p (evE g e))
def SndT (m : MC) (g : GE) (k : Nat) (e : E) : Prop := ∀ (c : Cfg) (sc : Scope) (X : Cx) (x : Expr), c.g = g → XOk m c k sc X → mE m e sc x = true → tOk e = true → PT X x (TTv c X.K (evC g e))
def SndA (m : MC) (g : GE) (k : Nat) (es : Es) (l : List Nat) : Prop := ∀ (c : Cfg) (sc : Scope) (X : Cx) (xs : List Expr), c.g = g → XOk m c k sc X → mEs m es sc xs = true →
  PA X xs (TAv c X.K l (evEs g es)) ∧ ∀ kws : List Keyword, kwVals kws = xs → PK X kws (TAv c X.K l (evEs g es))

section
variable {c : Cfg} {K : PySem.W.Frag} {p q : Pv} {env : Env} {st st2 : Sto} {μ μ2 : List Addr} {G : Addr → Option Nat} {σ : St} {H H2 : Hp} {Q : VK} {d : D} {ii : List Nat}
theorem okE.out (h : okE c K (.new1 ii) env μ G σ H Q d st2) (I2 : SI K c.ow c.Ok env st2 μ2 G σ H2) (S2 : Step μ H μ2 H2) {B : Addr → Prop} (hB : ∀ a, B a → (G a = none ∨ ∃ i ∈ ii, G a = some i) ∧ a ∉ μ2 ∧ c.Ok a) : Out K H2 μ2 d B Q := by
  intro v H' t F n r tn fb
  have I3 : SI K c.ow c.Ok env st2 μ2 G σ H' := by
    rcases n with rfl | ⟨p, o, hp, rfl⟩
    · exact I2
    · exact I2.new hp
  have S3 : Step μ2 H2 μ2 H' := by
    rcases n with rfl | ⟨p, o, hp, rfl⟩
    · exact .refl
    · exact .new hp
  refine h v H' μ2 t F I3 (S2.trans S3) r ⟨fun a ha => ?_, fun a ha => (hB a (fb a ha)).1, fun a ha => ?_⟩
  · rw [if_pos (show (Pv.new1 ii).new = true from rfl)]
    exact ⟨S2.wasNone (tn a ha).1, (tn a ha).2⟩
  · rcases List.mem_append.mp ha with ha | ha
    · exact ⟨fun hm => (I2.gmu a hm).2 (tn a ha).1, I2.okn a (tn a ha).1⟩
    · exact (hB a (fb a ha)).2
theorem PO.nil : PO p G H μ c.Ok [] [] := ⟨fun _ h => by simp at h, fun _ h => by simp at h, fun _ h => by simp at h⟩
theorem okE.flat (h : okE c K p env μ G σ H Q d st2) (I2 : SI K c.ow c.Ok env st2 μ2 G σ H2) (S2 : Step μ H μ2 H2) {v : V} (r : Rep K H2 μ2 d v [] []) : Q v H2 := h v H2 μ2 [] [] I2 S2 r .nil
theorem Held.innr {G' : Addr → Option Nat} {v : V} {t F : List Addr} {H0 : Hp} (h : Held K c G p H0 d v t F μ H) : ∀ a ∈ F, (G a = none ∨ ∃ i ∈ p.inn, G a = some i) ∧ a ∉ μ ∧ c.Ok a := fun a ha => ⟨h.po.inn a ha, h.po.out a (List.mem_append_right _ ha)⟩
/-- the first of two: hand on its value, held -/
theorem TEv.fst {s : Env → Sto → R D} {f : D → Sto → R D} {R' : VK} (I : SI K c.ow c.Ok env st μ G σ H) (h : Fin (okE c K q env μ G σ H Q) (exE c K env μ G σ H) ((s env st).bind f))
    (k : ∀ x st1 v H1 μ1 t F, SI K c.ow c.Ok env st1 μ1 G σ H1 → Step μ H μ1 H1 → Held K c G p H x v t F μ1 H1 → Fin (okE c K q env μ G σ H Q) (exE c K env μ G σ H) (f x st1) → R' v H1) : TEv c K p s σ H R' := by
  rw [Fin.bind] at h
  exact ⟨env, st, μ, G, I, h.mono (fun x st1 _ hx v H1 μ1 t F I1 S1 r po => k x st1 v H1 μ1 t F I1 S1 ⟨r, po⟩ hx) fun _ _ _ hx => hx⟩
/-- a further one, from a later state -/
theorem TEv.nxt {s : Env → Sto → R D} {f : D → Sto → R D} {R' : VK} {μ1 : List Addr} {H1 : Hp} {st1 : Sto} (S1 : Step μ H μ1 H1) (I : SI K c.ow c.Ok env st1 μ1 G σ H1) (h : Fin (okE c K q env μ G σ H Q) (exE c K env μ G σ H) ((s env st1).bind f))
    (k : ∀ x st2 v H2 μ2 t F, SI K c.ow c.Ok env st2 μ2 G σ H2 → Step μ1 H1 μ2 H2 → Held K c G p H x v t F μ2 H2 → Fin (okE c K q env μ G σ H Q) (exE c K env μ G σ H) (f x st2) → R' v H2) : TEv c K p s σ H1 R' := by
  rw [Fin.bind] at h
  exact ⟨env, st1, μ1, G, I, h.mono (fun x st1 _ hx v H1 μ1 t F I1 S2 r po => k x st1 v H1 μ1 t F I1 S2 ⟨r, po.back S1⟩ hx) fun _ _ _ hx => hx.step S1⟩
/-- the last one, whose result is the whole's -/
theorem TEv.lst {s : Env → Sto → R D} {μ1 : List Addr} {H1 : Hp} {st1 : Sto} (S1 : Step μ H μ1 H1) (I : SI K c.ow c.Ok env st1 μ1 G σ H1) (h : Fin (okE c K q env μ G σ H Q) (exE c K env μ G σ H) (s env st1)) : TEv c K q s σ H1 Q :=
  ⟨env, st1, μ1, G, I, h.mono (fun x st2 _ hx v H2 μ2 t F I2 S2 r po => hx v H2 μ2 t F I2 (S1.trans S2) r (po.back S1)) fun _ _ _ hx => hx.step S1⟩
/-- a weaker knowledge -/
theorem PO.weak {t F : List Addr} (h : PO p G H μ c.Ok t F) (gd : ∀ a, G a ≠ none → H a ≠ none) (h1 : q.new = true → p.new = true) (h2 : ∀ i ∈ p.top, i ∈ q.top) (h3 : ∀ i ∈ p.inn, i ∈ q.inn) : PO q G H μ c.Ok t F := by
  refine ⟨fun a ha => ?_, fun a ha => (h.inn a ha).imp id fun ⟨i, hi, e⟩ => ⟨i, h3 i hi, e⟩, h.out⟩
  have z := h.top a ha
  by_cases hq : q.new = true
  · rw [if_pos hq]
    rw [if_pos (h1 hq)] at z
    exact z
  · rw [if_neg hq]
    split at z
    · refine .inl ?_
      cases e : G a with
      | none => rfl
      | some i => exact absurd z.1 (gd a (by rw [e]; simp))
    · exact z.imp id fun ⟨i, hi, e⟩ => ⟨i, h2 i hi, e⟩
theorem TEv.weak {s : Env → Sto → R D} (h1 : q.new = true → p.new = true) (h2 : ∀ i ∈ p.top, i ∈ q.top) (h3 : ∀ i ∈ p.inn, i ∈ q.inn) (h : TEv c K q s σ H Q) : TEv c K p s σ H Q := by
  obtain ⟨env, st, μ, G, I, h⟩ := h
  exact ⟨env, st, μ, G, I, h.mono (fun x st1 _ hx v H1 μ1 t F I1 S1 r po => hx v H1 μ1 t F I1 S1 r (po.weak I.gdom h1 h2 h3)) fun _ _ _ hx => hx⟩
end

section
variable {m : MC} {g : GE} {k : Nat} {a b e : E} {p q r : Pv}
theorem snd_var {i : Nat} : Snd m g k (.var i) (if m.ow i then ⟨false, [i], []⟩ else ⟨false, [], []⟩) := by
  intro c sc X x hg ok h
  cases x with
  | Name y pos =>
    simp only [mE, Bool.and_eq_true, decide_eq_true_eq] at h
    obtain ⟨⟨h1, h2⟩, h3⟩ := h
    obtain ⟨d1, d2⟩ := plB_ok h3
    refine (pe_var (by rw [ok.hN]; exact h1) (ok.vis h2) d1 d2).mono fun σ H Q hq => ?_
    obtain ⟨env, st, μ, G, I, hq⟩ := hq
    obtain ⟨d, e1, hq⟩ := Fin.ofO hq
    obtain ⟨v, t, F, e2, r, g1, g2, g3⟩ := I.slot i d e1
    rw [ok.ow] at g1
    refine ⟨v, e2, hq v H μ t F I .refl r ⟨fun a ha => ?_, fun a ha => .inl (g2 a ha), g3⟩⟩
    have z := g1 a ha
    cases ho : m.ow i with
    | true =>
      rw [ho] at z
      simp only [ite_true, Bool.false_eq_true, ite_false]
      exact .inr ⟨i, by simp, by simpa using z⟩
    | false =>
      rw [ho] at z
      simp only [Bool.false_eq_true, ite_false] at z ⊢
      exact .inl z
  | _ => simp [mE] at h
theorem snd_int {i : Int} : Snd m g k (.int i) (.new1 []) := by
  intro c sc X x hg ok h
  cases x with
  | Constant y j pos =>
    cases y with
    | int y =>
      simp only [mE, beq_iff_eq] at h
      subst h
      exact pe_int.mono fun σ H Q ⟨env, st, μ, G, I, hq⟩ => okE.flat (p := .new1 []) hq I .refl (.int _)
    | _ => simp [mE] at h
  | _ => simp [mE] at h
theorem snd_bl {i : Bool} : Snd m g k (.bl i) (.new1 []) := by
  intro c sc X x hg ok h
  cases x with
  | Constant y j pos =>
    cases y with
    | bool y =>
      simp only [mE, beq_iff_eq] at h
      subst h
      exact pe_bl.mono fun σ H Q ⟨env, st, μ, G, I, hq⟩ => okE.flat (p := .new1 []) hq I .refl (.bl _)
    | _ => simp [mE] at h
  | _ => simp [mE] at h
theorem snd_non : Snd m g k .non (.new1 []) := by
  intro c sc X x hg ok h
  cases x with
  | Constant y j pos =>
    cases y with
    | none => exact pe_non.mono fun σ H Q ⟨env, st, μ, G, I, hq⟩ => okE.flat (p := .new1 []) hq I .refl .non
    | _ => simp [mE] at h
  | _ => simp [mE] at h
theorem snd_str {i : Str} : Snd m g k (.str i) (.new1 []) := by
  intro c sc X x hg ok h
  cases x with
  | Constant y j pos =>
    cases y with
    | str y =>
      simp only [mE, beq_iff_eq] at h
      subst h
      exact pe_str.mono fun σ H Q ⟨env, st, μ, G, I, hq⟩ => okE.flat (p := .new1 []) hq I .refl (.str _)
    | _ => simp [mE] at h
  | _ => simp [mE] at h
theorem snd_glob {i : Nat} : Snd m g k (.glob i) (.new1 []) := by
  intro c sc X x hg ok h
  cases x with
  | Name y pos =>
    simp only [mE, Bool.and_eq_true, decide_eq_true_eq] at h
    obtain ⟨⟨h1, h2⟩, h3⟩ := h
    obtain ⟨d, v, u, e1, e2, r, rp⟩ := ok.cons i y h1
    refine (pe_glob (ok.gl h2) e2 r (plB_ok h3).1).mono fun σ H Q ⟨env, st, μ, G, I, hq⟩ => ?_
    subst hg
    rw [evE, e1] at hq
    exact okE.flat (p := .new1 []) hq I .refl (rp H μ)
  | _ => simp [mE] at h
theorem snd_bin {op : Operator} (ha : Snd m g k a p) (hb : Snd m g k b q) : Snd m g k (.bin op a b) (.new1 (p.inn ++ q.inn)) := by
  intro c sc X x hg ok h
  cases x with
  | BinOp x op' y pos =>
    simp only [mE, Bool.and_eq_true, decide_eq_true_eq] at h
    obtain ⟨⟨rfl, h1⟩, h2⟩ := h
    refine (pe_op (op_bin_v op) (ha c sc X x hg ok h1) (hb c sc X y hg ok h2)).mono fun σ H Q ⟨env, st, μ, G, I, hq⟩ => ?_
    rw [evE] at hq
    refine TEv.fst I hq fun x1 st1 v1 H1 μ1 t1 F1 I1 S1 r1 hq => ?_
    refine TEv.nxt S1 I1 hq fun x2 st2 v2 H2 μ2 t2 F2 I2 S2 r2 hq => ?_
    obtain ⟨z, e1, hq⟩ := Fin.ofO hq
    have r1 := r1.step S2
    exact ⟨_, _, _, _, _, _, _, _, r1.rep, r2.rep, e1, hq.out I2 (S1.trans S2) fun a ha => by
      rcases ha with ha | ha
      · obtain ⟨z1, z2⟩ := r1.innr (G' := G) a ha
        exact ⟨z1.imp id fun ⟨i, hi, e⟩ => ⟨i, List.mem_append_left _ hi, e⟩, z2⟩
      · obtain ⟨z1, z2⟩ := r2.innr (G' := G) a ha
        exact ⟨z1.imp id fun ⟨i, hi, e⟩ => ⟨i, List.mem_append_right _ hi, e⟩, z2⟩⟩
  | _ => simp [mE] at h
end
end WT
end

section
set_option Elab.async false
set_option linter.all false
set_option maxRecDepth 100000
set_option autoImplicit false
/-! K7: further expressions; tests; calls. -/
namespace WT
open PySem PySem.Spec PyProof.Rows L2

/-! ### a call with positional and named arguments -/
theorem kws_all {x : Str} : ∀ {kws : List Keyword} {xs : List Str} (pos : Pos) (env : PySem.Env), kwsM kws xs = true →
    (backToKw pos (keywordEach kws env)).all (·.1.isSome) = true ∧ (backToKw pos (keywordEach kws env)).any (·.1.isNone) = false ∧ (backToKw pos (keywordEach kws env)).filterMap (·.1) = xs
  | [], [], _, _, _ => ⟨rfl, rfl, rfl⟩
  | [], _ :: _, _, _, h => by simp [kwsM] at h
  | _ :: _, [], _, _, h => by simp [kwsM] at h
  | ⟨n, v, p⟩ :: ks, x :: xs, pos, env, h => by
    rw [kwsM, Bool.and_eq_true, decide_eq_true_eq] at h
    obtain ⟨h1, h2⟩ := h
    obtain ⟨e1, e2, e3⟩ := kws_all (x := x) pos env h2
    simp only at h1
    subst h1
    refine ⟨?_, ?_, ?_⟩
    · show (true && (backToKw pos (keywordEach ks env)).all (·.1.isSome)) = true
      rw [e1] <;> rfl
    · show (false || (backToKw pos (keywordEach ks env)).any (·.1.isNone)) = false
      rw [e2] <;> rfl
    · show x :: (backToKw pos (keywordEach ks env)).filterMap (·.1) = x :: xs
      rw [e3]
theorem Vals.perm {vs : List V} {us : List Value} (r : L2.Vals vs us) : ∀ ord : List Nat, L2.Vals (permL ord vs) (permL ord us)
  | [] => .nil
  | i :: ord => by
    have ih := Vals.perm r ord
    unfold permL at ih ⊢
    rw [List.filterMap_cons, List.filterMap_cons]
    have hl := r.length
    cases e : vs[i]? with
    | none =>
      have : us[i]? = none := List.getElem?_eq_none (by rw [← hl]; exact List.getElem?_eq_none_iff.mp e)
      rw [this]
      exact ih
    | some v =>
      obtain ⟨u, e2, rv⟩ := r.get e
      rw [e2]
      exact .cons rv ih
theorem Reps.perm {K : PySem.W.Frag} {H : Hp} {μ : List Addr} {ds : List D} {vs : List V} {F : List Addr} (r : Reps K H μ ds vs F) : ∀ ord : List Nat, ∃ L, Reps K H μ (permL ord ds) (permL ord vs) L ∧ ∀ a ∈ L, a ∈ F
  | [] => ⟨[], .nil, fun _ h => by simp at h⟩
  | i :: ord => by
    obtain ⟨L, r1, h1⟩ := Reps.perm r ord
    unfold permL at r1 ⊢
    rw [List.filterMap_cons, List.filterMap_cons]
    cases e : ds[i]? with
    | none =>
      have : vs[i]? = none := List.getElem?_eq_none (by rw [← r.length]; exact List.getElem?_eq_none_iff.mp e)
      rw [this]
      exact ⟨L, r1, h1⟩
    | some d =>
      obtain ⟨v, t, G, e2, rd, hs⟩ := r.get e
      rw [e2]
      refine ⟨_, .cons rd r1, fun a ha => ?_⟩
      rcases List.mem_append.mp ha with ha | ha
      · exact hs a ha
      · exact h1 a ha
theorem call_bound {X : Cx} {CX : CXT} {k n : Nat} {f : Addr} {fd : FuncData} {ps ks : List Str} {ord : List Nat} {kw : List (Nat × List Str × List Nat)} {sp : Sp} {E : St → XK} {σ : St} {pins : List (Addr × Obj)} {Q : VK} {us ws : List Value} {vs zs : List V} {s2 : Shared} {H2 : Hp}
    (F : FnOk X.prog X.w X.K X.mg X.base CX k f fd ps sp) (hr : Room k X.A) (hb : KBd X.K fd ps kw) (hx : ∀ σ, PassesAt CX X σ (E σ)) (I2 : L2.Inv X pins σ H2 s2) (r1 : L2.Vals vs us) (r2 : L2.Vals zs ws) (l1 : vs.length = n) (l0 : zs.length = ks.length) (l2 : vs.length + (permL ord zs).length = ps.length) (l3 : (ks = [] ∧ ord = []) ∨ (n, ks, ord) ∈ kw) (hs : sp (vs ++ permL ord zs) H2 Q (E σ)) :
    wpAny (model X.prog X.w) X.A (call (.ref f) us (ks.zip ws)) (EP X pins σ Q) X.xe s2 := by
  have z1 : us.length = n := by rw [← r1.length]; exact l1
  have z3 : ws.length = ks.length := by rw [← r2.length]; exact l0
  have hbi : BindsTo s2 fd ⟨us, ks.zip ws⟩ (ps.zip (us ++ permL ord ws)) := by
    rcases l3 with ⟨rfl, rfl⟩ | l3
    · have e : permL ([] : List Nat) ws = [] := rfl
      have e2 : permL ([] : List Nat) zs = [] := rfl
      rw [e, List.append_nil]
      rw [e2, List.length_nil, Nat.add_zero] at l2
      exact (hb s2 us ws I2.kIn).1 (by rw [← r1.length]; exact l2)
    · exact (hb s2 us ws I2.kIn).2 _ l3 z1 z3
  refine wpAny_call (codeAny_mono (F.run X.A X.stack s2 H2 ⟨us, ks.zip ws⟩ (us ++ permL ord ws) (vs ++ permL ord zs) Q (E σ) hr I2.env0 hbi (r1.append (Vals.perm r2 ord)) hs) fun r s' hq => ?_)
  cases r with
  | error e => exact hx σ pins H2 s2 e s' I2 hq
  | ok fl =>
    cases fl with
    | ret u => exact I2.after hq
    | next => exact False.elim hq
    | brk => exact False.elim hq
    | cont => exact False.elim hq
section
variable {X : Cx} {CX : CXT} {k : Nat} {f : Addr} {fd : FuncData} {ps ks : List Str} {ord : List Nat} {kw : List (Nat × List Str × List Nat)} {sp : Sp} {E : St → XK} {x : Str} {p pos : Pos} {e : Expr} {es : List Expr} {kws : List Keyword} {t tk : TA}
theorem pe_callA (F : FnOk X.prog X.w X.K X.mg X.base CX k f fd ps sp) (hr : Room k X.A) (hg : Gl X x) (hm : X.mg x = some (.ref f)) (hk : PySem.W.keepIn X.K (.ref f) = true) (hb : KBd X.K fd ps kw) (hx : ∀ σ, PassesAt CX X σ (E σ))
    (ha : PA X (e :: es) t) (hkw : PK X kws tk) (hst : ∀ pos, (backTo pos (starEach (e :: es) X.env)).any (·.1) = false) (h1 : starEach (e :: es) X.env = (false, eval e X.env) :: starEach es X.env)
    (hkn : kwsM kws ks = true) (hdb : (x == ("__debug__" : Str)) = false) :
    PE X (.Call (.Name x p) (e :: es) kws pos) (fun σ H Q => t σ H fun vs H1 => tk σ H1 fun zs H2 => vs.length = (e :: es).length ∧ zs.length = ks.length ∧ vs.length + (permL ord zs).length = ps.length ∧ ((ks = [] ∧ ord = []) ∨ ((e :: es).length, ks, ord) ∈ kw) ∧ sp (vs ++ permL ord zs) H2 Q (E σ)) := by
  refine ⟨fun pins s σ H Q I h => ?_⟩
  obtain ⟨e1, e2, e3⟩ := kws_all (x := x) pos X.env hkn
  refine wpAny_Call_Name_kw (ld_glob I hg hm ?_ hdb)
  refine PySem.W.callWith_KW (h₀ := X.base) I.ok.mod.kin hk e1 (thn (ha.run pos pins s σ H _ I h) fun us s1 ⟨vs, H1, I1, r1, q⟩ => ?_) (by rw [hst pos, e2] <;> rfl) h1
  refine thn (hkw.run pos pins s1 σ H1 _ I1 q) fun ws s2 ⟨zs, H2, I2, rz, l1, l0, l2, l3, q2⟩ => ⟨I2.kIn, ?_⟩
  rw [e3]
  exact call_bound F hr hb hx I2 r1 rz l1 l0 l2 l3 q2
theorem pe_callA0 (F : FnOk X.prog X.w X.K X.mg X.base CX k f fd ps sp) (hr : Room k X.A) (hg : Gl X x) (hm : X.mg x = some (.ref f)) (hk : PySem.W.keepIn X.K (.ref f) = true) (hb : KBd X.K fd ps kw) (hx : ∀ σ, PassesAt CX X σ (E σ))
    (hkw : PK X kws tk) (hkn : kwsM kws ks = true) (hdb : (x == ("__debug__" : Str)) = false) :
    PE X (.Call (.Name x p) [] kws pos) (fun σ H Q => tk σ H fun zs H2 => zs.length = ks.length ∧ (permL ord zs).length = ps.length ∧ ((ks = [] ∧ ord = []) ∨ (0, ks, ord) ∈ kw) ∧ sp (permL ord zs) H2 Q (E σ)) := by
  refine ⟨fun pins s σ H Q I h => ?_⟩
  obtain ⟨e1, e2, e3⟩ := kws_all (x := x) pos X.env hkn
  refine wpAny_Call_Name_kw (ld_glob I hg hm ?_ hdb)
  refine PySem.W.callWith_KW0 (h₀ := X.base) I.ok.mod.kin hk e1 ?_ (by rw [e2] <;> rfl)
  refine thn (hkw.run pos pins s σ H _ I h) fun ws s2 ⟨zs, H2, I2, rz, l0, l2, l3, q2⟩ => ⟨I2.kIn, ?_⟩
  rw [e3]
  exact call_bound (n := 0) (vs := []) (us := []) F hr hb hx I2 .nil rz rfl l0 (by simpa using l2) l3 (by simpa using q2)
end

section
variable {m : MC} {g : GE} {k : Nat} {a b d e : E} {es kes : Es} {p q r : Pv} {l l' : List Nat}
theorem snd_neg (ha : Snd m g k a p) : Snd m g k (.neg a) (.new1 []) := by
  intro c sc X x hg ok h
  cases x with
  | UnaryOp op x pos =>
    cases op with
    | USub =>
      simp only [mE] at h
      refine (pe_un un_neg (ha c sc X x hg ok h)).mono fun σ H Q ⟨env, st, μ, G, I, hq⟩ => ?_
      rw [evE] at hq
      refine TEv.fst I hq fun x1 st1 v1 H1 μ1 t1 F1 I1 S1 r1 hq => ?_
      obtain ⟨r1, _⟩ := r1
      cases r1 <;> first | exact hq.elim | skip
      exact ⟨_, rfl, okE.flat (p := .new1 []) hq I1 S1 (.int _)⟩
    | _ => simp [mE] at h
  | _ => simp [mE] at h
theorem snd_not (ha : Snd m g k a p) : Snd m g k (.not a) (.new1 []) := by
  intro c sc X x hg ok h
  cases x with
  | UnaryOp op x pos =>
    cases op with
    | Not =>
      simp only [mE] at h
      refine (pe_notT (ha c sc X x hg ok h)).mono fun σ H Q ⟨env, st, μ, G, I, hq⟩ => ?_
      rw [evE] at hq
      refine TEv.fst I hq fun x1 st1 v1 H1 μ1 t1 F1 I1 S1 r1 hq => ?_
      obtain ⟨z, e1, hq⟩ := Fin.ofO hq
      obtain ⟨b, e2, rfl⟩ := Option.map_eq_some_iff.mp e1
      exact ⟨b, r1.rep.tru e2, okE.flat (p := .new1 []) hq I1 S1 (.bl _)⟩
    | _ => simp [mE] at h
  | _ => simp [mE] at h
theorem snd_cmp {op : CmpOp} (ha : Snd m g k a p) (hb : Snd m g k b q) : Snd m g k (.cmp op a b) (.new1 []) := by
  intro c sc X x hg ok h
  cases x with
  | Compare x ops ys pos =>
    match ops, ys, h with
    | [op'], [y], h =>
      simp only [mE, Bool.and_eq_true, decide_eq_true_eq, Bool.not_eq_true'] at h
      obtain ⟨⟨⟨rfl, h1⟩, h2⟩, h3⟩ := h
      refine (pe_cmpR (op_cmp_v ok.room.units op) (ha c sc X x hg ok h1) (hb c sc X y hg ok h2) h3).mono fun σ H Q ⟨env, st, μ, G, I, hq⟩ => ?_
      rw [evE] at hq
      refine TEv.fst I hq fun x1 st1 v1 H1 μ1 t1 F1 I1 S1 r1 hq => ?_
      refine TEv.nxt S1 I1 hq fun x2 st2 v2 H2 μ2 t2 F2 I2 S2 r2 hq => ?_
      obtain ⟨z, e1, hq⟩ := Fin.ofO hq
      obtain ⟨b, e2, rfl⟩ := Option.map_eq_some_iff.mp e1
      exact ⟨_, _, _, _, _, _, _, _, (r1.step S2).rep, r2.rep, e2, okE.flat (p := .new1 []) hq I2 (S1.trans S2) (.bl _)⟩
    | [], _, h => simp [mE] at h
    | _ :: _ :: _, _, h => simp [mE] at h
    | [_], [], h => simp [mE] at h
    | [_], _ :: _ :: _, h => simp [mE] at h
  | _ => simp [mE] at h
theorem cmp2_shape {x : Expr} {op op2 : CmpOp} {sc : Scope} (h : mE m (.cmp2 op op2 a b d) sc x = true) : ∃ y z w pos, x = .Compare y [op, op2] [z, w] pos ∧ mE m a sc y = true ∧ mE m b sc z = true ∧ mE m d sc w = true ∧ behindInMarks op2 w = false := by
  cases x with
  | Compare x ops ys pos =>
    match ops, ys, h with
    | [o1, o2], [y, z], h =>
      simp only [mE, Bool.and_eq_true, decide_eq_true_eq, Bool.not_eq_true'] at h
      obtain ⟨⟨⟨⟨⟨rfl, rfl⟩, h1⟩, h2⟩, h3⟩, h4⟩ := h
      exact ⟨_, _, _, _, rfl, h1, h2, h3, h4⟩
    | [], _, h => simp [mE] at h
    | [_], _, h => simp [mE] at h
    | _ :: _ :: _ :: _, _, h => simp [mE] at h
    | [_, _], [], h => simp [mE] at h
    | [_, _], [_], h => simp [mE] at h
    | [_, _], _ :: _ :: _ :: _, h => simp [mE] at h
  | _ => simp [mE] at h
theorem snd_cmp2 {op op2 : CmpOp} (ha : Snd m g k a p) (hb : Snd m g k b q) (hd : Snd m g k d r) : Snd m g k (.cmp2 op op2 a b d) (.new1 []) := by
  intro c sc X x hg ok h
  obtain ⟨y, z, w, pos, rfl, h1, h2, h3, h4⟩ := cmp2_shape h
  refine (pe_chain (op_cmp_v ok.room.units op) (op_cmp_v ok.room.units op2) (ha c sc X y hg ok h1) (hb c sc X z hg ok h2) (hd c sc X w hg ok h3) (show behindInMarks op2 w = false from h4)).mono fun σ H Q ⟨env, st, μ, G, I, hq⟩ => ?_
  rw [evE] at hq
  refine TEv.fst I hq fun x1 st1 v1 H1 μ1 t1 F1 I1 S1 r1 hq => ?_
  refine TEv.nxt S1 I1 hq fun x2 st2 v2 H2 μ2 t2 F2 I2 S2 r2 hq => ?_
  cases e1 : cmpD op x1 x2 with
  | none => rw [e1] at hq; exact hq.elim
  | some b =>
    rw [e1] at hq
    refine ⟨_, _, _, _, _, _, _, _, (r1.step S2).rep, r2.rep, e1, b, rfl, ?_⟩
    cases b with
    | false => exact okE.flat (p := .new1 []) hq I2 (S1.trans S2) (.bl _)
    | true =>
      simp only [ite_true]
      refine TEv.nxt (S1.trans S2) I2 hq fun x3 st3 v3 H3 μ3 t3 F3 I3 S3 r3 hq => ?_
      obtain ⟨z, e2, hq⟩ := Fin.ofO hq
      obtain ⟨b, e3, rfl⟩ := Option.map_eq_some_iff.mp e2
      exact ⟨_, _, _, _, _, _, _, _, (r2.step S3).rep, r3.rep, e3, okE.flat (p := .new1 []) hq I3 ((S1.trans S2).trans S3) (.bl _)⟩
theorem bool_shape {x : Expr} {sc : Scope} (h : mE m (.and a b) sc x = true) : ∃ y z r pos, x = .BoolOp .And (y :: z :: r) pos ∧ mE m a sc y = true ∧ ((r = [] ∧ mE m b sc z = true) ∨ (r ≠ [] ∧ mE m b sc (.BoolOp .And (z :: r) pos) = true)) := by
  cases x with
  | BoolOp op xs pos =>
    cases op with
    | And =>
      match xs, h with
      | [], h => simp [mE] at h
      | [_], h => simp [mE] at h
      | y :: z :: r, h =>
        refine ⟨y, z, r, pos, rfl, ?_⟩
        cases r with
        | nil =>
          simp only [mE, Bool.and_eq_true] at h
          exact ⟨h.1, .inl ⟨rfl, h.2⟩⟩
        | cons _ _ =>
          simp only [mE, Bool.and_eq_true] at h
          exact ⟨h.1, .inr ⟨by simp, h.2⟩⟩
    | Or => simp [mE] at h
  | _ => simp [mE] at h
theorem bool_shapeO {x : Expr} {sc : Scope} (h : mE m (.or a b) sc x = true) : ∃ y z r pos, x = .BoolOp .Or (y :: z :: r) pos ∧ mE m a sc y = true ∧ ((r = [] ∧ mE m b sc z = true) ∨ (r ≠ [] ∧ mE m b sc (.BoolOp .Or (z :: r) pos) = true)) := by
  cases x with
  | BoolOp op xs pos =>
    cases op with
    | Or =>
      match xs, h with
      | [], h => simp [mE] at h
      | [_], h => simp [mE] at h
      | y :: z :: r, h =>
        refine ⟨y, z, r, pos, rfl, ?_⟩
        cases r with
        | nil =>
          simp only [mE, Bool.and_eq_true] at h
          exact ⟨h.1, .inl ⟨rfl, h.2⟩⟩
        | cons _ _ =>
          simp only [mE, Bool.and_eq_true] at h
          exact ⟨h.1, .inr ⟨by simp, h.2⟩⟩
    | And => simp [mE] at h
  | _ => simp [mE] at h
theorem join_l {p q : Pv} : (p.join q).new = true → p.new = true := fun h => by
  rw [Pv.join, Bool.and_eq_true] at h
  exact h.1
theorem join_r {p q : Pv} : (p.join q).new = true → q.new = true := fun h => by
  rw [Pv.join, Bool.and_eq_true] at h
  exact h.2
theorem snd_and (ha : Snd m g k a p) (hb : Snd m g k b q) : Snd m g k (.and a b) (p.join q) := by
  intro c sc X x hg ok h
  obtain ⟨y, z, r, pos, rfl, h1, h2⟩ := bool_shape h
  have hB : PE X (.BoolOp .And (z :: r) pos) (TEv c X.K q (evE g b)) := by
    rcases h2 with ⟨rfl, h2⟩ | ⟨_, h2⟩
    · exact pe_one (hb c sc X z hg ok h2)
    · exact hb c sc X _ hg ok h2
  refine (pe_andT (ha c sc X y hg ok h1) hB).mono fun σ H Q ⟨env, st, μ, G, I, hq⟩ => ?_
  rw [evE] at hq
  refine TEv.fst I hq fun x1 st1 v1 H1 μ1 t1 F1 I1 S1 r1 hq => ?_
  cases e1 : truD st1 x1 with
  | none => rw [e1] at hq; exact hq.elim
  | some b =>
    rw [e1] at hq
    refine ⟨b, r1.rep.tru e1, ?_⟩
    cases b with
    | false =>
      simp only [Bool.false_eq_true, if_false]
      exact hq v1 H1 μ1 t1 F1 I1 S1 r1.rep (r1.po.weak I.gdom join_l (fun _ h => List.mem_append_left _ h) fun _ h => List.mem_append_left _ h)
    | true =>
      simp only [if_true]
      exact (TEv.lst S1 I1 hq).weak join_r (fun _ h => List.mem_append_right _ h) fun _ h => List.mem_append_right _ h
theorem snd_or (ha : Snd m g k a p) (hb : Snd m g k b q) : Snd m g k (.or a b) (p.join q) := by
  intro c sc X x hg ok h
  obtain ⟨y, z, r, pos, rfl, h1, h2⟩ := bool_shapeO h
  have hB : PE X (.BoolOp .Or (z :: r) pos) (TEv c X.K q (evE g b)) := by
    rcases h2 with ⟨rfl, h2⟩ | ⟨_, h2⟩
    · exact pe_one (hb c sc X z hg ok h2)
    · exact hb c sc X _ hg ok h2
  refine (pe_orT (ha c sc X y hg ok h1) hB).mono fun σ H Q ⟨env, st, μ, G, I, hq⟩ => ?_
  rw [evE] at hq
  refine TEv.fst I hq fun x1 st1 v1 H1 μ1 t1 F1 I1 S1 r1 hq => ?_
  cases e1 : truD st1 x1 with
  | none => rw [e1] at hq; exact hq.elim
  | some b =>
    rw [e1] at hq
    refine ⟨b, r1.rep.tru e1, ?_⟩
    cases b with
    | true =>
      simp only [if_true]
      exact hq v1 H1 μ1 t1 F1 I1 S1 r1.rep (r1.po.weak I.gdom join_l (fun _ h => List.mem_append_left _ h) fun _ h => List.mem_append_left _ h)
    | false =>
      simp only [Bool.false_eq_true, if_false]
      exact (TEv.lst S1 I1 hq).weak join_r (fun _ h => List.mem_append_right _ h) fun _ h => List.mem_append_right _ h
theorem TTv.fst {c : Cfg} {K : PySem.W.Frag} {pr : Pv} {s : PySem.Env → Unit} {e : E} {f : D → Sto → R D} {env : Env} {st : Sto} {μ : List Addr} {G : Addr → Option Nat} {σ : St} {H : Hp} {Q : VK} {R' : Bool → Hp → Prop} (I : SI K c.ow c.Ok env st μ G σ H)
    (h : Fin (okE c K pr env μ G σ H Q) (exE c K env μ G σ H) ((evE g e env st).bind f))
    (k : ∀ x st1 b H1 μ1, truD st1 x = some b → SI K c.ow c.Ok env st1 μ1 G σ H1 → Step μ H μ1 H1 → Fin (okE c K pr env μ G σ H Q) (exE c K env μ G σ H) (f x st1) → R' b H1) (nb : ∀ x st1, truD st1 x = none → f x st1 = .bad) : TTv c K (evC g e) σ H R' := by
  rw [Fin.bind] at h
  refine ⟨env, st, μ, G, I, ?_⟩
  unfold evC
  rw [Fin.bind]
  refine h.mono (fun x st1 _ hx => ?_) fun _ _ _ hx => hx
  cases e1 : truD st1 x with
  | none => rw [nb x st1 e1] at hx; exact hx.elim
  | some b => exact fun H' μ' I' S' => k x st1 b H' μ' e1 I' S' hx
theorem snd_ife (hd : SndT m g k d) (ha : Snd m g k a p) (hb : Snd m g k b q) : Snd m g k (.ife d a b) (p.join q) := by
  intro c sc X x hg ok h
  cases x with
  | IfExp z x y pos =>
    simp only [mE, Bool.and_eq_true] at h
    obtain ⟨⟨⟨h1, h2⟩, h3⟩, h4⟩ := h
    refine (pe_ifExp (hd c sc X z hg ok h1 h2) (ha c sc X x hg ok h3) (hb c sc X y hg ok h4)).mono fun σ H Q ⟨env, st, μ, G, I, hq⟩ => ?_
    rw [evE] at hq
    refine TTv.fst (s := fun _ => ()) I hq (fun x1 st1 b H1 μ1 e1 I1 S1 hq => ?_) fun x st1 e1 => by simp only [e1]
    rw [e1] at hq
    cases b with
    | true =>
      simp only [if_true]
      exact (TEv.lst S1 I1 hq).weak join_l (fun _ h => List.mem_append_left _ h) fun _ h => List.mem_append_left _ h
    | false =>
      simp only [Bool.false_eq_true, if_false]
      exact (TEv.lst S1 I1 hq).weak join_r (fun _ h => List.mem_append_right _ h) fun _ h => List.mem_append_right _ h
  | _ => simp [mE] at h
end
end WT
end

section
set_option Elab.async false
set_option linter.all false
set_option maxRecDepth 100000
set_option autoImplicit false
/-! K8: displays, subscripts, isinstance, built-ins, calls, boxes; tests. -/
namespace WT
open PySem PySem.Spec PyProof.Rows L2

theorem SI.after {K : PySem.W.Frag} {ow : Nat → Bool} {Ok : Addr → Prop} {env : Env} {st st' : Sto} {μ μ' : List Addr} {G : Addr → Option Nat} {σ : St} {H H' : Hp} (I : SI K ow Ok env st μ G σ H) (s : Step μ H μ' H') (b : BoxOk K H' μ' st') (l : μ'.length = st'.length) (nd : μ'.Nodup) :
    SI K ow Ok env st' μ' G σ H' where
  slot := fun i d e => by
    obtain ⟨v, t, F, e1, r, g1, g2, g3⟩ := I.slot i d e
    exact ⟨v, t, F, e1, r.step s fun a ha => (g3 a ha).1, g1, g2, fun a ha => ⟨s.notin (r.there a ha) (g3 a ha).1, (g3 a ha).2⟩⟩
  box := b
  muLen := l
  muNd := nd
  gmu := fun a ha => by
    obtain ⟨k, hk, e⟩ := List.mem_iff_getElem.mp ha
    obtain ⟨a', vs, e1, e2, _⟩ := b k _ (List.getElem?_eq_getElem (by rw [← l]; exact hk))
    rw [List.getElem?_eq_getElem hk] at e1
    cases e1
    refine ⟨?_, by rw [← e, e2]; simp⟩
    obtain ⟨ν, rfl, hν⟩ := s.ext
    rcases List.mem_append.mp ha with ha | ha
    · exact (I.gmu a ha).1
    · cases q : G a with
      | none => rfl
      | some i => exact absurd (hν a ha) (I.gdom a (by rw [q]; simp))
  gdom := fun a ha => s.dom a (I.gdom a ha)
  okn := fun a ha => I.okn a (s.wasNone ha)
  len := I.len

section
variable {m : MC} {g : GE} {k : Nat} {a b d e : E} {es kes : Es} {p q r : Pv} {l l' : List Nat}
theorem Held.all {c : Cfg} {K : PySem.W.Frag} {G : Addr → Option Nat} {H0 : Hp} {d : D} {v : V} {t F μ : List Addr} {H : Hp} (h : Held K c G p H0 d v t F μ H) (gd : ∀ a, G a ≠ none → H0 a ≠ none) :
    ∀ a ∈ t ++ F, (G a = none ∨ ∃ i ∈ p.top ++ p.inn, G a = some i) ∧ a ∉ μ ∧ c.Ok a := fun a ha => by
  refine ⟨?_, h.po.out a ha⟩
  rcases List.mem_append.mp ha with ha | ha
  · have z := h.po.top a ha
    split at z
    · refine .inl ?_
      cases q : G a with
      | none => rfl
      | some i => exact absurd z.1 (gd a (by rw [q]; simp))
    · exact z.imp id fun ⟨i, hi, e⟩ => ⟨i, List.mem_append_left _ hi, e⟩
  · exact (h.po.inn a ha).imp id fun ⟨i, hi, e⟩ => ⟨i, List.mem_append_right _ hi, e⟩
theorem snda_nil : SndA m g k .nil [] := by
  intro c sc X xs hg ok h
  cases xs with
  | nil =>
    have key : ∀ σ H Q, TAv c X.K [] (evEs g .nil) σ H Q → tNil σ H Q := fun σ H Q ⟨env, st, μ, G, I, hq⟩ => hq [] H μ [] I .refl .nil fun _ h => by simp at h
    refine ⟨pa_nil.mono key, fun kws hk => ?_⟩
    cases kws with
    | nil => exact ⟨fun pos pins s σ H Q I h => pk_nil.run pos pins s σ H Q I (key σ H Q h)⟩
    | cons _ _ => cases hk
  | cons _ _ => simp [mEs] at h
theorem snda_cons (he : Snd m g k e p) (hes : SndA m g k es l) : SndA m g k (.cons e es) (p.top ++ p.inn ++ l) := by
  intro c sc X xs hg ok h
  cases xs with
  | nil => simp [mEs] at h
  | cons x xs =>
    rw [mEs, Bool.and_eq_true] at h
    have key : ∀ σ H Q, TAv c X.K (p.top ++ p.inn ++ l) (evEs g (.cons e es)) σ H Q → tCons (TEv c X.K p (evE g e)) (TAv c X.K l (evEs g es)) σ H Q := fun σ H Q ⟨env, st, μ, G, I, hq⟩ => by
      rw [evEs, Fin.bind] at hq
      refine ⟨env, st, μ, G, I, hq.mono (fun x1 st1 _ hx v1 H1 μ1 t1 F1 I1 S1 r1 po1 => ?_) fun _ _ _ hx => hx⟩
      rw [Fin.bind] at hx
      refine ⟨env, st1, μ1, G, I1, hx.mono (fun xs2 st2 _ hx vs H2 μ2 F2 I2 S2 r2 po2 => ?_) fun _ _ _ hx => hx.step S1⟩
      have h1 : Held X.K c G p H x1 v1 t1 F1 μ1 H1 := ⟨r1, po1⟩
      have h2 := h1.step S2
      refine hx (v1 :: vs) H2 μ2 (t1 ++ F1 ++ F2) I2 (S1.trans S2) (.cons h2.rep r2) fun a ha => ?_
      rcases List.mem_append.mp ha with ha | ha
      · obtain ⟨z1, z2⟩ := h2.all I.gdom a ha
        exact ⟨z1.imp id fun ⟨i, hi, e⟩ => ⟨i, List.mem_append_left _ hi, e⟩, z2⟩
      · obtain ⟨z1, z2⟩ := po2 a ha
        exact ⟨z1.imp id fun ⟨i, hi, e⟩ => ⟨i, List.mem_append_right _ hi, e⟩, z2⟩
    refine ⟨(pa_cons (he c sc X x hg ok h.1) (hes c sc X xs hg ok h.2).1 (star_of (mE_plain h.1) xs X.env)).mono key, fun kws hk => ?_⟩
    cases kws with
    | nil => cases hk
    | cons kw kws =>
      obtain ⟨n, v, kp⟩ := kw
      rw [kwVals] at hk
      cases hk
      have pk := pk_cons (nm := n) (kpos := kp) (he c sc X v hg ok h.1) ((hes c sc X _ hg ok h.2).2 kws rfl)
      exact ⟨fun pos pins s σ H Q I h => pk.run pos pins s σ H Q I (key σ H Q h)⟩
/-- a list of expressions, at the head of a whole -/
theorem TAv.fst {c : Cfg} {K : PySem.W.Frag} {s : Env → Sto → R (List D)} {f : List D → Sto → R D} {env : Env} {st : Sto} {μ : List Addr} {G : Addr → Option Nat} {σ : St} {H : Hp} {Q : VK} {R' : List V → Hp → Prop} (I : SI K c.ow c.Ok env st μ G σ H) (h : Fin (okE c K q env μ G σ H Q) (exE c K env μ G σ H) ((s env st).bind f))
    (k : ∀ xs st1 vs H1 μ1 F, s env st = .ok xs st1 → SI K c.ow c.Ok env st1 μ1 G σ H1 → Step μ H μ1 H1 → Reps K H1 μ1 xs vs F → (∀ a ∈ F, (G a = none ∨ ∃ i ∈ l, G a = some i) ∧ a ∉ μ1 ∧ c.Ok a) → Fin (okE c K q env μ G σ H Q) (exE c K env μ G σ H) (f xs st1) → R' vs H1) : TAv c K l s σ H R' := by
  rw [Fin.bind] at h
  exact ⟨env, st, μ, G, I, h.mono (fun xs st1 e hx vs H1 μ1 F I1 S1 r po => k xs st1 vs H1 μ1 F e I1 S1 r po hx) fun _ _ _ hx => hx⟩
theorem TAv.nxt {c : Cfg} {K : PySem.W.Frag} {s : Env → Sto → R (List D)} {f : List D → Sto → R D} {env : Env} {st1 : Sto} {μ μ1 : List Addr} {G : Addr → Option Nat} {σ : St} {H H1 : Hp} {Q : VK} {R' : List V → Hp → Prop} (S1 : Step μ H μ1 H1) (I : SI K c.ow c.Ok env st1 μ1 G σ H1) (h : Fin (okE c K q env μ G σ H Q) (exE c K env μ G σ H) ((s env st1).bind f))
    (k : ∀ xs st2 vs H2 μ2 F, s env st1 = .ok xs st2 → SI K c.ow c.Ok env st2 μ2 G σ H2 → Step μ1 H1 μ2 H2 → Reps K H2 μ2 xs vs F → (∀ a ∈ F, (G a = none ∨ ∃ i ∈ l, G a = some i) ∧ a ∉ μ2 ∧ c.Ok a) → Fin (okE c K q env μ G σ H Q) (exE c K env μ G σ H) (f xs st2) → R' vs H2) : TAv c K l s σ H1 R' := by
  rw [Fin.bind] at h
  exact ⟨env, st1, μ1, G, I, h.mono (fun xs st1 e hx vs H1 μ1 F I1 S1 r po => k xs st1 vs H1 μ1 F e I1 S1 r po hx) fun _ _ _ hx => hx.step S1⟩
theorem snd_tup (h1 : SndA m g k es l) : Snd m g k (.tup es) (.new1 l) := by
  intro c sc X x hg ok h
  cases x with
  | Tuple xs j pos =>
    simp only [mE] at h
    refine (pe_tup (h1 c sc X xs hg ok h).1).mono fun σ H Q ⟨env, st, μ, G, I, hq⟩ => ?_
    rw [evE] at hq
    refine TAv.fst I hq fun ds st1 vs H1 μ1 F _ I1 S1 r1 po hq => ?_
    obtain ⟨z, e1, hq⟩ := Fin.ofO hq
    obtain ⟨hz, rfl⟩ := guardO_some e1
    exact ⟨by rw [← r1.length]; exact hz, fun p hp => (okE.out hq I1 S1 (B := fun a => a ∈ F) po).tup r1 (fun _ h => h) hp⟩
  | _ => simp [mE] at h
theorem snd_lst (h1 : SndA m g k es l) : Snd m g k (.lst es) (.new1 l) := by
  intro c sc X x hg ok h
  cases x with
  | List xs pos =>
    simp only [mE] at h
    refine (pe_lst (h1 c sc X xs hg ok h).1).mono fun σ H Q ⟨env, st, μ, G, I, hq⟩ => ?_
    rw [evE] at hq
    refine TAv.fst I hq fun ds st1 vs H1 μ1 F _ I1 S1 r1 po hq => ?_
    obtain ⟨z, e1, hq⟩ := Fin.ofO hq
    obtain ⟨hz, rfl⟩ := guardO_some e1
    exact ⟨by rw [← r1.length]; exact hz, fun p hp => (okE.out hq I1 S1 (B := fun a => a ∈ F) po).lst r1 (fun _ h => h) hp⟩
  | _ => simp [mE] at h
theorem idx_shape {x : Expr} {sc : Scope} (h : mE m (.idx a b) sc x = true) : ∃ y z pos, x = .Subscript y z pos ∧ mE m a sc y = true ∧ mE m b sc z = true := by
  cases x with
  | Subscript y z pos =>
    simp only [mE, Bool.and_eq_true] at h
    exact ⟨y, z, pos, rfl, h.1, h.2⟩
  | _ => simp [mE] at h
theorem SI.bx {K : PySem.W.Frag} {ow : Nat → Bool} {Ok : Addr → Prop} {env : Env} {st : Sto} {μ : List Addr} {G : Addr → Option Nat} {σ : St} {H : Hp} (I : SI K ow Ok env st μ G σ H) : Bx K H μ st (fun _ => False) := fun k xs e => by
  obtain ⟨a, vs, e1, e2, r⟩ := I.box k xs e
  exact ⟨a, vs, [], e1, e2, r, fun _ h => by simp at h⟩
theorem snd_idx (ha : Snd m g k a p) (hb : Snd m g k b q) : Snd m g k (.idx a b) ⟨false, p.inn, p.inn⟩ := by
  intro c sc X x hg ok h
  obtain ⟨y, z, pos, rfl, h1, h2⟩ := idx_shape h
  refine (pe_ix (ix_v ok.room.units) (ha c sc X y hg ok h1) (hb c sc X z hg ok h2) (ix_of (mE_plain h2))).mono fun σ H Q ⟨env, st, μ, G, I, hq⟩ => ?_
  rw [evE] at hq
  refine TEv.fst I hq fun x1 st1 v1 H1 μ1 t1 F1 I1 S1 r1 hq => ?_
  refine TEv.nxt S1 I1 hq fun x2 st2 v2 H2 μ2 t2 F2 I2 S2 r2 hq => ?_
  obtain ⟨w, e1, hq⟩ := Fin.ofO hq
  have r1 := r1.step S2
  refine ⟨_, _, _, _, _, _, _, _, st2, _, r1.rep, r2.rep, I2.bx, e1, fun v t F r3 hin => ?_⟩
  have hz : ∀ a ∈ t ++ F, (G a = none ∨ ∃ i ∈ p.inn, G a = some i) ∧ a ∉ μ2 ∧ c.Ok a := fun a ha => by
    rcases hin a ha with ha | ha
    · exact r1.innr (G' := G) a ha
    · exact ha.elim
  exact hq v H2 μ2 t F I2 (S1.trans S2) r3 ⟨fun a ha => by
    simp only [Bool.false_eq_true, if_false]
    exact (hz a (List.mem_append_left _ ha)).1, fun a ha => (hz a (List.mem_append_right _ ha)).1, fun a ha => (hz a ha).2⟩

/-! ### slices -/
def TOv (c : Cfg) (K : PySem.W.Frag) (s : Env → Sto → R (Option Int)) : TO := fun σ H Q => ∃ env st μ G, SI K c.ow c.Ok env st μ G σ H ∧ Fin (fun o st' => ∀ H' μ', SI K c.ow c.Ok env st' μ' G σ H' → Step μ H μ' H' → Q o H') (exE c K env μ G σ H) (s env st)
def SndO (m : MC) (g : GE) (k : Nat) (o : Eo) : Prop := ∀ (c : Cfg) (sc : Scope) (X : Cx) (x : Option Expr), c.g = g → XOk m c k sc X → mEo m o sc x = true → L2.PO X x (TOv c X.K (evEo g o))
theorem sndo_no : SndO m g k .no := by
  intro c sc X x hg ok h
  cases x with
  | none => exact ⟨fun pins s σ H Q I ⟨env, st, μ, G, J, hq⟩ => po_none.run pins s σ H Q I (hq H μ J .refl)⟩
  | some _ => simp [mEo] at h
theorem sndo_yes (he : Snd m g k e p) : SndO m g k (.yes e) := by
  intro c sc X x hg ok h
  cases x with
  | none => simp [mEo] at h
  | some x =>
    rw [mEo] at h
    refine ⟨fun pins s σ H Q I ⟨env, st, μ, G, J, hq⟩ => (po_some (he c sc X x hg ok h)).run pins s σ H Q I ?_⟩
    rw [evEo, Fin.bind] at hq
    refine ⟨env, st, μ, G, J, hq.mono (fun x1 st1 _ hx v H1 μ1 t F I1 S1 r po => ?_) fun _ _ _ hx => hx⟩
    cases r <;> first | exact hx.elim | skip
    exact ⟨_, rfl, hx H1 μ1 I1 S1⟩
theorem TOv.nxt {c : Cfg} {K : PySem.W.Frag} {s : Env → Sto → R (Option Int)} {f : Option Int → Sto → R D} {env : Env} {st1 : Sto} {μ μ1 : List Addr} {G : Addr → Option Nat} {σ : St} {H H1 : Hp} {Q : VK} {R' : Option Int → Hp → Prop} (S1 : Step μ H μ1 H1) (I : SI K c.ow c.Ok env st1 μ1 G σ H1) (h : Fin (okE c K q env μ G σ H Q) (exE c K env μ G σ H) ((s env st1).bind f))
    (k : ∀ o st2 H2 μ2, SI K c.ow c.Ok env st2 μ2 G σ H2 → Step μ1 H1 μ2 H2 → Fin (okE c K q env μ G σ H Q) (exE c K env μ G σ H) (f o st2) → R' o H2) : TOv c K s σ H1 R' := by
  rw [Fin.bind] at h
  exact ⟨env, st1, μ1, G, I, h.mono (fun o st2 _ hx H2 μ2 I2 S2 => k o st2 H2 μ2 I2 S2 hx) fun _ _ _ hx => hx.step S1⟩
theorem slice_shape {x : Expr} {sc : Scope} {lo hi : Eo} (h : mE m (.slice a lo hi) sc x = true) : ∃ y l u p2 pos, x = .Subscript y (.Slice l u none p2) pos ∧ mE m a sc y = true ∧ mEo m lo sc l = true ∧ mEo m hi sc u = true := by
  cases x with
  | Subscript y z pos =>
    cases z with
    | Slice l u s p2 =>
      cases s with
      | none =>
        simp only [mE, Bool.and_eq_true] at h
        exact ⟨y, l, u, p2, pos, rfl, h.1.1, h.1.2, h.2⟩
      | some _ => simp [mE] at h
    | _ => simp [mE] at h
  | _ => simp [mE] at h
theorem snd_slice {lo hi : Eo} (ha : Snd m g k a p) (hl : SndO m g k lo) (hh : SndO m g k hi) : Snd m g k (.slice a lo hi) (.new1 p.inn) := by
  intro c sc X x hg ok h
  obtain ⟨y, l, u, p2, pos, rfl, h1, h2, h3⟩ := slice_shape h
  refine (pe_slice sl_v (ha c sc X y hg ok h1) (hl c sc X l hg ok h2) (hh c sc X u hg ok h3)).mono fun σ H Q ⟨env, st, μ, G, I, hq⟩ => ?_
  rw [evE] at hq
  refine TEv.fst I hq fun x1 st1 v1 H1 μ1 t1 F1 I1 S1 r1 hq => ?_
  refine TOv.nxt S1 I1 hq fun o st2 H2 μ2 I2 S2 hq => ?_
  refine TOv.nxt (S1.trans S2) I2 hq fun o2 st3 H3 μ3 I3 S3 hq => ?_
  obtain ⟨w, e1, hq⟩ := Fin.ofO hq
  have r1 := (r1.step S2).step S3
  exact ⟨_, _, _, _, _, r1.rep, e1, hq.out I3 ((S1.trans S2).trans S3) fun a ha => r1.innr (G' := G) a ha⟩

/-! ### isinstance -/
theorem rev_shape {x : Expr} {sc : Scope} (h : mE m (.rev a) sc x = true) : ∃ y j p1 p2 p3 pos, x = .Subscript y (.Slice none none (some (.UnaryOp .USub (.Constant (.int 1) j p1) p2)) p3) pos ∧ mE m a sc y = true := by
  rw [mE] at h
  unfold mRev at h
  split at h
  · rw [Bool.and_eq_true, decide_eq_true_eq] at h
    obtain ⟨rfl, h⟩ := h
    exact ⟨_, _, _, _, _, _, rfl, h⟩
  · cases h
theorem snd_rev (ha : Snd m g k a p) : Snd m g k (.rev a) (.new1 p.inn) := by
  intro c sc X x hg ok h
  obtain ⟨y, j, p1, p2, p3, pos, rfl, h1⟩ := rev_shape h
  refine (pe_revA (ha c sc X y hg ok h1)).mono fun σ H Q ⟨env, st, μ, G, I, hq⟩ => ?_
  rw [evE] at hq
  refine TEv.fst I hq fun x1 st1 v1 H1 μ1 t1 F1 I1 S1 r1 hq => ?_
  obtain ⟨z, e1, hq⟩ := Fin.ofO hq
  have innr := r1.innr (G' := G)
  obtain ⟨rp, po⟩ := r1
  cases x1 <;> first | (cases e1; done) | skip
  · cases rp
    rename_i hs rs
    cases e1
    obtain ⟨L, h3, h4⟩ := rev_rep rs
    exact ⟨_, _, rfl, .inr ⟨hs, fun p hp => (okE.out hq I1 S1 (B := fun a => a ∈ F1) fun a ha => innr a ha).tup h3 h4 hp⟩⟩
  · cases rp
    rename_i hs rs
    cases e1
    obtain ⟨L, h3, h4⟩ := rev_rep rs
    exact ⟨_, _, rfl, .inl ⟨.inl (.inl hs), fun p hp => (okE.out hq I1 S1 (B := fun a => a ∈ F1) fun a ha => innr a ha).lst h3 h4 hp⟩⟩
theorem rg1_shape {x : Expr} {sc : Scope} {l : Bool} (h : mE m (.rg1 l b) sc x = true) : ∃ fp rp y p2 pos, x = .Call (.Name (rgNm l) fp) [.Call (.Name ("range" : Str) rp) [y] [] p2] [] pos ∧ glB sc (rgNm l) = true ∧ glB sc ("range" : Str) = true ∧ mE m b sc y = true := by
  rw [mE] at h
  unfold mRg1 at h
  split at h
  · simp only [Bool.and_eq_true, beq_iff_eq] at h
    obtain ⟨⟨⟨⟨rfl, h1⟩, rfl⟩, h2⟩, h3⟩ := h
    exact ⟨_, _, _, _, _, rfl, h1, h2, h3⟩
  · cases h
theorem rg2_shape {x : Expr} {sc : Scope} {l : Bool} (h : mE m (.rg2 l a b) sc x = true) : ∃ fp rp y z p2 pos, x = .Call (.Name (rgNm l) fp) [.Call (.Name ("range" : Str) rp) [y, z] [] p2] [] pos ∧ glB sc (rgNm l) = true ∧ glB sc ("range" : Str) = true ∧ mE m a sc y = true ∧ mE m b sc z = true := by
  rw [mE] at h
  unfold mRg2 at h
  split at h
  · simp only [Bool.and_eq_true, beq_iff_eq] at h
    obtain ⟨⟨⟨⟨⟨rfl, h1⟩, rfl⟩, h2⟩, h3⟩, h4⟩ := h
    exact ⟨_, _, _, _, _, _, rfl, h1, h2, h3, h4⟩
  · cases h
theorem reps_rg {K : PySem.W.Frag} {H : Hp} {μ : List Addr} (a b : Int) : Reps K H μ (rgL a b) (rgV a b) [] := by
  unfold rgL rgV
  induction List.range (b - a).toNat with
  | nil => exact .nil
  | cons i l ih => exact .cons (.int _) ih
theorem snd_rg1 {l : Bool} (hb : Snd m g k b p) : Snd m g k (.rg1 l b) (.new1 []) := by
  intro c sc X x hg ok h
  obtain ⟨fp, rp, y, p2, pos, rfl, h1, h2, h3⟩ := rg1_shape h
  cases l with
  | false =>
    refine (pe_tupRg ok.calm (ok.gl h1) (ok.free _ (by decide +kernel)) (prg_1 (ok.gl h2) (ok.free _ (by decide +kernel)) (hb c sc X y hg ok h3) (star_of (mE_plain h3) _ _))).mono fun σ H Q ⟨env, st, μ, G, I, hq⟩ => ?_
    rw [evE] at hq
    refine TEv.fst I hq fun x1 st1 v1 H1 μ1 t1 F1 I1 S1 r1 hq => ?_
    obtain ⟨z, e1, hq⟩ := Fin.ofO hq
    obtain ⟨rp, po⟩ := r1
    cases x1 <;> first | (cases e1; done) | skip
    cases rp
    rw [rgD] at e1
    obtain ⟨hok, rfl⟩ := guardO_some e1
    exact ⟨_, rfl, hok, fun p hp => (okE.out hq I1 S1 (B := fun _ => False) fun _ h => h.elim).tup (reps_rg _ _) (fun _ h => by simp at h) hp⟩
  | true =>
    refine (pe_listRg ok.calm (ok.gl h1) (ok.free _ (by decide +kernel)) (prg_1 (ok.gl h2) (ok.free _ (by decide +kernel)) (hb c sc X y hg ok h3) (star_of (mE_plain h3) _ _))).mono fun σ H Q ⟨env, st, μ, G, I, hq⟩ => ?_
    rw [evE] at hq
    refine TEv.fst I hq fun x1 st1 v1 H1 μ1 t1 F1 I1 S1 r1 hq => ?_
    obtain ⟨z, e1, hq⟩ := Fin.ofO hq
    obtain ⟨rp, po⟩ := r1
    cases x1 <;> first | (cases e1; done) | skip
    cases rp
    rw [rgD] at e1
    obtain ⟨hok, rfl⟩ := guardO_some e1
    exact ⟨_, rfl, hok, fun p hp => (okE.out hq I1 S1 (B := fun _ => False) fun _ h => h.elim).lst (reps_rg _ _) (fun _ h => by simp at h) hp⟩
theorem snd_rg2 {l : Bool} (ha : Snd m g k a p) (hb : Snd m g k b q) : Snd m g k (.rg2 l a b) (.new1 []) := by
  intro c sc X x hg ok h
  obtain ⟨fp, rp, y, y2, p2, pos, rfl, h1, h2, h3, h4⟩ := rg2_shape h
  cases l with
  | false =>
    refine (pe_tupRg ok.calm (ok.gl h1) (ok.free _ (by decide +kernel)) (prg_2 (ok.gl h2) (ok.free _ (by decide +kernel)) (ha c sc X y hg ok h3) (hb c sc X y2 hg ok h4) (star_of (mE_plain h3) _ _) (star_of (mE_plain h4) _ _) (mEs_star (m := m) (sc := sc) (es := .cons b .nil) (xs := [y2]) (by simp [mEs, h4]) _ _))).mono fun σ H Q ⟨env, st, μ, G, I, hq⟩ => ?_
    rw [evE] at hq
    refine TEv.fst I hq fun x1 st1 v1 H1 μ1 t1 F1 I1 S1 r1 hq => ?_
    refine TEv.nxt S1 I1 hq fun x2 st2 v2 H2 μ2 t2 F2 I2 S2 r2 hq => ?_
    obtain ⟨z, e1, hq⟩ := Fin.ofO hq
    obtain ⟨rp, po⟩ := r1
    obtain ⟨rp2, po2⟩ := r2
    cases x1 <;> first | (cases e1; done) | skip
    cases x2 <;> first | (cases e1; done) | skip
    cases rp
    cases rp2
    rw [rgD] at e1
    obtain ⟨hok, rfl⟩ := guardO_some e1
    exact ⟨_, _, rfl, rfl, hok, fun p hp => (okE.out hq I2 (S1.trans S2) (B := fun _ => False) fun _ h => h.elim).tup (reps_rg _ _) (fun _ h => by simp at h) hp⟩
  | true =>
    refine (pe_listRg ok.calm (ok.gl h1) (ok.free _ (by decide +kernel)) (prg_2 (ok.gl h2) (ok.free _ (by decide +kernel)) (ha c sc X y hg ok h3) (hb c sc X y2 hg ok h4) (star_of (mE_plain h3) _ _) (star_of (mE_plain h4) _ _) (mEs_star (m := m) (sc := sc) (es := .cons b .nil) (xs := [y2]) (by simp [mEs, h4]) _ _))).mono fun σ H Q ⟨env, st, μ, G, I, hq⟩ => ?_
    rw [evE] at hq
    refine TEv.fst I hq fun x1 st1 v1 H1 μ1 t1 F1 I1 S1 r1 hq => ?_
    refine TEv.nxt S1 I1 hq fun x2 st2 v2 H2 μ2 t2 F2 I2 S2 r2 hq => ?_
    obtain ⟨z, e1, hq⟩ := Fin.ofO hq
    obtain ⟨rp, po⟩ := r1
    obtain ⟨rp2, po2⟩ := r2
    cases x1 <;> first | (cases e1; done) | skip
    cases x2 <;> first | (cases e1; done) | skip
    cases rp
    cases rp2
    rw [rgD] at e1
    obtain ⟨hok, rfl⟩ := guardO_some e1
    exact ⟨_, _, rfl, rfl, hok, fun p hp => (okE.out hq I2 (S1.trans S2) (B := fun _ => False) fun _ h => h.elim).lst (reps_rg _ _) (fun _ h => by simp at h) hp⟩
theorem boot_ty : ∀ t : Ty, bootBuiltins t.sname = some (.type t.nm) := by
  intro t
  cases t <;> decide +kernel
theorem ty_free : ∀ t : Ty, t.sname ∈ freeNames ∧ t.sname ≠ "__name__" ∧ (t.sname == ("__debug__" : Str)) = false := by
  intro t
  cases t <;> decide +kernel
def tTys : List Ty → TA := fun ts _ H Q => Q (ts.map fun t => V.ty t.nm) H
theorem pa_tys {c : Cfg} {sc : Scope} {X : Cx} (ok : XOk m c k sc X) : ∀ {ts : List Ty} {es : List Expr}, tysM ts es sc = true → PA X es (tTys ts)
  | [], [], _ => pa_nil.mono fun _ _ _ h => h
  | [], _ :: _, h => by simp [tysM] at h
  | t :: ts, [], h => by simp [tysM] at h
  | t :: ts, x :: es, h => by
    cases x with
    | Name y pos =>
      simp only [tysM, Bool.and_eq_true, beq_iff_eq] at h
      obtain ⟨⟨rfl, h1⟩, h2⟩ := h
      obtain ⟨f1, f2, f3⟩ := ty_free t
      exact (pa_cons (pe_bltn (v := .ty t.nm) (ok.gl h1) (ok.free _ f1) (boot_ty t) rfl f2 f3) (pa_tys ok h2)).mono fun σ H Q h => h
    | _ => simp [tysM] at h
theorem isi_shape {x : Expr} {sc : Scope} {ts : List Ty} {b : Bool} (h : mE m (.isi a ts b) sc x = true) : ∃ f y z fp pos, x = .Call (.Name f fp) [y, z] [] pos ∧ f = ("isinstance" : Str) ∧ glB sc f = true ∧ mE m a sc y = true ∧
    ((∃ t n np, z = .Name n np ∧ ts = [t] ∧ tysM [t] [.Name n np] sc = true) ∨ ∃ es j tp, z = .Tuple es j tp ∧ tysM ts es sc = true ∧ ts.length ≤ 100) := by
  cases x with
  | Call f args kws pos =>
    cases f with
    | Name f fp =>
      match args, kws, h with
      | [y, z], [], h =>
        cases b with
        | false =>
          cases z with
          | Name n np =>
            simp only [mE, Bool.and_eq_true, beq_iff_eq] at h
            obtain ⟨⟨⟨h1, h2⟩, h3⟩, h4⟩ := h
            match ts, h4 with
            | [], h4 => simp [tysM] at h4
            | [t], h4 => exact ⟨f, y, _, fp, pos, rfl, h1, h2, h3, .inl ⟨t, n, np, rfl, rfl, by simpa [tysM] using h4⟩⟩
            | _ :: _ :: _, h4 => simp [tysM] at h4
          | _ => simp [mE] at h
        | true =>
          cases z with
          | Tuple es j tp =>
            simp only [mE, Bool.and_eq_true, beq_iff_eq, decide_eq_true_eq] at h
            obtain ⟨⟨⟨⟨h1, h2⟩, h3⟩, h4⟩, h5⟩ := h
            exact ⟨f, y, _, fp, pos, rfl, h1, h2, h3, .inr ⟨es, j, tp, rfl, h4, h5⟩⟩
          | _ => simp [mE] at h
      | [], _, h => cases b <;> simp [mE] at h
      | [_], _, h => cases b <;> simp [mE] at h
      | _ :: _ :: _ :: _, _, h => cases b <;> simp [mE] at h
      | [_, _], _ :: _, h => cases b <;> simp [mE] at h
    | _ => cases b <;> simp [mE] at h
  | _ => cases b <;> simp [mE] at h
theorem paired_ty : ∀ ts : List Ty, Paired ClsV (ts.map fun t => V.ty t.nm) (ts.map fun t => Value.type t.nm)
  | [] => .nil
  | t :: ts => .cons (.ty _) (paired_ty ts)
theorem snd_isi {ts : List Ty} {tb : Bool} (ha : Snd m g k a p) : Snd m g k (.isi a ts tb) (.new1 []) := by
  intro c sc X x hg ok h
  obtain ⟨f, y, z, fp, pos, rfl, rfl, h2, h3, h4⟩ := isi_shape h
  have hfr : X.mg "isinstance" = none := ok.free _ (by decide +kernel)
  rcases h4 with ⟨t, n, np, rfl, rfl, h4⟩ | ⟨es, j, tp, rfl, h4, h5⟩
  · refine (pe_callB call_isi (ok.gl h2) hfr PyProof.Rows.boot_isinstance (pa_cons (ha c sc X y hg ok h3) (pa_tys ok h4) (star_of (mE_plain h3) _ _)) (by decide) (by decide) (star_of (mE_plain h3) _ _) rfl).mono fun σ H Q ⟨env, st, μ, G, I, hq⟩ => ?_
    rw [evE] at hq
    refine TEv.fst I hq fun x1 st1 v1 H1 μ1 t1 F1 I1 S1 r1 hq => ?_
    obtain ⟨w, e1, hq⟩ := Fin.ofO hq
    obtain ⟨b, e2, rfl⟩ := Option.map_eq_some_iff.mp e1
    obtain ⟨own, e3, rfl⟩ := Option.map_eq_some_iff.mp (show (tyD x1).map (fun own => [t].any fun t => own.contains t) = some b from e2)
    obtain ⟨a', e4⟩ := tyD_tyS e3
    refine ⟨v1, .ty t.nm, .type a', .type t.nm, _, rfl, .ty _, r1.rep.ty e4, ?_, okE.flat (p := .new1 []) hq I1 S1 (.bl _)⟩
    have z := kit_all x1 own a' e3 e4 t
    rw [show ([t].any fun t => own.contains t) = own.contains t by simp]
    exact kit_ty z
  · refine (pe_callB call_isiT (ok.gl h2) hfr PyProof.Rows.boot_isinstance (pa_cons (ha c sc X y hg ok h3) (pa_cons (pe_tup (pa_tys ok h4)) pa_nil) (star_of (mE_plain h3) _ _)) (by decide) (by decide) (star_of (mE_plain h3) _ _) rfl).mono fun σ H Q ⟨env, st, μ, G, I, hq⟩ => ?_
    rw [evE] at hq
    refine TEv.fst I hq fun x1 st1 v1 H1 μ1 t1 F1 I1 S1 r1 hq => ?_
    refine ⟨by rw [List.length_map, sizeLine_eq]; omega, fun pt hp => ?_⟩
    obtain ⟨w, e1, hq⟩ := Fin.ofO hq
    obtain ⟨b, e2, rfl⟩ := Option.map_eq_some_iff.mp e1
    obtain ⟨own, e3, rfl⟩ := Option.map_eq_some_iff.mp (show (tyD x1).map (fun own => ts.any fun t => own.contains t) = some b from e2)
    obtain ⟨a', e4⟩ := tyD_tyS e3
    have sn := Step.new (μ := μ1) (o := .tup (ts.map fun t => V.ty t.nm)) hp
    have r2 := r1.step sn
    exact ⟨v1, pt, _, .type a', _, _, rfl, upd_same, paired_ty ts, r2.rep.ty e4, kitAny_v e3 e4 ts, okE.flat (p := .new1 []) hq (I1.new hp) (S1.trans sn) (.bl _)⟩

/-! ### built-in functions -/
theorem bi_names : ∀ f : Bi, f ≠ .gcd → f.nm ∈ freeNames ∧ f.nm ≠ "__name__" ∧ bootBuiltins f.nm = some f.vl := by
  intro f hf
  cases f <;> first | exact absurd rfl hf | decide +kernel
theorem bi_dbg : ∀ f : Bi, (f.nm == ("__debug__" : Str)) = false := by
  intro f
  cases f <;> decide +kernel
theorem bi_shape {x : Expr} {sc : Scope} {f : Bi} (h : mE m (.bi f es) sc x = true) : ∃ n fp e r pos, x = .Call (.Name n fp) (e :: r) [] pos ∧ n = f.nm ∧ glB sc n = true ∧ mEs m es sc (e :: r) = true ∧ (m.gcd = true ∨ f ≠ .gcd) := by
  cases x with
  | Call n args kws pos =>
    cases n with
    | Name n fp =>
      match args, kws, h with
      | e :: r, [], h =>
        simp only [mE, Bool.and_eq_true, beq_iff_eq, Bool.or_eq_true, Bool.not_eq_true', decide_eq_false_iff_not] at h
        exact ⟨n, fp, e, r, pos, rfl, h.1.1.1, h.1.1.2, h.1.2, h.2⟩
      | [], _, h => simp [mE] at h
      | _ :: _, _ :: _, h => simp [mE] at h
    | _ => simp [mE] at h
  | _ => simp [mE] at h
theorem pe_bi {c : Cfg} {sc : Scope} {X : Cx} {f : Bi} {fp pos : Pos} {e : Expr} {r : List Expr} {t : TA} (ok : XOk m c k sc X) (hgl : glB sc f.nm = true) (hgc : m.gcd = true ∨ f ≠ .gcd) (ha : PA X (e :: r) t)
    (he : starEach (e :: r) X.env = (false, eval e X.env) :: starEach r X.env) (hpl : (backTo pos (starEach r X.env)).any (·.1) = false) : PE X (.Call (.Name f.nm fp) (e :: r) [] pos) (tCB (RBi X.K f) t) := by
  by_cases hf : f = .gcd
  · subst hf
    exact pe_callBfun (bi_ok ok.calm .gcd) (ok.gl hgl) (ok.gcd (hgc.elim id fun h => absurd rfl h)) ha (bi_dbg _) he hpl
  · obtain ⟨h1, h2, h3⟩ := bi_names f hf
    have h4 := bi_ok ok.calm f
    cases hv : f.vl with
    | builtin id =>
      rw [hv] at h3 h4
      exact pe_callB h4 (ok.gl hgl) (ok.free _ h1) h3 ha h2 (bi_dbg _) he hpl
    | type T =>
      rw [hv] at h3 h4
      exact pe_callTy h4 (ok.gl hgl) (ok.free _ h1) h3 ha h2 (bi_dbg _) he hpl
    | _ => cases f <;> cases hv
theorem snd_bi {f : Bi} (h1 : SndA m g k es l) : Snd m g k (.bi f es) (.new1 l) := by
  intro c sc X x hg ok h
  obtain ⟨n, fp, e, r, pos, rfl, rfl, h2, h3, h4⟩ := bi_shape h
  have hs := mEs_star (m := m) h3 X.env pos
  obtain ⟨e1, es1, rfl, h5, h6⟩ : ∃ e1 es1, es = .cons e1 es1 ∧ mE m e1 sc e = true ∧ mEs m es1 sc r = true := by
    cases es with
    | nil => simp [mEs] at h3
    | cons e1 es1 =>
      rw [mEs, Bool.and_eq_true] at h3
      exact ⟨e1, es1, rfl, h3.1, h3.2⟩
  refine (pe_bi ok h2 h4 (h1 c sc X _ hg ok h3).1 (star_of (mE_plain h5) _ _) (mEs_star h6 _ _)).mono fun σ H Q ⟨env, st, μ, G, I, hq⟩ => ?_
  rw [evE] at hq
  refine TAv.fst I hq fun ds st1 vs H1 μ1 F _ I1 S1 r1 po hq => ?_
  obtain ⟨z, e1, hq⟩ := Fin.ofO hq
  exact ⟨_, _, _, st1, _, _, r1, I1.bx, e1, okE.out hq I1 S1 (B := fun a => a ∈ F) po⟩

/-! ### calls -/
theorem call_shape {x : Expr} {sc : Scope} {f : Nat} {ord : List Nat} (h : mE m (.call f es kes ord) sc x = true) : ∃ n fp xs kws pos ps, x = .Call (.Name n fp) xs kws pos ∧ m.fns[f]? = some (n, ps) ∧ glB sc n = true ∧ plB n = true ∧ mEs m es sc xs = true ∧ mEs m kes sc (kwVals kws) = true ∧ kwsM kws (kwNm kws) = true ∧ ((kwNm kws = [] ∧ ord = []) ∨ (xs.length, kwNm kws, ord) ∈ m.kw f) := by
  cases x with
  | Call n args kws pos =>
    cases n with
    | Name n fp =>
      simp only [mE] at h
      split at h
      · rename_i n' ps hf
        simp only [Bool.and_eq_true, beq_iff_eq, decide_eq_true_eq] at h
        obtain ⟨⟨⟨⟨⟨⟨rfl, h1⟩, h2⟩, h3⟩, h4⟩, h5⟩, h6⟩ := h
        exact ⟨n, fp, args, kws, pos, ps, rfl, hf, h1, h2, h3, h4, h5, h6.imp (fun z => ⟨by rw [List.isEmpty_iff.mp z.1]; rfl, z.2⟩) id⟩
      · cases h
    | _ => simp [mE] at h
  | _ => simp [mE] at h
theorem kw_len : ∀ {kws : List Keyword} {ks : List Str}, kwsM kws ks = true → (kwVals kws).length = ks.length
  | [], [], _ => rfl
  | [], _ :: _, h => by simp [kwsM] at h
  | _ :: _, [], h => by simp [kwsM] at h
  | k :: ks, x :: xs, h => by
    rw [kwsM, Bool.and_eq_true] at h
    rw [kwVals, List.length_cons, List.length_cons, kw_len h.2]
theorem evEs_len : ∀ {es : Es} {xs : List Expr} {sc : Scope} {env : Env} {st st1 : Sto} {ds : List D}, mEs m es sc xs = true → evEs g es env st = .ok ds st1 → ds.length = xs.length
  | .nil, [], _, _, _, _, _, _, e => by
    rw [evEs] at e
    cases e
    rfl
  | .nil, _ :: _, _, _, _, _, _, h, _ => by simp [mEs] at h
  | .cons _ _, [], _, _, _, _, _, h, _ => by simp [mEs] at h
  | .cons e es, x :: xs, sc, env, st, st1, ds, h, he => by
    rw [mEs, Bool.and_eq_true] at h
    rw [evEs] at he
    cases e1 : evE g e env st with
    | exn _ _ _ => rw [e1] at he; cases he
    | bad => rw [e1] at he; cases he
    | ok d s1 =>
      rw [e1, R.bind_ok] at he
      cases e2 : evEs g es env s1 with
      | exn _ _ _ => rw [e2] at he; cases he
      | bad => rw [e2] at he; cases he
      | ok ds2 s2 =>
        rw [e2, R.bind_ok] at he
        cases he
        rw [List.length_cons, List.length_cons, evEs_len h.2 e2]
theorem XR.mono {CA : Str → Option Addr} {K : PySem.W.Frag} {H : Hp} {μ : List Addr} {Ok Ok' : Addr → Prop} {c : Str} {d : D} {cls : Value} {dd : Option Addr} (h : XR CA K H μ Ok c d cls dd) (k : ∀ a, Ok a → Ok' a) : XR CA K H μ Ok' c d cls dd := by
  obtain ⟨C, dx, v, t, F, e1, e2, e3, e4, r, po⟩ := h
  exact ⟨C, dx, v, t, F, e1, e2, e3, e4, r, fun a ha => ⟨(po a ha).1, k a (po a ha).2⟩⟩
theorem snd_call {f : Nat} {ord : List Nat} (h1 : SndA m g k es l) (h2 : SndA m g k kes l') : Snd m g k (.call f es kes ord) ⟨m.rn f, l ++ l', l ++ l'⟩ := by
  intro c sc X x hg ok h
  obtain ⟨n, fp, xs, kws, pos, ps, rfl, hf, h3, h4, h5, h6, h7, h8⟩ := call_shape h
  obtain ⟨fi, fa, fd, ef, eps, hm, hk, F, hb⟩ := ok.fns f n ps hf
  -- behind the arguments
  have fin0 : ∀ {env : Env} {st st2 : Sto} {μ μ2 : List Addr} {G : Addr → Option Nat} {σ : St} {H H2 : Hp} {Q : VK} {ds1 ds2 : List D} {vs1 vs2 : List V} {F1 F2 : List Addr}, SI X.K c.ow c.Ok env st μ G σ H → SI X.K c.ow c.Ok env st2 μ2 G σ H2 → Step μ H μ2 H2 → Reps X.K H2 μ2 ds1 vs1 F1 → Reps X.K H2 μ2 ds2 vs2 F2 →
      (∀ a ∈ F1, (G a = none ∨ ∃ i ∈ l, G a = some i) ∧ a ∉ μ2 ∧ c.Ok a) → (∀ a ∈ F2, (G a = none ∨ ∃ i ∈ l', G a = some i) ∧ a ∉ μ2 ∧ c.Ok a) →
      Fin (okE c X.K ⟨m.rn f, l ++ l', l ++ l'⟩ env μ G σ H Q) (exE c X.K env μ G σ H) (match g.fns[f]? with | some fi => if ds1.length + ds2.length = fi.ps.length then fi.sem (ds1 ++ ds2) st2 else .bad | none => .bad) →
      vs1.length + vs2.length = ps.length ∧ spF X.K c.CA (m.rn f) fi.sem ps.length (vs1 ++ vs2) H2 Q (WE c.W σ) := fun {env st st2 μ μ2 G σ H H2 Q ds1 ds2 vs1 vs2 F1 F2} I I2 S2 r1 r2 po1 po2 hq => by
    subst hg
    rw [ef] at hq
    simp only at hq
    split at hq
    · rename_i hl
      rw [eps] at hl
      obtain ⟨L, r3, hL⟩ := r1.append r2
      have po : ∀ a ∈ L, (G a = none ∨ ∃ i ∈ l ++ l', G a = some i) ∧ a ∉ μ2 ∧ c.Ok a := fun a ha => by
        rcases hL a ha with ha | ha
        · obtain ⟨z1, z2⟩ := po1 a ha
          exact ⟨z1.imp id fun ⟨i, hi, e⟩ => ⟨i, List.mem_append_left _ hi, e⟩, z2⟩
        · obtain ⟨z1, z2⟩ := po2 a ha
          exact ⟨z1.imp id fun ⟨i, hi, e⟩ => ⟨i, List.mem_append_right _ hi, e⟩, z2⟩
      have gof : ∀ a, H2 a = none → G a = none := fun a ha => by
        cases q : G a with
        | none => rfl
        | some i => exact absurd ha (I2.gdom a (by rw [q]; simp))
      refine ⟨by rw [← r1.length, ← r2.length]; exact hl, ds1 ++ ds2, st2, μ2, L, fun a => (G a = none ∨ ∃ i ∈ l ++ l', G a = some i) ∧ c.Ok a, by rw [List.length_append]; exact hl, r3, I2.box, I2.muLen, I2.muNd, fun a ha => ⟨(po a ha).2.1, (po a ha).1, (po a ha).2.2⟩, ?_⟩
      refine hq.mono (fun d st' _ hx v H' μ' t F' S' b' l'' nd' r' po' nw => ?_) fun x d st' hx cls dd H' μ' S' b' l'' nd' xr => ?_
      · have I3 := I2.after S' b' l'' nd'
        have all : ∀ a ∈ t ++ F', (G a = none ∨ ∃ i ∈ l ++ l', G a = some i) ∧ a ∉ μ' ∧ c.Ok a := fun a ha => by
          obtain ⟨z1, z2⟩ := po' a ha
          rcases z2 with z2 | z2
          · exact ⟨.inl (gof a z2), z1, I2.okn a z2⟩
          · exact ⟨z2.1, z1, z2.2⟩
        refine hx v H' μ' t F' I3 (S2.trans S') r' ⟨fun a ha => ?_, fun a ha => (all a (List.mem_append_right _ ha)).1, fun a ha => (all a ha).2⟩
        simp only
        split
        · rename_i hn
          exact ⟨S2.wasNone (nw hn a ha).1, (nw hn a ha).2⟩
        · exact (all a (List.mem_append_left _ ha)).1
      · exact hx cls dd H' μ' (I2.after S' b' l'' nd') (S2.trans S') (xr.mono fun a ha => ha.elim (fun z => I2.okn a z) fun z => z.2)
    · exact hq.elim
  have fin : ∀ {env : Env} {st st2 : Sto} {μ μ2 : List Addr} {G : Addr → Option Nat} {σ : St} {H H2 : Hp} {Q : VK} {ds1 ds2 : List D} {vs1 vs2 : List V} {F1 F2 : List Addr}, SI X.K c.ow c.Ok env st μ G σ H → SI X.K c.ow c.Ok env st2 μ2 G σ H2 → Step μ H μ2 H2 → Reps X.K H2 μ2 ds1 vs1 F1 → Reps X.K H2 μ2 ds2 vs2 F2 →
      (∀ a ∈ F1, (G a = none ∨ ∃ i ∈ l, G a = some i) ∧ a ∉ μ2 ∧ c.Ok a) → (∀ a ∈ F2, (G a = none ∨ ∃ i ∈ l', G a = some i) ∧ a ∉ μ2 ∧ c.Ok a) →
      Fin (okE c X.K ⟨m.rn f, l ++ l', l ++ l'⟩ env μ G σ H Q) (exE c X.K env μ G σ H) (match g.fns[f]? with | some fi => if ds1.length + (permL ord ds2).length = fi.ps.length then fi.sem (ds1 ++ permL ord ds2) st2 else .bad | none => .bad) →
      vs1.length + (permL ord vs2).length = ps.length ∧ spF X.K c.CA (m.rn f) fi.sem ps.length (vs1 ++ permL ord vs2) H2 Q (WE c.W σ) := fun I I2 S2 r1 r2 po1 po2 hq => by
    obtain ⟨F2', r2', hF2⟩ := r2.perm ord
    exact fin0 I I2 S2 r1 r2' po1 (fun a ha => po2 a (hF2 a ha)) hq
  cases xs with
  | nil =>
    have ee : es = .nil := by
      cases es with
      | nil => rfl
      | cons _ _ => simp [mEs] at h5
    subst ee
    refine (pe_callA0 (ord := ord) F ok.room (ok.gl h3) hm hk hb (fun σ => passAt ok.tk σ) ((h2 c sc X _ hg ok h6).2 kws rfl) h7 (plB_ok h4).1).mono fun σ H Q ⟨env, st, μ, G, I, hq⟩ => ?_
    rw [evE, evEs, R.bind_ok] at hq
    refine TAv.fst I hq fun ds st1 vs H1 μ1 F1 e1 I1 S1 r1 po hq => ?_
    obtain ⟨z1, z2⟩ := fin (ds1 := []) (vs1 := []) (F1 := []) I I1 S1 .nil r1 (fun _ h => by simp at h) po hq
    exact ⟨by rw [← r1.length, evEs_len h6 e1]; exact kw_len h7, by simpa using z1, h8, by simpa using z2⟩
  | cons x xs =>
    have h9 : starEach (x :: xs) X.env = (false, eval x X.env) :: starEach xs X.env := by
      cases es with
      | nil => simp [mEs] at h5
      | cons e1 es1 =>
        rw [mEs, Bool.and_eq_true] at h5
        exact star_of (mE_plain h5.1) _ _
    refine (pe_callA (ord := ord) F ok.room (ok.gl h3) hm hk hb (fun σ => passAt ok.tk σ) (h1 c sc X _ hg ok h5).1 ((h2 c sc X _ hg ok h6).2 kws rfl) (fun pos => mEs_star h5 _ _) h9 h7 (plB_ok h4).1).mono fun σ H Q ⟨env, st, μ, G, I, hq⟩ => ?_
    rw [evE] at hq
    refine TAv.fst I hq fun ds st1 vs H1 μ1 F1 e1 I1 S1 r1 po hq => ?_
    refine TAv.nxt S1 I1 hq fun ds2 st2 vs2 H2 μ2 F2 e2 I2 S2 r2 po2 hq => ?_
    obtain ⟨z1, z2⟩ := fin I I2 (S1.trans S2) (r1.step S2 fun a ha => (po a ha).2.1) r2 (fun a ha => ⟨(po a ha).1, S2.notin (r1.there a ha) (po a ha).2.1, (po a ha).2.2⟩) po2 hq
    exact ⟨by rw [← r1.length]; exact evEs_len h5 e1, by rw [← r2.length, evEs_len h6 e2]; exact kw_len h7, z1, h8, z2⟩

/-! ### boxes -/
theorem snd_box (he : Snd m g k e p) (hn : p.new = true) : Snd m g k (.box e) (.new1 []) := by
  intro c sc X x hg ok h
  have h1 : mE m e sc x = true := by
    have : (mE m e sc x && plainX x) = true := by
      rw [← h]
      cases x <;> simp [mE]
    rw [Bool.and_eq_true] at this
    exact this.1
  refine (he c sc X x hg ok h1).mono fun σ H Q ⟨env, st, μ, G, I, hq⟩ => ?_
  rw [evE] at hq
  refine TEv.fst I hq fun x1 st1 v1 H1 μ1 t1 F1 I1 S1 r1 hq => ?_
  obtain ⟨r, po⟩ := r1
  cases r <;> first | exact hq.elim | skip
  rename_i a vs ds e1 r
  simp only at hq
  split at hq
  · rename_i hn2
    have hF := Reps.noL r hn2
    subst hF
    have ht := po.top a (by simp)
    rw [if_pos hn] at ht
    have ha : a ∉ μ1 := (po.out a (by simp)).1
    have S2 : Step μ H (μ1 ++ [a]) H1 := ⟨S1.keep, S1.tups, S1.frzs, S1.dom, by
      obtain ⟨ν, rfl, hν⟩ := S1.ext
      refine ⟨ν ++ [a], by simp, fun b hb => ?_⟩
      rcases List.mem_append.mp hb with hb | hb
      · exact hν b hb
      · rw [List.mem_singleton.mp hb]; exact ht.1⟩
    refine hq (.ref a) H1 (μ1 ++ [a]) [] [] (I.after S2 (fun k' xs' e' => ?_) (by rw [List.length_append, List.length_append, I1.muLen] <;> rfl) ?_) S2 (.ref ?_) .nil
    · by_cases hk : k' < st1.length
      · rw [List.getElem?_append_left hk] at e'
        obtain ⟨a', vs', e2, e3, r2⟩ := I1.box k' xs' e'
        exact ⟨a', vs', by rw [List.getElem?_append_left (by rw [I1.muLen]; exact hk)]; exact e2, e3, Reps.moreMu r2⟩
      · rw [List.getElem?_append_right (by omega)] at e'
        have hk2 : k' - st1.length = 0 := by
          cases z : k' - st1.length with
          | zero => rfl
          | succ n => rw [z] at e'; simp at e'
        rw [hk2] at e'
        cases e'
        refine ⟨a, vs, ?_, e1, Reps.moreMu r⟩
        rw [List.getElem?_append_right (by rw [I1.muLen]; omega), I1.muLen, hk2] <;> rfl
    · rw [List.nodup_append]
      exact ⟨I1.muNd, by simp, fun b hb d hd => by
        rw [List.mem_singleton.mp hd]
        intro z
        exact ha (by rw [← z]; exact hb)⟩
    · rw [List.getElem?_append_right (by rw [I1.muLen]; omega), I1.muLen, Nat.sub_self] <;> rfl
  · exact hq.elim
end
end WT
end

section
set_option Elab.async false
set_option linter.all false
set_option maxRecDepth 100000
set_option autoImplicit false
/-! K9: tests. -/
namespace WT
open PySem PySem.Spec PyProof.Rows L2

def plainT : Expr → Bool
  | .Compare _ _ _ _ => false
  | .BoolOp _ _ _ => false
  | .UnaryOp .Not _ _ => false
  | .IfExp _ _ _ _ => false
  | _ => true
theorem isTrue_of {x : Expr} (h : plainT x = true) (env : PySem.Env) : ∀ whole, isTrue x env whole = (do let v ← whole; standAt x.pos; holding [v] (truthy v)) := by
  intro whole
  cases x with
  | UnaryOp op _ _ => cases op <;> first | rfl | (cases h; done)
  | _ => first | rfl | (cases h; done)
theorem _root_.L2.PT.pw {X : Cx} {op : BoolOp} {es : List Expr} {pos : Pos} {t : TT} (h : PT X (.BoolOp op es pos) t) : PW X (.BoolOp op es pos) t := ⟨fun _ pins s σ H Q I q => h.run pins s σ H Q I q⟩
section
variable {m : MC} {g : GE} {k : Nat} {a b d e : E} {es kes : Es} {p q r : Pv}
theorem sndt_val (he : Snd m g k e p) (hp : ∀ sc x, mE m e sc x = true → plainT x = true) : SndT m g k e := by
  intro c sc X x hg ok h ht
  refine (pt_truth (he c sc X x hg ok h) (isTrue_of (hp sc x h) X.env)).mono fun σ H Q ⟨env, st, μ, G, I, hq⟩ => ?_
  unfold evC at hq
  rw [Fin.bind] at hq
  exact ⟨env, st, μ, G, I, hq.mono (fun x1 st1 _ hx v H1 μ1 t F I1 S1 r po => by
    obtain ⟨b, e1, hx⟩ := Fin.ofO hx
    exact ⟨b, r.tru e1, hx H1 μ1 I1 S1⟩) fun _ _ _ hx => hx⟩
theorem evC_not {env : Env} {st : Sto} : evC g (.not a) env st = (evC g a env st).bind fun b st1 => .ok (!b) st1 := by
  unfold evC
  rw [evE]
  cases evE g a env st with
  | ok x st1 =>
    simp only [R.bind_ok]
    cases truD st1 x with
    | none => rfl
    | some b => cases b <;> rfl
  | exn _ _ _ => rfl
  | bad => rfl
theorem evC_and {env : Env} {st : Sto} : evC g (.and a b) env st = (evC g a env st).bind fun k st1 => if k = true then evC g b env st1 else .ok false st1 := by
  unfold evC
  rw [evE]
  cases evE g a env st with
  | ok x st1 =>
    simp only [R.bind_ok]
    cases e1 : truD st1 x with
    | none => rfl
    | some b => cases b <;> simp [e1]
  | exn _ _ _ => rfl
  | bad => rfl
theorem evC_or {env : Env} {st : Sto} : evC g (.or a b) env st = (evC g a env st).bind fun k st1 => if k = true then .ok true st1 else evC g b env st1 := by
  unfold evC
  rw [evE]
  cases evE g a env st with
  | ok x st1 =>
    simp only [R.bind_ok]
    cases e1 : truD st1 x with
    | none => rfl
    | some b => cases b <;> simp [e1]
  | exn _ _ _ => rfl
  | bad => rfl
theorem sndt_not (ha : SndT m g k a) : SndT m g k (.not a) := by
  intro c sc X x hg ok h ht
  cases x with
  | UnaryOp op x pos =>
    cases op with
    | Not =>
      simp only [mE] at h
      refine (pt_not (ha c sc X x hg ok h (by simpa [tOk] using ht))).mono fun σ H Q ⟨env, st, μ, G, I, hq⟩ => ?_
      rw [evC_not, Fin.bind] at hq
      exact ⟨env, st, μ, G, I, hq.mono (fun b st1 _ hx H1 μ1 I1 S1 => hx H1 μ1 I1 S1) fun _ _ _ hx => hx⟩
    | _ => simp [mE] at h
  | _ => simp [mE] at h
theorem sndt_and (ha : SndT m g k a) (hb : SndT m g k b) : SndT m g k (.and a b) := by
  intro c sc X x hg ok h ht
  rw [tOk, Bool.and_eq_true] at ht
  obtain ⟨y, z, r, pos, rfl, h1, h2⟩ := bool_shape h
  have hB : PW X (.BoolOp .And (z :: r) pos) (TTv c X.K (evC g b)) := by
    rcases h2 with ⟨rfl, h2⟩ | ⟨_, h2⟩
    · exact pw_and1 (hb c sc X z hg ok h2 ht.2)
    · exact (hb c sc X _ hg ok h2 ht.2).pw
  refine (pw_and (ha c sc X y hg ok h1 ht.1) hB).pt.mono fun σ H Q ⟨env, st, μ, G, I, hq⟩ => ?_
  rw [evC_and, Fin.bind] at hq
  refine ⟨env, st, μ, G, I, hq.mono (fun b st1 _ hx H1 μ1 I1 S1 => ?_) fun _ _ _ hx => hx⟩
  cases b with
  | false => exact hx H1 μ1 I1 S1
  | true => exact ⟨env, st1, μ1, G, I1, Fin.mono hx (fun b st2 _ hy H2 μ2 I2 S2 => hy H2 μ2 I2 (S1.trans S2)) fun _ _ _ hx => hx.step S1⟩
theorem sndt_or (ha : SndT m g k a) (hb : SndT m g k b) : SndT m g k (.or a b) := by
  intro c sc X x hg ok h ht
  rw [tOk, Bool.and_eq_true] at ht
  obtain ⟨y, z, r, pos, rfl, h1, h2⟩ := bool_shapeO h
  have hB : PW X (.BoolOp .Or (z :: r) pos) (TTv c X.K (evC g b)) := by
    rcases h2 with ⟨rfl, h2⟩ | ⟨_, h2⟩
    · exact pw_or1 (hb c sc X z hg ok h2 ht.2)
    · exact (hb c sc X _ hg ok h2 ht.2).pw
  refine (pw_or (ha c sc X y hg ok h1 ht.1) hB).pt.mono fun σ H Q ⟨env, st, μ, G, I, hq⟩ => ?_
  rw [evC_or, Fin.bind] at hq
  refine ⟨env, st, μ, G, I, hq.mono (fun b st1 _ hx H1 μ1 I1 S1 => ?_) fun _ _ _ hx => hx⟩
  cases b with
  | true => exact hx H1 μ1 I1 S1
  | false => exact ⟨env, st1, μ1, G, I1, Fin.mono hx (fun b st2 _ hy H2 μ2 I2 S2 => hy H2 μ2 I2 (S1.trans S2)) fun _ _ _ hx => hx.step S1⟩
theorem okT.of {c : Cfg} {K : PySem.W.Frag} {env : Env} {μ : List Addr} {G : Addr → Option Nat} {σ : St} {H : Hp} {Q : Bool → Hp → Prop} {r : R Bool} (h : Fin (okT c K env μ G σ H Q) (exE c K env μ G σ H) r) :
    Fin (okE c K (.new1 []) env μ G σ H fun v H' => ∃ b, v = .bl b ∧ Q b H') (exE c K env μ G σ H) (r.bind fun b st => .ok (.bl b) st) := by
  rw [Fin.bind]
  exact h.mono (fun b st _ hx v H1 μ1 t F I1 S1 r po => by
    cases r
    exact ⟨b, rfl, hx H1 μ1 I1 S1⟩) fun _ _ _ hx => hx
theorem evC_val {env : Env} {st : Sto} (h : ∀ x st1, evE g e env st = .ok x st1 → ∃ b, x = .bl b) : ((evC g e env st).bind fun b st1 => R.ok (D.bl b) st1) = evE g e env st := by
  unfold evC
  cases e1 : evE g e env st with
  | bad => rfl
  | exn _ _ _ => rfl
  | ok x st1 =>
    obtain ⟨b, rfl⟩ := h x st1 e1
    cases b <;> rfl
/-- a comparison as a test: what it says as a value -/
theorem pt_cmp_of {c : Cfg} {X : Cx} {x : Expr} {t : TE} (hp : PT X x (tTest t)) (hm : ∀ σ H Q, TEv c X.K (.new1 []) (evE g e) σ H Q → t σ H Q) (hv : ∀ env st x st1, evE g e env st = .ok x st1 → ∃ b, x = .bl b) : PT X x (TTv c X.K (evC g e)) := by
  refine hp.mono fun σ H Q ⟨env, st, μ, G, I, hq⟩ => ?_
  exact hm σ H _ ⟨env, st, μ, G, I, by rw [← evC_val (hv env st)]; exact okT.of hq⟩
theorem R.bind_eq {α β : Type} {r : R α} {f : α → Sto → R β} {y : β} {st : Sto} (h : r.bind f = .ok y st) : ∃ x st1, r = .ok x st1 ∧ f x st1 = .ok y st := by
  cases r with
  | ok x st1 => exact ⟨x, st1, rfl, h⟩
  | exn _ _ _ => cases h
  | bad => cases h
theorem R.ofO_eq {α : Type} {o : Option α} {y : α} {st st1 : Sto} (h : R.ofO st1 o = .ok y st) : o = some y ∧ st1 = st := by
  cases o with
  | none => cases h
  | some a => cases h; exact ⟨rfl, rfl⟩
theorem sndt_cmp {op : CmpOp} (ha : Snd m g k a p) (hb : Snd m g k b q) : SndT m g k (.cmp op a b) := by
  intro c sc X x hg ok h ht
  cases x with
  | Compare x ops ys pos =>
    match ops, ys, h with
    | [op'], [y], h =>
      simp only [mE, Bool.and_eq_true, decide_eq_true_eq, Bool.not_eq_true'] at h
      obtain ⟨⟨⟨rfl, h1⟩, h2⟩, h3⟩ := h
      refine pt_cmp_of (pt_cmpR (op_cmp_v ok.room.units op) (ha c sc X x hg ok h1) (hb c sc X y hg ok h2) h3) (fun σ H Q ⟨env, st, μ, G, I, hq⟩ => ?_) fun env st x st1 e => ?_
      · rw [evE] at hq
        refine TEv.fst I hq fun x1 st1 v1 H1 μ1 t1 F1 I1 S1 r1 hq => ?_
        refine TEv.nxt S1 I1 hq fun x2 st2 v2 H2 μ2 t2 F2 I2 S2 r2 hq => ?_
        obtain ⟨z, e1, hq⟩ := Fin.ofO hq
        obtain ⟨b, e2, rfl⟩ := Option.map_eq_some_iff.mp e1
        exact ⟨_, _, _, _, _, _, _, _, (r1.step S2).rep, r2.rep, e2, okE.flat (p := .new1 []) hq I2 (S1.trans S2) (.bl _)⟩
      · rw [evE] at e
        obtain ⟨_, _, _, e⟩ := R.bind_eq e
        obtain ⟨_, _, _, e⟩ := R.bind_eq e
        obtain ⟨b, e2, rfl⟩ := Option.map_eq_some_iff.mp (R.ofO_eq e).1
        exact ⟨b, rfl⟩
    | [], _, h => simp [mE] at h
    | _ :: _ :: _, _, h => simp [mE] at h
    | [_], [], h => simp [mE] at h
    | [_], _ :: _ :: _, h => simp [mE] at h
  | _ => simp [mE] at h
theorem sndt_cmp2 {op op2 : CmpOp} (ha : Snd m g k a p) (hb : Snd m g k b q) (hd : Snd m g k d r) : SndT m g k (.cmp2 op op2 a b d) := by
  intro c sc X x hg ok h ht
  obtain ⟨y, z, w, pos, rfl, h1, h2, h3, h4⟩ := cmp2_shape h
  refine pt_cmp_of (pt_chain (op_cmp_v ok.room.units op) (op_cmp_v ok.room.units op2) (ha c sc X y hg ok h1) (hb c sc X z hg ok h2) (hd c sc X w hg ok h3) (show behindInMarks op2 w = false from h4)) (fun σ H Q ⟨env, st, μ, G, I, hq⟩ => ?_) fun env st x st1 e => ?_
  · rw [evE] at hq
    refine TEv.fst I hq fun x1 st1 v1 H1 μ1 t1 F1 I1 S1 r1 hq => ?_
    refine TEv.nxt S1 I1 hq fun x2 st2 v2 H2 μ2 t2 F2 I2 S2 r2 hq => ?_
    cases e1 : cmpD op x1 x2 with
    | none => rw [e1] at hq; exact hq.elim
    | some b =>
      rw [e1] at hq
      refine ⟨_, _, _, _, _, _, _, _, (r1.step S2).rep, r2.rep, e1, b, rfl, ?_⟩
      cases b with
      | false => exact okE.flat (p := .new1 []) hq I2 (S1.trans S2) (.bl _)
      | true =>
        simp only [ite_true]
        refine TEv.nxt (S1.trans S2) I2 hq fun x3 st3 v3 H3 μ3 t3 F3 I3 S3 r3 hq => ?_
        obtain ⟨z, e2, hq⟩ := Fin.ofO hq
        obtain ⟨b, e3, rfl⟩ := Option.map_eq_some_iff.mp e2
        exact ⟨_, _, _, _, _, _, _, _, (r2.step S3).rep, r3.rep, e3, okE.flat (p := .new1 []) hq I3 ((S1.trans S2).trans S3) (.bl _)⟩
  · rw [evE] at e
    obtain ⟨x1, _, _, e⟩ := R.bind_eq e
    obtain ⟨x2, _, _, e⟩ := R.bind_eq e
    cases e1 : cmpD op x1 x2 with
    | none => rw [e1] at e; cases e
    | some b =>
      rw [e1] at e
      cases b with
      | false => cases e; exact ⟨_, rfl⟩
      | true =>
        obtain ⟨_, _, _, e⟩ := R.bind_eq e
        obtain ⟨b, e2, rfl⟩ := Option.map_eq_some_iff.mp (R.ofO_eq e).1
        exact ⟨b, rfl⟩
end
end WT
end

section
set_option Elab.async false
set_option linter.all false
set_option maxRecDepth 100000
set_option autoImplicit false
/-! K10: what is walked. -/
namespace WT
open PySem PySem.Spec PyProof.Rows L2

section
variable {K : PySem.W.Frag} {H H' H1 H2 : Hp} {μ μ' μ1 μ2 : List Addr} {L L' : Addr → Prop}
/-- a step that keeps the lists of L -/
structure SL (L : Addr → Prop) (μ : List Addr) (H : Hp) (μ' : List Addr) (H' : Hp) : Prop where
  keep : ∀ a o, H a = some o → a ∉ μ → L a → H' a = some o
  tups : ∀ a xs, H a = some (.tup xs) → H' a = some (.tup xs)
  frzs : ∀ a o u, H a = some (.frz o u) → H' a = some (.frz o u)
  dom : ∀ a, H a ≠ none → H' a ≠ none
  ext : ∃ ν, μ' = μ ++ ν ∧ ∀ a ∈ ν, H a = none
theorem Step.sl (s : Step μ H μ' H') : SL L μ H μ' H' := ⟨fun a o h n _ => s.keep a o h n, s.tups, s.frzs, s.dom, s.ext⟩
theorem SL.refl : SL L μ H μ H := Step.refl.sl
theorem SL.notin (s : SL L μ H μ' H') {a : Addr} (h : H a ≠ none) (n : a ∉ μ) : a ∉ μ' := by
  obtain ⟨ν, rfl, hν⟩ := s.ext
  intro z
  rcases List.mem_append.mp z with z | z
  · exact n z
  · exact h (hν a z)
theorem SL.trans (s : SL L μ H μ1 H1) (r : SL L' μ1 H1 μ2 H2) (hL : ∀ a, H a ≠ none → a ∉ μ → L a → L' a) : SL L μ H μ2 H2 where
  keep := fun a o h n l => r.keep a o (s.keep a o h n l) (s.notin (by rw [h]; simp) n) (hL a (by rw [h]; simp) n l)
  tups := fun a xs h => r.tups a xs (s.tups a xs h)
  frzs := fun a o u h => r.frzs a o u (s.frzs a o u h)
  dom := fun a h => r.dom a (s.dom a h)
  ext := by
    obtain ⟨ν, rfl, hν⟩ := s.ext
    obtain ⟨ν', rfl, hν'⟩ := r.ext
    refine ⟨ν ++ ν', by simp, fun a h => ?_⟩
    rcases List.mem_append.mp h with h | h
    · exact hν a h
    · cases e : H a with
      | none => rfl
      | some o => exact absurd (hν' a h) (s.dom a (by rw [e]; simp))
theorem SL.weak (s : SL L μ H μ' H') (h : ∀ a, L' a → L a) : SL L' μ H μ' H' := ⟨fun a o e n l => s.keep a o e n (h a l), s.tups, s.frzs, s.dom, s.ext⟩
theorem SL.wasNone (s : SL L μ H μ' H') {a : Addr} (h : H' a = none) : H a = none := by
  cases e : H a with
  | none => rfl
  | some o => exact absurd h (s.dom a (by rw [e]; simp))
theorem SqT.sl {a : Addr} {vs : List V} (h : SqT K H a vs) (s : SL L μ H μ' H') : SqT K H' a vs := by
  rcases h with (h | ⟨o, h⟩) | h
  · exact .inl (.inl (s.tups _ _ h))
  · exact .inl (.inr ⟨o, s.frzs _ _ _ h⟩)
  · exact .inr h
theorem Fz.sl {a : Addr} {ns : List Int} (h : Fz K H a ns) (s : SL L μ H μ' H') : Fz K H' a ns := by
  rcases h with ⟨o, h⟩ | h
  · exact .inl ⟨o, s.frzs _ _ _ h⟩
  · exact .inr h
mutual
theorem Rep.sl : ∀ {d : D} {v : V} {t F : List Addr}, Rep K H μ d v t F → SL L μ H μ' H' → (∀ a ∈ t ++ F, a ∉ μ ∧ L a) → Rep K H' μ' d v t F
  | _, _, _, _, .non, _, _ => .non
  | _, _, _, _, .bl b, _, _ => .bl b
  | _, _, _, _, .int b, _, _ => .int b
  | _, _, _, _, .str b, _, _ => .str b
  | _, _, _, _, .tup e r, s, n => .tup (SqT.sl e s) (Reps.sl r s fun a h => n a (by simpa using h))
  | _, _, _, _, .lst e r, s, n => .lst (s.keep _ _ e (n _ (by simp)).1 (n _ (by simp)).2) (Reps.sl r s fun a h => n a (by simp [h]))
  | _, _, _, _, .frz e, s, _ => .frz (Fz.sl e s)
  | _, _, _, _, .dT e h1 h2 h3 h4 h5 r hF, s, n => .dT (s.keep _ _ e (n _ (by simp)).1 (n _ (by simp)).2) h1 h2 h3 (h4.mono fun _ _ z => SqT.sl z s) h5 (Reps.sl r s fun a h => by rw [hF] at h; simp at h) hF
  | _, _, _, _, .dK e h1 h2 r hF, s, n => .dK (s.keep _ _ e (n _ (by simp)).1 (n _ (by simp)).2) h1 h2 (Reps.sl r s fun a h => by rw [hF] at h; simp at h) hF
  | _, _, _, _, .ref e, s, _ => .ref (by
      obtain ⟨ν, rfl, _⟩ := s.ext
      rw [List.getElem?_append_left (List.getElem?_eq_some_iff.mp e).1]
      exact e)
theorem Reps.sl : ∀ {ds : List D} {vs : List V} {F : List Addr}, Reps K H μ ds vs F → SL L μ H μ' H' → (∀ a ∈ F, a ∉ μ ∧ L a) → Reps K H' μ' ds vs F
  | _, _, _, .nil, _, _ => .nil
  | _, _, _, .cons r t, s, n => .cons (Rep.sl r s fun a h => n a (List.mem_append_left _ h)) (Reps.sl t s fun a h => n a (List.mem_append_right _ h))
end
theorem SL.new {p : Addr} {o : HO} (h : H p = none) : SL L μ H μ (upd H p o) := (Step.new h).sl
end

/-- an iterator walks xs: L are its lists, l says whose the items' lists may be -/
structure Wk (K : PySem.W.Frag) (ok : Addr → Prop) (G : Addr → Option Nat) (l : List Nat) (J : L2.It) (xs : List D) (L : List Addr) (μ1 : List Addr) (H1 : Hp) : Prop where
  there : ∀ a ∈ L, H1 a ≠ none ∧ a ∉ μ1
  stop : ∀ μ H i, SL (· ∈ L) μ1 H1 μ H → xs.length ≤ i → J.stop i H
  go : ∀ μ H i x, SL (· ∈ L) μ1 H1 μ H → xs[i]? = some x → J.go i H ∧ ∀ v H', J.yld i H v H' → New1 H H' ∧ ∃ t F, Rep K H' μ x v t F ∧ ∀ a ∈ t ++ F, a ∈ L ∧ (G a = none ∨ ∃ i ∈ l, G a = some i) ∧ ok a
def okI (c : Cfg) (K : PySem.W.Frag) (l lt : List Nat) (env : Env) (μ : List Addr) (G : Addr → Option Nat) (σ : St) (H : Hp) (R : L2.It → Hp → Prop) : List D → Sto → Prop := fun xs st' =>
  ∀ J H' μ' L, SI K c.ow c.Ok env st' μ' G σ H' → Step μ H μ' H' → Wk K c.Ok G l J xs L μ' H' → (∀ a ∈ L, (G a = none ∨ ∃ i ∈ lt, G a = some i) ∧ c.Ok a) → R J H'
def TIv (c : Cfg) (K : PySem.W.Frag) (l lt : List Nat) (s : Env → Sto → WT.R (List D)) : TI := fun σ H R => ∃ env st μ G, SI K c.ow c.Ok env st μ G σ H ∧ Fin (okI c K l lt env μ G σ H R) (exE c K env μ G σ H) (s env st)
def itP : WT.It → Bool
  | .enum _ => true
  | .zip _ _ => true
  | _ => false
def SndI (m : MC) (g : GE) (k : Nat) (it : WT.It) (l lt : List Nat) : Prop := ∀ (c : Cfg) (sc : Scope) (X : Cx) (tg x : Expr), c.g = g → XOk m c k sc X → mIt m it sc x = true → (itP it = true → ∃ elts kk tpos, tg = .Tuple elts kk tpos) → PI X tg x (TIv c X.K l lt (evIt g it))
theorem _root_.L2.PI.mono {X : Cx} {tg e : Expr} {t t' : TI} (h : PI X tg e t) (m : ∀ σ H Q, t' σ H Q → t σ H Q) : PI X tg e t' := ⟨fun pins s σ H Q I q => h.run pins s σ H Q I (m σ H Q q)⟩

/-! ### the walkers -/
section
variable {K : PySem.W.Frag} {ok : Addr → Prop} {G : Addr → Option Nat} {l : List Nat} {xs ys : List D} {vs ws : List V} {F F' : List Addr} {μ1 : List Addr} {H1 : Hp} {a b : Addr}
theorem Wk.mu {J : L2.It} {L : List Addr} (w : Wk K ok G l J xs L μ1 H1) {μ : List Addr} {H : Hp} (s : SL (· ∈ L) μ1 H1 μ H) : ∀ a ∈ L, a ∉ μ := fun a ha => s.notin (w.there a ha).1 (w.there a ha).2
theorem wk_list (h : H1 a = some (.lst vs)) (r : Reps K H1 μ1 xs vs F) (n : ∀ b ∈ a :: F, b ∉ μ1) (hF : ∀ b ∈ F, (G b = none ∨ ∃ i ∈ l, G b = some i) ∧ ok b) : Wk K ok G l (Itl K a) xs (a :: F) μ1 H1 where
  there := fun b hb => ⟨by
    rcases List.mem_cons.mp hb with hb | hb
    · rw [hb, h]; simp
    · exact r.there b hb, n b hb⟩
  stop := fun μ H i s hl => ⟨vs, .inl (.inl (s.keep a _ h (n a (by simp)) (by simp))), by rw [← r.length]; exact hl⟩
  go := fun μ H i x s hx => by
    have hq : SqL K H a vs := .inl (.inl (s.keep a _ h (n a (by simp)) (by simp)))
    have r2 := r.sl s fun b hb => ⟨n b (List.mem_cons_of_mem _ hb), List.mem_cons_of_mem _ hb⟩
    obtain ⟨v, t, F2, e, rv, hs⟩ := r2.get hx
    refine ⟨⟨vs, v, hq, e⟩, fun v' H' hy => ?_⟩
    obtain ⟨rfl, hy⟩ := hy
    have e2 := hy vs hq
    rw [e] at e2
    cases e2
    exact ⟨.inl rfl, t, F2, rv, fun b hb => ⟨List.mem_cons_of_mem _ (hs b hb), hF b (hs b hb)⟩⟩
theorem wk_tup (h : SqT K H1 a vs) (r : Reps K H1 μ1 xs vs F) (n : ∀ b ∈ F, b ∉ μ1) (hF : ∀ b ∈ F, (G b = none ∨ ∃ i ∈ l, G b = some i) ∧ ok b) : Wk K ok G l (Itt K a) xs F μ1 H1 where
  there := fun b hb => ⟨r.there b hb, n b hb⟩
  stop := fun μ H i s hl => ⟨vs, SqT.sl h s, by rw [← r.length]; exact hl⟩
  go := fun μ H i x s hx => by
    have hq : SqT K H a vs := SqT.sl h s
    have r2 := r.sl s fun b hb => ⟨n b hb, hb⟩
    obtain ⟨v, t, F2, e, rv, hs⟩ := r2.get hx
    refine ⟨⟨vs, v, hq, e⟩, fun v' H' hy => ?_⟩
    obtain ⟨rfl, hy⟩ := hy
    have e2 := hy vs hq
    rw [e] at e2
    cases e2
    exact ⟨.inl rfl, t, F2, rv, fun b hb => ⟨hs b hb, hF b (hs b hb)⟩⟩
theorem wk_rng {lo : Int} {n : Nat} : Wk K ok G l (Itr lo n) ((List.range n).map fun (k : Nat) => D.int (lo + k)) [] μ1 H1 where
  there := fun b hb => by simp at hb
  stop := fun μ H i s hl => (by simpa using hl : n ≤ i)
  go := fun μ H i x s hx => by
    have hi : i < n := Nat.lt_of_not_le fun z => by
      rw [List.getElem?_eq_none (by simpa using z)] at hx
      cases hx
    rw [List.getElem?_map, List.getElem?_range] at hx
    · cases hx
      refine ⟨hi, fun v H' hy => ?_⟩
      obtain ⟨rfl, rfl⟩ := hy
      exact ⟨.inl rfl, [], [], .int _, fun b hb => by simp at hb⟩
    · exact hi
theorem wk_rngC {lo : Int} {n : Nat} : Wk K ok G l (Itc lo (-1) n) ((List.range n).map fun (k : Nat) => D.int (lo - k)) [] μ1 H1 where
  there := fun b hb => by simp at hb
  stop := fun μ H i s hl => (by simpa using hl : n ≤ i)
  go := fun μ H i x s hx => by
    have hi : i < n := Nat.lt_of_not_le fun z => by
      rw [List.getElem?_eq_none (by simpa using z)] at hx
      cases hx
    rw [List.getElem?_map, List.getElem?_range] at hx
    · cases hx
      refine ⟨hi, fun v H' hy => ?_⟩
      obtain ⟨rfl, rfl⟩ := hy
      refine ⟨.inl rfl, [], [], ?_, fun b hb => by simp at hb⟩
      rw [show lo + (i : Int) * -1 = lo - i by omega]
      exact .int _
    · exact hi
theorem wk_enum (h : H1 a = some (.lst vs)) (r : Reps K H1 μ1 xs vs F) (n : ∀ b ∈ a :: F, b ∉ μ1) (hF : ∀ b ∈ F, (G b = none ∨ ∃ i ∈ l, G b = some i) ∧ ok b) : Wk K ok G l (Ite K a) (enumD xs) (a :: F) μ1 H1 where
  there := fun b hb => ⟨by
    rcases List.mem_cons.mp hb with hb | hb
    · rw [hb, h]; simp
    · exact r.there b hb, n b hb⟩
  stop := fun μ H i s hl => ⟨vs, .inl (.inl (s.keep a _ h (n a (by simp)) (by simp))), by rw [← r.length]; simpa [enumD] using hl⟩
  go := fun μ H i x s hx => by
    have hq : SqL K H a vs := .inl (.inl (s.keep a _ h (n a (by simp)) (by simp)))
    have r2 := r.sl s fun b hb => ⟨n b (List.mem_cons_of_mem _ hb), List.mem_cons_of_mem _ hb⟩
    rw [enumD, List.getElem?_mapIdx] at hx
    obtain ⟨x, hx2, rfl⟩ := Option.map_eq_some_iff.mp hx
    have hx := hx2
    obtain ⟨v, t, F2, e, rv, hs⟩ := r2.get hx
    refine ⟨⟨vs, v, hq, e⟩, fun v' H' hy => ?_⟩
    obtain ⟨T, y, rfl, hT, rfl, hy⟩ := hy
    have e2 := hy vs hq
    rw [e] at e2
    cases e2
    have n1 : New1 H (upd H T (.tup [.int (i : Nat), v])) := .inr ⟨T, _, hT, rfl⟩
    have rr : Reps K (upd H T (.tup [.int (i : Nat), v])) μ [.int i, x] [.int (i : Nat), v] ([] ++ [] ++ (t ++ F2 ++ [])) := .cons (.int _) (.cons (rv.ext n1.keep) .nil)
    refine ⟨n1, [], _, .tup (.inl (.inl upd_same)) rr, fun b hb => ?_⟩
    have hb : b ∈ t ++ F2 := by simpa using hb
    exact ⟨List.mem_cons_of_mem _ (hs b hb), hF b (hs b hb)⟩
theorem wk_zip (h : H1 a = some (.lst vs)) (r : Reps K H1 μ1 xs vs F) (h' : H1 b = some (.lst ws)) (r' : Reps K H1 μ1 ys ws F') (n : ∀ x ∈ a :: b :: (F ++ F'), x ∉ μ1) (hF : ∀ b ∈ F ++ F', (G b = none ∨ ∃ i ∈ l, G b = some i) ∧ ok b) :
    Wk K ok G l (Itz K a b) (zipD xs ys) (a :: b :: (F ++ F')) μ1 H1 where
  there := fun x hb => ⟨by
    rcases List.mem_cons.mp hb with hb | hb
    · rw [hb, h]; simp
    · rcases List.mem_cons.mp hb with hb | hb
      · rw [hb, h']; simp
      · rcases List.mem_append.mp hb with hb | hb
        · exact r.there x hb
        · exact r'.there x hb, n x hb⟩
  stop := fun μ H i s hl => ⟨vs, ws, .inl (.inl (s.keep a _ h (n a (by simp)) (by simp))), .inl (.inl (s.keep b _ h' (n b (by simp)) (by simp))), by
    rw [← r.length, ← r'.length]
    have : min xs.length ys.length ≤ i := by simpa [zipD] using hl
    omega⟩
  go := fun μ H i x s hx => by
    have hq : SqL K H a vs := .inl (.inl (s.keep a _ h (n a (by simp)) (by simp)))
    have hq' : SqL K H b ws := .inl (.inl (s.keep b _ h' (n b (by simp)) (by simp)))
    have r2 := r.sl s fun b hb => ⟨n b (by simp [hb]), by simp [hb]⟩
    have r2' := r'.sl s fun b hb => ⟨n b (by simp [hb]), by simp [hb]⟩
    rw [zipD, List.getElem?_zipWith] at hx
    cases hx1 : xs[i]? with
    | none => rw [hx1] at hx; cases ys[i]? <;> cases hx
    | some x1 =>
      cases hx2 : ys[i]? with
      | none => rw [hx1, hx2] at hx; cases hx
      | some x2 =>
        rw [hx1, hx2] at hx
        cases hx
        obtain ⟨v, t, F2, e, rv, hs⟩ := r2.get hx1
        obtain ⟨v', t', F2', e', rv', hs'⟩ := r2'.get hx2
        refine ⟨⟨vs, ws, v, v', hq, hq', e, e'⟩, fun w H' hy => ?_⟩
        obtain ⟨T, y, y', rfl, hT, rfl, hy, hy'⟩ := hy
        have e2 := hy vs hq
        rw [e] at e2
        cases e2
        have e2 := hy' ws hq'
        rw [e'] at e2
        cases e2
        have n1 : New1 H (upd H T (.tup [v, v'])) := .inr ⟨T, _, hT, rfl⟩
        have rr : Reps K (upd H T (.tup [v, v'])) μ [x1, x2] [v, v'] (t ++ F2 ++ (t' ++ F2' ++ [])) := .cons (rv.ext n1.keep) (.cons (rv'.ext n1.keep) .nil)
        refine ⟨n1, [], _, .tup (.inl (.inl upd_same)) rr, fun b hb => ?_⟩
        have hb : b ∈ F ++ F' := by
          rcases List.mem_append.mp (show b ∈ t ++ F2 ++ (t' ++ F2' ++ []) from hb) with hb | hb
          · exact List.mem_append_left _ (hs b hb)
          · exact List.mem_append_right _ (hs' b (by simpa using hb))
        exact ⟨List.mem_cons_of_mem _ (List.mem_cons_of_mem _ hb), hF b hb⟩
theorem wk_zipT (h : SqT K H1 a vs) (r : Reps K H1 μ1 xs vs F) (h' : SqT K H1 b ws) (r' : Reps K H1 μ1 ys ws F') (n : ∀ x ∈ F ++ F', x ∉ μ1) (hF : ∀ b ∈ F ++ F', (G b = none ∨ ∃ i ∈ l, G b = some i) ∧ ok b) :
    Wk K ok G l (RZ.ItzT K a b) (zipD xs ys) (F ++ F') μ1 H1 where
  there := fun x hb => ⟨by
    rcases List.mem_append.mp hb with hb | hb
    · exact r.there x hb
    · exact r'.there x hb, n x hb⟩
  stop := fun μ H i s hl => ⟨vs, ws, SqT.sl h s, SqT.sl h' s, by
    rw [← r.length, ← r'.length]
    have : min xs.length ys.length ≤ i := by simpa [zipD] using hl
    omega⟩
  go := fun μ H i x s hx => by
    have hq : SqT K H a vs := SqT.sl h s
    have hq' : SqT K H b ws := SqT.sl h' s
    have r2 := r.sl s fun b hb => ⟨n b (by simp [hb]), by simp [hb]⟩
    have r2' := r'.sl s fun b hb => ⟨n b (by simp [hb]), by simp [hb]⟩
    rw [zipD, List.getElem?_zipWith] at hx
    cases hx1 : xs[i]? with
    | none => rw [hx1] at hx; cases ys[i]? <;> cases hx
    | some x1 =>
      cases hx2 : ys[i]? with
      | none => rw [hx1, hx2] at hx; cases hx
      | some x2 =>
        rw [hx1, hx2] at hx
        cases hx
        obtain ⟨v, t, F2, e, rv, hs⟩ := r2.get hx1
        obtain ⟨v', t', F2', e', rv', hs'⟩ := r2'.get hx2
        refine ⟨⟨vs, ws, v, v', hq, hq', e, e'⟩, fun w H' hy => ?_⟩
        obtain ⟨T, y, y', rfl, hT, rfl, hy, hy'⟩ := hy
        have e2 := hy vs hq
        rw [e] at e2
        cases e2
        have e2 := hy' ws hq'
        rw [e'] at e2
        cases e2
        have n1 : New1 H (upd H T (.tup [v, v'])) := .inr ⟨T, _, hT, rfl⟩
        have rr : Reps K (upd H T (.tup [v, v'])) μ [x1, x2] [v, v'] (t ++ F2 ++ (t' ++ F2' ++ [])) := .cons (rv.ext n1.keep) (.cons (rv'.ext n1.keep) .nil)
        refine ⟨n1, [], _, .tup (.inl (.inl upd_same)) rr, fun b hb => ?_⟩
        have hb : b ∈ F ++ F' := by
          rcases List.mem_append.mp (show b ∈ t ++ F2 ++ (t' ++ F2' ++ []) from hb) with hb | hb
          · exact List.mem_append_left _ (hs b hb)
          · exact List.mem_append_right _ (hs' b (by simpa using hb))
        exact ⟨hb, hF b hb⟩
end
end WT
end

section
set_option Elab.async false
set_option linter.all false
set_option maxRecDepth 100000
set_option maxHeartbeats 1000000
set_option autoImplicit false
/-! K10e: enumerate over a tuple. -/
namespace WT
open PySem PySem.Spec PyProof.Rows L2
open PySem.Sem (wp)
theorem meets_enumerate_newT (l : Addr) (items : Array Value) :
    Meets (Builtin.«enumerate.__new__» ⟨[.type "enumerate", .ref l], []⟩) (fun _ R s => s.heap.IsTuple l items ∧
      R (.ok (.ret (.ref (s.heap.push { cls := .type "tuple_iterator", data := .fields #[.ref l, .int 0 0] }).objs.size)))
        { s with heap := (s.heap.push { cls := .type "tuple_iterator", data := .fields #[.ref l, .int 0 0] }).push { cls := .type "enumerate", data := .fields #[.none, .bool false, .ref s.heap.objs.size, rawInt 0, .none, .none] } }) :=
  .of_wp fun prog w A R s h => by
    obtain ⟨hp, g, d, tk, os⟩ := s; obtain ⟨hl, h⟩ := h
    have hsub := sub_enumerate
    have hL : Heap.IsTuple (Shared.heap ⟨hp, g, d, tk, os⟩) l items := hl
    obtain ⟨⟨c, dct, dt, sl⟩, hq, hc, n, hd⟩ := hl
    replace hc : c = .type "tuple" := hc
    replace hd : dt = .seq items n := hd
    subst hc hd
    wp_walk using AutoSeq1.wpAny_loadPart' hq
    refine wpAny_stack_any fun st => wpAny_pure ?_
    split
    · rename_i c _ _ _ _ _
      cases (c == Value.type "enumerate")
      · wp_walk using AutoSeq1.wpAny_loadPart' hq, wpAny_pyIter_tuple hL
        exact ⟨_, rfl, h⟩
      · wp_walk using AutoSeq1.wpAny_loadPart' hq, wpAny_pyIter_tuple hL
        exact ⟨_, rfl, h⟩
    · wp_walk using AutoSeq1.wpAny_loadPart' hq, wpAny_pyIter_tuple hL
      exact ⟨_, rfl, h⟩
section
variable {prog : Program} {w : World} {A : Around} {E : Value → Shared → Prop} {s : Shared}
theorem call_enumerate_tuple {l : Addr} {items : Array Value} {Q : Value → Shared → Prop} (hL : s.heap.IsTuple l items)
    (h : ∀ h', IsEnum h' (s.heap.objs.size + 1) s.heap.objs.size 0 .none → h'.IsTupleIter s.heap.objs.size l 0 → h'.objs.size = s.heap.objs.size + 2 →
      (∀ b o, s.heap.get? b = some o → h'.get? b = some o) → Q (.ref (s.heap.objs.size + 1)) { s with heap := h' }) :
    wpAny (model prog w) A (call (.type "enumerate") [.ref l]) Q E s := by
  refine callType_new F.called_enumerate (by decide) (F.typeCall_enumerate_1 _) (F.newCall_enumerate_1 _) (fun obj => F.args_object_init_2 obj _) F.entry_enumerate_new
    (meets_enumerate_newT l items) ⟨hL, ?_⟩
  have hz : (s.heap.push { cls := .type "tuple_iterator", data := .fields #[.ref l, .int 0 0] }).objs.size = s.heap.objs.size + 1 := Heap.size_push ..
  show _ ∧ _
  rw [hz]
  have he : IsEnum ((s.heap.push { cls := .type "tuple_iterator", data := .fields #[.ref l, .int 0 0] }).push
      { cls := .type "enumerate", data := .fields #[.none, .bool false, .ref s.heap.objs.size, rawInt 0, .none, .none] }) (s.heap.objs.size + 1) s.heap.objs.size 0 .none := by
    have := Heap.get?_push_size (s.heap.push { cls := .type "tuple_iterator", data := .fields #[.ref l, .int 0 0] })
      (o := { cls := .type "enumerate", data := .fields #[.none, .bool false, .ref s.heap.objs.size, rawInt 0, .none, .none] }) rfl
    rw [hz] at this; exact this
  refine ⟨⟨_, he, rfl⟩, h _ he ⟨_, Heap.get?_push_of_some _ (Heap.get?_push_size _ rfl), rfl, rfl⟩ (by rw [Heap.size_push, hz]) fun b o x => Heap.get?_push_of_some _ (Heap.get?_push_of_some _ x)⟩
end
theorem draws_tuple {prog : Program} {w : World} {A : Around} (hh : A.handled = none) (it l : Addr) (hne : l ≠ it) (items : Array Value) :
    Draws prog w A it [it, l] items.size (fun i v => items[i]? = some v) (fun i h => h.IsTupleIter it l i ∧ h.IsTuple l items) where
  live := fun _ _ st => let ⟨o, ho, _⟩ := st.1; ⟨o, ho⟩
  frame := fun _ _ _ st hk => ⟨st.1.at fun o e => hk it (by simp) o e, let ⟨o, ho, r⟩ := st.2; ⟨o, hk l (by simp) o ho, r⟩⟩
  item := fun i s Q E hi st hQ => by
    refine RZ.nextOf_tuple_item st.1 st.2 (x := items[i]) (by simp [hi]) fun h' hit' hs' => ?_
    exact hQ _ h' s.toks (by simp [hi]) ⟨hit', let ⟨o, ho, r⟩ := st.2; ⟨o, (hs'.2 l hne).trans ho, r⟩⟩ hs'
  done := fun s Q E st hE => RZ.nextOf_tuple_end hh st.1 st.2 (by simp) hE
/-- the tuple at a, each item in a new pair -/
def IteT (K : PySem.W.Frag) (a : Addr) : L2.It :=
  ⟨fun i H => ∃ (xs : List V) (x : V), SqT K H a xs ∧ xs[i]? = some x, fun i H v H' => ∃ T x, v = .ref T ∧ H T = none ∧ H' = upd H T (.tup [.int (i : Nat), x]) ∧ ∀ xs, SqT K H a xs → xs[i]? = some x, fun i H => ∃ xs : List V, SqT K H a xs ∧ xs.length ≤ i⟩
theorem turn_enumT {P : Program} {w : World} {K : PySem.W.Frag} {elts : List Expr} {kk : Nat} {tpos : Pos} (a e it : Addr) :
    Turn P w K (.Tuple elts kk tpos) (IteT K a) [e, it] e (fun i h => (∃ old, IsEnum h e it ((i : Nat) : Int) old) ∧ h.IsTupleIter it a i ∧ e ≠ it) where
  mem := by simp
  obj := fun i h st b hb => by
    obtain ⟨⟨old, he⟩, ⟨o, ho, hc, hd⟩, _⟩ := st
    have e' : b = e ∨ b = it := by simpa using hb
    rcases e' with z | z
    · rw [z]; exact ⟨_, he, fun v q => nomatch q⟩
    · rw [z]; exact ⟨o, ho, fun v q => by rw [hd] at q; cases q⟩
  keep := fun i h h' st k => let ⟨⟨old, he⟩, hi, hne⟩ := st; ⟨⟨old, k e (by simp) _ he⟩, hi.at fun o q => k it (by simp) o q, hne⟩
  item := by
    intro X hP hw hK hc i pins s σ H E I hf st hg
    subst hP hw hK
    obtain ⟨⟨old, he⟩, hit, hne⟩ := st
    obtain ⟨xs, x, hq, hx⟩ := hg
    obtain ⟨its, rv, p, hz⟩ := I.tuple hq
    obtain ⟨u, hu, ru⟩ := rv.get hx
    have hel : e < s.heap.objs.size := Heap.lt_size he
    have hil : it < s.heap.objs.size := by obtain ⟨_, q, _⟩ := hit; exact Heap.lt_size q
    have hea : e ≠ a := fun z => by
      obtain ⟨o, ho, hc, _⟩ := p
      rw [← z, he] at ho; cases ho; simp at hc
    have hia : a ≠ it := fun z => by
      obtain ⟨o, ho, hc, _⟩ := p
      obtain ⟨o', ho', hc', _⟩ := hit
      rw [z, ho'] at ho; cases ho; rw [hc'] at hc; simp at hc
    have D : Draws X.prog X.w X.A.in1 it [it, a] its.toArray.size _ _ := draws_tuple (show X.A.in1.handled = none from I.ok.hd hc) it a hia its.toArray
    have hlt : i < its.toArray.size := by
      have := (List.getElem?_eq_some_iff.mp hu).1
      simpa using this
    refine wpAny_pyNext_enum_itemD D he ⟨hit, p⟩ hlt hne (by simp [hne, hea]) fun x' h' tk hx' ho hst' hT hsz hk => ?_
    obtain rfl : x' = u := by
      have h1 : its.toArray[i]? = some x' := hx'
      simp only [List.getElem?_toArray] at h1
      rw [hu] at h1
      exact (Option.some.inj h1).symm
    have hit' := hst'.1
    refine ⟨_, rfl, wpAny_letOwnedTupleGo_enum (s := { s with heap := h', toks := tk + 1 }) ho fun h'' he' sb => ?_⟩
    have hT2 : h''.get? s.heap.objs.size = some { cls := .type "tuple", data := .seq #[.int i tk, x'] } := (sb.2 _ (Nat.ne_of_gt hel)).trans hT
    have new : ObjOk X.prog X.w (upd H s.heap.objs.size (.tup [.int (i : Nat), x])) h'' s.heap.objs.size (.tup [.int (i : Nat), x]) :=
      ⟨by show 2 ≤ sizeLine; decide, [.int i tk, x'], .cons ⟨_, rfl⟩ (.cons ru .nil), ⟨_, hT2, rfl, _, rfl⟩⟩
    have I1 : Inv X pins σ (upd H s.heap.objs.size (.tup [.int (i : Nat), x])) { s with heap := h'', toks := tk + 1 } :=
      I.turnedNew (ch := [e, it]) (fun b ob hb q => (sb.2 b (fun z => hb (by simp [z]))).trans (hk b ob (fun z => hb (by simp [z])) (fun z => hb (by simp [z])) q)) hf (Nat.le_refl _) new
    refine ⟨.ref s.heap.objs.size, _, I1, rfl, ⟨_, x, rfl, I.hok.fresh (Nat.le_refl _), rfl, fun ys hy => by rw [I.tuple_inj hy hq]; exact hx⟩, ⟨⟨x', ?_⟩, hit'.at fun o q => (sb.2 it (Ne.symm hne)).trans q, hne⟩, fun b hb => ?_⟩
    · have e1 : ((i + 1 : Nat) : Int) = (i : Int) + 1 := by omega
      rw [e1]; exact he'
    · have hb' : b < s.heap.objs.size := by
        have e' : b = e ∨ b = it := by simpa using hb
        rcases e' with z | z
        · rw [z]; exact hel
        · rw [z]; exact hil
      rw [upd_ne (Nat.ne_of_lt hb')]
      exact (hf b hb).1
  done := by
    intro X hP hw hK hc i pins s σ H E I hf st hg
    subst hP hw hK
    obtain ⟨⟨old, he⟩, hit, hne⟩ := st
    obtain ⟨xs, hq, hx⟩ := hg
    obtain ⟨its, rv, p, hz⟩ := I.tuple hq
    obtain ⟨f0, f1, f2, f3, f4, f5⟩ := hf it (by simp)
    have hl := rv.length
    have hT : s.TypeIs (.ref e) "enumerate" := ⟨_, he, rfl⟩
    unfold pyNext
    refine wpAny_bind (wpAny_attempt (wpAny_callSpecial?_slot (name := Str.ofString "__next__") hT F.slot_enumerate_next
      (wpAny_call_entry F.slot_enumerate_next hT F.entry_enumerate_next ?_ (F.args_enumerate_next_1 _))))
    show wpAny _ _ (field (.ref e) 2 >>= _) _ _ _
    refine wpAny_bind (wpAny_field he rfl (x := .ref it) rfl ?_)
    refine wpAny_bind (RZ.nextOf_tuple_end (I.ok.hd hc) hit p (by simp; omega) fun h' x he' hx' => ?_)
    obtain ⟨o, ho, hc⟩ := hx'
    refine wpAny_bind (wpAny_isInstance (T := "StopIteration") (b := true) ⟨o, ho, hc⟩ isSubtype_stop ?_)
    exact wpAny_pure ⟨rfl, I.turned (t' := s.toks) (fun b o hb q => he' b o hb q) f0 f1 f3 f4 f5⟩
  self := fun A i s Q E st h => let ⟨⟨_, he⟩, _⟩ := st; wpAny_pyIter_enum he h
def iEnumA (K : PySem.W.Frag) (ta : TA) : TI := fun σ H R => ta σ H fun vs H1 => ∃ a xs, vs = [.ref a] ∧ ((SqL K H1 a xs ∧ R (Ite K a) H1) ∨ (SqT K H1 a xs ∧ R (IteT K a) H1))
theorem pi_enumA {X : Cx} {e : Expr} {ta : TA} {p pos tpos : Pos} {elts : List Expr} {kk : Nat} (hg : Gl X "enumerate") (hm : X.mg "enumerate" = none) (ha : PA X [e] ta) (hs : starEach [e] X.env = [(false, eval e X.env)] := by rfl) :
    PI X (.Tuple elts kk tpos) (.Call (.Name "enumerate" p) [e] [] pos) (iEnumA X.K ta) := by
  refine ⟨fun pins s σ H R I h => ?_⟩
  refine Call_ (ld_blt I hg hm boot_enumerate (PyProof.Rows.callWith_type1 (thn (ha.run pos pins s σ H _ I h) fun us s1 ⟨vs, H1, I1, r1, q1⟩ => ?_) hs rfl))
  obtain ⟨a, xs, ex, hq⟩ := q1
  subst ex
  cases r1 with
  | cons r rr =>
    cases rr
    cases r
    have fin : ∀ b, b = s1.heap.objs.size + 1 ∨ b = s1.heap.objs.size → FpOk X pins H1 b := fun b e' => by
      have hle : s1.heap.objs.size ≤ b := by
        rcases e' with z | z
        · rw [z]; exact Nat.le_add_right _ _
        · rw [z]; exact Nat.le_refl _
      exact I1.fpOk hle (I1.hok.fresh hle)
    rcases hq with ⟨hq, q⟩ | ⟨hq, q⟩
    · obtain ⟨its, rv, p', hz⟩ := I1.list hq
      refine call_enumerate_list p'.isList fun h' he hit hsz hk => wpAny_pyIter_enum he ?_
      have I2 : Inv X pins σ H1 { s1 with heap := h' } := I1.kept (t' := s1.toks) hk
      exact ⟨s1.heap.objs.size + 1, [s1.heap.objs.size + 1, s1.heap.objs.size], _, _, H1, rfl, I2, turn_enum a (s1.heap.objs.size + 1) s1.heap.objs.size, ⟨⟨.none, he⟩, hit, Nat.succ_ne_self _⟩, fun b hb => fin b (by simpa using hb), q⟩
    · obtain ⟨its, rv, p', hz⟩ := I1.tuple hq
      refine call_enumerate_tuple p' fun h' he hit hsz hk => wpAny_pyIter_enum he ?_
      have I2 : Inv X pins σ H1 { s1 with heap := h' } := I1.kept (t' := s1.toks) hk
      exact ⟨s1.heap.objs.size + 1, [s1.heap.objs.size + 1, s1.heap.objs.size], _, _, H1, rfl, I2, turn_enumT a (s1.heap.objs.size + 1) s1.heap.objs.size, ⟨⟨.none, he⟩, hit, Nat.succ_ne_self _⟩, fun b hb => fin b (by simpa using hb), q⟩
section
variable {K : PySem.W.Frag} {ok : Addr → Prop} {G : Addr → Option Nat} {l : List Nat} {a : Addr} {xs : List WT.D} {vs : List V} {F : List Addr} {μ1 : List Addr} {H1 : Hp}
theorem wk_enumT (h : SqT K H1 a vs) (r : Reps K H1 μ1 xs vs F) (n : ∀ b ∈ F, b ∉ μ1) (hF : ∀ b ∈ F, (G b = none ∨ ∃ i ∈ l, G b = some i) ∧ ok b) : Wk K ok G l (IteT K a) (enumD xs) F μ1 H1 where
  there := fun b hb => ⟨r.there b hb, n b hb⟩
  stop := fun μ H i s hl => ⟨vs, SqT.sl h s, by rw [← r.length]; simpa [enumD] using hl⟩
  go := fun μ H i x s hx => by
    have hq : SqT K H a vs := SqT.sl h s
    have r2 := r.sl s fun b hb => ⟨n b hb, hb⟩
    rw [enumD, List.getElem?_mapIdx] at hx
    obtain ⟨x, hx2, rfl⟩ := Option.map_eq_some_iff.mp hx
    have hx := hx2
    obtain ⟨v, t, F2, e, rv, hs⟩ := r2.get hx
    refine ⟨⟨vs, v, hq, e⟩, fun v' H' hy => ?_⟩
    obtain ⟨T, y, rfl, hT, rfl, hy⟩ := hy
    have e2 := hy vs hq
    rw [e] at e2
    cases e2
    have n1 : New1 H (upd H T (.tup [.int (i : Nat), v])) := .inr ⟨T, _, hT, rfl⟩
    have rr : Reps K (upd H T (.tup [.int (i : Nat), v])) μ [.int i, x] [.int (i : Nat), v] ([] ++ [] ++ (t ++ F2 ++ [])) := .cons (.int _) (.cons (rv.ext n1.keep) .nil)
    refine ⟨n1, [], _, .tup (.inl (.inl upd_same)) rr, fun b hb => ?_⟩
    have hb : b ∈ t ++ F2 := by simpa using hb
    exact ⟨hs b hb, hF b (hs b hb)⟩
end
end WT
end

section
set_option Elab.async false
set_option linter.all false
set_option maxRecDepth 100000
set_option autoImplicit false
/-! K11: what is walked, as it is written; targets. -/
namespace WT
open PySem PySem.Spec PyProof.Rows L2

section
variable {X : Cx} {tg : Expr}
theorem pi_seq {l : Expr} {tl : TE} (hl : PE X l tl) : PI X tg l (fun σ H R => tl σ H fun x H1 => ∃ a, x = .ref a ∧ (((∃ xs, SqL X.K H1 a xs) ∧ R (Itl X.K a) H1) ∨ ((∃ xs, SqT X.K H1 a xs) ∧ R (Itt X.K a) H1))) := by
  refine ⟨fun pins s σ H R I h => ?_⟩
  refine thn (hl.run pins s σ H _ I h) fun v s1 ⟨x, H1, I1, r1, q1⟩ => ?_
  obtain ⟨a, e, q⟩ := q1
  subst e
  cases r1
  rcases q with ⟨⟨xs, hq⟩, q⟩ | ⟨⟨xs, hq⟩, q⟩
  · obtain ⟨its, rv, p, hz⟩ := I1.list hq
    refine wpAny_pyIter_list p.isList ?_
    refine ⟨s1.heap.objs.size, [s1.heap.objs.size], _, _, H1, rfl, I1.kept (t' := s1.toks) fun b o e => Heap.get?_push_of_some _ e, turn_list a _, ⟨_, Heap.get?_push_size _ rfl, rfl, rfl⟩, fun b hb => ?_, q⟩
    have e : b = s1.heap.objs.size := by simpa using hb
    subst e
    exact I1.fpOk (Nat.le_refl _) (I1.hok.fresh (Nat.le_refl _))
  · obtain ⟨its, rv, p, hz⟩ := I1.tuple hq
    refine wpAny_pyIter_tuple (show s1.heap.IsTuple a its.toArray from p) ?_
    refine ⟨s1.heap.objs.size, [s1.heap.objs.size], _, _, H1, rfl, I1.kept (t' := s1.toks) fun b o e => Heap.get?_push_of_some _ e, turn_tuple a _, ⟨_, Heap.get?_push_size _ rfl, rfl, rfl⟩, fun b hb => ?_, q⟩
    have e : b = s1.heap.objs.size := by simpa using hb
    subst e
    exact I1.fpOk (Nat.le_refl _) (I1.hok.fresh (Nat.le_refl _))
end
section
variable {c : Cfg} {K : PySem.W.Frag} {p : Pv} {env : Env} {st : Sto} {μ : List Addr} {G : Addr → Option Nat} {σ : St} {H : Hp}
theorem TEv.fst' {α : Type} {okk : α → Sto → Prop} {s : Env → Sto → R D} {f : D → Sto → R α} {R' : VK} (I : SI K c.ow c.Ok env st μ G σ H) (h : Fin okk (exE c K env μ G σ H) ((s env st).bind f))
    (k : ∀ x st1 v H1 μ1 t F, SI K c.ow c.Ok env st1 μ1 G σ H1 → Step μ H μ1 H1 → Held K c G p H x v t F μ1 H1 → Fin okk (exE c K env μ G σ H) (f x st1) → R' v H1) : TEv c K p s σ H R' := by
  rw [Fin.bind] at h
  exact ⟨env, st, μ, G, I, h.mono (fun x st1 _ hx v H1 μ1 t F I1 S1 r po => k x st1 v H1 μ1 t F I1 S1 ⟨r, po⟩ hx) fun _ _ _ hx => hx⟩
theorem TEv.nxt' {α : Type} {okk : α → Sto → Prop} {s : Env → Sto → R D} {f : D → Sto → R α} {R' : VK} {μ1 : List Addr} {H1 : Hp} {st1 : Sto} (S1 : Step μ H μ1 H1) (I : SI K c.ow c.Ok env st1 μ1 G σ H1) (h : Fin okk (exE c K env μ G σ H) ((s env st1).bind f))
    (k : ∀ x st2 v H2 μ2 t F, SI K c.ow c.Ok env st2 μ2 G σ H2 → Step μ1 H1 μ2 H2 → Held K c G p H x v t F μ2 H2 → Fin okk (exE c K env μ G σ H) (f x st2) → R' v H2) : TEv c K p s σ H1 R' := by
  rw [Fin.bind] at h
  exact ⟨env, st1, μ1, G, I, h.mono (fun x st1 _ hx v H1 μ1 t F I1 S2 r po => k x st1 v H1 μ1 t F I1 S2 ⟨r, po.back S1⟩ hx) fun _ _ _ hx => hx.step S1⟩
end
section
variable {m : MC} {g : GE} {k : Nat} {a b d e : E} {p q r : Pv}
theorem sndi_seq (he : Snd m g k e p) : SndI m g k (.seq e) p.inn (p.top ++ p.inn) := by
  intro c sc X tg x hg ok h ht
  simp only [mIt, Bool.and_eq_true] at h
  refine (pi_seq (he c sc X x hg ok h.1)).mono fun σ H R ⟨env, st, μ, G, I, hq⟩ => ?_
  rw [evIt] at hq
  refine TEv.fst' I hq fun x1 st1 v1 H1 μ1 t1 F1 I1 S1 r1 hq => ?_
  obtain ⟨xs, e1, hq⟩ := Fin.ofO hq
  have all := r1.all (G := G) I.gdom
  cases x1 <;> first | (cases e1; done) | skip
  · obtain ⟨rp, po⟩ := r1
    cases rp
    rename_i hs rs
    cases e1
    exact ⟨_, rfl, .inr ⟨⟨_, hs⟩, hq _ H1 μ1 _ I1 S1 (wk_tup hs rs (fun b hb => (all b (by simpa using hb)).2.1) fun b hb => ⟨po.inn b hb, (all b (by simpa using hb)).2.2⟩) fun b hb => ⟨(all b (by simpa using hb)).1, (all b (by simpa using hb)).2.2⟩⟩⟩
  · obtain ⟨rp, po⟩ := r1
    cases rp
    rename_i hs rs
    cases e1
    exact ⟨_, rfl, .inl ⟨⟨_, .inl (.inl hs)⟩, hq _ H1 μ1 _ I1 S1 (wk_list hs rs (fun b hb => (all b (by simpa using hb)).2.1) fun b hb => ⟨po.inn b hb, (all b (by simp [hb])).2.2⟩) fun b hb => ⟨(all b (by simpa using hb)).1, (all b (by simpa using hb)).2.2⟩⟩⟩
theorem sndi_range1 (ha : Snd m g k a p) : SndI m g k (.range1 a) [] [] := by
  intro c sc X tg x hg ok h ht
  cases x with
  | Call f args kws pos =>
    cases f with
    | Name f fp =>
      match args, kws, h with
      | [x], [], h =>
        simp only [mIt, Bool.and_eq_true, beq_iff_eq] at h
        obtain ⟨⟨rfl, h1⟩, h2⟩ := h
        refine (pi_range1 (ok.gl h1) (ok.free _ (by decide +kernel)) (pa_cons (ha c sc X x hg ok h2) pa_nil (star_of (mE_plain h2) _ _)) (star_of (mE_plain h2) _ _)).mono fun σ H R ⟨env, st, μ, G, I, hq⟩ => ?_
        rw [evIt] at hq
        refine TEv.fst' I hq fun x1 st1 v1 H1 μ1 t1 F1 I1 S1 r1 hq => ?_
        cases x1 <;> first | exact hq.elim | skip
        rename_i n
        obtain ⟨rp, po⟩ := r1
        cases rp
        obtain ⟨z, e1, hq⟩ := Fin.ofO hq
        unfold rangeD at e1
        split at e1
        · rename_i hb
          rw [if_pos rfl] at e1
          cases e1
          dsimp only [tNil]
          refine ⟨n, rfl, hb.2.2.1, hb.2.2.2, hq _ H1 μ1 [] I1 S1 ?_ fun _ h => by simp at h⟩
          rw [show n - 0 = n by omega]
          exact wk_rng
        · cases e1
      | [], _, h => simp [mIt] at h
      | _ :: _ :: _, _, h => simp [mIt] at h
      | [_], _ :: _, h => simp [mIt] at h
    | _ => simp [mIt] at h
  | _ => simp [mIt] at h
theorem sndi_range2 (ha : Snd m g k a p) (hb : Snd m g k b q) : SndI m g k (.range2 a b) [] [] := by
  intro c sc X tg x hg ok h ht
  cases x with
  | Call f args kws pos =>
    cases f with
    | Name f fp =>
      match args, kws, h with
      | [x, y], [], h =>
        simp only [mIt, Bool.and_eq_true, beq_iff_eq] at h
        obtain ⟨⟨⟨rfl, h1⟩, h2⟩, h3⟩ := h
        refine (pi_range2 (ok.gl h1) (ok.free _ (by decide +kernel)) (pa_cons (ha c sc X x hg ok h2) (pa_cons (hb c sc X y hg ok h3) pa_nil (star_of (mE_plain h3) _ _)) (star_of (mE_plain h2) _ _))
          (by rw [star_of (mE_plain h2), star_of (mE_plain h3)]; rfl) (star_of (mE_plain h3) _ _)).mono fun σ H R ⟨env, st, μ, G, I, hq⟩ => ?_
        rw [evIt] at hq
        refine TEv.fst' I hq fun x1 st1 v1 H1 μ1 t1 F1 I1 S1 r1 hq => ?_
        refine TEv.nxt' S1 I1 hq fun x2 st2 v2 H2 μ2 t2 F2 I2 S2 r2 hq => ?_
        cases x1 <;> first | exact hq.elim | skip
        rename_i lo
        cases x2 <;> first | exact hq.elim | skip
        rename_i hi
        obtain ⟨rp, po⟩ := r1
        obtain ⟨rp2, po2⟩ := r2
        cases rp
        cases rp2
        obtain ⟨z, e1, hq⟩ := Fin.ofO hq
        unfold rangeD at e1
        split at e1
        · rename_i hb
          rw [if_pos rfl] at e1
          cases e1
          dsimp only [tNil]
          exact ⟨_, _, rfl, hb, hq _ H2 μ2 _ I2 (S1.trans S2) wk_rng fun _ h => by simp at h⟩
        · cases e1
      | [], _, h => simp [mIt] at h
      | [_], _, h => simp [mIt] at h
      | _ :: _ :: _ :: _, _, h => simp [mIt] at h
      | [_, _], _ :: _, h => simp [mIt] at h
    | _ => simp [mIt] at h
  | _ => simp [mIt] at h
theorem sndi_range3 (ha : Snd m g k a p) (hb : Snd m g k b q) (hd : Snd m g k d r) : SndI m g k (.range3 a b d) [] [] := by
  intro c sc X tg x hg ok h ht
  cases x with
  | Call f args kws pos =>
    cases f with
    | Name f fp =>
      match args, kws, h with
      | [x, y, z], [], h =>
        simp only [mIt, Bool.and_eq_true, beq_iff_eq] at h
        obtain ⟨⟨⟨⟨rfl, h1⟩, h2⟩, h3⟩, h4⟩ := h
        refine (pi_range3 (ok.gl h1) (ok.free _ (by decide +kernel)) (pa_cons (ha c sc X x hg ok h2) (pa_cons (hb c sc X y hg ok h3) (pa_cons (hd c sc X z hg ok h4) pa_nil (star_of (mE_plain h4) _ _)) (star_of (mE_plain h3) _ _)) (star_of (mE_plain h2) _ _))
          (star_of (mE_plain h2) _ _) (by rw [star_of (mE_plain h3), star_of (mE_plain h4)]; rfl)).mono fun σ H R ⟨env, st, μ, G, I, hq⟩ => ?_
        rw [evIt] at hq
        refine TEv.fst' I hq fun x1 st1 v1 H1 μ1 t1 F1 I1 S1 r1 hq1 => ?_
        refine TEv.nxt' S1 I1 hq1 fun x2 st2 v2 H2 μ2 t2 F2 I2 S2 r2 hq2 => ?_
        refine TEv.nxt' (S1.trans S2) I2 hq2 fun x3 st3 v3 H3 μ3 t3 F3 I3 S3 r3 hq3 => ?_
        clear hq hq1 hq2
        obtain ⟨lo, rfl⟩ : ∃ i, x1 = .int i := by cases x1 <;> first | exact ⟨_, rfl⟩ | exact hq3.elim
        obtain ⟨hi, rfl⟩ : ∃ i, x2 = .int i := by cases x2 <;> first | exact ⟨_, rfl⟩ | exact hq3.elim
        obtain ⟨cc, rfl⟩ : ∃ i, x3 = .int i := by cases x3 <;> first | exact ⟨_, rfl⟩ | exact hq3.elim
        obtain ⟨rp, po⟩ := r1
        obtain ⟨rp2, po2⟩ := r2
        obtain ⟨rp3, po3⟩ := r3
        cases rp
        cases rp2
        cases rp3
        obtain ⟨z, e1, hq⟩ := Fin.ofO hq3
        unfold rangeD at e1
        split at e1
        · rename_i hb
          split at e1
          · rename_i hc
            cases e1
            subst hc
            dsimp only [tNil]
            refine ⟨_, _, _, (hi - lo).toNat, rfl, ⟨by decide, by decide, small_one hb.1 hb.2.1 hb.2.2.1 hb.2.2.2, ?_⟩, hq _ H3 μ3 [] I3 ((S1.trans S2).trans S3) ?_ fun _ h => by simp at h⟩
            · rw [rangeSize_one]; split <;> omega
            · have z : Itc lo 1 (hi - lo).toNat = Itr lo (hi - lo).toNat := by
                unfold Itc Itr
                simp
              rw [z]
              exact wk_rng
          · split at e1
            · rename_i hc
              cases e1
              subst hc
              dsimp only [tNil]
              exact ⟨_, _, _, _, rfl, RgC.neg hb.1 hb.2.1 hb.2.2.1 hb.2.2.2, hq _ H3 μ3 _ I3 ((S1.trans S2).trans S3) wk_rngC fun _ h => by simp at h⟩
            · cases e1
        · cases e1
      | [], _, h => simp [mIt] at h
      | [_], _, h => simp [mIt] at h
      | [_, _], _, h => simp [mIt] at h
      | _ :: _ :: _ :: _ :: _, _, h => simp [mIt] at h
      | [_, _, _], _ :: _, h => simp [mIt] at h
    | _ => simp [mIt] at h
  | _ => simp [mIt] at h
theorem sndi_enum (ha : Snd m g k a p) : SndI m g k (.enum a) p.inn (p.top ++ p.inn) := by
  intro c sc X tg x hg ok h ht
  obtain ⟨elts, kk, tpos, rfl⟩ := ht rfl
  cases x with
  | Call f args kws pos =>
    cases f with
    | Name f fp =>
      match args, kws, h with
      | [x], [], h =>
        simp only [mIt, Bool.and_eq_true, beq_iff_eq] at h
        obtain ⟨⟨rfl, h1⟩, h2⟩ := h
        refine (pi_enumA (ok.gl h1) (ok.free _ (by decide +kernel)) (pa_cons (ha c sc X x hg ok h2) pa_nil (star_of (mE_plain h2) _ _)) (star_of (mE_plain h2) _ _)).mono fun σ H R ⟨env, st, μ, G, I, hq⟩ => ?_
        rw [evIt] at hq
        refine TEv.fst' I hq fun x1 st1 v1 H1 μ1 t1 F1 I1 S1 r1 hq => ?_
        have all := r1.all (G := G) I.gdom
        cases x1 <;> first | exact hq.elim | skip
        · obtain ⟨rp, po⟩ := r1
          cases rp
          rename_i hs rs
          dsimp only [tNil]
          exact ⟨_, _, rfl, .inr ⟨hs, hq _ H1 μ1 _ I1 S1 (wk_enumT hs rs (fun b hb => (all b (by simpa using hb)).2.1) fun b hb => ⟨po.inn b hb, (all b (by simpa using hb)).2.2⟩) fun b hb => ⟨(all b (by simpa using hb)).1, (all b (by simpa using hb)).2.2⟩⟩⟩
        · obtain ⟨rp, po⟩ := r1
          cases rp
          rename_i hs rs
          dsimp only [tNil]
          exact ⟨_, _, rfl, .inl ⟨.inl (.inl hs), hq _ H1 μ1 _ I1 S1 (wk_enum hs rs (fun b hb => (all b (by simpa using hb)).2.1) fun b hb => ⟨po.inn b hb, (all b (by simp [hb])).2.2⟩) fun b hb => ⟨(all b (by simpa using hb)).1, (all b (by simpa using hb)).2.2⟩⟩⟩
      | [], _, h => simp [mIt] at h
      | _ :: _ :: _, _, h => simp [mIt] at h
      | [_], _ :: _, h => simp [mIt] at h
    | _ => simp [mIt] at h
  | _ => simp [mIt] at h
theorem sndi_zip (ha : Snd m g k a p) (hb : Snd m g k b q) : SndI m g k (.zip a b) (p.inn ++ q.inn) ((p.top ++ p.inn) ++ (q.top ++ q.inn)) := by
  intro c sc X tg x hg ok h ht
  obtain ⟨elts, kk, tpos, rfl⟩ := ht rfl
  cases x with
  | Call f args kws pos =>
    cases f with
    | Name f fp =>
      match args, kws, h with
      | [x, y], [], h =>
        simp only [mIt, Bool.and_eq_true, beq_iff_eq] at h
        obtain ⟨⟨⟨rfl, h1⟩, h2⟩, h3⟩ := h
        refine (RZ.pi_zipA (ok.gl h1) (ok.free _ (by decide +kernel)) (pa_cons (ha c sc X x hg ok h2) (pa_cons (hb c sc X y hg ok h3) pa_nil (star_of (mE_plain h3) _ _)) (star_of (mE_plain h2) _ _))
          (star_of (mE_plain h2) _ _) (by rw [star_of (mE_plain h3)]; rfl)).mono fun σ H R ⟨env, st, μ, G, I, hq⟩ => ?_
        rw [evIt] at hq
        refine TEv.fst' I hq fun x1 st1 v1 H1 μ1 t1 F1 I1 S1 r1 hq => ?_
        refine TEv.nxt' S1 I1 hq fun x2 st2 v2 H2 μ2 t2 F2 I2 S2 r2 hq => ?_
        have r1 := r1.step S2
        have all1 := r1.all (G := G) I.gdom
        have all2 := r2.all (G := G) I.gdom
        obtain ⟨rp, po⟩ := r1
        obtain ⟨rp2, po2⟩ := r2
        have inn : ∀ b ∈ F1 ++ F2, (G b = none ∨ ∃ i ∈ p.inn ++ q.inn, G b = some i) ∧ c.Ok b := fun b hb => by
          rcases List.mem_append.mp hb with hb | hb
          · exact ⟨(po.inn b hb).imp id fun ⟨i, hi, e⟩ => ⟨i, List.mem_append_left _ hi, e⟩, (all1 b (List.mem_append_right _ hb)).2.2⟩
          · exact ⟨(po2.inn b hb).imp id fun ⟨i, hi, e⟩ => ⟨i, List.mem_append_right _ hi, e⟩, (all2 b (List.mem_append_right _ hb)).2.2⟩
        have all : ∀ b ∈ (t1 ++ F1) ++ (t2 ++ F2), b ∉ μ2 ∧ (G b = none ∨ ∃ i ∈ (p.top ++ p.inn) ++ (q.top ++ q.inn), G b = some i) ∧ c.Ok b := fun b hb => by
          rcases List.mem_append.mp hb with hb | hb
          · exact ⟨(all1 b hb).2.1, (all1 b hb).1.imp id fun ⟨i, hi, e⟩ => ⟨i, List.mem_append_left _ hi, e⟩, (all1 b hb).2.2⟩
          · exact ⟨(all2 b hb).2.1, (all2 b hb).1.imp id fun ⟨i, hi, e⟩ => ⟨i, List.mem_append_right _ hi, e⟩, (all2 b hb).2.2⟩
        cases x1 <;> first | exact hq.elim | skip
        · cases x2 <;> first | exact hq.elim | skip
          cases rp
          rename_i hs1 rs1
          cases rp2
          rename_i hs2 rs2
          dsimp only [tNil]
          exact ⟨_, _, _, _, rfl, .inr ⟨hs1, hs2, hq _ H2 μ2 _ I2 (S1.trans S2) (wk_zipT hs1 rs1 hs2 rs2 (fun b hb => (all b (by simpa using hb)).1) inn) fun b hb => (all b (by simpa using hb)).2⟩⟩
        · cases x2 <;> first | exact hq.elim | skip
          cases rp
          rename_i hs1 rs1
          cases rp2
          rename_i hs2 rs2
          have hin : ∀ {z x y : Addr}, z ∈ x :: y :: (F1 ++ F2) → z ∈ ([x] ++ F1) ++ ([y] ++ F2) := fun {z x y} hz => by
            simp only [List.mem_cons, List.mem_append, List.mem_singleton] at hz ⊢
            rcases hz with hz | hz | hz | hz <;> simp [hz]
          dsimp only [tNil]
          exact ⟨_, _, _, _, rfl, .inl ⟨.inl (.inl hs1), .inl (.inl hs2), hq _ H2 μ2 _ I2 (S1.trans S2) (wk_zip hs1 rs1 hs2 rs2 (fun b hb => (all b (hin hb)).1) inn) fun b hb => (all b (hin hb)).2⟩⟩
      | [], _, h => simp [mIt] at h
      | [_], _, h => simp [mIt] at h
      | _ :: _ :: _ :: _, _, h => simp [mIt] at h
      | [_, _], _ :: _, h => simp [mIt] at h
    | _ => simp [mIt] at h
  | _ => simp [mIt] at h
end
end WT
end

section
set_option Elab.async false
set_option linter.all false
set_option maxRecDepth 100000
set_option autoImplicit false
/-! K12: targets, comprehensions, every expression. -/
namespace WT
open PySem PySem.Spec PyProof.Rows L2

mutual
def tgG (K : PySem.W.Frag) : Tg → TG
  | .name i => gName i
  | .tup ts => gTup K ts.len (tgGs K ts)
def tgGs (K : PySem.W.Frag) : Tgs → TGs
  | .nil => gNil
  | .cons t ts => gCons (tgG K t) (tgGs K ts)
end
theorem slot_set {env : Env} {i j : Nat} {o : Option D} {d : D} (h : slot (env.set i o) j = some d) : (j = i ∧ j < env.length ∧ o = some d) ∨ (j ≠ i ∧ slot env j = some d) := by
  unfold slot at h ⊢
  by_cases e : j = i
  · subst e
    by_cases hl : j < env.length
    · rw [List.getElem?_set_self hl] at h
      exact .inl ⟨rfl, hl, h⟩
    · rw [List.getElem?_eq_none (by simpa using hl)] at h
      cases h
  · rw [List.getElem?_set_ne (Ne.symm e)] at h
    exact .inr ⟨e, h⟩
mutual
theorem bindTg_len : ∀ {tg : Tg} {x : D} {env env' : Env}, bindTg tg x env = some env' → env'.length = env.length
  | .name i, x, env, env', h => by
    unfold bindTg at h
    cases h
    simp
  | .tup ts, x, env, env', h => by
    unfold bindTg at h
    split at h
    · exact bindTgs_len h
    · cases h
theorem bindTgs_len : ∀ {ts : Tgs} {ds : List D} {env env' : Env}, bindTgs ts ds env = some env' → env'.length = env.length
  | .nil, ds, env, env', h => by
    unfold bindTgs at h
    split at h
    · cases h; rfl
    · cases h
  | .cons t ts, ds, env, env', h => by
    unfold bindTgs at h
    split at h
    · obtain ⟨e1, h1, h2⟩ := Option.bind_eq_some_iff.mp h
      rw [bindTgs_len h2, bindTg_len h1]
    · cases h
end
theorem bindTgs_args : ∀ {ts : Tgs} {ds : List D} {env env' : Env}, bindTgs ts ds env = some env' → ds.length = ts.len
  | .nil, ds, env, env', h => by
    unfold bindTgs at h
    split at h
    · rfl
    · cases h
  | .cons t ts, ds, env, env', h => by
    unfold bindTgs at h
    split at h
    · obtain ⟨e1, h1, h2⟩ := Option.bind_eq_some_iff.mp h
      rw [List.length_cons, bindTgs_args h2, Tgs.len]
    · cases h
theorem slot_none {env : Env} {i : Nat} (h : ¬ i < env.length) : slot env i = none := by
  unfold slot
  rw [List.getElem?_eq_none (by omega)]
  rfl
section
variable {K : PySem.W.Frag} {ow : Nat → Bool} {Ok : Addr → Prop} {env env0 env' : Env} {st : Sto} {μ : List Addr} {G : Addr → Option Nat} {σ σ0 : St} {H : Hp} {x : D} {v : V} {t F : List Addr}
/-- one name more: a value that no name owns -/
theorem SI.put (I : SI K ow Ok env st μ G σ H) {i : Nat} (hi : ow i = false) (r : Rep K H μ x v t F) (hp : ∀ a ∈ t ++ F, G a = none ∧ a ∉ μ ∧ Ok a) : SI K ow Ok (env.set i (some x)) st μ G (σ.set i (some v)) H := by
  refine ⟨fun j d e => ?_, I.box, I.muLen, I.muNd, I.gmu, I.gdom, I.okn, by simpa using I.len⟩
  rcases slot_set e with ⟨rfl, hl, e⟩ | ⟨hne, e⟩
  · cases e
    · refine ⟨v, t, F, by rw [List.getElem?_set_self (Nat.lt_of_lt_of_le hl I.len)], r, fun a ha => ?_, fun a ha => (hp a (List.mem_append_right _ ha)).1, fun a ha => (hp a ha).2⟩
      rw [hi]
      exact (hp a (List.mem_append_left _ ha)).1
  · obtain ⟨v', t', F', e1, r', g1, g2, g3⟩ := I.slot j d e
    exact ⟨v', t', F', by rw [List.getElem?_set_ne (Ne.symm hne)]; exact e1, r', g1, g2, g3⟩
end
mutual
theorem SI.tg {K : PySem.W.Frag} {ow : Nat → Bool} {Ok : Addr → Prop} {st : Sto} {μ : List Addr} {G : Addr → Option Nat} {H : Hp} : ∀ {tg : Tg} {env env' : Env} {σ : St} {x : D} {v : V} {t F : List Addr} {Q : St → Hp → Prop}, SI K ow Ok env st μ G σ H → (∀ i ∈ tg.slots, ow i = false) → bindTg tg x env = some env' → Rep K H μ x v t F → (∀ a ∈ t ++ F, G a = none ∧ a ∉ μ ∧ Ok a) →
    (∀ σ', SI K ow Ok env' st μ G σ' H → σ'.length = σ.length → (∀ j, j ∉ tg.slots → σ'[j]? = σ[j]?) → Q σ' H) → tgG K tg v σ H Q
  | .name i, env, env', σ, x, v, t, F, Q, I, ho, hb, r, hp, k => by
    unfold bindTg at hb
    cases hb
    exact k _ (I.put (ho i (by simp [Tg.slots])) r hp) (by simp) fun j hj => List.getElem?_set_ne fun e => hj (by simp [Tg.slots, e])
  | .tup ts, env, env', σ, x, v, t, F, Q, I, ho, hb, r, hp, k => by
    unfold bindTg at hb
    split at hb
    · cases r with
      | tup hs rs =>
        refine ⟨_, _, rfl, hs, ?_, ?_⟩
        · rw [← rs.length]
          exact (bindTgs_args hb).symm ▸ rfl
        · exact SI.tgs I (fun i hi => ho i (by simpa [Tg.slots] using hi)) hb rs (fun a ha => hp a (by simpa using ha)) fun σ' I' hl hj => k σ' I' hl fun j hn => hj j (by simpa [Tg.slots] using hn)
    · cases hb
theorem SI.tgs {K : PySem.W.Frag} {ow : Nat → Bool} {Ok : Addr → Prop} {st : Sto} {μ : List Addr} {G : Addr → Option Nat} {H : Hp} : ∀ {ts : Tgs} {env env' : Env} {σ : St} {ds : List D} {vs : List V} {F : List Addr} {Q : St → Hp → Prop}, SI K ow Ok env st μ G σ H → (∀ i ∈ ts.slots, ow i = false) → bindTgs ts ds env = some env' → Reps K H μ ds vs F → (∀ a ∈ F, G a = none ∧ a ∉ μ ∧ Ok a) →
    (∀ σ', SI K ow Ok env' st μ G σ' H → σ'.length = σ.length → (∀ j, j ∉ ts.slots → σ'[j]? = σ[j]?) → Q σ' H) → tgGs K ts vs σ H Q
  | .nil, env, env', σ, ds, vs, F, Q, I, ho, hb, r, hp, k => by
    unfold bindTgs at hb
    split at hb
    · cases hb
      cases r
      exact ⟨rfl, k _ I rfl fun _ _ => rfl⟩
    · cases hb
  | .cons t ts, env, env', σ, ds, vs, F, Q, I, ho, hb, r, hp, k => by
    unfold bindTgs at hb
    split at hb
    · obtain ⟨e1, h1, h2⟩ := Option.bind_eq_some_iff.mp hb
      cases r with
      | cons r1 rs =>
        refine ⟨_, _, rfl, SI.tg I (fun i hi => ho i (by simp [Tgs.slots, hi])) h1 r1 (fun a ha => hp a (List.mem_append_left _ ha)) fun σ1 I1 hl1 hj1 => ?_⟩
        refine SI.tgs I1 (fun i hi => ho i (by simp [Tgs.slots, hi])) h2 rs (fun a ha => hp a (List.mem_append_right _ ha)) fun σ2 I2 hl2 hj2 => k σ2 I2 (by rw [hl2, hl1]) fun j hn => ?_
        rw [hj2 j fun z => hn (by simp [Tgs.slots, z]), hj1 j fun z => hn (by simp [Tgs.slots, z])]
    · cases hb
end
/-- names forgotten -/
theorem clrs_len {env : Env} : ∀ is : List Nat, (clrs env is).length = env.length
  | [] => rfl
  | i :: is => by rw [clrs, List.length_set, clrs_len is]
theorem clrs_slot {env : Env} {j : Nat} {d : D} : ∀ {is : List Nat}, slot (clrs env is) j = some d → j ∉ is ∧ slot env j = some d
  | [], h => ⟨by simp, h⟩
  | i :: is, h => by
    rcases slot_set h with ⟨_, _, e⟩ | ⟨hne, e⟩
    · cases e
    · obtain ⟨h1, h2⟩ := clrs_slot e
      exact ⟨by simp [hne, h1], h2⟩
theorem clrs_get {env : Env} {j : Nat} : ∀ {is : List Nat}, j ∉ is → (clrs env is)[j]? = env[j]?
  | [], _ => rfl
  | i :: is, h => by
    rw [clrs, List.getElem?_set_ne fun e => h (by simp [e])]
    exact clrs_get fun m => h (by simp [m])
/-- environments that agree but at S: behind a target they agree there too -/
def Agr (S : Nat → Prop) (e1 e2 : Env) : Prop := e1.length = e2.length ∧ ∀ j, ¬ S j → e1[j]? = e2[j]?
theorem agr_set {S : Nat → Prop} {e1 e2 : Env} {i : Nat} {o : Option D} (h : Agr S e1 e2) : Agr (fun j => S j ∧ j ≠ i) (e1.set i o) (e2.set i o) := by
  refine ⟨by simp [h.1], fun j hj => ?_⟩
  by_cases e : j = i
  · subst e
    by_cases hk : j < e1.length
    · rw [List.getElem?_set_self hk, List.getElem?_set_self (by rw [← h.1]; exact hk)]
    · rw [List.getElem?_eq_none (by simpa using hk), List.getElem?_eq_none (by rw [List.length_set, ← h.1]; omega)]
  · rw [List.getElem?_set_ne (Ne.symm e), List.getElem?_set_ne (Ne.symm e)]
    exact h.2 j fun z => hj ⟨z, e⟩
mutual
theorem bindTg_agr : ∀ {tg : Tg} {x : D} {e1 e2 e1' : Env} {S : Nat → Prop}, Agr S e1 e2 → bindTg tg x e1 = some e1' → ∃ e2', bindTg tg x e2 = some e2' ∧ Agr (fun j => S j ∧ j ∉ tg.slots) e1' e2'
  | .name i, x, e1, e2, e1', S, h, hb => by
    unfold bindTg at hb
    cases hb
    refine ⟨_, by rw [bindTg], ?_⟩
    have z := agr_set (i := i) (o := some x) h
    exact ⟨z.1, fun j hj => z.2 j fun q => hj ⟨q.1, by simpa [Tg.slots] using q.2⟩⟩
  | .tup ts, x, e1, e2, e1', S, h, hb => by
    unfold bindTg at hb
    split at hb
    · obtain ⟨e2', h1, h2⟩ := bindTgs_agr h hb
      exact ⟨e2', by rw [bindTg]; exact h1, h2⟩
    · cases hb
theorem bindTgs_agr : ∀ {ts : Tgs} {ds : List D} {e1 e2 e1' : Env} {S : Nat → Prop}, Agr S e1 e2 → bindTgs ts ds e1 = some e1' → ∃ e2', bindTgs ts ds e2 = some e2' ∧ Agr (fun j => S j ∧ j ∉ ts.slots) e1' e2'
  | .nil, ds, e1, e2, e1', S, h, hb => by
    unfold bindTgs at hb
    split at hb
    · cases hb
      exact ⟨e2, by rw [bindTgs], h.1, fun j hj => h.2 j fun q => hj ⟨q, by simp [Tgs.slots]⟩⟩
    · cases hb
  | .cons t ts, ds, e1, e2, e1', S, h, hb => by
    unfold bindTgs at hb
    split at hb
    · obtain ⟨e3, h1, h2⟩ := Option.bind_eq_some_iff.mp hb
      obtain ⟨e4, h3, h4⟩ := bindTg_agr h h1
      obtain ⟨e5, h5, h6⟩ := bindTgs_agr h4 h2
      refine ⟨e5, by rw [bindTgs]; exact Option.bind_eq_some_iff.mpr ⟨e4, h3, h5⟩, h6.1, fun j hj => h6.2 j fun q => hj ⟨q.1.1, ?_⟩⟩
      rw [Tgs.slots, List.mem_append]
      exact fun z => z.elim q.1.2 q.2
    · cases hb
end
theorem bindTg_clrs {tg : Tg} {x : D} {env env' : Env} {is : List Nat} (hs : ∀ i ∈ is, i ∈ tg.slots) (h : bindTg tg x env = some env') : bindTg tg x (clrs env is) = some env' := by
  obtain ⟨e2, h1, h2⟩ := bindTg_agr (S := fun j => j ∈ is) (e2 := clrs env is) ⟨(clrs_len is).symm, fun j hj => (clrs_get hj).symm⟩ h
  rw [h1]
  refine congrArg some (List.ext_getElem? fun j => (h2.2 j fun q => q.2 (hs j q.1)).symm)
theorem wipe_in {σ : St} {i : Nat} : ∀ {vs : List Nat}, i ∈ vs → i < σ.length → (wipe σ vs)[i]? = some none
  | v :: vs, h, hl => by
    unfold wipe
    by_cases e : v = i
    · subst e
      rw [List.getElem?_set_self (by rw [wipe_length]; exact hl)]
    · rw [List.getElem?_set_ne e]
      exact wipe_in (by rcases List.mem_cons.mp h with h | h; exact absurd h.symm e; exact h) hl
theorem wipe_eq {σ σ' : St} {vs : List Nat} (hl : σ'.length = σ.length) (h : ∀ j, j ∉ vs → σ'[j]? = (wipe σ vs)[j]?) : wipe σ' vs = wipe σ vs := by
  apply List.ext_getElem?
  intro j
  by_cases e : j ∈ vs
  · by_cases hj : j < σ.length
    · rw [wipe_in e hj, wipe_in e (by omega)]
    · rw [List.getElem?_eq_none (by rw [wipe_length]; omega), List.getElem?_eq_none (by rw [wipe_length]; omega)]
  · rw [wipe_out e, h j e]
theorem SI.wipe {K : PySem.W.Frag} {ow : Nat → Bool} {Ok : Addr → Prop} {env : Env} {st : Sto} {μ : List Addr} {G : Addr → Option Nat} {σ : St} {H : Hp} (I : SI K ow Ok env st μ G σ H) (vs : List Nat) : SI K ow Ok (clrs env vs) st μ G (L2.wipe σ vs) H := by
  refine ⟨fun j d e => ?_, I.box, I.muLen, I.muNd, I.gmu, I.gdom, I.okn, by rw [clrs_len, wipe_length]; exact I.len⟩
  obtain ⟨h1, h2⟩ := clrs_slot e
  obtain ⟨v', t', F', e1, r'⟩ := I.slot j d h2
  exact ⟨v', t', F', by rw [wipe_out h1]; exact e1, r'⟩
theorem Fin.nox {α : Type} {ok : α → Sto → Prop} {ex ex' : Str → D → Sto → Prop} {r : R α} (h : Fin ok ex r.nox) : Fin ok ex' r := by
  cases r with
  | ok a st => exact h
  | exn _ _ _ => exact h.elim
  | bad => exact h
theorem clrs_ext {env : Env} {is js : List Nat} (h : ∀ j, j ∈ is ↔ j ∈ js) : clrs env is = clrs env js := by
  have key : ∀ (is : List Nat) (j : Nat), j ∈ is → (clrs env is)[j]? = if j < env.length then some none else none := by
    intro is
    induction is with
    | nil => intro j hj; simp at hj
    | cons i is ih =>
      intro j hj
      rw [clrs]
      by_cases e : i = j
      · subst e
        by_cases hl : i < env.length
        · rw [if_pos hl, List.getElem?_set_self (by rw [clrs_len]; exact hl)]
        · rw [if_neg hl, List.getElem?_eq_none (by rw [List.length_set, clrs_len]; omega)]
      · rw [List.getElem?_set_ne e]
        exact ih j ((List.mem_cons.mp hj).resolve_left fun z => e z.symm)
  refine List.ext_getElem? fun j => ?_
  by_cases hj : j ∈ is
  · rw [key is j hj, key js j ((h j).mp hj)]
  · rw [clrs_get hj, clrs_get fun z => hj ((h j).mpr z)]
theorem compCat_nox {f : D → Sto → R (List D)} (hf : ∀ x st, f x st = (f x st).nox) : ∀ (xs : List D) (st : Sto), compCat f xs st = (compCat f xs st).nox
  | [], st => rfl
  | x :: xs, st => by
    rw [compCat]
    have h1 := hf x st
    cases e : f x st with
    | bad => rfl
    | exn _ _ _ => rw [e] at h1; cases h1
    | ok y st1 =>
      have h2 := compCat_nox hf xs st1
      simp only [R.bind_ok]
      cases e2 : compCat f xs st1 with
      | bad => rfl
      | exn _ _ _ => rw [e2] at h2; cases h2
      | ok ys st2 => rfl
theorem compLoop_nox {f : D → Sto → R (Option D)} (hf : ∀ x st, f x st = (f x st).nox) : ∀ (xs : List D) (st : Sto), compLoop f xs st = (compLoop f xs st).nox
  | [], st => rfl
  | x :: xs, st => by
    rw [compLoop]
    have h1 := hf x st
    cases e : f x st with
    | bad => rfl
    | exn _ _ _ => rw [e] at h1; cases h1
    | ok y st1 =>
      have h2 := compLoop_nox hf xs st1
      simp only [R.bind_ok]
      cases e2 : compLoop f xs st1 with
      | bad => rfl
      | exn _ _ _ => rw [e2] at h2; cases h2
      | ok ys st2 => rfl
theorem foldedSet {m : MC} {it : WT.It} {sc : Scope} {x : Expr} {env : PySem.Env} (h : mIt m it sc x = true) : ∀ v, foldedSetIterable x env v = pure v := by
  intro v
  cases x with
  | Set _ _ _ => cases it <;> simp [mIt] at h
  | _ => rfl
end WT
end

section
set_option Elab.async false
set_option linter.all false
set_option maxRecDepth 100000
set_option autoImplicit false
/-! K13: comprehensions; every expression. -/
namespace WT
open PySem PySem.Spec PyProof.Rows L2

def Cfg.calmed (c : Cfg) : Cfg := { c with W := fun _ _ _ _ => False }
section
variable {m : MC} {c : Cfg} {g : GE} {k : Nat} {sc : Scope} {X : Cx} {a b d e : E} {p q r : Pv}
theorem XOk.blk (ok : XOk m c k sc X) (s : Shared) (H : Hp) (scope : Scope) (cl : List (Str × Addr)) (C : Addr) (fp : List Addr) : XOk m c.calmed k (relS scope sc) (X.blk s H scope (compEnvC scope cl C X.env) fp) where
  hN := ok.hN
  nd := ok.nd
  sc := by
    show relabel scope X.env = _
    rw [← ok.sc]
    rfl
  ow := ok.ow
  calm := ok.calm
  room := ok.room
  tk := fun u s' ⟨_, _, _, _, _, _, _, _, _, _, _, _, _, _, _, _, w⟩ => w.elim
  fns := ok.fns
  cons := ok.cons
  free := ok.free
  gcd := ok.gcd
theorem relS_loc {scope sc : Scope} {x : Str} {k : NameKind} (hk : k ≠ .free) (h : scope.names.lookup x = some k) : (relS scope sc).names.lookup x = some k := lookup_relS_keep hk h
theorem locB_k {scope : Scope} {x : Str} (h : locB scope x = true) : scope.names.lookup x = some .local ∨ scope.names.lookup x = some .cell := by
  unfold locB at h
  split at h
  · exact .inl (by assumption)
  · exact .inr (by assumption)
  · cases h
theorem pg_one {K : PySem.W.Frag} {N : List Str} {sc scope : Scope} {i : Nat} {x : Str} {pos : Pos} {X : Cx} (hN : X.N.Nodup) (hi : X.N[i]? = some x) (hl : locB scope x = true) (hs : X.env.scope = relS scope sc) (hf : ∀ x, scope.names.lookup x = some .cell → X.fn x = true) : PG X (.Name x pos) (gName i) := by
  rcases locB_k hl with h | h
  · exact pg_name hN hi (.inl (by rw [hs]; exact relS_loc (by simp) h)) (.inr (by rw [hs]; exact relS_loc (by simp) h))
  · exact pg_name hN hi (.inr (by rw [hs]; exact relS_loc (by simp) h)) (.inl (hf x h))
theorem each_tgs {m : MC} {scope : Scope} {env : PySem.Env} : ∀ {ts : Tgs} {es : List Expr}, mTgs m scope ts es = true → assignEach es env = es.map (fun e => (false, assign e env)) ∧ es.length = ts.len
  | .nil, [], _ => ⟨rfl, rfl⟩
  | .nil, _ :: _, h => by simp [mTgs] at h
  | .cons _ _, [], h => by simp [mTgs] at h
  | .cons t ts, e :: es, h => by
    rw [mTgs, Bool.and_eq_true] at h
    obtain ⟨h1, h2⟩ := each_tgs (env := env) h.2
    have e1 : assignEach (e :: es) env = (false, assign e env) :: assignEach es env := by
      cases e with
      | Name _ _ => rfl
      | Tuple _ _ _ => rfl
      | _ => cases t <;> simp [mTg] at h
    exact ⟨by rw [e1, h1]; rfl, by rw [List.length_cons, h2, Tgs.len]⟩
mutual
theorem pg_tgT {X : Cx} {scope : Scope} (hc : X.calm = true) (one : ∀ (i : Nat) (x : Str) (pos : Pos), m.N[i]? = some x → locB scope x = true → PG X (.Name x pos) (gName i)) : ∀ {tg : Tg} {t : Expr}, mTg m scope tg t = true → PG X t (tgG X.K tg)
  | .name i, t, h => by
    cases t with
    | Name x pos =>
      simp only [mTg, Bool.and_eq_true, decide_eq_true_eq] at h
      exact one i x pos h.1 h.2
    | _ => simp [mTg] at h
  | .tup ts, t, h => by
    cases t with
    | Tuple es kk pos =>
      rw [mTg] at h
      obtain ⟨h1, h2⟩ := each_tgs (env := X.env) h
      refine pg_tup hc (pgs_tgT hc one h) (by rw [h1, List.length_map]; exact h2) (by rw [h1, List.findIdx?_map]; exact List.findIdx?_eq_none_iff.mpr fun x _ => rfl)
    | _ => simp [mTg] at h
theorem pgs_tgT {X : Cx} {scope : Scope} (hc : X.calm = true) (one : ∀ (i : Nat) (x : Str) (pos : Pos), m.N[i]? = some x → locB scope x = true → PG X (.Name x pos) (gName i)) : ∀ {ts : Tgs} {es : List Expr}, mTgs m scope ts es = true → PGs X es (tgGs X.K ts)
  | .nil, [], _ => pgs_nil
  | .nil, _ :: _, h => by simp [mTgs] at h
  | .cons _ _, [], h => by simp [mTgs] at h
  | .cons t ts, e :: es, h => by
    have h0 := h
    rw [mTgs, Bool.and_eq_true] at h
    refine pgs_cons (pg_tgT hc one h.1) (pgs_tgT hc one h.2) ?_
    rw [(each_tgs (env := X.env) h0).1, (each_tgs (env := X.env) h.2).1]
    rfl
end
/-- a target within a comprehension's block -/
theorem pg_blk {tg : Tg} {t : Expr} (ok : XOk m c k sc X) {s : Shared} {H : Hp} {scope : Scope} {cl : List (Str × Addr)} {C : Addr} {fp : List Addr} (h : mTg m scope tg t = true) : PG (X.blk s H scope (compEnvC scope cl C X.env) fp) t (tgG X.K tg) := by
  have ok2 := ok.blk s H scope cl C fp
  have hN : (X.blk s H scope (compEnvC scope cl C X.env) fp).N.Nodup := by rw [ok2.hN]; exact ok2.nd
  refine pg_tgT (X := X.blk s H scope (compEnvC scope cl C X.env) fp) ok.calm (fun i x pos hi hl => ?_) h
  exact pg_one (K := X.K) (N := []) hN (by rw [ok2.hN]; exact hi) hl ok2.sc fun x hx => by
      show (scope.names.lookup x == some NameKind.cell) = true
      rw [hx]
      rfl
theorem comp2_shape {tg tg1 : Tg} {it it1 : WT.It} {elt : E} {x : Expr} (h : mE m (.comp2 tg it tg1 it1 elt) sc x = true) : ∃ y t i t1 i1 scope pos, x = .ListComp y [⟨t, i, [], 0⟩, ⟨t1, i1, [], 0⟩] scope pos ∧
    blkC m.N sc scope (ownOf m.N scope) = true ∧ (∀ j ∈ (ownOf m.N scope).map (·.2), j ∈ tg.slots ++ tg1.slots) ∧ (∀ j ∈ tg.slots ++ tg1.slots, j ∈ (ownOf m.N scope).map (·.2)) ∧ mTg m scope tg t = true ∧ mIt m it sc i = true ∧
    mTg m scope tg1 t1 = true ∧ mIt m it1 (relS scope sc) i1 = true ∧ mE m elt (relS scope sc) y = true := by
  cases x with
  | ListComp y gs scope pos =>
    match gs, h with
    | [⟨t, i, [], n⟩, ⟨t1, i1, [], n1⟩], h =>
      simp only [mE, Bool.and_eq_true, List.all_eq_true, decide_eq_true_eq] at h
      obtain ⟨⟨⟨⟨⟨⟨⟨⟨⟨rfl, rfl⟩, h1⟩, h2⟩, h3⟩, h4⟩, h5⟩, h6⟩, h7⟩, h8⟩ := h
      refine ⟨y, t, i, t1, i1, scope, pos, rfl, h1, fun j hj => ?_, h3, h4, h5, h6, h7, h8⟩
      obtain ⟨q, hq, rfl⟩ := List.mem_map.mp hj
      exact h2 q hq
    | [⟨t, i, _ :: _, n⟩, _], h => simp [mE] at h
    | [⟨t, i, [], n⟩, ⟨t1, i1, _ :: _, n1⟩], h => simp [mE] at h
    | [], h => simp [mE] at h
    | [_], h => simp [mE] at h
    | _ :: _ :: _ :: _, h => simp [mE] at h
  | _ => simp [mE] at h
theorem comp_shape {tg : Tg} {it : WT.It} {hi : Bool} {cond elt : E} {x : Expr} (h : mE m (.comp tg it hi cond elt) sc x = true) : ∃ y t i ifs scope pos, x = .ListComp y [⟨t, i, ifs, 0⟩] scope pos ∧
    blkC m.N sc scope (ownOf m.N scope) = true ∧ (∀ j ∈ (ownOf m.N scope).map (·.2), j ∈ tg.slots) ∧ (∀ j ∈ tg.slots, j ∈ (ownOf m.N scope).map (·.2)) ∧ mTg m scope tg t = true ∧ mIt m it sc i = true ∧
    ((hi = false ∧ ifs = []) ∨ ∃ z, hi = true ∧ ifs = [z] ∧ mE m cond (relS scope sc) z = true ∧ tOk cond = true) ∧ mE m elt (relS scope sc) y = true := by
  cases x with
  | ListComp y gs scope pos =>
    match gs, h with
    | [⟨t, i, ifs, n⟩], h =>
      simp only [mE, Bool.and_eq_true, List.all_eq_true, decide_eq_true_eq] at h
      obtain ⟨⟨⟨⟨⟨⟨⟨rfl, h1⟩, h2⟩, h3⟩, h4⟩, h5⟩, h6⟩, h7⟩ := h
      refine ⟨y, t, i, ifs, scope, pos, rfl, h1, fun j hj => ?_, h3, h4, h5, ?_, h7⟩
      · obtain ⟨q, hq, rfl⟩ := List.mem_map.mp hj
        exact h2 q hq
      · cases hi with
        | false =>
          cases ifs with
          | nil => exact .inl ⟨rfl, rfl⟩
          | cons _ _ => cases h6
        | true =>
          match ifs, h6 with
          | [], h6 => cases h6
          | [z], h6 =>
            simp only [Bool.and_eq_true] at h6
            exact .inr ⟨z, rfl, rfl, h6.1, h6.2⟩
          | _ :: _ :: _, h6 => cases h6
    | [], h => simp [mE] at h
    | _ :: _ :: _, h => simp [mE] at h
  | _ => simp [mE] at h
/-- a list of one's own changed -/
theorem SL.upd {L : Addr → Prop} {μ : List Addr} {H : Hp} {p : Addr} {xs ys : List V} (h : H p = some (.lst xs)) (hL : ¬ L p) : SL L μ H μ (upd H p (.lst ys)) where
  keep := fun a o e n l => by rw [upd_ne (fun z => hL (by rw [← z]; exact l) : a ≠ p)]; exact e
  tups := fun a u e => by
    rw [upd_ne fun z => ?_]
    · exact e
    · rw [z, h] at e; cases e
  frzs := fun a o u e => by
    rw [upd_ne fun z => ?_]
    · exact e
    · rw [z, h] at e; cases e
  dom := fun a e => by
    by_cases q : a = p
    · rw [q, upd_same]; simp
    · rw [upd_ne q]; exact e
  ext := ⟨[], by simp, fun _ h => by simp at h⟩
theorem BoxOk.sl {K : PySem.W.Frag} {L : Addr → Prop} {μ : List Addr} {H H' : Hp} {st : Sto} (b : BoxOk K H μ st) (s : SL L μ H μ H') (k : ∀ a ∈ μ, ∀ vs, H a = some (.lst vs) → H' a = some (.lst vs)) : BoxOk K H' μ st := fun j xs e => by
  obtain ⟨a, vs, e1, e2, r⟩ := b j xs e
  exact ⟨a, vs, e1, k a (List.mem_of_getElem? e1) vs e2, r.sl s fun _ h => by simp at h⟩
end
end WT
end

section
set_option Elab.async false
set_option linter.all false
set_option maxRecDepth 100000
set_option autoImplicit false
/-! K14: comprehensions; every expression. -/
namespace WT
open PySem PySem.Spec PyProof.Rows L2

def Cfg.blk (c : Cfg) (o : Addr → Prop) : Cfg := { c with W := fun _ _ _ _ => False, Ok := o }
theorem New1.step {H H' : Hp} {μ : List Addr} (n : New1 H H') : Step μ H μ H' := by
  rcases n with rfl | ⟨p, o, hp, rfl⟩
  · exact .refl
  · exact .new hp
theorem SI.new1 {K : PySem.W.Frag} {ow : Nat → Bool} {Ok : Addr → Prop} {env : Env} {st : Sto} {μ : List Addr} {G : Addr → Option Nat} {σ : St} {H H' : Hp} (I : SI K ow Ok env st μ G σ H) (n : New1 H H') : SI K ow Ok env st μ G σ H' := by
  rcases n with rfl | ⟨p, o, hp, rfl⟩
  · exact I
  · exact I.new hp
theorem Step.updNew {μ1 μ : List Addr} {H1 H : Hp} {p : Addr} {xs ys : List V} (s : Step μ1 H1 μ H) (h1 : H1 p = none) (h : H p = some (.lst xs)) : Step μ1 H1 μ (upd H p (.lst ys)) where
  keep := fun a o e n => by rw [upd_ne (ne_of_none e h1)]; exact s.keep a o e n
  tups := fun a u e => by rw [upd_ne (ne_of_none e h1)]; exact s.tups a u e
  frzs := fun a o u e => by rw [upd_ne (ne_of_none e h1)]; exact s.frzs a o u e
  dom := fun a e => by
    by_cases q : a = p
    · rw [q, upd_same]; simp
    · rw [upd_ne q]; exact s.dom a e
  ext := s.ext
/-- a list of one's own comes that no name holds -/
theorem SI.fresh {K : PySem.W.Frag} {ow : Nat → Bool} {Ok : Addr → Prop} {env : Env} {st : Sto} {μ : List Addr} {G : Addr → Option Nat} {σ : St} {H : Hp} (I : SI K ow Ok env st μ G σ H) {p : Addr} {xs : List V} (h : H p = none) : SI K ow (fun a => Ok a ∧ a ≠ p) env st μ G σ (upd H p (.lst xs)) := by
  have J := I.new (o := .lst xs) h
  refine ⟨fun i d e => ?_, J.box, J.muLen, J.muNd, J.gmu, J.gdom, fun a ha => ⟨J.okn a ha, fun e => by rw [e, upd_same] at ha; cases ha⟩, J.len⟩
  obtain ⟨v, t, F, e1, r, g1, g2, g3⟩ := I.slot i d e
  exact ⟨v, t, F, e1, r.step (.new h) fun a ha => (g3 a ha).1, g1, g2, fun a ha => ⟨(g3 a ha).1, (g3 a ha).2, fun e => r.there a ha (by rw [e]; exact h)⟩⟩
theorem SI.afterL {K : PySem.W.Frag} {ow : Nat → Bool} {Ok L : Addr → Prop} {env : Env} {st st' : Sto} {μ μ' : List Addr} {G : Addr → Option Nat} {σ : St} {H H' : Hp} (I : SI K ow Ok env st μ G σ H) (hL : ∀ a, Ok a → L a) (s : SL L μ H μ' H') (b : BoxOk K H' μ' st') (l : μ'.length = st'.length) (nd : μ'.Nodup) :
    SI K ow Ok env st' μ' G σ H' where
  slot := fun i d e => by
    obtain ⟨v, t, F, e1, r, g1, g2, g3⟩ := I.slot i d e
    exact ⟨v, t, F, e1, r.sl s fun a ha => ⟨(g3 a ha).1, hL a (g3 a ha).2⟩, g1, g2, fun a ha => ⟨s.notin (r.there a ha) (g3 a ha).1, (g3 a ha).2⟩⟩
  box := b
  muLen := l
  muNd := nd
  gmu := fun a ha => by
    obtain ⟨k, hk, e⟩ := List.mem_iff_getElem.mp ha
    obtain ⟨a', vs, e1, e2, _⟩ := b k _ (List.getElem?_eq_getElem (by rw [← l]; exact hk))
    rw [List.getElem?_eq_getElem hk] at e1
    cases e1
    refine ⟨?_, by rw [← e, e2]; simp⟩
    obtain ⟨ν, rfl, hν⟩ := s.ext
    rcases List.mem_append.mp ha with ha | ha
    · exact (I.gmu a ha).1
    · cases q : G a with
      | none => rfl
      | some i => exact absurd (hν a ha) (I.gdom a (by rw [q]; simp))
  gdom := fun a ha => s.dom a (I.gdom a ha)
  okn := fun a ha => I.okn a (s.wasNone ha)
  len := I.len
theorem sl_own {μ1 μ : List Addr} {H1 H : Hp} {p : Addr} {xs ys : List V} (s : Step μ1 H1 μ H) (h1 : H1 p = none) (h : H p = some (.lst xs)) (n : p ∉ μ) : SL (· ≠ p) μ1 (upd H1 p (.lst ys)) μ H where
  keep := fun a o e m l => by rw [upd_ne l] at e; exact s.keep a o e m
  tups := fun a u e => by
    by_cases q : a = p
    · rw [q, upd_same] at e; cases e
    · rw [upd_ne q] at e; exact s.tups a u e
  frzs := fun a o u e => by
    by_cases q : a = p
    · rw [q, upd_same] at e; cases e
    · rw [upd_ne q] at e; exact s.frzs a o u e
  dom := fun a e => by
    by_cases q : a = p
    · rw [q, h]; simp
    · rw [upd_ne q] at e; exact s.dom a e
  ext := by
    obtain ⟨ν, rfl, hν⟩ := s.ext
    exact ⟨ν, rfl, fun a ha => by rw [upd_ne fun e => n (by rw [← e]; exact List.mem_append_right _ ha)]; exact hν a ha⟩
theorem _root_.L2.PE.ex {ι : Type} {X : Cx} {e : Expr} {t : ι → TE} (h : ∀ i, PE X e (t i)) : PE X e fun σ H Q => ∃ i, t i σ H Q := ⟨fun pins s σ H Q I ⟨i, q⟩ => (h i).run pins s σ H Q I q⟩
theorem _root_.L2.PT.ex {ι : Type} {X : Cx} {e : Expr} {t : ι → TT} (h : ∀ i, PT X e (t i)) : PT X e fun σ H Q => ∃ i, t i σ H Q := ⟨fun pins s σ H Q I ⟨i, q⟩ => (h i).run pins s σ H Q I q⟩
section
variable {m : MC} {c : Cfg} {g : GE} {k : Nat} {sc : Scope} {X : Cx} {a b d e : E} {p q r : Pv}
theorem XOk.blk' (ok : XOk m c k sc X) (o : Addr → Prop) (s : Shared) (H : Hp) (scope : Scope) (cl : List (Str × Addr)) (C : Addr) (fp : List Addr) : XOk m (c.blk o) k (relS scope sc) (X.blk s H scope (compEnvC scope cl C X.env) fp) :=
  let z := ok.blk s H scope cl C fp
  { hN := z.hN, nd := z.nd, sc := z.sc, ow := z.ow, calm := z.calm, room := z.room, tk := z.tk, fns := z.fns, cons := z.cons, free := z.free, gcd := z.gcd }
theorem bdy_if {cond elt : E} {env : Env} {st : Sto} : ((evE g cond env st).bind fun c st3 => match truD st3 c with
            | some true => (evE g elt env st3).bind fun y st4 => R.ok (some y) st4
            | some false => .ok none st3
            | none => .bad) = (evC g cond env st).bind fun b st3 => if b = true then (evE g elt env st3).bind fun y st4 => .ok (some y) st4 else .ok none st3 := by
  unfold evC
  cases evE g cond env st with
  | ok x st1 =>
    simp only [R.bind_ok]
    cases truD st1 x with
    | none => rfl
    | some b => cases b <;> rfl
  | exn _ _ _ => rfl
  | bad => rfl
theorem comp_parts {tg : Tg} {it : WT.It} {hif : Bool} {cond elt : E} {lt : List Nat} {x : Expr} (hI : SndI m g k it [] lt) (hC : SndT m g k cond) (hE : Snd m g k elt p) (ho : ∀ i ∈ tg.slots, m.ow i = false) (hP : itTg it tg = true) (hg : c.g = g) (ok : XOk m c k sc X) (h : mE m (.comp tg it hif cond elt) sc x = true) :
    ∃ (y t i : Expr) (ifs : List Expr) (scope : Scope) (pos : Pos) (own : List (Str × Nat)) (wi : TI) (gT : TG) (tt : TT) (te : TE), x = .ListComp y [⟨t, i, ifs, 0⟩] scope pos ∧ PI X t i wi ∧ BlkOk X.N X.env.scope scope own ∧
      (∀ (s : Shared) (H : Hp) (C : Addr) (cl : List (Str × Addr)) (fp : List Addr), PG (X.blk s H scope (compEnvC scope cl C X.env) fp) t gT) ∧ (∀ (s : Shared) (H : Hp) (C : Addr) (cl : List (Str × Addr)) (fp : List Addr), PTs (X.blk s H scope (compEnvC scope cl C X.env) fp) ifs tt) ∧
      (∀ (s : Shared) (H : Hp) (C : Addr) (cl : List (Str × Addr)) (fp : List Addr), PE (X.blk s H scope (compEnvC scope cl C X.env) fp) y te) ∧ (∀ v, foldedSetIterable i X.env v = pure v) ∧
      ∀ σ H Q, TEv c X.K (.new1 (p.top ++ p.inn)) (evE g (.comp tg it hif cond elt)) σ H Q → tLc wi gT tt te (own.map (·.2)) σ H Q := by
  obtain ⟨y, t, i, ifs, scope, pos, rfl, h1, h2, h3, h4, h5, h6, h7⟩ := comp_shape h
  have htup : itP it = true → ∃ elts kk tpos, t = .Tuple elts kk tpos := fun z => by
    cases tg with
    | name _ => cases it <;> simp [itP, itTg] at z hP
    | tup _ =>
      cases t with
      | Tuple e k p => exact ⟨e, k, p, rfl⟩
      | _ => simp [mTg] at h4
  let tt : TT := if hif = true then fun σ H Q => ∃ o, TTv (c.blk o) X.K (evC g cond) σ H Q else tYes
  have ht : ∀ (s : Shared) (H : Hp) (C : Addr) (cl : List (Str × Addr)) (fp : List Addr), PTs (X.blk s H scope (compEnvC scope cl C X.env) fp) ifs tt := fun s H C cl fp => by
    rcases h6 with ⟨rfl, rfl⟩ | ⟨z, rfl, rfl, h6, h8⟩
    · exact pts_nil
    · exact pts_one (PT.ex fun o => hC (c.blk o) _ _ z hg (ok.blk' o s H scope cl C fp) h6 h8)
  have he : ∀ (s : Shared) (H : Hp) (C : Addr) (cl : List (Str × Addr)) (fp : List Addr), PE (X.blk s H scope (compEnvC scope cl C X.env) fp) y fun σ H Q => ∃ o, TEv (c.blk o) X.K p (evE g elt) σ H Q := fun s H C cl fp =>
    PE.ex fun o => hE (c.blk o) _ _ y hg (ok.blk' o s H scope cl C fp) h7
  have hbk : BlkOk X.N X.env.scope scope (ownOf m.N scope) := by
    rw [ok.hN, ok.sc]
    exact blkOk_by h1
  refine ⟨y, t, i, ifs, scope, pos, ownOf m.N scope, _, _, tt, _, rfl, hI c sc X t i hg ok h5 htup, hbk, fun s H C cl fp => pg_blk ok h4, ht, he, foldedSet h5, fun σ H Q ⟨env, st, μ, G, I, hq⟩ => ?_⟩
  generalize hvs : (ownOf m.N scope).map (·.2) = vs at h2 h3
  rw [evE, Fin.bind] at hq
  refine ⟨env, st, μ, G, I, hq.mono (fun xs st1 _ hx J H1 μ1 L I1 S1 wk hL Dd hD => ?_) fun _ _ _ hx => hx⟩
  generalize hbdy : (fun x st2 => match bindTg tg x env with
        | some env' => (if hif = true then (evE g cond env' st2).bind fun c st3 => match truD st3 c with
            | some true => (evE g elt env' st3).bind fun y st4 => R.ok (some y) st4
            | some false => .ok none st3
            | none => .bad
          else (evE g elt env' st2).bind fun y st3 => .ok (some y) st3).nox
        | none => .bad : D → Sto → R (Option D)) = bdy at hx
  have hnox : ∀ x st, bdy x st = (bdy x st).nox := fun x st => by
    rw [← hbdy]
    simp only
    cases bindTg tg x env with
    | none => rfl
    | some env' =>
      simp only
      generalize (if hif = true then _ else _ : R (Option D)) = z
      cases z <;> rfl
  have hx2 : Fin (fun ys st5 => ys.length ≤ sizeLine ∧ okE c X.K (.new1 (p.top ++ p.inn)) env μ G σ H Q (.lst ys) st5) (fun _ _ _ => False) (compLoop bdy xs st1) := by
    rw [Fin.bind, compLoop_nox hnox] at hx
    refine (Fin.nox hx).mono (fun ys st5 _ hy => ?_) fun _ _ _ z => z
    obtain ⟨z, e1, hy⟩ := Fin.ofO hy
    unfold guardO at e1
    split at e1
    · cases e1
      exact ⟨by assumption, hy⟩
    · cases e1
  clear hx hq
  have nDL : ∀ a, H1 a ≠ none → a ≠ Dd := fun a ha e => ha (by rw [e]; exact hD)
  refine ⟨fun i n Hh => n = xs.length - i ∧ i ≤ xs.length ∧ ∃ (st' : Sto) (μ' : List Addr) (acc : List V) (accd : List D) (F : List Addr), Step μ1 H1 μ' Hh ∧ BoxOk X.K Hh μ' st' ∧ μ'.length = st'.length ∧ μ'.Nodup ∧ Hh Dd = some (.lst acc) ∧ Dd ∉ μ' ∧ Reps X.K Hh μ' accd acc F ∧
      (∀ a ∈ F, a ≠ Dd ∧ (G a = none ∨ ∃ i ∈ p.top ++ p.inn, G a = some i) ∧ a ∉ μ' ∧ c.Ok a) ∧ Fin (fun ys st5 => (accd ++ ys).length ≤ sizeLine ∧ okE c X.K (.new1 (p.top ++ p.inn)) env μ G σ H Q (.lst (accd ++ ys)) st5) (fun _ _ _ => False) (compLoop bdy (xs.drop i) st'), ⟨xs.length, by simp, Nat.zero_le _, st1, μ1, [], [], [], .new hD, (I1.new hD).box, I1.muLen, I1.muNd, upd_same, fun z => (I1.gmu _ z).2 hD, .nil, fun _ h => by simp at h, hx2⟩, ?_⟩
  rintro i n Hh ⟨rfl, hi, st', μ', acc, accd, F, S, bx, ml, md, hDd, nD, rs, hF, hfin⟩
  have I2 := I1.after S bx ml md
  by_cases hlt : i < xs.length
  · refine .inr ?_
    have hx : xs[i]? = some xs[i] := List.getElem?_eq_getElem hlt
    obtain ⟨go, yl⟩ := wk.go μ' Hh i _ S.sl hx
    refine ⟨go, fun Hh => xs.length - (i + 1) = xs.length - (i + 1) ∧ i + 1 ≤ xs.length ∧ ∃ (st' : Sto) (μ' : List Addr) (acc : List V) (accd : List D) (F : List Addr), Step μ1 H1 μ' Hh ∧ BoxOk X.K Hh μ' st' ∧ μ'.length = st'.length ∧ μ'.Nodup ∧ Hh Dd = some (.lst acc) ∧ Dd ∉ μ' ∧ Reps X.K Hh μ' accd acc F ∧
      (∀ a ∈ F, a ≠ Dd ∧ (G a = none ∨ ∃ i ∈ p.top ++ p.inn, G a = some i) ∧ a ∉ μ' ∧ c.Ok a) ∧ Fin (fun ys st5 => (accd ++ ys).length ≤ sizeLine ∧ okE c X.K (.new1 (p.top ++ p.inn)) env μ G σ H Q (.lst (accd ++ ys)) st5) (fun _ _ _ => False) (compLoop bdy (xs.drop (i + 1)) st'), fun H' w => ⟨xs.length - (i + 1), by omega, w⟩, fun v H' hy => ?_⟩
    obtain ⟨n1, tv, Fv, rv, hv⟩ := yl v H' hy
    rw [List.drop_eq_getElem_cons hlt, compLoop, Fin.bind, ← hbdy] at hfin
    simp only at hfin
    rw [hbdy] at hfin
    cases eb : bindTg tg xs[i] env with
    | none => rw [eb] at hfin; exact hfin.elim
    | some env' =>
      rw [eb] at hfin
      simp only at hfin
      have hfin := Fin.nox (ex' := fun _ _ _ => False) hfin
      have I3 := I2.new1 n1
      have S3 : Step μ1 H1 μ' H' := S.trans n1.step
      have hDd3 : H' Dd = some (.lst acc) := n1.step.keep Dd _ hDd nD
      have I4 : SI X.K c.ow (fun a => c.Ok a ∧ a ≠ Dd) env st' μ' G σ H' :=
        ((I1.fresh (xs := []) hD).afterL (fun a h => h.2) (sl_own S hD hDd nD) bx ml md).new1 n1
      -- the element, appended
      have elt_ok : ∀ {σ' : St} {st2 : Sto} {μ2 : List Addr} {H3 : Hp}, SI X.K c.ow (fun a => c.Ok a ∧ a ≠ Dd) env' st2 μ2 G σ' H3 → Step μ' H' μ2 H3 →
          Fin (fun oy st4 => Fin (fun ys st5 => (accd ++ ys).length ≤ sizeLine ∧ okE c X.K (.new1 (p.top ++ p.inn)) env μ G σ H Q (.lst (accd ++ ys)) st5) (fun _ _ _ => False) ((compLoop bdy (xs.drop (i + 1)) st4).bind fun ys st2 => .ok (match oy with | some z => z :: ys | none => ys) st2)) (fun _ _ _ => False) ((evE g elt env' st2).bind fun y st3 => .ok (some y) st3) →
          TEv (c.blk fun a => c.Ok a ∧ a ≠ Dd) X.K p (evE g elt) σ' H3 fun y H4 => ∃ acc, H4 Dd = some (.lst acc) ∧ acc.length < sizeLine ∧ (xs.length - (i + 1) = xs.length - (i + 1) ∧ i + 1 ≤ xs.length ∧ ∃ (st' : Sto) (μ' : List Addr) (acc' : List V) (accd : List D) (F : List Addr), Step μ1 H1 μ' (upd H4 Dd (.lst (acc ++ [y]))) ∧ BoxOk X.K (upd H4 Dd (.lst (acc ++ [y]))) μ' st' ∧ μ'.length = st'.length ∧ μ'.Nodup ∧ (upd H4 Dd (.lst (acc ++ [y]))) Dd = some (.lst acc') ∧ Dd ∉ μ' ∧ Reps X.K (upd H4 Dd (.lst (acc ++ [y]))) μ' accd acc' F ∧
      (∀ a ∈ F, a ≠ Dd ∧ (G a = none ∨ ∃ i ∈ p.top ++ p.inn, G a = some i) ∧ a ∉ μ' ∧ c.Ok a) ∧ Fin (fun ys st5 => (accd ++ ys).length ≤ sizeLine ∧ okE c X.K (.new1 (p.top ++ p.inn)) env μ G σ H Q (.lst (accd ++ ys)) st5) (fun _ _ _ => False) (compLoop bdy (xs.drop (i + 1)) st')) := fun {σ' st2 μ2 H3} I6 S6 hq => by
        rw [Fin.bind] at hq
        refine ⟨env', st2, μ2, G, I6, hq.mono (fun y st4 _ hy vy H4 μ4 ty Fy I7 S7 ry py => ?_) fun _ _ _ z => z.elim⟩
        have hy : Fin (fun ys st5 => (accd ++ ys).length ≤ sizeLine ∧ okE c X.K (.new1 (p.top ++ p.inn)) env μ G σ H Q (.lst (accd ++ ys)) st5) (fun _ _ _ => False) ((compLoop bdy (xs.drop (i + 1)) st4).bind fun ys st2 => .ok (y :: ys) st2) := hy
        rw [Fin.bind] at hy
        have hy : Fin (fun ys st5 => (accd ++ [y] ++ ys).length ≤ sizeLine ∧ okE c X.K (.new1 (p.top ++ p.inn)) env μ G σ H Q (.lst (accd ++ [y] ++ ys)) st5) (fun _ _ _ => False) (compLoop bdy (xs.drop (i + 1)) st4) := hy.mono (fun ys st5 _ z => by
          have z : (accd ++ (y :: ys)).length ≤ sizeLine ∧ okE c X.K (.new1 (p.top ++ p.inn)) env μ G σ H Q (.lst (accd ++ (y :: ys))) st5 := z
          rw [List.append_assoc, List.singleton_append]
          exact z) fun _ _ _ z => z
        have hlen : accd.length < sizeLine := by
          cases e : compLoop bdy (xs.drop (i + 1)) st4 with
          | ok ys st5 =>
            rw [e] at hy
            have := hy.1
            simp at this
            omega
          | exn _ _ _ => rw [e] at hy; exact hy.elim
          | bad => rw [e] at hy; exact hy.elim
        have Sa : Step μ' Hh μ4 H4 := (n1.step.trans S6).trans S7
        have Sb : Step μ1 H1 μ4 H4 := S.trans Sa
        have hD4 : H4 Dd = some (.lst acc) := Sa.keep Dd _ hDd nD
        have nD4 : Dd ∉ μ4 := Sa.notin (by rw [hDd]; simp) nD
        have hh : Held X.K (c.blk fun a => c.Ok a ∧ a ≠ Dd) G p H3 y vy ty Fy μ4 H4 := ⟨ry, py⟩
        have all := hh.all I6.gdom
        have sl : SL (· ≠ Dd) μ4 H4 μ4 (upd H4 Dd (.lst (acc ++ [vy]))) := SL.upd hD4 fun z => z rfl
        have rs4 := rs.step Sa fun a ha => (hF a ha).2.2.1
        have rs5 := rs4.sl sl fun a ha => ⟨Sa.notin (rs.there a ha) (hF a ha).2.2.1, (hF a ha).1⟩
        have ry5 := ry.sl sl fun a ha => ⟨(all a ha).2.1, (all a ha).2.2.2⟩
        obtain ⟨F', rs6, hF'⟩ := rs5.append (.cons ry5 .nil)
        refine ⟨acc, hD4, by rw [← rs.length]; exact hlen, rfl, hlt, st4, μ4, acc ++ [vy], accd ++ [y], F', Sb.updNew hD hD4, I7.box.sl sl fun a ha vs e => ?_, I7.muLen, I7.muNd, upd_same, nD4, rs6, fun a ha => ?_, hy⟩
        · rw [upd_ne fun e => nD4 (by rw [← e]; exact ha)]
          exact e
        · rcases hF' a ha with ha | ha
          · exact ⟨(hF a ha).1, (hF a ha).2.1, Sa.notin (rs.there a ha) (hF a ha).2.2.1, (hF a ha).2.2.2⟩
          · have ha : a ∈ ty ++ Fy := by simpa using ha
            exact ⟨(all a ha).2.2.2, (all a ha).1, (all a ha).2.1, (all a ha).2.2.1⟩
      refine SI.tg (I4.wipe vs) (x := xs[i]) (env' := env') (fun i hi => by rw [ok.ow]; exact ho i hi) (bindTg_clrs h2 eb) rv (fun a ha => ?_) fun σ' I5 hl hj => ⟨wipe_eq (by rw [hl, wipe_length]) fun j hn => hj j fun z => hn (h3 j z), ?_⟩
      · obtain ⟨z1, z2, z3⟩ := hv a ha
        refine ⟨z2.elim id fun ⟨i, hi, _⟩ => by simp at hi, wk.mu S.sl a z1, z3, fun e => (wk.there a z1).1 (by rw [e]; exact hD)⟩
      · cases hif with
        | false =>
          have hfin := (show Fin _ _ ((evE g elt env' st').bind fun y st3 => .ok (some y) st3) from hfin)
          have z := elt_ok I5 .refl hfin
          exact ⟨_, z⟩
        | true =>
          simp only [if_true] at hfin
          rw [bdy_if, Fin.bind] at hfin
          refine ⟨_, env', st', μ', G, I5, hfin.mono (fun b st3 _ hb H3 μ3 I6 S6 => ?_) fun _ _ _ z => z.elim⟩
          cases b with
          | true =>
            rw [if_pos rfl]
            rw [if_pos rfl] at hb
            have z := elt_ok I6 S6 hb
            exact ⟨_, z⟩
          | false =>
            rw [if_neg (by simp)]
            have hb : Fin (fun ys st5 => (accd ++ ys).length ≤ sizeLine ∧ okE c X.K (.new1 (p.top ++ p.inn)) env μ G σ H Q (.lst (accd ++ ys)) st5) (fun _ _ _ => False) ((compLoop bdy (xs.drop (i + 1)) st3).bind fun ys st2 => .ok ys st2) := hb
            rw [Fin.bind] at hb
            have Sa : Step μ' Hh μ3 H3 := n1.step.trans S6
            exact ⟨rfl, hlt, st3, μ3, acc, accd, F, S.trans Sa, I6.box, I6.muLen, I6.muNd, Sa.keep Dd _ hDd nD, Sa.notin (by rw [hDd]; simp) nD, rs.step Sa fun a ha => (hF a ha).2.2.1, fun a ha => ⟨(hF a ha).1, (hF a ha).2.1, Sa.notin (rs.there a ha) (hF a ha).2.2.1, (hF a ha).2.2.2⟩, hb⟩
  · refine .inl ?_
    have e : i = xs.length := by omega
    subst e
    refine ⟨wk.stop μ' Hh _ S.sl (Nat.le_refl _), ?_⟩
    rw [List.drop_length, compLoop] at hfin
    obtain ⟨_, hfin⟩ := hfin
    rw [List.append_nil] at hfin
    refine hfin (.ref Dd) Hh μ' [Dd] F I2 (S1.trans S) (.lst hDd rs) ⟨fun a ha => ?_, fun a ha => (hF a ha).2.1, fun a ha => ?_⟩
    · rw [List.mem_singleton.mp ha]
      exact ⟨S1.wasNone hD, fun z => (hF _ z).1 rfl⟩
    · rcases List.mem_append.mp ha with ha | ha
      · rw [List.mem_singleton.mp ha]
        exact ⟨nD, I1.okn _ hD⟩
      · exact (hF a ha).2.2
theorem snd_comp {tg : Tg} {it : WT.It} {hif : Bool} {cond elt : E} {lt : List Nat} (hI : SndI m g k it [] lt) (hC : SndT m g k cond) (hE : Snd m g k elt p) (ho : ∀ i ∈ tg.slots, m.ow i = false) (hP : itTg it tg = true) : Snd m g k (.comp tg it hif cond elt) (.new1 (p.top ++ p.inn)) := by
  intro c sc X x hg ok h
  obtain ⟨y, t, i, ifs, scope, pos, own, wi, gT, tt, te, rfl, h1, h2, h3, h4, h5, h6, h7⟩ := comp_parts hI hC hE ho hP hg ok h
  exact (pe_lc ok.calm (by rw [ok.hN]; exact ok.nd) h1 h2 h3 h4 h5 h6).mono h7
end
end WT
end

section
set_option Elab.async false
set_option linter.all false
set_option maxRecDepth 100000
set_option autoImplicit false
/-! K14c: list comprehensions of two clauses. Own work. -/
namespace WT
open PySem PySem.Spec PyProof.Rows L2
theorem _root_.L2.PI.ex {ι : Type} {X : Cx} {tg e : Expr} {t : ι → TI} (h : ∀ i, PI X tg e (t i)) : PI X tg e fun σ H R => ∃ i, t i σ H R := ⟨fun pins s σ H R I ⟨i, q⟩ => (h i).run pins s σ H R I q⟩
section
variable {m : MC} {c : Cfg} {g : GE} {k : Nat} {sc : Scope} {X : Cx} {a b d e : E} {p q r : Pv}
theorem tup_of {m : MC} {scope : Scope} {tg : Tg} {it : WT.It} {t : Expr} (hP : itTg it tg = true) (h : mTg m scope tg t = true) : itP it = true → ∃ elts kk tpos, t = .Tuple elts kk tpos := fun z => by
  cases tg with
  | name _ => cases it <;> simp [itP, itTg] at z hP
  | tup _ =>
    cases t with
    | Tuple e k p => exact ⟨e, k, p, rfl⟩
    | _ => simp [mTg] at h
theorem snd_comp2 {tg tg1 : Tg} {it it1 : WT.It} {elt : E} {lt lt1 : List Nat} (hI : SndI m g k it [] lt) (hI1 : SndI m g k it1 [] lt1) (hE : Snd m g k elt p) (ho : ∀ i ∈ tg.slots, m.ow i = false) (ho1 : ∀ i ∈ tg1.slots, m.ow i = false) (hP : itTg it tg = true) (hP1 : itTg it1 tg1 = true) : Snd m g k (.comp2 tg it tg1 it1 elt) (.new1 (p.top ++ p.inn)) := by
  intro c sc X x hg ok h
  obtain ⟨y, t, i, t1, i1, scope, pos, rfl, h1, h2, h3, h4, h5, h6, h7, h8⟩ := comp2_shape h
  have he : ∀ (s : Shared) (H : Hp) (C : Addr) (cl : List (Str × Addr)) (fp : List Addr), PE (X.blk s H scope (compEnvC scope cl C X.env) fp) y fun σ H Q => ∃ o, TEv (c.blk o) X.K p (evE g elt) σ H Q := fun s H C cl fp =>
    PE.ex fun o => hE (c.blk o) _ _ y hg (ok.blk' o s H scope cl C fp) h8
  have hi1 : ∀ (s : Shared) (H : Hp) (C : Addr) (cl : List (Str × Addr)) (fp : List Addr), PI (X.blk s H scope (compEnvC scope cl C X.env) fp) t1 i1 fun σ H R => ∃ o, TIv (c.blk o) X.K [] lt1 (evIt g it1) σ H R := fun s H C cl fp =>
    PI.ex fun o => hI1 (c.blk o) _ _ t1 i1 hg (ok.blk' o s H scope cl C fp) h7 (tup_of hP1 h6)
  have hbk : BlkOk X.N X.env.scope scope (ownOf m.N scope) := by
    rw [ok.hN, ok.sc]
    exact blkOk_by h1
  refine (pe_lc2 (vs1 := tg1.slots) ok.calm (by rw [ok.hN]; exact ok.nd) (hI c sc X t i hg ok h5 (tup_of hP h4)) hbk (fun j hj => h3 j (List.mem_append_right _ hj)) (fun s H C cl fp => pg_blk ok h4) (fun _ _ _ _ _ => pts_nil) hi1 (fun s H C cl fp => pg_blk ok h6) (fun _ _ _ _ _ => pts_nil) he (foldedSet h5) (fun env => foldedSet (env := env) h7)).mono fun σ H Q ⟨env, st, μ, G, I, hq⟩ => ?_
  generalize hvs : (ownOf m.N scope).map (·.2) = vs at h2 h3
  rw [evE, Fin.bind] at hq
  refine ⟨env, st, μ, G, I, hq.mono (fun xs st1 _ hx J H1 μ1 L I1 S1 wk hL Dd hD => ?_) fun _ _ _ hx => hx⟩
  have hcl : clrs env (tg.slots ++ tg1.slots) = clrs env vs := clrs_ext fun j => ⟨fun z => h3 j z, fun z => h2 j z⟩
  rw [hcl] at hx
  generalize hb1 : (fun (env' : Env) (y : D) (st4 : Sto) => match bindTg tg1 y env' with
          | some env2 => ((evE g elt env2 st4).bind fun z st5 => R.ok (some z) st5).nox
          | none => .bad : Env → D → Sto → R (Option D)) = bdy1
  have hx : Fin (okE c X.K (.new1 (p.top ++ p.inn)) env μ G σ H Q) (exE c X.K env μ G σ H) ((compCat (fun x st2 => match bindTg tg x (clrs env vs) with
        | some env' => ((evIt g it1 env' st2).bind fun ys st3 => compLoop (bdy1 env') ys st3).nox
        | none => .bad) xs st1).bind fun ys st5 => .ofO st5 (guardO (ys.length ≤ sizeLine) (.lst ys))) := by
    rw [← hb1]; exact hx
  generalize hbdy : (fun x st2 => match bindTg tg x (clrs env vs) with
        | some env' => ((evIt g it1 env' st2).bind fun ys st3 => compLoop (bdy1 env') ys st3).nox
        | none => .bad : D → Sto → R (List D)) = bdy at hx
  have hnox : ∀ x st, bdy x st = (bdy x st).nox := fun x st => by
    rw [← hbdy]
    simp only
    cases bindTg tg x (clrs env vs) with
    | none => rfl
    | some env' =>
      simp only
      generalize ((evIt g it1 env' st).bind fun ys st3 => compLoop (bdy1 env') ys st3) = z
      cases z <;> rfl
  have hx2 : Fin (fun ys st5 => ys.length ≤ sizeLine ∧ okE c X.K (.new1 (p.top ++ p.inn)) env μ G σ H Q (.lst ys) st5) (fun _ _ _ => False) (compCat bdy xs st1) := by
    rw [Fin.bind, compCat_nox hnox] at hx
    refine (Fin.nox hx).mono (fun ys st5 _ hy => ?_) fun _ _ _ z => z
    obtain ⟨z, e1, hy⟩ := Fin.ofO hy
    unfold guardO at e1
    split at e1
    · cases e1
      exact ⟨by assumption, hy⟩
    · cases e1
  clear hx hq
  generalize hA : (fun (accd ys : List D) (st5 : Sto) => (accd ++ ys).length ≤ sizeLine ∧ okE c X.K (.new1 (p.top ++ p.inn)) env μ G σ H Q (.lst (accd ++ ys)) st5) = A
  have hA2 : ∀ accd ys st5, A accd ys st5 → (accd ++ ys).length ≤ sizeLine := fun accd ys st5 z => by
    rw [← hA] at z; exact z.1
  have hA3 : ∀ accd ys zs st5, A accd (ys ++ zs) st5 → A (accd ++ ys) zs st5 := fun accd ys zs st5 z => by
    rw [← hA] at z ⊢
    simp only [List.append_assoc]
    exact z
  -- what stands so far
  let Pz : (Sto → List D → List Addr → Prop) → Hp → Prop := fun φ Hh => ∃ (st' : Sto) (μ' : List Addr) (acc : List V) (accd : List D) (F : List Addr), Step μ1 H1 μ' Hh ∧ BoxOk X.K Hh μ' st' ∧ μ'.length = st'.length ∧ μ'.Nodup ∧ Hh Dd = some (.lst acc) ∧ Dd ∉ μ' ∧ Reps X.K Hh μ' accd acc F ∧
      (∀ a ∈ F, a ≠ Dd ∧ (G a = none ∨ ∃ i ∈ p.top ++ p.inn, G a = some i) ∧ a ∉ μ' ∧ c.Ok a) ∧ φ st' accd μ'
  have ebd : ∀ x st, bdy x st = (match bindTg tg x (clrs env vs) with
        | some env' => ((evIt g it1 env' st).bind fun ys st3 => compLoop (bdy1 env') ys st3).nox
        | none => .bad) := fun x st => by rw [← hbdy]
  have eb1 : ∀ env' y st, bdy1 env' y st = (match bindTg tg1 y env' with
          | some env2 => ((evE g elt env2 st).bind fun z st5 => R.ok (some z) st5).nox
          | none => .bad) := fun env' y st => by rw [← hb1]
  clear hbdy hb1 hnox
  refine ⟨fun i n Hh => n = xs.length - i ∧ i ≤ xs.length ∧ Pz (fun st' accd _ => Fin (A accd) (fun _ _ _ => False) (compCat bdy (xs.drop i) st')) Hh, ⟨xs.length, by simp, Nat.zero_le _, st1, μ1, [], [], [], .new hD, (I1.new hD).box, I1.muLen, I1.muNd, upd_same, fun z => (I1.gmu _ z).2 hD, .nil, fun _ h => by simp at h, by rw [← hA]; exact hx2⟩, ?_⟩
  rintro i n Hh ⟨rfl, hi, st', μ', acc, accd, F, S, bx, ml, md, hDd, nD, rs, hF, hfin⟩
  have I2 := I1.after S bx ml md
  by_cases hlt : i < xs.length
  · refine .inr ?_
    have hx : xs[i]? = some xs[i] := List.getElem?_eq_getElem hlt
    obtain ⟨go, yl⟩ := wk.go μ' Hh i _ S.sl hx
    refine ⟨go, fun Hh => xs.length - (i + 1) = xs.length - (i + 1) ∧ i + 1 ≤ xs.length ∧ Pz (fun st' accd _ => Fin (A accd) (fun _ _ _ => False) (compCat bdy (xs.drop (i + 1)) st')) Hh, fun H' w => ⟨xs.length - (i + 1), by omega, w⟩, fun v H' hy => ?_⟩
    obtain ⟨n1, tv, Fv, rv, hv⟩ := yl v H' hy
    rw [List.drop_eq_getElem_cons hlt, compCat, Fin.bind, ebd] at hfin
    cases eb : bindTg tg xs[i] (clrs env vs) with
    | none => rw [eb] at hfin; exact hfin.elim
    | some env' =>
      rw [eb] at hfin
      simp only at hfin
      have hfin := Fin.nox (ex' := fun _ _ _ => False) hfin
      rw [Fin.bind] at hfin
      have I4 : SI X.K c.ow (fun a => c.Ok a ∧ a ≠ Dd) env st' μ' G σ H' :=
        ((I1.fresh (xs := []) hD).afterL (fun a h => h.2) (sl_own S hD hDd nD) bx ml md).new1 n1
      refine SI.tg (I4.wipe vs) (x := xs[i]) (env' := env') (fun i hi => by rw [ok.ow]; exact ho i hi) eb rv (fun a ha => ?_) fun σ2 I5 hl hj => ⟨wipe_eq (by rw [hl, wipe_length]) fun j hn => hj j fun z => hn (h3 j (List.mem_append_left _ z)), ?_⟩
      · obtain ⟨z1, z2, z3⟩ := hv a ha
        refine ⟨z2.elim id fun ⟨i, hi, _⟩ => by simp at hi, wk.mu S.sl a z1, z3, fun e => (wk.there a z1).1 (by rw [e]; exact hD)⟩
      · refine ⟨fun a => c.Ok a ∧ a ≠ Dd, env', st', μ', G, I5, hfin.mono (fun ys st4 _ hyl J1 H4 μ4 L1 I6 S6 wk1 hL1 => ?_) fun _ _ _ z => z.elim⟩
        have Sa : Step μ' Hh μ4 H4 := n1.step.trans S6
        have Sb : Step μ1 H1 μ4 H4 := S.trans Sa
        have hD4 : H4 Dd = some (.lst acc) := Sa.keep Dd _ hDd nD
        have nD4 : Dd ∉ μ4 := Sa.notin (by rw [hDd]; simp) nD
        have L1D : ∀ a ∈ L1, a ≠ Dd := fun a ha => (hL1 a ha).2.2
        have hyl2 : Fin (fun zs st6 => Fin (A (accd ++ zs)) (fun _ _ _ => False) (compCat bdy (xs.drop (i + 1)) st6)) (fun _ _ _ => False) (compLoop (bdy1 env') ys st4) := hyl.mono (fun zs st6 _ z => by
          rw [Fin.bind] at z
          exact z.mono (fun ws st7 _ w => hA3 _ _ _ _ w) fun _ _ _ w => w) fun _ _ _ w => w
        refine ⟨fun j n Hh => n = ys.length - j ∧ j ≤ ys.length ∧ Pz (fun st' accd' μ'' => SL (· ≠ Dd) μ4 H4 μ'' Hh ∧ Fin (fun zs st6 => Fin (A (accd' ++ zs)) (fun _ _ _ => False) (compCat bdy (xs.drop (i + 1)) st6)) (fun _ _ _ => False) (compLoop (bdy1 env') (ys.drop j) st')) Hh,
          ⟨ys.length, by simp, Nat.zero_le _, st4, μ4, acc, accd, F, Sb, I6.box, I6.muLen, I6.muNd, hD4, nD4, rs.step Sa fun a ha => (hF a ha).2.2.1, fun a ha => ⟨(hF a ha).1, (hF a ha).2.1, Sa.notin (rs.there a ha) (hF a ha).2.2.1, (hF a ha).2.2.2⟩, .refl, hyl2⟩, ?_⟩
        rintro j n Hh2 ⟨rfl, hj1, st5, μ5, acc5, accd5, F5, S5, bx5, ml5, md5, hD5, nD5, rs5, hF5, sl5, hfin5⟩
        have slL : SL (· ∈ L1) μ4 H4 μ5 Hh2 := sl5.weak fun a ha => L1D a ha
        by_cases hlt1 : j < ys.length
        · refine .inr ?_
          have hy1 : ys[j]? = some ys[j] := List.getElem?_eq_getElem hlt1
          obtain ⟨go1, yl1⟩ := wk1.go μ5 Hh2 j _ slL hy1
          refine ⟨go1, fun Hh => ys.length - (j + 1) = ys.length - (j + 1) ∧ j + 1 ≤ ys.length ∧ Pz (fun st' accd' μ'' => SL (· ≠ Dd) μ4 H4 μ'' Hh ∧ Fin (fun zs st6 => Fin (A (accd' ++ zs)) (fun _ _ _ => False) (compCat bdy (xs.drop (i + 1)) st6)) (fun _ _ _ => False) (compLoop (bdy1 env') (ys.drop (j + 1)) st')) Hh, fun H' w => ⟨ys.length - (j + 1), by omega, w⟩, fun v1 H5 hyy => ?_⟩
          obtain ⟨n2, tv1, Fv1, rv1, hv1⟩ := yl1 v1 H5 hyy
          rw [List.drop_eq_getElem_cons hlt1, compLoop, Fin.bind, eb1] at hfin5
          cases eb2 : bindTg tg1 ys[j] env' with
          | none => rw [eb2] at hfin5; exact hfin5.elim
          | some env2 =>
            rw [eb2] at hfin5
            simp only at hfin5
            have hfin5 := Fin.nox (ex' := fun _ _ _ => False) hfin5
            have I7 : SI X.K c.ow (fun a => c.Ok a ∧ a ≠ Dd) env' st5 μ5 G σ2 H5 := (SI.afterL (L := (· ≠ Dd)) I6 (fun a h => h.2) sl5 bx5 ml5 md5).new1 n2
            refine SI.tg (I7.wipe tg1.slots) (x := ys[j]) (env' := env2) (fun i hi => by rw [ok.ow]; exact ho1 i hi) (bindTg_clrs (fun _ h => h) eb2) rv1 (fun a ha => ?_) fun σ3 I9 hl3 hj3 => ⟨wipe_eq (by rw [hl3, wipe_length]) fun j hn => hj3 j hn, ?_⟩
            · obtain ⟨z1, z2, z3⟩ := hv1 a ha
              exact ⟨z2.elim id fun ⟨i, hi, _⟩ => by simp at hi, wk1.mu slL a z1, z3⟩
            · rw [Fin.bind] at hfin5
              refine ⟨fun a => c.Ok a ∧ a ≠ Dd, env2, st5, μ5, G, I9, hfin5.mono (fun yv st7 _ hyv vy H7 μ7 ty Fy I10 S10 ry py => ?_) fun _ _ _ z => z.elim⟩
              have hyv : Fin (fun zs st6 => Fin (A (accd5 ++ zs)) (fun _ _ _ => False) (compCat bdy (xs.drop (i + 1)) st6)) (fun _ _ _ => False) ((compLoop (bdy1 env') (ys.drop (j + 1)) st7).bind fun ys st2 => .ok (yv :: ys) st2) := hyv
              rw [Fin.bind] at hyv
              have hyv : Fin (fun zs st6 => Fin (A (accd5 ++ [yv] ++ zs)) (fun _ _ _ => False) (compCat bdy (xs.drop (i + 1)) st6)) (fun _ _ _ => False) (compLoop (bdy1 env') (ys.drop (j + 1)) st7) := hyv.mono (fun zs st6 _ z => by
                have z : Fin (A (accd5 ++ (yv :: zs))) (fun _ _ _ => False) (compCat bdy (xs.drop (i + 1)) st6) := z
                rw [List.append_assoc, List.singleton_append]
                exact z) fun _ _ _ z => z
              have hlen : accd5.length < sizeLine := by
                cases e : compLoop (bdy1 env') (ys.drop (j + 1)) st7 with
                | ok zs st8 =>
                  rw [e] at hyv
                  have hyv : Fin (A (accd5 ++ [yv] ++ zs)) (fun _ _ _ => False) (compCat bdy (xs.drop (i + 1)) st8) := hyv
                  cases e2 : compCat bdy (xs.drop (i + 1)) st8 with
                  | ok ws st9 =>
                    rw [e2] at hyv
                    have := hA2 _ _ _ hyv
                    simp at this
                    omega
                  | exn _ _ _ => rw [e2] at hyv; exact hyv.elim
                  | bad => rw [e2] at hyv; exact hyv.elim
                | exn _ _ _ => rw [e] at hyv; exact hyv.elim
                | bad => rw [e] at hyv; exact hyv.elim
              have Sa5 : Step μ5 Hh2 μ7 H7 := n2.step.trans S10
              have Sb5 : Step μ1 H1 μ7 H7 := S5.trans Sa5
              have hD7 : H7 Dd = some (.lst acc5) := Sa5.keep Dd _ hD5 nD5
              have nD7 : Dd ∉ μ7 := Sa5.notin (by rw [hD5]; simp) nD5
              have hh : Held X.K (c.blk fun a => c.Ok a ∧ a ≠ Dd) G p H5 yv vy ty Fy μ7 H7 := ⟨ry, py⟩
              have all := hh.all I9.gdom
              have sl : SL (· ≠ Dd) μ7 H7 μ7 (upd H7 Dd (.lst (acc5 ++ [vy]))) := SL.upd hD7 fun z => z rfl
              have rs6 := rs5.step Sa5 fun a ha => (hF5 a ha).2.2.1
              have rs7 := rs6.sl sl fun a ha => ⟨Sa5.notin (rs5.there a ha) (hF5 a ha).2.2.1, (hF5 a ha).1⟩
              have ry5 := ry.sl sl fun a ha => ⟨(all a ha).2.1, (all a ha).2.2.2⟩
              obtain ⟨F', rs8, hF'⟩ := rs7.append (.cons ry5 .nil)
              refine ⟨acc5, hD7, by rw [← rs5.length]; exact hlen, rfl, hlt1, st7, μ7, acc5 ++ [vy], accd5 ++ [yv], F', Sb5.updNew hD hD7, I10.box.sl sl fun a ha vs e => ?_, I10.muLen, I10.muNd, upd_same, nD7, rs8, fun a ha => ?_, (sl5.trans (Sa5.sl (L := (· ≠ Dd))) fun _ _ _ h => h).trans sl fun _ _ _ h => h, hyv⟩
              · rw [upd_ne fun e => nD7 (by rw [← e]; exact ha)]
                exact e
              · rcases hF' a ha with ha | ha
                · exact ⟨(hF5 a ha).1, (hF5 a ha).2.1, Sa5.notin (rs5.there a ha) (hF5 a ha).2.2.1, (hF5 a ha).2.2.2⟩
                · have ha : a ∈ ty ++ Fy := by simpa using ha
                  exact ⟨(all a ha).2.2.2, (all a ha).1, (all a ha).2.1, (all a ha).2.2.1⟩
        · refine .inl ?_
          have e : j = ys.length := by omega
          subst e
          rw [List.drop_length, compLoop] at hfin5
          have hfin5 : Fin (A (accd5 ++ [])) (fun _ _ _ => False) (compCat bdy (xs.drop (i + 1)) st5) := hfin5
          rw [List.append_nil] at hfin5
          exact ⟨wk1.stop μ5 Hh2 _ slL (Nat.le_refl _), rfl, hlt, st5, μ5, acc5, accd5, F5, S5, bx5, ml5, md5, hD5, nD5, rs5, hF5, hfin5⟩
  · refine .inl ?_
    have e : i = xs.length := by omega
    subst e
    refine ⟨wk.stop μ' Hh _ S.sl (Nat.le_refl _), ?_⟩
    rw [List.drop_length, compCat] at hfin
    have hfin : A accd [] st' := hfin
    rw [← hA] at hfin
    obtain ⟨_, hfin⟩ := hfin
    rw [List.append_nil] at hfin
    refine hfin (.ref Dd) Hh μ' [Dd] F I2 (S1.trans S) (.lst hDd rs) ⟨fun a ha => ?_, fun a ha => (hF a ha).2.1, fun a ha => ?_⟩
    · rw [List.mem_singleton.mp ha]
      exact ⟨S1.wasNone hD, fun z => (hF _ z).1 rfl⟩
    · rcases List.mem_append.mp ha with ha | ha
      · rw [List.mem_singleton.mp ha]
        exact ⟨nD, I1.okn _ hD⟩
      · exact (hF a ha).2.2
end
end WT
end

section
set_option Elab.async false
set_option linter.all false
set_option maxRecDepth 100000
set_option autoImplicit false
/-! K14d: expressions on dicts, xs.index(x). -/
namespace WT
open PySem PySem.Spec PyProof.Rows L2
theorem meth_desc_index : typeOf (.builtin "list.index") = pure (.type "method_descriptor") := by show builtinType _ = _; rw [builtinType_eq_fast]; kernel_rfl
section
variable {m : MC} {g : GE} {k : Nat} {a b d e : E} {p q r : Pv}
theorem pe_dnewX {X : Cx} {pos : Pos} : PE X (.Dict [] [] pos) (fun σ H Q => ∀ p, (p == sysModules) = false → H p = none → Q (.ref p) (upd H p (DTo p []))) := ⟨fun pins s σ H Q I h =>
  wpAny_Dict_empty ⟨.ref s.heap.objs.size, _, I.laid (a := s.heap.objs.size) (o := DTo s.heap.objs.size []) (t' := s.toks) (fun _ _ q => Heap.get?_push_of_some _ q) (Nat.le_refl _)
    ⟨⟨_, #[], 0, Heap.get?_push_size _ rfl, ⟨rfl, rfl, rfl⟩, rfl, rfl, List.nodup_nil⟩, ⟨_, Heap.get?_push_size _ rfl⟩, fun h1 h2 ⟨o, es, ep, e1, e2⟩ k => ⟨o, es, ep, k _ e1, e2⟩⟩, rfl,
    h _ (beq_eq_false_iff_ne.mpr (Ne.symm (Nat.ne_of_lt I.big))) (I.hok.fresh (Nat.le_refl _))⟩⟩
theorem snd_dnew {t : Bool} : Snd m g k (.dnew t) (.new1 []) := by
  intro c sc X x hg ok h
  cases x with
  | Dict ks vs pos =>
    match ks, vs, h with
    | [], [], h =>
      cases t with
      | false =>
        refine pe_dnewK.mono fun σ H Q ⟨env, st, μ, G, I, hq⟩ => ?_
        rw [evE] at hq
        exact fun n hn => (okE.out hq I .refl (B := fun _ => False) fun a h => h.elim) (.ref n) (upd H n (.dK [])) [n] [] (.inr ⟨n, _, hn, rfl⟩) (.dK upd_same rfl rfl .nil rfl) (fun a ha => by
          have e := List.mem_singleton.mp ha
          subst e
          exact ⟨hn, by simp⟩) fun a h => by simp at h
      | true =>
        refine pe_dnewX.mono fun σ H Q ⟨env, st, μ, G, I, hq⟩ => ?_
        rw [evE] at hq
        exact fun n hs hn => (okE.out hq I .refl (B := fun _ => False) fun a h => h.elim) (.ref n) (upd H n (DTo n [])) [n] [] (.inr ⟨n, _, hn, rfl⟩) (.dT (xs := []) upd_same hs (Nat.zero_le _) rfl (fun _ h => by simp at h) .nil .nil rfl) (fun a ha => by
          have e := List.mem_singleton.mp ha
          subst e
          exact ⟨hn, by simp⟩) fun a h => by simp at h
    | _ :: _, _, h => simp [mE] at h
    | [], _ :: _, h => simp [mE] at h
  | _ => simp [mE] at h
theorem snd_dgeto (ha : Snd m g k a p) (hb : Snd m g k b q) (hd : Snd m g k d r) : Snd m g k (.dgeto a b d) (.new1 []) := by
  intro c sc X x hg ok h
  cases x with
  | Call f args kws pos =>
    cases f with
    | Attribute o f ap =>
      cases o with
      | Name x xp =>
        match args, kws, h with
        | [y, z], [], h =>
          simp only [mE, Bool.and_eq_true, beq_iff_eq] at h
          obtain ⟨⟨⟨⟨rfl, h1⟩, h2⟩, h3⟩, h4⟩ := h
          have hst : starEach [y, z] X.env = [(false, eval y X.env), (false, eval z X.env)] := by rw [star_of (mE_plain h3), star_of (mE_plain h4)]; rfl
          refine (pe_dget2 (by have := ok.room.units; omega) (ha c sc X _ hg ok h2) (hb c sc X y hg ok h3) (hd c sc X z hg ok h4) ⟨rfl, by rw [hst]; rfl, by simpa using h1, by rw [hst]; rfl⟩).mono fun σ H Q ⟨env, st, μ, G, I, hq⟩ => ?_
          rw [evE] at hq
          refine TEv.fst I hq fun x1 st1 v1 H1 μ1 t1 F1 I1 S1 r1 hq => ?_
          cases hi : isDK x1 with
          | false => rw [hi] at hq; exact hq.elim
          | true =>
            rw [hi, if_pos rfl] at hq
            obtain ⟨rp, po⟩ := r1
            cases rp <;> first | (cases hi; done) | skip
            rename_i n kvs ks vs ds F e1 e2 e3 r1 hF
            refine ⟨n, rfl, .inl ⟨kvs, .inl e1⟩, ?_⟩
            refine TEv.nxt S1 I1 hq fun x2 st2 v2 H2 μ2 t2 F2 I2 S2 r2 hq => ?_
            refine TEv.nxt (S1.trans S2) I2 hq fun x3 st3 v3 H3 μ3 t3 F3 I3 S3 r3 hq => ?_
            obtain ⟨w, e4, hq⟩ := Fin.ofO hq
            simp only [dgetoD] at e4
            split at e4
            · rename_i hn
              obtain ⟨kk, e5, rfl⟩ := Option.map_eq_some_iff.mp e4
              have k2 := r2.rep.key e5
              subst k2
              have hm : n ∉ μ1 := (po.out n (by simp)).1
              have e1' : H3 n = some (.dK kvs) := S3.keep _ _ (S2.keep _ _ e1 hm) (S2.notin (by rw [e1]; simp) hm)
              have r1' : Reps X.K H3 μ3 ds vs F := (r1.step S2 fun a h => by rw [hF] at h; simp at h).step S3 fun a h => by rw [hF] at h; simp at h
              obtain ⟨n1, n2⟩ := r3.rep.noL hn
              subst n1 n2
              refine ⟨valV kvs kk, .k e1', ?_⟩
              rcases Reps.valP kk e2 e3 r1' with ⟨d', v', t', G', a1, a2, a3, a4⟩ | ⟨a1, a2⟩
              · rw [a1] at hq
                rw [a2]
                have ht : t' = [] ∧ G' = [] := by
                  rw [hF] at a4
                  cases t' with
                  | cons z t' => exact absurd (a4 z (by simp)) (by simp)
                  | nil => cases G' with
                    | cons z t' => exact absurd (a4 z (by simp)) (by simp)
                    | nil => exact ⟨rfl, rfl⟩
                obtain ⟨rfl, rfl⟩ := ht
                exact okE.flat (p := .new1 []) hq I3 ((S1.trans S2).trans S3) a3
              · rw [a1] at hq
                rw [a2]
                exact okE.flat (p := .new1 []) hq I3 ((S1.trans S2).trans S3) r3.rep
            · cases e4
        | [], _, h => simp [mE] at h
        | [_], _, h => simp [mE] at h
        | [_, _], _ :: _, h => simp [mE] at h
        | _ :: _ :: _ :: _, _, h => simp [mE] at h
      | _ => simp [mE] at h
    | _ => simp [mE] at h
  | _ => simp [mE] at h
theorem findIdx_first {α : Type} {f : α → Bool} : ∀ {l : List α} {j : Nat}, l.findIdx? f = some j → ∃ z, l[j]? = some z ∧ f z = true ∧ ∀ (i : Nat) (y : α), i < j → l[i]? = some y → f y = false := by
  intro l j h
  rw [List.findIdx?_eq_some_iff_getElem] at h
  obtain ⟨h1, h2, h3⟩ := h
  refine ⟨l[j], List.getElem?_eq_getElem h1, h2, fun i y hi hy => ?_⟩
  have := h3 i hi
  obtain ⟨hl, rfl⟩ := List.getElem?_eq_some_iff.mp hy
  simpa using this
theorem snd_midx (ha : Snd m g k a p) (hb : Snd m g k b q) : Snd m g k (.midx a b) (.new1 []) := by
  intro c sc X x hg ok h
  cases x with
  | Call f args kws pos =>
    cases f with
    | Attribute o f ap =>
      cases o with
      | Name x xp =>
        match args, kws, h with
        | [y], [], h =>
          simp only [mE, Bool.and_eq_true, beq_iff_eq] at h
          obtain ⟨⟨⟨rfl, h1⟩, h2⟩, h3⟩ := h
          have hst := star_of (mE_plain h3) ([] : List Expr) X.env
          refine (pe_bm PySem.F.plainAttrs_list PySem.F.slot_list_index meth_desc_index (mt_indexD (by have := ok.room.un; omega)) (ha c sc X _ hg ok h2) (pa_cons (hb c sc X y hg ok h3) pa_nil hst) rfl (by rw [hst]; rfl) (by simpa using h1) hst rfl).mono fun σ H Q ⟨env, st, μ, G, I, hq⟩ => ?_
          rw [evE] at hq
          refine TEv.fst I hq fun x1 st1 v1 H1 μ1 t1 F1 I1 S1 r1 hq => ?_
          cases hi : isLst x1 with
          | false => rw [hi] at hq; exact hq.elim
          | true =>
            rw [hi, if_pos rfl] at hq
            obtain ⟨rp, po⟩ := r1
            cases rp <;> first | (cases hi; done) | skip
            rename_i n vs ds e1 rs
            refine ⟨.inl ⟨rfl, vs, .inl (.inl e1)⟩, ?_⟩
            refine TEv.nxt S1 I1 hq fun x2 st2 v2 H2 μ2 t2 F2 I2 S2 r2 hq => ?_
            obtain ⟨w, e4, hq⟩ := Fin.ofO hq
            have hm : ∀ b ∈ n :: F1, b ∉ μ1 := fun b hb => (po.out b hb).1
            have rl := (Rep.lst (μ := μ1) e1 rs).step S2 hm
            unfold midxD at e4
            split at e4
            · rename_i ps pd q1 q2
              split at e4
              · rename_i hs
                obtain ⟨j, e5, rfl⟩ := Option.map_eq_some_iff.mp e4
                obtain ⟨z, z1, z2, z3⟩ := findIdx_first e5
                refine ⟨_, _, pd, ps, j, z, rfl, rfl, rl.dp q1, r2.rep.dp q2, hs.1, hs.2, z1, z2, fun i y hi hy => z3 i y hi hy, ?_⟩
                exact okE.flat (p := .new1 []) hq I2 (S1.trans S2) (.int _)
              · cases e4
            · cases e4
        | [], _, h => simp [mE] at h
        | [_], _ :: _, h => simp [mE] at h
        | _ :: _ :: _, _, h => simp [mE] at h
      | _ => simp [mE] at h
    | _ => simp [mE] at h
  | _ => simp [mE] at h
end
end WT
end

section
set_option Elab.async false
set_option linter.all false
set_option maxRecDepth 100000
set_option autoImplicit false
set_option maxHeartbeats 4000000
/-! K15: every expression. -/
namespace WT
open PySem PySem.Spec PyProof.Rows L2

def pvTop (m : MC) (e : E) : List Nat := match pvE m e with
  | some p => p.top ++ p.inn
  | none => []
/-- whose lists may be met in what is walked -/
def pvAll (m : MC) : WT.It → List Nat
  | .seq e => pvTop m e
  | .enum e => pvTop m e
  | .zip a b => pvTop m a ++ pvTop m b
  | _ => []
section
variable {m : MC} {g : GE} {k : Nat}
theorem snd_dead {p : Pv} : Snd m g k .dead p := fun c sc X x hg ok h => ⟨fun pins s σ H Q I ⟨env, st, μ, G, J, hq⟩ => hq.elim⟩
theorem sndt_dead : SndT m g k .dead := fun c sc X x hg ok h ht => ⟨fun pins s σ H Q I ⟨env, st, μ, G, J, hq⟩ => hq.elim⟩
theorem sndt_of {e : E} {p : Pv} (h : Snd m g k e p) (hp : ∀ sc x, mE m e sc x = true → plainT x = true) : SndT m g k e := sndt_val h hp
theorem eq_mp {α : Type} {a b : Option α} {c : α} (h : a = b) (h2 : b = some c) : a = some c := h.trans h2
mutual
theorem snd : ∀ (e : E) {p : Pv}, pvE m e = some p → Snd m g k e p
  | .var i, p, h => by
    rw [pvE] at h
    cases h
    exact snd_var
  | .int i, p, h => by rw [pvE] at h; cases h; exact snd_int
  | .bl i, p, h => by rw [pvE] at h; cases h; exact snd_bl
  | .non, p, h => by rw [pvE] at h; cases h; exact snd_non
  | .str i, p, h => by rw [pvE] at h; cases h; exact snd_str
  | .glob i, p, h => by rw [pvE] at h; cases h; exact snd_glob
  | .dead, p, h => snd_dead
  | .dnew _, p, h => by rw [pvE] at h; cases h; exact snd_dnew
  | .dgeto a b d, p, h => by
    rw [pvE] at h
    cases ea : pvE m a with
    | none => rw [ea] at h; cases h
    | some pa =>
      cases eb : pvE m b with
      | none => rw [ea, eb] at h; cases h
      | some pb =>
        cases ed : pvE m d with
        | none => rw [ea, eb, ed] at h; cases h
        | some pd =>
          rw [ea, eb, ed] at h
          cases h
          exact snd_dgeto (snd a ea) (snd b eb) (snd d ed)
  | .midx a b, p, h => by
    rw [pvE] at h
    cases ea : pvE m a with
    | none => rw [ea] at h; cases h
    | some pa =>
      cases eb : pvE m b with
      | none => rw [ea, eb] at h; cases h
      | some pb =>
        rw [ea, eb] at h
        cases h
        exact snd_midx (snd a ea) (snd b eb)
  | .bin op a b, p, h => by
    rw [pvE] at h
    cases ea : pvE m a with
    | none => rw [ea] at h; cases h
    | some pa =>
      cases eb : pvE m b with
      | none => rw [ea, eb] at h; cases h
      | some pb =>
        rw [ea, eb] at h
        cases h
        exact snd_bin (snd a ea) (snd b eb)
  | .neg a, p, h => by
    rw [pvE] at h
    obtain ⟨pa, ea, rfl⟩ := Option.map_eq_some_iff.mp h
    exact snd_neg (snd a ea)
  | .not a, p, h => by
    rw [pvE] at h
    obtain ⟨pa, ea, rfl⟩ := Option.map_eq_some_iff.mp h
    exact snd_not (snd a ea)
  | .cmp op a b, p, h => by
    rw [pvE] at h
    cases ea : pvE m a with
    | none => rw [ea] at h; cases h
    | some pa =>
      cases eb : pvE m b with
      | none => rw [ea, eb] at h; cases h
      | some pb =>
        rw [ea, eb] at h
        cases h
        exact snd_cmp (snd a ea) (snd b eb)
  | .cmp2 op op2 a b d, p, h => by
    rw [pvE] at h
    cases ea : pvE m a with
    | none => rw [ea] at h; cases h
    | some pa =>
      cases eb : pvE m b with
      | none => rw [ea, eb] at h; cases h
      | some pb =>
        cases ed : pvE m d with
        | none => rw [ea, eb, ed] at h; cases h
        | some pd =>
          rw [ea, eb, ed] at h
          cases h
          exact snd_cmp2 (snd a ea) (snd b eb) (snd d ed)
  | .and a b, p, h => by
    rw [pvE] at h
    cases ea : pvE m a with
    | none => rw [ea] at h; cases h
    | some pa =>
      cases eb : pvE m b with
      | none => rw [ea, eb] at h; cases h
      | some pb =>
        rw [ea, eb] at h
        cases h
        exact snd_and (snd a ea) (snd b eb)
  | .or a b, p, h => by
    rw [pvE] at h
    cases ea : pvE m a with
    | none => rw [ea] at h; cases h
    | some pa =>
      cases eb : pvE m b with
      | none => rw [ea, eb] at h; cases h
      | some pb =>
        rw [ea, eb] at h
        cases h
        exact snd_or (snd a ea) (snd b eb)
  | .ife d a b, p, h => by
    rw [pvE] at h
    cases ed : pvE m d with
    | none => rw [ed] at h; cases h
    | some pd =>
      cases ea : pvE m a with
      | none => rw [ed, ea] at h; cases h
      | some pa =>
        cases eb : pvE m b with
        | none => rw [ed, ea, eb] at h; cases h
        | some pb =>
          rw [ed, ea, eb] at h
          cases h
          exact snd_ife (sndt d ed) (snd a ea) (snd b eb)
  | .tup es, p, h => by
    rw [pvE] at h
    obtain ⟨l, e, rfl⟩ := Option.map_eq_some_iff.mp h
    exact snd_tup (snda es e)
  | .lst es, p, h => by
    rw [pvE] at h
    obtain ⟨l, e, rfl⟩ := Option.map_eq_some_iff.mp h
    exact snd_lst (snda es e)
  | .idx a b, p, h => by
    rw [pvE] at h
    cases ea : pvE m a with
    | none => rw [ea] at h; cases h
    | some pa =>
      cases eb : pvE m b with
      | none => rw [ea, eb] at h; cases h
      | some pb =>
        rw [ea, eb] at h
        cases h
        exact snd_idx (snd a ea) (snd b eb)
  | .slice a lo hi, p, h => by
    rw [pvE] at h
    cases ea : pvE m a with
    | none => rw [ea] at h; cases h
    | some pa =>
      cases eb : pvEo m lo with
      | false => rw [ea, eb] at h; cases h
      | true =>
        cases ed : pvEo m hi with
        | false => rw [ea, eb, ed] at h; cases h
        | true =>
          rw [ea, eb, ed] at h
          cases h
          exact snd_slice (snd a ea) (sndo lo eb) (sndo hi ed)
  | .isi a ts tb, p, h => by
    rw [pvE] at h
    obtain ⟨l, e, rfl⟩ := Option.map_eq_some_iff.mp h
    exact snd_isi (snd a e)
  | .rev a, p, h => by
    rw [pvE] at h
    obtain ⟨pa, ea, rfl⟩ := Option.map_eq_some_iff.mp h
    exact snd_rev (snd a ea)
  | .rg1 l b, p, h => by
    rw [pvE] at h
    obtain ⟨pa, ea, rfl⟩ := Option.map_eq_some_iff.mp h
    exact snd_rg1 (snd b ea)
  | .rg2 l a b, p, h => by
    rw [pvE] at h
    cases ea : pvE m a with
    | none => rw [ea] at h; cases h
    | some pa =>
      cases eb : pvE m b with
      | none => rw [ea, eb] at h; cases h
      | some pb =>
        rw [ea, eb] at h
        cases h
        exact snd_rg2 (snd a ea) (snd b eb)
  | .bi f es, p, h => by
    rw [pvE] at h
    obtain ⟨l, e, rfl⟩ := Option.map_eq_some_iff.mp h
    exact snd_bi (snda es e)
  | .call f es kes ord, p, h => by
    rw [pvE] at h
    cases ea : pvEs m es with
    | none => rw [ea] at h; cases h
    | some pa =>
      cases eb : pvEs m kes with
      | none => rw [ea, eb] at h; cases h
      | some pb =>
        rw [ea, eb] at h
        cases h
        exact snd_call (snda es ea) (snda kes eb)
  | .box e, p, h => by
    rw [pvE] at h
    cases ea : pvE m e with
    | none => rw [ea] at h; cases h
    | some pa =>
      rw [ea] at h
      simp only at h
      split at h
      · rename_i hn
        cases h
        exact snd_box (snd e ea) hn
      · cases h
  | .comp tg it hif cond elt, p, h => by
    rw [pvE] at h
    cases ei : pvIt m it with
    | none => rw [ei] at h; cases h
    | some l =>
      cases ec : pvE m cond with
      | none => rw [ei, ec] at h; cases h
      | some pc =>
        cases ee : pvE m elt with
        | none => rw [ei, ec, ee] at h; cases h
        | some pe =>
          rw [ei, ec, ee] at h
          simp only at h
          split at h
          · rename_i hn
            cases h
            simp only [Bool.and_eq_true, List.all_eq_true, Bool.not_eq_true', List.isEmpty_iff] at hn
            obtain ⟨⟨h1, h2⟩, h3⟩ := hn
            subst h1
            exact snd_comp (sndi it ei) (sndt cond ec) (snd elt ee) h2 h3
          · cases h
  | .comp2 tg it tg1 it1 elt, p, h => by
    rw [pvE] at h
    cases ei : pvIt m it with
    | none => rw [ei] at h; cases h
    | some l =>
      cases ec : pvIt m it1 with
      | none => rw [ei, ec] at h; cases h
      | some l1 =>
        cases ee : pvE m elt with
        | none => rw [ei, ec, ee] at h; cases h
        | some pe =>
          rw [ei, ec, ee] at h
          simp only at h
          split at h
          · rename_i hn
            cases h
            simp only [Bool.and_eq_true, List.all_eq_true, Bool.not_eq_true', List.isEmpty_iff] at hn
            obtain ⟨⟨⟨⟨⟨h1, h2⟩, h3⟩, h4⟩, h5⟩, h6⟩ := hn
            subst h1
            subst h2
            exact snd_comp2 (sndi it ei) (sndi it1 ec) (snd elt ee) h3 h4 h5 h6
          · cases h
theorem sndt : ∀ (e : E) {p : Pv}, pvE m e = some p → SndT m g k e
  | .var i, p, h => sndt_of (snd (.var i) h) fun sc x h => by cases x <;> first | rfl | (simp [mE] at h; done)
  | .int i, p, h => sndt_of (snd (.int i) h) fun sc x h => by cases x <;> first | rfl | (simp [mE] at h; done)
  | .bl i, p, h => sndt_of (snd (.bl i) h) fun sc x h => by cases x <;> first | rfl | (simp [mE] at h; done)
  | .non, p, h => sndt_of (snd .non h) fun sc x h => by cases x <;> first | rfl | (simp [mE] at h; done)
  | .str i, p, h => sndt_of (snd (.str i) h) fun sc x h => by cases x <;> first | rfl | (simp [mE] at h; done)
  | .glob i, p, h => sndt_of (snd (.glob i) h) fun sc x h => by cases x <;> first | rfl | (simp [mE] at h; done)
  | .dead, p, h => sndt_dead
  | .dnew _, p, h => sndt_of (snd (.dnew _) h) fun sc x h => by cases x <;> first | rfl | (simp [mE] at h; done)
  | .dgeto a b d, p, h => sndt_of (snd (.dgeto a b d) h) fun sc x h => by cases x <;> first | rfl | (simp [mE] at h; done)
  | .midx a b, p, h => sndt_of (snd (.midx a b) h) fun sc x h => by cases x <;> first | rfl | (simp [mE] at h; done)
  | .bin op a b, p, h => sndt_of (snd (.bin op a b) h) fun sc x h => by cases x <;> first | rfl | (simp [mE] at h; done)
  | .neg a, p, h => sndt_of (snd (.neg a) h) fun sc x h => by
    cases x with
    | UnaryOp o _ _ => cases o <;> first | rfl | (simp [mE] at h; done)
    | _ => first | rfl | (simp [mE] at h; done)
  | .not a, p, h => by
    rw [pvE] at h
    obtain ⟨pa, ea, rfl⟩ := Option.map_eq_some_iff.mp h
    exact sndt_not (sndt a ea)
  | .cmp op a b, p, h => by
    rw [pvE] at h
    cases ea : pvE m a with
    | none => rw [ea] at h; cases h
    | some pa =>
      cases eb : pvE m b with
      | none => rw [ea, eb] at h; cases h
      | some pb => exact sndt_cmp (snd a ea) (snd b eb)
  | .cmp2 op op2 a b d, p, h => by
    rw [pvE] at h
    cases ea : pvE m a with
    | none => rw [ea] at h; cases h
    | some pa =>
      cases eb : pvE m b with
      | none => rw [ea, eb] at h; cases h
      | some pb =>
        cases ed : pvE m d with
        | none => rw [ea, eb, ed] at h; cases h
        | some pd => exact sndt_cmp2 (snd a ea) (snd b eb) (snd d ed)
  | .and a b, p, h => by
    rw [pvE] at h
    cases ea : pvE m a with
    | none => rw [ea] at h; cases h
    | some pa =>
      cases eb : pvE m b with
      | none => rw [ea, eb] at h; cases h
      | some pb => exact sndt_and (sndt a ea) (sndt b eb)
  | .or a b, p, h => by
    rw [pvE] at h
    cases ea : pvE m a with
    | none => rw [ea] at h; cases h
    | some pa =>
      cases eb : pvE m b with
      | none => rw [ea, eb] at h; cases h
      | some pb => exact sndt_or (sndt a ea) (sndt b eb)
  | .ife d a b, p, h => fun c sc X x hg ok hm ht => by cases ht
  | .tup es, p, h => sndt_of (snd (.tup es) h) fun sc x h => by cases x <;> first | rfl | (simp [mE] at h; done)
  | .lst es, p, h => sndt_of (snd (.lst es) h) fun sc x h => by cases x <;> first | rfl | (simp [mE] at h; done)
  | .idx a b, p, h => sndt_of (snd (.idx a b) h) fun sc x h => by cases x <;> first | rfl | (simp [mE] at h; done)
  | .slice a lo hi, p, h => sndt_of (snd (.slice a lo hi) h) fun sc x h => by cases x <;> first | rfl | (simp [mE] at h; done)
  | .isi a ts tb, p, h => sndt_of (snd (.isi a ts tb) h) fun sc x h => by
    obtain ⟨_, _, _, _, _, rfl, _⟩ := isi_shape h
    rfl
  | .rev a, p, h => sndt_of (snd (.rev a) h) fun sc x h => by
    obtain ⟨_, _, _, _, _, _, rfl, _⟩ := rev_shape h
    rfl
  | .rg1 l b, p, h => sndt_of (snd (.rg1 l b) h) fun sc x h => by
    obtain ⟨_, _, _, _, _, rfl, _⟩ := rg1_shape h
    rfl
  | .rg2 l a b, p, h => sndt_of (snd (.rg2 l a b) h) fun sc x h => by
    obtain ⟨_, _, _, _, _, _, rfl, _⟩ := rg2_shape h
    rfl
  | .bi f es, p, h => sndt_of (snd (.bi f es) h) fun sc x h => by cases x <;> first | rfl | (simp [mE] at h; done)
  | .call f es kes ord, p, h => sndt_of (snd (.call f es kes ord) h) fun sc x h => by cases x <;> first | rfl | (simp [mE] at h; done)
  | .box e, p, h => fun c sc X x hg ok hm ht => by cases ht
  | .comp2 tg it tg1 it1 elt, p, h => sndt_of (snd (.comp2 tg it tg1 it1 elt) h) fun sc x h => by
    obtain ⟨_, _, _, _, _, _, _, rfl, _⟩ := comp2_shape h
    rfl
  | .comp tg it hif cond elt, p, h => sndt_of (snd (.comp tg it hif cond elt) h) fun sc x h => by cases x <;> first | rfl | (simp [mE] at h; done)
theorem snda : ∀ (es : Es) {l : List Nat}, pvEs m es = some l → SndA m g k es l
  | .nil, l, h => by rw [pvEs] at h; cases h; exact snda_nil
  | .cons e es, l, h => by
    rw [pvEs] at h
    cases ea : pvE m e with
    | none => rw [ea] at h; cases h
    | some pa =>
      cases eb : pvEs m es with
      | none => rw [ea, eb] at h; cases h
      | some pb =>
        rw [ea, eb] at h
        cases h
        exact snda_cons (snd e ea) (snda es eb)
theorem sndo : ∀ (o : Eo), pvEo m o = true → SndO m g k o
  | .no, _ => sndo_no
  | .yes e, h => by
    rw [pvEo] at h
    cases ea : pvE m e with
    | none => rw [ea] at h; cases h
    | some pa => exact sndo_yes (snd e ea)
theorem sndi : ∀ (it : WT.It) {l : List Nat}, pvIt m it = some l → SndI m g k it l (pvAll m it)
  | .seq e, l, h => by
    rw [pvIt] at h
    obtain ⟨p, ea, rfl⟩ := Option.map_eq_some_iff.mp h
    rw [pvAll, pvTop, ea]
    exact sndi_seq (snd e ea)
  | .range1 a, l, h => by
    rw [pvIt] at h
    obtain ⟨p, ea, rfl⟩ := Option.map_eq_some_iff.mp h
    exact sndi_range1 (snd a ea)
  | .range2 a b, l, h => by
    rw [pvIt] at h
    cases ea : pvE m a with
    | none => rw [ea] at h; cases h
    | some pa =>
      cases eb : pvE m b with
      | none => rw [ea, eb] at h; cases h
      | some pb =>
        rw [ea, eb] at h
        cases h
        exact sndi_range2 (snd a ea) (snd b eb)
  | .range3 a b d, l, h => by
    rw [pvIt] at h
    cases ea : pvE m a with
    | none => rw [ea] at h; cases h
    | some pa =>
      cases eb : pvE m b with
      | none => rw [ea, eb] at h; cases h
      | some pb =>
        cases ed : pvE m d with
        | none => rw [ea, eb, ed] at h; cases h
        | some pd =>
          rw [ea, eb, ed] at h
          cases h
          exact sndi_range3 (snd a ea) (snd b eb) (snd d ed)
  | .enum e, l, h => by
    rw [pvIt] at h
    obtain ⟨p, ea, rfl⟩ := Option.map_eq_some_iff.mp h
    rw [pvAll, pvTop, ea]
    exact sndi_enum (snd e ea)
  | .zip a b, l, h => by
    rw [pvIt] at h
    cases ea : pvE m a with
    | none => rw [ea] at h; cases h
    | some pa =>
      cases eb : pvE m b with
      | none => rw [ea, eb] at h; cases h
      | some pb =>
        rw [ea, eb] at h
        cases h
        rw [pvAll, pvTop, pvTop, ea, eb]
        exact sndi_zip (snd a ea) (snd b eb)
end
end
end WT
end

section
set_option Elab.async false
set_option linter.all false
set_option maxRecDepth 100000
set_option autoImplicit false
/-! K16: statements: readings. -/
namespace WT
open PySem PySem.Spec PyProof.Rows L2

/-- what statements may change: boxes, the lists of the names M, new things -/
structure StepS (M : List Nat) (μ : List Addr) (G : Addr → Option Nat) (H : Hp) (μ' : List Addr) (G' : Addr → Option Nat) (H' : Hp) : Prop where
  sl : SL (fun a => ∀ i ∈ M, G a ≠ some i) μ H μ' H'
  agr : ∀ a, H a ≠ none → (∀ i ∈ M, G a ≠ some i) → G' a = G a
section
variable {M M' M1 M2 : List Nat} {μ μ1 μ2 : List Addr} {G G1 G2 : Addr → Option Nat} {H H1 H2 : Hp}
theorem StepS.refl : StepS M μ G H μ G H := ⟨.refl, fun _ _ _ => rfl⟩
theorem StepS.weak (s : StepS M μ G H μ1 G1 H1) (h : ∀ i ∈ M, i ∈ M') : StepS M' μ G H μ1 G1 H1 := ⟨s.sl.weak fun a l i hi => l i (h i hi), fun a e l => s.agr a e fun i hi => l i (h i hi)⟩
theorem StepS.trans (s : StepS M μ G H μ1 G1 H1) (r : StepS M μ1 G1 H1 μ2 G2 H2) : StepS M μ G H μ2 G2 H2 :=
  ⟨s.sl.trans r.sl fun a e n l i hi => by rw [s.agr a e l]; exact l i hi, fun a e l => by
    rw [r.agr a (s.sl.dom a e) fun i hi => by rw [s.agr a e l]; exact l i hi]
    exact s.agr a e l⟩
theorem Step.ss (s : Step μ H μ1 H1) : StepS M μ G H μ1 G H1 := ⟨s.sl, fun _ _ _ => rfl⟩
end
def okS (c : Cfg) (K : PySem.W.Frag) (M : List Nat) (rn : Bool) (μ : List Addr) (G : Addr → Option Nat) (H : Hp) (D : Ends) : RS → Prop
  | .nx env st => ∀ σ' H' μ' G', SI K c.ow c.Ok env st μ' G' σ' H' → StepS M μ G H μ' G' H' → D.nx σ' H'
  | .bk env st => ∀ σ' H' μ' G', SI K c.ow c.Ok env st μ' G' σ' H' → StepS M μ G H μ' G' H' → D.bk σ' H'
  | .ct env st => ∀ σ' H' μ' G', SI K c.ow c.Ok env st μ' G' σ' H' → StepS M μ G H μ' G' H' → D.ct σ' H'
  | .rt d st => ∀ v H' μ' G' t F, BoxOk K H' μ' st → μ'.length = st.length → μ'.Nodup → StepS M μ G H μ' G' H' → Rep K H' μ' d v t F → (∀ a ∈ t ++ F, a ∉ μ' ∧ c.Ok a) → (rn = true → ∀ a ∈ t, (H a = none ∨ G' a ≠ none) ∧ a ∉ F) → D.rt v H'
  | .exn x d env st => ∀ cls dd σ' H' μ' G', SI K c.ow c.Ok env st μ' G' σ' H' → StepS M μ G H μ' G' H' → XR c.CA K H' μ' c.Ok x d cls dd → c.W cls dd σ' H'
  | .bad => False
def TSv (c : Cfg) (K : PySem.W.Frag) (M : List Nat) (rn : Bool) (s : Env → Sto → RS) : TS := fun D σ H => ∃ env st μ G, SI K c.ow c.Ok env st μ G σ H ∧ okS c K M rn μ G H D (s env st)
section
variable {c : Cfg} {K : PySem.W.Frag} {M M' : List Nat} {rn : Bool} {μ μ1 : List Addr} {G G1 : Addr → Option Nat} {H H1 : Hp} {D : Ends} {r : RS} {p : Pv} {env : Env} {st st1 : Sto} {σ : St} {Q : VK}
theorem okS.step (h : okS c K M rn μ G H D r) (s : StepS M μ G H μ1 G1 H1) : okS c K M rn μ1 G1 H1 D r := by
  cases r with
  | nx env st => exact fun σ' H' μ' G' I s' => h σ' H' μ' G' I (s.trans s')
  | bk env st => exact fun σ' H' μ' G' I s' => h σ' H' μ' G' I (s.trans s')
  | ct env st => exact fun σ' H' μ' G' I s' => h σ' H' μ' G' I (s.trans s')
  | rt d st => exact fun v H' μ' G' t F b l n s' r po nw => h v H' μ' G' t F b l n (s.trans s') r po fun e a ha => ⟨(nw e a ha).1.imp s.sl.wasNone id, (nw e a ha).2⟩
  | exn x d env st => exact fun cls dd σ' H' μ' G' I s' x => h cls dd σ' H' μ' G' I (s.trans s') x
  | bad => exact h
theorem okS.less (h : okS c K M rn μ G H D r) (hm : ∀ i ∈ M', i ∈ M) : okS c K M' rn μ G H D r := by
  cases r with
  | nx env st => exact fun σ' H' μ' G' I s' => h σ' H' μ' G' I (s'.weak hm)
  | bk env st => exact fun σ' H' μ' G' I s' => h σ' H' μ' G' I (s'.weak hm)
  | ct env st => exact fun σ' H' μ' G' I s' => h σ' H' μ' G' I (s'.weak hm)
  | rt d st => exact fun v H' μ' G' t F b l n s' r po nw => h v H' μ' G' t F b l n (s'.weak hm) r po nw
  | exn x d env st => exact fun cls dd σ' H' μ' G' I s' x => h cls dd σ' H' μ' G' I (s'.weak hm) x
  | bad => exact h
/-- other ends -/
theorem okS.ends {D' : Ends} (h : okS c K M rn μ G H D r) (h1 : ∀ env st, r = .nx env st → okS c K M rn μ G H D' r) (h2 : ∀ env st, r = .bk env st → okS c K M rn μ G H D' r) (h3 : ∀ env st, r = .ct env st → okS c K M rn μ G H D' r) (h4 : D'.rt = D.rt) : okS c K M rn μ G H D' r := by
  cases r with
  | nx env st => exact h1 env st rfl
  | bk env st => exact h2 env st rfl
  | ct env st => exact h3 env st rfl
  | rt d st => exact fun v H' μ' G' t F b l n s' r po nw => by rw [h4]; exact h v H' μ' G' t F b l n s' r po nw
  | exn x d env st => exact h
  | bad => exact h
theorem okS.toS {α : Type} {r : R α} {f : α → Sto → RS} (I : SI K c.ow c.Ok env st μ G σ H) (h : okS c K M rn μ G H D (r.toS env f)) : Fin (fun a st1 => okS c K M rn μ G H D (f a st1)) (exE c K env μ G σ H) r := by
  cases r with
  | ok a st1 => exact h
  | exn x d st1 => exact fun cls dd H' μ' I' S' e => h cls dd σ H' μ' G I' S'.ss e
  | bad => exact h
/-- an expression at the head of a statement -/
theorem TEv.ofS {s : Env → Sto → WT.R WT.D} {f : WT.D → Sto → RS} {R' : VK} (I : SI K c.ow c.Ok env st μ G σ H) (h : okS c K M rn μ G H D ((s env st).toS env f))
    (k : ∀ x st1 v H1 μ1 t F, SI K c.ow c.Ok env st1 μ1 G σ H1 → Step μ H μ1 H1 → Held K c G p H x v t F μ1 H1 → okS c K M rn μ G H D (f x st1) → R' v H1) : TEv c K p s σ H R' :=
  ⟨env, st, μ, G, I, (h.toS I).mono (fun x st1 _ hx v H1 μ1 t F I1 S1 r po => k x st1 v H1 μ1 t F I1 S1 ⟨r, po⟩ hx) fun _ _ _ hx => hx⟩
/-- a further one -/
theorem TEv.nxtS {s : Env → Sto → WT.R WT.D} {f : WT.D → Sto → RS} {R' : VK} (S1 : Step μ H μ1 H1) (I : SI K c.ow c.Ok env st1 μ1 G σ H1) (h : okS c K M rn μ G H D ((s env st1).toS env f))
    (k : ∀ x st2 v H2 μ2 t F, SI K c.ow c.Ok env st2 μ2 G σ H2 → Step μ1 H1 μ2 H2 → Held K c G p H x v t F μ2 H2 → okS c K M rn μ G H D (f x st2) → R' v H2) : TEv c K p s σ H1 R' := by
  have h1 := (h.step S1.ss).toS I
  refine ⟨env, st1, μ1, G, I, ?_⟩
  cases e : s env st1 with
  | bad => rw [e] at h; exact h.elim
  | exn x d st2 => rw [e] at h1; exact h1
  | ok x st2 =>
    rw [e] at h
    exact fun v H2 μ2 t F I2 S2 r po => k x st2 v H2 μ2 t F I2 S2 ⟨r, po.back S1⟩ h
theorem TTv.ofS {s : Env → Sto → R Bool} {f : Bool → Sto → RS} {R' : Bool → Hp → Prop} (I : SI K c.ow c.Ok env st μ G σ H) (h : okS c K M rn μ G H D ((s env st).toS env f))
    (k : ∀ b st1 H1 μ1, SI K c.ow c.Ok env st1 μ1 G σ H1 → Step μ H μ1 H1 → okS c K M rn μ G H D (f b st1) → R' b H1) : TTv c K s σ H R' :=
  ⟨env, st, μ, G, I, (h.toS I).mono (fun b st1 _ hx H1 μ1 I1 S1 => k b st1 H1 μ1 I1 S1 hx) fun _ _ _ hx => hx⟩
theorem TIv.ofS {l lt : List Nat} {s : Env → Sto → WT.R (List WT.D)} {f : List WT.D → Sto → RS} {R' : L2.It → Hp → Prop} (I : SI K c.ow c.Ok env st μ G σ H) (h : okS c K M rn μ G H D ((s env st).toS env f))
    (k : ∀ xs st1 J H1 μ1 L, SI K c.ow c.Ok env st1 μ1 G σ H1 → Step μ H μ1 H1 → Wk K c.Ok G l J xs L μ1 H1 → (∀ a ∈ L, G a = none ∨ ∃ i ∈ lt, G a = some i) → okS c K M rn μ G H D (f xs st1) → R' J H1) : TIv c K l lt s σ H R' :=
  ⟨env, st, μ, G, I, (h.toS I).mono (fun xs st1 _ hx J H1 μ1 L I1 S1 w hl => k xs st1 J H1 μ1 L I1 S1 w (fun a ha => (hl a ha).1) hx) fun _ _ _ hx => hx⟩
end

/-! ### a name is set -/
section
variable {K : PySem.W.Frag} {ow : Nat → Bool} {Ok : Addr → Prop} {env : Env} {st : Sto} {μ : List Addr} {G : Addr → Option Nat} {σ : St} {H : Hp} {x : WT.D} {v : V} {t F : List Addr}
/-- the owner of these lists -/
def gset (G : Addr → Option Nat) (t : List Addr) (i : Nat) : Addr → Option Nat := fun a => if a ∈ t then some i else G a
theorem gset_ne {a : Addr} {i : Nat} (h : a ∉ t) : gset G t i a = G a := if_neg h
theorem gset_in {a : Addr} {i : Nat} (h : a ∈ t) : gset G t i a = some i := if_pos h
/-- a name of lists of its own gets one that is new -/
theorem SI.own {st1 : Sto} {μ1 : List Addr} {H1 : Hp} (I : SI K ow Ok env st μ G σ H) (S : Step μ H μ1 H1) (I1 : SI K ow Ok env st1 μ1 G σ H1) {i : Nat} (hi : ow i = true) (r : Rep K H1 μ1 x v t F) (h1 : ∀ a ∈ t, H a = none ∧ a ∉ F) (h2 : ∀ a ∈ F, G a = none) (h3 : ∀ a ∈ t ++ F, a ∉ μ1 ∧ Ok a) :
    SI K ow Ok (env.set i (some x)) st1 μ1 (gset G t i) (σ.set i (some v)) H1 := by
  refine ⟨fun j d e => ?_, I1.box, I1.muLen, I1.muNd, fun a ha => ⟨?_, (I1.gmu a ha).2⟩, fun a ha => ?_, I1.okn, by simpa using I.len⟩
  · rcases slot_set e with ⟨rfl, hl, e⟩ | ⟨hne, e⟩
    · cases e
      exact ⟨v, t, F, by rw [List.getElem?_set_self (Nat.lt_of_lt_of_le hl I.len)], r, fun a ha => by rw [hi, gset_in ha]; rfl, fun a ha => by rw [gset_ne fun z => (h1 a z).2 ha]; exact h2 a ha, h3⟩
    · obtain ⟨v', t', F', e1, r', g1, g2, g3⟩ := I.slot j d e
      have n : ∀ a ∈ t' ++ F', a ∉ t := fun a ha z => r'.there a ha (h1 a z).1
      refine ⟨v', t', F', by rw [List.getElem?_set_ne (Ne.symm hne)]; exact e1, r'.step S fun a ha => (g3 a ha).1, fun a ha => ?_, fun a ha => ?_, fun a ha => ⟨S.notin (r'.there a ha) (g3 a ha).1, (g3 a ha).2⟩⟩
      · rw [gset_ne (n a (List.mem_append_left _ ha))]; exact g1 a ha
      · rw [gset_ne (n a (List.mem_append_right _ ha))]; exact g2 a ha
  · rw [gset_ne fun z => (h3 a (List.mem_append_left _ z)).1 ha]
    exact (I1.gmu a ha).1
  · by_cases z : a ∈ t
    · exact r.there a (List.mem_append_left _ z)
    · rw [gset_ne z] at ha
      exact I1.gdom a ha
theorem gset_ss {M : List Nat} {μ1 : List Addr} {H1 : Hp} {i : Nat} (S : Step μ H μ1 H1) (h : ∀ a ∈ t, H a = none) : StepS M μ G H μ1 (gset G t i) H1 := ⟨S.sl, fun a ha _ => gset_ne fun z => ha (h a z)⟩
/-- what a name gets where it holds no lists -/
theorem SI.flat (I : SI K ow Ok env st μ G σ H) {i : Nat} (r : Rep K H μ x v [] []) : SI K ow Ok (env.set i (some x)) st μ G (σ.set i (some v)) H := by
  refine ⟨fun j d e => ?_, I.box, I.muLen, I.muNd, I.gmu, I.gdom, I.okn, by simpa using I.len⟩
  rcases slot_set e with ⟨rfl, hl, e⟩ | ⟨hne, e⟩
  · cases e
    exact ⟨v, [], [], by rw [List.getElem?_set_self (Nat.lt_of_lt_of_le hl I.len)], r, fun _ h => by simp at h, fun _ h => by simp at h, fun _ h => by simp at h⟩
  · obtain ⟨v', t', F', e1, r'⟩ := I.slot j d e
    exact ⟨v', t', F', by rw [List.getElem?_set_ne (Ne.symm hne)]; exact e1, r'⟩
theorem SI.kill (I : SI K ow Ok env st μ G σ H) {i : Nat} : SI K ow Ok (env.set i none) st μ G σ H := by
  refine ⟨fun j d e => ?_, I.box, I.muLen, I.muNd, I.gmu, I.gdom, I.okn, by simpa using I.len⟩
  rcases slot_set e with ⟨_, _, e⟩ | ⟨hne, e⟩
  · cases e
  · exact I.slot j d e
end
end WT
end

section
set_option Elab.async false
set_option linter.all false
set_option maxRecDepth 100000
set_option autoImplicit false
/-! K17: values go to names. -/
namespace WT
open PySem PySem.Spec PyProof.Rows L2

def Cfg.ok (c : Cfg) (o : Addr → Prop) : Cfg := { c with Ok := o }
theorem XOk.ok {m : MC} {c : Cfg} {k : Nat} {sc : Scope} {X : Cx} (x : XOk m c k sc X) (o : Addr → Prop) : XOk m (c.ok o) k sc X :=
  { hN := x.hN, nd := x.nd, sc := x.sc, ow := x.ow, calm := x.calm, room := x.room, tk := x.tk, fns := x.fns, cons := x.cons, free := x.free, gcd := x.gcd }
theorem SI.less {K : PySem.W.Frag} {ow : Nat → Bool} {Ok Ok' : Addr → Prop} {env : Env} {st : Sto} {μ : List Addr} {G : Addr → Option Nat} {σ : St} {H : Hp} (I : SI K ow Ok env st μ G σ H) (h : ∀ a, Ok a → Ok' a) : SI K ow Ok' env st μ G σ H := by
  refine ⟨fun i d e => ?_, I.box, I.muLen, I.muNd, I.gmu, I.gdom, fun a ha => h a (I.okn a ha), I.len⟩
  obtain ⟨v, t, F, e1, r, g1, g2, g3⟩ := I.slot i d e
  exact ⟨v, t, F, e1, r, g1, g2, fun a ha => ⟨(g3 a ha).1, h a (g3 a ha).2⟩⟩
/-- does the kind fit what is known? -/
def akC (m : MC) (i : Nat) (k : Ak) (p : Pv) : Bool := match k with
  | .own => m.ow i && p.new && p.inn.isEmpty
  | .pln => !m.ow i && (p.new || p.top.isEmpty) && p.inn.isEmpty
  | .nl => true
  | .n1 => !m.ow i && p.new
theorem Rep.noI {K : PySem.W.Frag} {H : Hp} {μ : List Addr} {d : WT.D} {v : V} {t F : List Addr} (r : Rep K H μ d v t F) (h : WT.noI d = true) : F = [] := by
  cases d with
  | lst xs => cases r with
    | lst _ s => exact Reps.noL s h
  | _ => exact (Rep.noL r h).2
section
variable {m : MC} {c : Cfg} {K : PySem.W.Frag} {M : List Nat} {rn : Bool} {μ μ1 μ2 : List Addr} {G GA : Addr → Option Nat} {H H1 H2 : Hp} {D : Ends} {p : Pv} {env envA : Env} {st st1 st2 : Sto} {σ σA : St} {x : WT.D} {v : V} {t F : List Addr}
theorem Held.pln (h : Held K c G p H x v t F μ1 H1) (gd : ∀ a, G a ≠ none → H a ≠ none) (h1 : (p.new || p.top.isEmpty) = true) (h2 : p.inn = []) : ∀ a ∈ t ++ F, G a = none ∧ a ∉ μ1 ∧ c.Ok a := fun a ha => by
  refine ⟨?_, h.po.out a ha⟩
  rcases List.mem_append.mp ha with ha | ha
  · have z := h.po.top a ha
    cases e : p.new with
    | true =>
      rw [e, if_pos rfl] at z
      cases q : G a with
      | none => rfl
      | some i => exact absurd z.1 (gd a (by rw [q]; simp))
    | false =>
      rw [e, if_neg (by simp)] at z
      rw [e, Bool.false_or, List.isEmpty_iff] at h1
      rw [h1] at z
      exact z.elim id fun ⟨i, hi, _⟩ => by simp at hi
  · have z := h.po.inn a ha
    rw [h2] at z
    exact z.elim id fun ⟨i, hi, _⟩ => by simp at hi
/-- a name set, as its kind says; T' are the lists that got an owner -/
theorem SI.putK (how : c.ow = m.ow) (I : SI K c.ow c.Ok env st μ G σ H) (S : Step μ H μ1 H1) (I1 : SI K c.ow c.Ok env st1 μ1 G σ H1) {i : Nat} {k : Ak} (h : Held K c G p H x v t F μ1 H1) (hk : akC m i k p = true) (hd : akOk k x = true) :
    ∃ (G' : Addr → Option Nat) (T : List Addr), SI K c.ow c.Ok (env.set i (some x)) st1 μ1 G' (σ.set i (some v)) H1 ∧ (∀ a ∈ T, H a = none ∧ H1 a ≠ none) ∧ (∀ a, a ∉ T → G' a = G a) := by
  cases k with
  | own =>
    simp only [akC, Bool.and_eq_true, List.isEmpty_iff] at hk
    obtain ⟨⟨h1, h2⟩, h3⟩ := hk
    have ht : ∀ a ∈ t, H a = none ∧ a ∉ F := fun a ha => by
      have z := h.po.top a ha
      rw [if_pos h2] at z
      exact z
    refine ⟨gset G t i, t, I.own S I1 (by rw [how]; exact h1) h.rep ht (fun a ha => ?_) h.po.out, fun a ha => ⟨(ht a ha).1, h.rep.there a (List.mem_append_left _ ha)⟩, fun a ha => gset_ne ha⟩
    have z := h.po.inn a ha
    rw [h3] at z
    exact z.elim id fun ⟨i, hi, _⟩ => by simp at hi
  | pln =>
    simp only [akC, Bool.and_eq_true, List.isEmpty_iff, Bool.not_eq_true'] at hk
    obtain ⟨⟨h1, h2⟩, h3⟩ := hk
    exact ⟨G, [], I1.put (by rw [how]; exact h1) h.rep (h.pln I.gdom h2 h3), fun _ h => by simp at h, fun _ _ => rfl⟩
  | nl =>
    obtain ⟨e1, e2⟩ := h.rep.noL hd
    subst e1
    subst e2
    exact ⟨G, [], I1.flat h.rep, fun _ h => by simp at h, fun _ _ => rfl⟩
  | n1 =>
    simp only [akC, Bool.and_eq_true, Bool.not_eq_true'] at hk
    obtain ⟨h1, h2⟩ := hk
    have hF : F = [] := Rep.noI h.rep hd
    subst hF
    refine ⟨G, [], I1.put (by rw [how]; exact h1) h.rep (fun a ha => ?_), fun _ h => by simp at h, fun _ _ => rfl⟩
    have ha' : a ∈ t := by simpa using ha
    have z := h.po.top a ha'
    rw [if_pos h2] at z
    refine ⟨?_, h.po.out a ha⟩
    cases q : G a with
    | none => rfl
    | some i => exact absurd z.1 (I.gdom a (by rw [q]; simp))
/-- values come one after another, and go to their names only then: σA, envA, GA as if they had gone -/
structure Acc (c : Cfg) (K : PySem.W.Frag) (env : Env) (μ : List Addr) (G : Addr → Option Nat) (σ : St) (H : Hp) (st1 : Sto) (μ1 : List Addr) (H1 : Hp) (envA : Env) (GA : Addr → Option Nat) (σA : St) (T : List Addr) : Prop where
  act : SI K c.ow c.Ok env st1 μ1 G σ H1
  vir : SI K c.ow c.Ok envA st1 μ1 GA σA H1
  step : Step μ H μ1 H1
  tn : ∀ a ∈ T, H a = none ∧ H1 a ≠ none
  ga : ∀ a, a ∉ T → GA a = G a
theorem Acc.nil (I : SI K c.ow c.Ok env st μ G σ H) : Acc c K env μ G σ H st μ H env G σ [] := ⟨I, I, .refl, fun _ h => by simp at h, fun _ _ => rfl⟩
theorem Acc.ss {T : List Addr} (A : Acc c K env μ G σ H st1 μ1 H1 envA GA σA T) : StepS M μ G H μ1 GA H1 := ⟨A.step.sl, fun a ha _ => A.ga a fun z => ha (A.tn a z).1⟩
theorem Acc.put {T : List Addr} (how : c.ow = m.ow) (A : Acc c K env μ G σ H st1 μ1 H1 envA GA σA T) {i : Nat} {k : Ak} (I2 : SI K c.ow c.Ok env st2 μ2 G σ H2) (S2 : Step μ1 H1 μ2 H2) (h : Held K c G p H1 x v t F μ2 H2) (hT : ∀ a ∈ t ++ F, a ∉ T) (hk : akC m i k p = true) (hd : akOk k x = true) :
    ∃ (GB : Addr → Option Nat) (T' : List Addr), Acc c K env μ G σ H st2 μ2 H2 (envA.set i (some x)) GB (σA.set i (some v)) T' := by
  have V2 := A.vir.after S2 I2.box I2.muLen I2.muNd
  have h' : Held K c GA p H1 x v t F μ2 H2 := by
    refine ⟨h.rep, fun a ha => ?_, fun a ha => ?_, h.po.out⟩
    · have z := h.po.top a ha
      rw [A.ga a (hT a (List.mem_append_left _ ha))]
      exact z
    · rw [A.ga a (hT a (List.mem_append_right _ ha))]
      exact h.po.inn a ha
  obtain ⟨GB, T2, J, t2, g2⟩ := A.vir.putK how S2 V2 h' hk hd
  refine ⟨GB, T2 ++ T, I2, J, A.step.trans S2, fun a ha => ?_, fun a ha => ?_⟩
  · rcases List.mem_append.mp ha with ha | ha
    · exact ⟨A.step.wasNone (t2 a ha).1, (t2 a ha).2⟩
    · exact ⟨(A.tn a ha).1, S2.dom a (A.tn a ha).2⟩
  · rw [g2 a fun z => ha (List.mem_append_left _ z), A.ga a fun z => ha (List.mem_append_right _ z)]
/-- a further value, away from those -/
theorem Acc.eval {T : List Addr} {s : Env → Sto → WT.R WT.D} {f : WT.D → Sto → RS} {R' : VK} (I : SI K c.ow c.Ok env st μ G σ H) (A : Acc c K env μ G σ H st1 μ1 H1 envA GA σA T) (h : okS c K M rn μ G H D ((s env st1).toS env f))
    (k : ∀ x st2 v H2 μ2 t F, SI K c.ow c.Ok env st2 μ2 G σ H2 → Step μ1 H1 μ2 H2 → Held K c G p H1 x v t F μ2 H2 → (∀ a ∈ t ++ F, a ∉ T) → okS c K M rn μ G H D (f x st2) → R' v H2) : ∃ o, TEv (c.ok o) K p s σ H1 R' := by
  refine ⟨fun a => c.Ok a ∧ a ∉ T, env, st1, μ1, G, ?_, ?_⟩
  · refine ⟨fun i d e => ?_, A.act.box, A.act.muLen, A.act.muNd, A.act.gmu, A.act.gdom, fun a ha => ⟨A.act.okn a ha, fun z => (A.tn a z).2 ha⟩, A.act.len⟩
    obtain ⟨v, t, F, e1, r, g1, g2, g3⟩ := I.slot i d e
    exact ⟨v, t, F, e1, r.step A.step fun a ha => (g3 a ha).1, g1, g2, fun a ha => ⟨A.step.notin (r.there a ha) (g3 a ha).1, (g3 a ha).2, fun z => r.there a ha (A.tn a z).1⟩⟩
  · have h1 := (h.step A.step.ss).toS A.act
    cases e : s env st1 with
    | bad => rw [e] at h; exact h.elim
    | exn x d st2 =>
      rw [e] at h1
      exact fun cls dd H' μ' I' S' xr => h1 cls dd H' μ' (I'.less fun a z => z.1) S' (xr.mono fun a z => z.1)
    | ok x st2 =>
      rw [e] at h
      exact fun v H2 μ2 t F I2 S2 r po => k x st2 v H2 μ2 t F (I2.less fun a z => z.1) S2 ⟨r, po.top, po.inn, fun a ha => ⟨(po.out a ha).1, (po.out a ha).2.1⟩⟩ (fun a ha => (po.out a ha).2.2) h
end
end WT
end

section
set_option Elab.async false
set_option linter.all false
set_option maxRecDepth 100000
set_option autoImplicit false
/-! K18: lists are changed; which text a statement is. -/
namespace WT
open PySem PySem.Spec PyProof.Rows L2

section
variable {K : PySem.W.Frag} {ow : Nat → Bool} {Ok : Addr → Prop} {env : Env} {st : Sto} {μ : List Addr} {G : Addr → Option Nat} {σ : St} {H : Hp} {M : List Nat}
theorem Reps.flatMu {ds : List D} {vs : List V} (r : Reps K H μ ds vs []) {L : Addr → Prop} {μ' : List Addr} {H' : Hp} (s : SL L μ H μ' H') : Reps K H' μ' ds vs [] := r.sl s fun _ h => by simp at h
theorem SI.chgOwn (I : SI K ow Ok env st μ G σ H) {i : Nat} (hi : ow i = true) (hM : i ∈ M) {xs ys : List D} (e : WT.slot env i = some (.lst xs)) :
    ∃ a vs F, σ[i]? = some (some (.ref a)) ∧ H a = some (.lst vs) ∧ Reps K H μ xs vs F ∧ (∀ b ∈ F, G b = none ∧ b ∉ μ ∧ Ok b) ∧ ∀ vs' F', Reps K H μ ys vs' F' → (∀ b ∈ F', G b = none ∧ b ∉ μ ∧ Ok b) →
      SI K ow Ok (env.set i (some (.lst ys))) st μ G σ (upd H a (.lst vs')) ∧ StepS M μ G H μ G (upd H a (.lst vs')) := by
  obtain ⟨v, t, F, e1, r, g1, g2, g3⟩ := I.slot i _ e
  cases r with
  | lst ha rs =>
    rename_i a vs
    have ga : G a = some i := by rw [g1 a (by simp), hi]; rfl
    have na : a ∉ μ := (g3 a (by simp)).1
    refine ⟨a, vs, F, e1, ha, rs, fun b hb => ⟨g2 b hb, g3 b (by simp [hb])⟩, fun vs' F' rs' hF' => ?_⟩
    have sl : SL (· ≠ a) μ H μ (upd H a (.lst vs')) := SL.upd ha fun z => z rfl
    have ne : ∀ b, G b ≠ some i → b ≠ a := fun b hb z => hb (by rw [z]; exact ga)
    refine ⟨⟨fun j d ej => ?_, I.box.sl sl fun b hb ws eb => ?_, I.muLen, I.muNd, fun b hb => ⟨(I.gmu b hb).1, sl.dom b (I.gmu b hb).2⟩, fun b hb => sl.dom b (I.gdom b hb), fun b hb => I.okn b (sl.wasNone hb), by simpa using I.len⟩, SL.upd ha fun z => z i hM ga, fun _ _ _ => rfl⟩
    · rcases slot_set ej with ⟨rfl, hl, ej⟩ | ⟨hne, ej⟩
      · cases ej
        refine ⟨.ref a, [a], F', e1, .lst upd_same (rs'.sl sl fun b hb => ⟨(hF' b hb).2.1, ne b (by rw [(hF' b hb).1]; simp)⟩), fun b hb => g1 b hb, fun b hb => (hF' b hb).1, fun b hb => ?_⟩
        rcases List.mem_append.mp hb with hb | hb
        · exact g3 b (List.mem_append_left _ hb)
        · exact (hF' b hb).2
      · obtain ⟨v', t', F2, e2, r2, k1, k2, k3⟩ := I.slot j d ej
        refine ⟨v', t', F2, e2, r2.sl sl fun b hb => ⟨(k3 b hb).1, ne b ?_⟩, k1, k2, k3⟩
        rcases List.mem_append.mp hb with hb | hb
        · rw [k1 b hb]
          split
          · exact fun z => hne (Option.some.inj z)
          · simp
        · rw [k2 b hb]; simp
    · rw [upd_ne fun z => na (by rw [← z]; exact hb)]
      exact eb
theorem SI.chgRef (I : SI K ow Ok env st μ G σ H) {i k : Nat} {xs ys : List D} (e : WT.slot env i = some (.ref k)) (ex : st[k]? = some xs) :
    ∃ a vs, σ[i]? = some (some (.ref a)) ∧ H a = some (.lst vs) ∧ Reps K H μ xs vs [] ∧ ∀ vs', Reps K H μ ys vs' [] →
      SI K ow Ok env (st.set k ys) μ G σ (upd H a (.lst vs')) ∧ StepS M μ G H μ G (upd H a (.lst vs')) := by
  obtain ⟨v, t, F, e1, r, g1, g2, g3⟩ := I.slot i _ e
  cases r with
  | ref hk =>
    rename_i a
    obtain ⟨a', vs, hk', ha, rs⟩ := I.box k xs ex
    rw [hk] at hk'
    cases hk'
    have ma : a ∈ μ := List.mem_of_getElem? hk
    refine ⟨a, vs, e1, ha, rs, fun vs' rs' => ?_⟩
    have sl : SL (· ≠ a) μ H μ (upd H a (.lst vs')) := SL.upd ha fun z => z rfl
    refine ⟨⟨fun j d ej => ?_, fun j zs ej => ?_, by rw [List.length_set]; exact I.muLen, I.muNd, fun b hb => ⟨(I.gmu b hb).1, sl.dom b (I.gmu b hb).2⟩, fun b hb => sl.dom b (I.gdom b hb), fun b hb => I.okn b (sl.wasNone hb), I.len⟩, ⟨fun b o eb nb _ => ?_, sl.tups, sl.frzs, sl.dom, sl.ext⟩, fun _ _ _ => rfl⟩
    · obtain ⟨v', t', F2, e2, r2, k1, k2, k3⟩ := I.slot j d ej
      exact ⟨v', t', F2, e2, r2.sl sl fun b hb => ⟨(k3 b hb).1, fun z => (k3 b hb).1 (by rw [z]; exact ma)⟩, k1, k2, k3⟩
    · by_cases hj : j = k
      · subst hj
        rw [List.getElem?_set_self (List.getElem?_eq_some_iff.mp ex).1] at ej
        cases ej
        exact ⟨a, vs', hk, upd_same, rs'.flatMu sl⟩
      · rw [List.getElem?_set_ne (Ne.symm hj)] at ej
        obtain ⟨b, ws, hb, eb, rb⟩ := I.box j zs ej
        refine ⟨b, ws, hb, ?_, rb.flatMu sl⟩
        rw [upd_ne ?_]
        · exact eb
        · intro z
          subst z
          have h1 := (List.getElem?_eq_some_iff.mp hb).1
          have h2 := (List.getElem?_eq_some_iff.mp hk).1
          have h3 := (List.getElem?_eq_some_iff.mp hb).2
          have h4 := (List.getElem?_eq_some_iff.mp hk).2
          exact hj ((List.getElem_inj I.muNd).mp (h3.trans h4.symm))
    · rw [upd_ne fun z => nb (by rw [z]; exact ma)]
      exact eb
end

/-! ### which text a statement is, and what must be known of it -/
def fnB (sc : Scope) : Bool := match sc.kind with | .function => true | _ => false
def lclB (sc : Scope) (x : Str) : Bool := match sc.names.lookup x with | some .local => true | _ => false
def isLC : Expr → Bool
  | .ListComp _ _ _ _ => true
  | .SetComp _ _ _ _ => true
  | .DictComp _ _ _ _ _ => true
  | _ => false
def isComp : E → Bool
  | .comp _ _ _ _ _ => true
  | _ => false
def swL (sc : Scope) (x : Str) (p : Pos) : Expr → Bool
  | .ListComp _ _ scope pos => p.line == pos.line && lclB sc x && !(scope.names.any fun (n, k) => n == x && (k == .local || k == .cell))
  | _ => false
def isTupX : Expr → Bool
  | .Tuple _ _ _ => true
  | _ => false
def stars : List Expr → Bool := fun vs => vs.any fun | .Starred .. => true | _ => false
/-- a tuple display is taken apart as it stands: no stores from the right -/
def swNone (t y : Expr) : Bool := match t, y with
  | .Tuple ts _ _, .Tuple vs _ _ => !(ts.length == 2 || ts.length == 3) || vs.length != ts.length || vs.all (foldedForSure 8)
  | _, _ => true
def swPair (sc : Scope) (x y : Str) (px py : Pos) (vs : List Expr) : Bool := lclB sc x && lclB sc y && py.line == px.line && !(vs.all (foldedForSure 8)) && !(vs.all (constantsAlone 8))
def swTri (sc : Scope) (x y z : Str) (px py pz : Pos) (vs : List Expr) : Bool := lclB sc x && lclB sc y && lclB sc z && py.line == px.line && pz.line == px.line && !(vs.all (foldedForSure 8)) && !(vs.all (constantsAlone 8))
def pvK (m : MC) (e : E) (f : Pv → Bool) : Bool := match pvE m e with
  | some p => f p
  | none => false
def plnP (p : Pv) : Bool := (p.new || p.top.isEmpty) && p.inn.isEmpty
def ownVar (m : MC) : E → Bool
  | .var i => m.ow i
  | _ => false
def nmC (m : MC) (sc : Scope) (i : Nat) (x : Str) : Bool := decide (m.N[i]? = some x) && locB sc x
def isKill : S → Option Nat
  | .kill i => some i
  | _ => none
def isDead : S → Bool
  | .dead => true
  | _ => false
mutual
/-- whose lists are changed -/
def tchs : S → List Nat
  | .move _ j => [j]
  | .setIx i o _ _ _ => if o then [i] else []
  | .augIx i o _ _ _ => if o then [i] else []
  | .app i o _ _ => if o then [i] else []
  | .mth i o _ _ => if o then [i] else []
  | .dput i _ _ => [i]
  | .ite _ a b => tchss a ++ tchss b
  | .whl _ b => tchss b
  | .for_ _ _ b => tchss b
  | _ => []
def tchss : Ss → List Nat
  | .nil => []
  | .cons s ss => tchs s ++ tchss ss
end
def augOp : Operator → Bool
  | .Add => true
  | .Sub => true
  | .Mult => true
  | _ => false
def cRet (m : MC) (sc : Scope) (rn : Bool) (e : E) (st : Stmt) : Bool := match st with
  | .Return (some x) _ => mE m e sc x && pvK m e fun p => !rn || p.new || ownVar m e
  | _ => false
def cRetN (st : Stmt) : Bool := match st with
  | .Return none _ => true
  | _ => false
def cSet (m : MC) (sc : Scope) (i : Nat) (k : Ak) (e : E) (st : Stmt) : Bool := match st with
  | .Assign [.Name x p] y _ => nmC m sc i x && mE m e sc y && pvK m e (akC m i k) && (!isLC y || (isComp e && swL sc x p y))
  | _ => false
def cSetT (m : MC) (sc : Scope) (tg : Tg) (e : E) (st : Stmt) : Bool := match st with
  | .Assign [t] y _ => isTupX t && mTg m sc tg t && mE m e sc y && pvK m e plnP && (tg.slots.all fun i => !m.ow i) && swNone t y
  | _ => false
def cPar (m : MC) (sc : Scope) (i j : Nat) (ki kj : Ak) (a b : E) (st : Stmt) : Bool := match st with
  | .Assign [.Tuple [.Name x px, .Name y py] _ _] (.Tuple [u, v] _ _) _ => nmC m sc i x && nmC m sc j y && decide (i ≠ j) && mE m a sc u && mE m b sc v && pvK m a (akC m i ki) && pvK m b (akC m j kj) && (swPair sc x y px py [u, v] || ([u, v].all (foldedForSure 8) || (!lclB sc x || !lclB sc y)))
  | _ => false
def cPar3 (m : MC) (sc : Scope) (i j l : Nat) (ki kj kl : Ak) (a b c : E) (st : Stmt) : Bool := match st with
  | .Assign [.Tuple [.Name x px, .Name y py, .Name z pz] _ _] (.Tuple [u, v, w] _ _) _ => nmC m sc i x && nmC m sc j y && nmC m sc l z && decide (i ≠ j) && decide (i ≠ l) && decide (j ≠ l) && mE m a sc u && mE m b sc v && mE m c sc w &&
      pvK m a (akC m i ki) && pvK m b (akC m j kj) && pvK m c (akC m l kl) && (swTri sc x y z px py pz [u, v, w] || [u, v, w].all (foldedForSure 8))
  | _ => false
def cMove (m : MC) (sc : Scope) (i j : Nat) (st : Stmt) : Bool := match st with
  | .Assign [.Name x _] (.Name y _) _ => nmC m sc i x && decide (m.N[j]? = some y) && visB sc y && plB y && decide (m.ow i = m.ow j) && decide (i ≠ j)
  | _ => false
def cAug (m : MC) (sc : Scope) (i : Nat) (op : Operator) (e : E) (st : Stmt) : Bool := match st with
  | .AugAssign (.Name x _) op' y _ => nmC m sc i x && decide (op = op') && augOp op && mE m e sc y && pvK m e fun _ => true
  | _ => false
def cSetIx (m : MC) (sc : Scope) (i : Nat) (o nl : Bool) (ix e : E) (st : Stmt) : Bool := match st with
  | .Assign [.Subscript (.Name x _) z _] y _ => decide (m.N[i]? = some x) && visB sc x && plB x && mE m ix sc z && mE m e sc y && (!o || m.ow i) && (pvK m e fun p => nl || plnP p) && pvK m ix fun _ => true
  | _ => false
def cAugIx (m : MC) (sc : Scope) (i : Nat) (o : Bool) (op : Operator) (ix e : E) (st : Stmt) : Bool := match st with
  | .AugAssign (.Subscript (.Name x _) z _) op' y _ => decide (m.N[i]? = some x) && visB sc x && plB x && mE m ix sc z && mE m e sc y && decide (op = op') && augOp op && (!o || m.ow i) && (pvK m e fun _ => true) && pvK m ix fun _ => true
  | _ => false
def cApp (m : MC) (sc : Scope) (i : Nat) (o nl : Bool) (e : E) (st : Stmt) : Bool := match st with
  | .Expr (.Call (.Attribute (.Name x _) f ap) [y] [] cp) _ => f == ("append" : Str) && decide (m.N[i]? = some x) && visB sc x && plB x && mE m e sc y && (!o || m.ow i) && (pvK m e fun p => nl || plnP p) && ap.endLine == cp.line
  | _ => false
def Mth.nm : Mth → Str
  | .extend => "extend"
  | .insert => "insert"
  | .reverse => "reverse"
def cMth (m : MC) (sc : Scope) (i : Nat) (o : Bool) (f : Mth) (es : Es) (st : Stmt) : Bool := match st with
  | .Expr (.Call (.Attribute (.Name x _) n ap) (y :: ys) [] cp) _ => n == f.nm && decide (m.N[i]? = some x) && visB sc x && plB x && mEs m es sc (y :: ys) && (!o || m.ow i) && (pvEs m es).isSome && ap.endLine == cp.line && decide (ys.length ≤ 1) && !decide (f = .reverse)
  | _ => false
def cDput (m : MC) (sc : Scope) (i : Nat) (k e : E) (st : Stmt) : Bool := match st with
  | .Assign [.Subscript (.Name x _) z _] y _ => decide (m.N[i]? = some x) && visB sc x && plB x && mE m k sc z && mE m e sc y && m.ow i && !isLC y && (pvK m e fun _ => true) && pvK m k fun _ => true
  | _ => false
def cDrop (m : MC) (sc : Scope) (e : E) (st : Stmt) : Bool := match st with
  | .Expr x _ => mE m e sc x && !isLC x && pvK m e fun _ => true
  | _ => false
def cBrk (st : Stmt) : Bool := match st with
  | .Break _ => true
  | _ => false
def cCont (st : Stmt) : Bool := match st with
  | .Continue _ => true
  | _ => false
def cPass (st : Stmt) : Bool := match st with
  | .Pass _ => true
  | _ => false
def cIf (m : MC) (sc : Scope) (e : E) (f f' : List Stmt → Bool) (st : Stmt) : Bool := match st with
  | .If x p q _ => mE m e sc x && tOk e && (pvK m e fun _ => true) && f p && f' q
  | _ => false
def cWh (m : MC) (sc : Scope) (e : E) (f : List Stmt → Bool) (st : Stmt) : Bool := match st with
  | .While x p [] _ => mE m e sc x && tOk e && (pvK m e fun _ => true) && f p
  | _ => false
def cFor (m : MC) (sc : Scope) (tg : Tg) (it : It) (M : List Nat) (f : List Stmt → Bool) (st : Stmt) : Bool := match st with
  | .For t i p [] _ => mTg m sc tg t && mIt m it sc i && itTg it tg && (match pvIt m it with | some l => l.isEmpty | none => false) && (tg.slots.all fun i => !m.ow i) && ((pvAll m it).all fun i => decide (i ∉ M)) && f p
  | _ => false
def cCons (d : Bool) (k : Bool) (f : List Stmt → Bool) (f1 : Stmt → Bool) (f2 : List Stmt → Bool) (stmts : List Stmt) : Bool := d || (if k then f stmts else match stmts with
    | st :: r => f1 st && f2 r
    | [] => false)
mutual
def cS (m : MC) (sc : Scope) (rn : Bool) : S → Stmt → Bool
  | .ret e, st => cRet m sc rn e st
  | .retN, st => cRetN st
  | .set i k e, st => cSet m sc i k e st
  | .setT tg e, st => cSetT m sc tg e st
  | .par i j ki kj a b, st => cPar m sc i j ki kj a b st
  | .par3 i j l ki kj kl a b c, st => cPar3 m sc i j l ki kj kl a b c st
  | .move i j, st => cMove m sc i j st
  | .aug i op e, st => cAug m sc i op e st
  | .setIx i o nl ix e, st => cSetIx m sc i o nl ix e st
  | .augIx i o op ix e, st => cAugIx m sc i o op ix e st
  | .app i o nl e, st => cApp m sc i o nl e st
  | .mth i o f es, st => cMth m sc i o f es st
  | .dput i k e, st => cDput m sc i k e st
  | .ite e a b, st => cIf m sc e (fun p => cSs m sc rn a p) (fun q => cSs m sc rn b q) st
  | .whl e a, st => cWh m sc e (fun p => cSs m sc rn a p) st
  | .for_ tg it a, st => cFor m sc tg it (tchss a) (fun p => cSs m sc rn a p) st
  | .brk, st => cBrk st
  | .cont, st => cCont st
  | .pass, st => cPass st
  | .drop e, st => cDrop m sc e st
  | .kill _, _ => false
  | .raise_ _ _, _ => false
  | .dead, _ => true
def cSs (m : MC) (sc : Scope) (rn : Bool) : Ss → List Stmt → Bool
  | .nil, stmts => stmts.isEmpty
  | .cons s ss, stmts => cCons (isDead s) (isKill s).isSome (fun l => cSs m sc rn ss l) (fun st => cS m sc rn s st) (fun l => cSs m sc rn ss l) stmts
end
end WT
end

section
set_option Elab.async false
set_option linter.all false
set_option maxRecDepth 100000
set_option autoImplicit false
/-! K19: statements do what they are evaluated to. -/
namespace WT
open PySem PySem.Spec PyProof.Rows L2

structure XS (m : MC) (c : Cfg) (k : Nat) (sc : Scope) (X : Cx) : Prop where
  ok : XOk m c k sc X
  fn : ∀ x, X.fn x = true
  po : PassesOwn (model X.prog X.w) X.A X.env X.xe
  kind : sc.kind = .function
def SndS (m : MC) (g : GE) (k : Nat) (rn : Bool) (s : S) : Prop := ∀ (c : Cfg) (sc : Scope) (X : Cx) (st : Stmt), c.g = g → XS m c k sc X → cS m sc rn s st = true → PS X st (TSv c X.K (tchs s) rn (evS g s))
def SndSs (m : MC) (g : GE) (k : Nat) (rn : Bool) (s : Ss) : Prop := ∀ (c : Cfg) (sc : Scope) (X : Cx) (st : List Stmt), c.g = g → XS m c k sc X → cSs m sc rn s st = true → PSs X st (TSv c X.K (tchss s) rn (evSs g s))
theorem pvK_of {m : MC} {e : E} {f : Pv → Bool} (h : pvK m e f = true) : ∃ p, pvE m e = some p ∧ f p = true := by
  unfold pvK at h
  split at h
  · exact ⟨_, by assumption, h⟩
  · cases h
theorem sw_plain {y : Expr} {t : Option Expr} {l : Nat} {env : PySem.Env} (h : isLC y = false) : swapsWith y t l env = pure false := by
  cases y <;> first | rfl | (cases h; done)
theorem sw_tup {y t : Expr} {l : Nat} {env : PySem.Env} (h : isTupX t = true) : swapsWithSole [t] y l env = pure false := by
  cases t <;> first | (cases h; done) | skip
  cases y <;> rfl
theorem sw_none {t y : Expr} {env : PySem.Env} (ht : isTupX t = true) (h : swNone t y = true) : swappedStores [t] y env = pure none := by
  cases t with
  | Tuple ts k p =>
    cases y with
    | Tuple vs k2 p2 =>
      simp only [swNone, Bool.or_eq_true] at h
      unfold swappedStores
      simp only [pure_bind]
      rcases h with (h | h) | h
      · rw [if_pos (by rw [h]; rfl)]
      · rw [if_pos (by rw [h]; simp)]
      · split
        · rfl
        · split
          · rfl
          · split
            · rfl
            · rfl
    | _ => rfl
  | _ => cases ht
theorem lclB_of {sc : Scope} {x : Str} (h : lclB sc x = true) : sc.names.lookup x = some .local := by
  unfold lclB at h
  split at h
  · assumption
  · cases h
theorem blkFn {env : PySem.Env} (h : env.scope.kind = .function) : env.blockKind = .function := by
  unfold Env.blockKind
  rw [h]
  rfl
theorem kindOf_lcl {env : PySem.Env} {x : Str} (h : lclB env.scope x = true) : env.kindOf x = some .local := lclB_of h
theorem sw_pair {x y : Str} {px py pt pt2 : Pos} {kt k2 : Nat} {u v : Expr} {env : PySem.Env} (hk : env.scope.kind = .function) (hne : x ≠ y) (hu : plainX u = true) (hv : plainX v = true) (h : swPair env.scope x y px py [u, v] = true) :
    swappedStores [.Tuple [.Name x px, .Name y py] kt pt] (.Tuple [u, v] k2 pt2) env = pure (some [x, y]) := by
  simp only [swPair, Bool.and_eq_true, Bool.not_eq_true'] at h
  obtain ⟨⟨⟨⟨h1, h2⟩, h3⟩, h4⟩, h5⟩ := h
  have e1 : (x == y) = false := by simpa using hne
  unfold swappedStores
  simp only [pure_bind, blkFn hk, List.any_cons, List.any_nil, Expr.pos, List.head?, Option.map_some, Option.getD_some, List.filterMap_cons, List.filterMap_nil, kindOf_lcl h1, kindOf_lcl h2, h3, h4, h5, beq_self_eq_true, Bool.and_self, if_true, List.length_cons, List.length_nil]
  rw [if_neg (by simp), if_neg ?_, if_neg (by simp [List.eraseDups_cons, hne.symm, e1])]
  · rfl
  · have hs : ∀ w : Expr, plainX w = true → (match w with | .Starred .. => true | _ => false) = false := fun w hw => by cases w <;> first | rfl | (cases hw; done)
    intro z
    rw [Bool.or_eq_true, Bool.or_eq_true] at z
    rcases z with z | z | z
    · have := hs u hu
      exact absurd (this.symm.trans z) (by decide)
    · have := hs v hv
      exact absurd (this.symm.trans z) (by decide)
    · cases z
theorem kindOf_ncl {env : PySem.Env} {x : Str} (h : lclB env.scope x = false) : (env.kindOf x == some .local) = false := by
  refine Bool.eq_false_iff.mpr fun e => ?_
  have e2 : env.scope.names.lookup x = some .local := eq_of_beq e
  unfold lclB at h
  rw [e2] at h
  cases h
theorem sw_cell {x y : Str} {px py pt pt2 : Pos} {kt k2 : Nat} {u v : Expr} {env : PySem.Env} (h : (!lclB env.scope x || !lclB env.scope y) = true) :
    swappedStores [.Tuple [.Name x px, .Name y py] kt pt] (.Tuple [u, v] k2 pt2) env = pure none := by
  unfold swappedStores
  simp only [pure_bind]
  split
  · rfl
  · split
    · rfl
    · rw [Bool.or_eq_true, Bool.not_eq_true', Bool.not_eq_true'] at h
      refine if_pos ?_
      rcases h with h | h
      · simp only [List.filterMap_cons, List.filterMap_nil, kindOf_ncl h, Bool.false_and]
        split <;> split <;> simp_all
      · simp only [List.filterMap_cons, List.filterMap_nil, kindOf_ncl h, Bool.false_and]
        split <;> split <;> simp_all
theorem sw_tri {x y z : Str} {px py pz pt pt2 : Pos} {kt k2 : Nat} {u v w : Expr} {env : PySem.Env} (hk : env.scope.kind = .function) (hxy : x ≠ y) (hxz : x ≠ z) (hyz : y ≠ z) (hu : plainX u = true) (hv : plainX v = true) (hw : plainX w = true) (h : swTri env.scope x y z px py pz [u, v, w] = true) :
    swappedStores [.Tuple [.Name x px, .Name y py, .Name z pz] kt pt] (.Tuple [u, v, w] k2 pt2) env = pure (some [x, y, z]) := by
  simp only [swTri, Bool.and_eq_true, Bool.not_eq_true'] at h
  obtain ⟨⟨⟨⟨⟨⟨h1, h2⟩, h3⟩, h6⟩, h7⟩, h4⟩, h5⟩ := h
  have e1 : (x == y) = false := by simpa using hxy
  have e2 : (x == z) = false := by simpa using hxz
  have e3 : (y == z) = false := by simpa using hyz
  unfold swappedStores
  simp only [pure_bind, blkFn hk, List.any_cons, List.any_nil, Expr.pos, List.head?, Option.map_some, Option.getD_some, List.filterMap_cons, List.filterMap_nil, kindOf_lcl h1, kindOf_lcl h2, kindOf_lcl h3, h6, h7, h4, h5, beq_self_eq_true, Bool.and_self, if_true, List.length_cons, List.length_nil]
  rw [if_neg (by simp), if_neg ?_, if_neg (by simp [List.eraseDups_cons, hxy.symm, hxz.symm, hyz.symm, e1, e2, e3])]
  · rfl
  · have hs : ∀ w : Expr, plainX w = true → (match w with | .Starred .. => true | _ => false) = false := fun w hw => by cases w <;> first | rfl | (cases hw; done)
    intro z
    rw [Bool.or_eq_true, Bool.or_eq_true, Bool.or_eq_true] at z
    rcases z with z | z | z | z
    · exact absurd ((hs u hu).symm.trans z) (by decide)
    · exact absurd ((hs v hv).symm.trans z) (by decide)
    · exact absurd ((hs w hw).symm.trans z) (by decide)
    · cases z
end WT
end

section
set_option Elab.async false
set_option linter.all false
set_option maxRecDepth 100000
set_option autoImplicit false
/-! K20: statements do what they are evaluated to. -/
namespace WT
open PySem PySem.Spec PyProof.Rows L2

section
variable {m : MC} {g : GE} {k : Nat} {rn : Bool} {a b d e : E}
theorem nmC_of {sc : Scope} {i : Nat} {x : Str} (h : nmC m sc i x = true) : m.N[i]? = some x ∧ locB sc x = true := by
  unfold nmC at h
  rw [Bool.and_eq_true, decide_eq_true_eq] at h
  exact h
theorem sm_ret : SndS m g k rn (.ret e) := by
  intro c sc X st hg xs h
  rw [cS] at h
  unfold cRet at h
  split at h
  · rename_i x pos
    rw [Bool.and_eq_true] at h
    obtain ⟨h1, h2⟩ := h
    obtain ⟨p, hp, h2⟩ := pvK_of h2
    cases ho : ownVar m e with
    | false =>
      refine (ps_ret (snd e hp c sc X x hg xs.ok h1)).mono fun D σ H ⟨env, st, μ, G, I, hq⟩ => ?_
      rw [evS] at hq
      refine TEv.ofS I hq fun x st1 v H1 μ1 t F I1 S1 r1 hq => ?_
      refine hq v H1 μ1 G t F I1.box I1.muLen I1.muNd S1.ss r1.rep r1.po.out fun hrn a ha => ?_
      rw [ho, hrn] at h2
      have hn : p.new = true := by simpa using h2
      have z := r1.po.top a ha
      rw [if_pos hn] at z
      exact ⟨.inl z.1, z.2⟩
    | true =>
      cases e with
      | var i =>
        cases x with
        | Name y ypos =>
          simp only [mE, Bool.and_eq_true, decide_eq_true_eq] at h1
          obtain ⟨⟨h3, h4⟩, h5⟩ := h1
          obtain ⟨d1, d2⟩ := plB_ok h5
          refine (ps_ret (pe_var (i := i) (by rw [xs.ok.hN]; exact h3) (xs.ok.vis h4) d1 d2)).mono fun D σ H ⟨env, st, μ, G, I, hq⟩ => ?_
          rw [evS, evE] at hq
          cases e1 : slot env i with
          | none => rw [e1] at hq; exact hq.elim
          | some d =>
            rw [e1] at hq
            obtain ⟨v, t, F, e2, r, g1, g2, g3⟩ := I.slot i d e1
            refine ⟨v, e2, hq v H μ G t F I.box I.muLen I.muNd .refl r g3 fun _ a ha => ?_⟩
            have z := g1 a ha
            rw [xs.ok.ow, show m.ow i = true from ho, if_pos rfl] at z
            exact ⟨.inr (by rw [z]; simp), fun hm => by rw [g2 a hm] at z; cases z⟩
        | _ => simp [mE] at h1
      | _ => cases ho
  · cases h
theorem sm_retN : SndS m g k rn .retN := by
  intro c sc X st hg xs h
  rw [cS] at h
  unfold cRetN at h
  split at h
  · exact ps_retN.mono fun D σ H ⟨env, st, μ, G, I, hq⟩ => by
      rw [evS] at hq
      exact hq .non H μ G [] [] I.box I.muLen I.muNd .refl .non (fun _ h => by simp at h) fun _ _ h => by simp at h
  · cases h
theorem comp_of {tg : Tg} {it : WT.It} {hif : Bool} {cond elt : E} {p : Pv} (h : pvE m (.comp tg it hif cond elt) = some p) : ∃ lt pe, SndI m g k it [] lt ∧ SndT m g k cond ∧ Snd m g k elt pe ∧ (∀ i ∈ tg.slots, m.ow i = false) ∧ itTg it tg = true ∧ p = .new1 (pe.top ++ pe.inn) := by
  rw [pvE] at h
  cases ei : pvIt m it with
  | none => rw [ei] at h; cases h
  | some l =>
    cases ec : pvE m cond with
    | none => rw [ei, ec] at h; cases h
    | some pc =>
      cases ee : pvE m elt with
      | none => rw [ei, ec, ee] at h; cases h
      | some pe =>
        rw [ei, ec, ee] at h
        simp only at h
        split at h
        · rename_i hn
          cases h
          simp only [Bool.and_eq_true, List.all_eq_true, Bool.not_eq_true', List.isEmpty_iff] at hn
          obtain ⟨⟨h1, h2⟩, h3⟩ := hn
          subst h1
          exact ⟨_, pe, sndi it ei, sndt cond ec, snd elt ee, h2, h3, rfl⟩
        · cases h
theorem sm_set {i : Nat} {kk : Ak} : SndS m g k rn (.set i kk e) := by
  intro c sc X st hg xs h
  have key : ∀ {p : Pv}, akC m i kk p = true → ∀ (D : Ends) (σ : St) (H : Hp), TSv c X.K (tchs (.set i kk e)) rn (evS g (.set i kk e)) D σ H → tAsg (TEv c X.K p (evE g e)) (gName i) D σ H := fun {p} hk D σ H ⟨env, st, μ, G, I, hq⟩ => by
    rw [evS] at hq
    refine TEv.ofS I hq fun x st1 v H1 μ1 t F I1 S1 r1 hq => ?_
    split at hq
    · rename_i hd
      obtain ⟨G', T, J, t1, g1⟩ := SI.putK xs.ok.ow I S1 I1 r1 hk hd
      exact hq _ H1 μ1 G' J ⟨S1.sl, fun a ha _ => g1 a fun z => ha (t1 a z).1⟩
    · exact hq.elim
  rw [cS] at h
  unfold cSet at h
  split at h
  · rename_i x px y pos
    simp only [Bool.and_eq_true, Bool.or_eq_true, Bool.not_eq_true'] at h
    obtain ⟨⟨⟨h1, h2⟩, h3⟩, h4⟩ := h
    obtain ⟨n1, n2⟩ := nmC_of h1
    obtain ⟨p, hp, hk⟩ := pvK_of h3
    have hN : X.N.Nodup := by rw [xs.ok.hN]; exact xs.ok.nd
    have hi : X.N[i]? = some x := by rw [xs.ok.hN]; exact n1
    rcases h4 with h4 | ⟨h4, h5⟩
    · exact (ps_set hN hi (xs.ok.loc n2) (snd e hp c sc X y hg xs.ok h2) (sw_plain h4) (.inl (xs.fn x))).mono (key hk)
    · cases e with
      | comp tg it hif cond elt =>
        obtain ⟨lt, pe, hI, hC, hE, ho, hP, rfl⟩ := comp_of (g := g) (k := k) hp
        obtain ⟨y1, t, i1, ifs, scope, cpos, own, wi, gT, tt, te, rfl, b1, b2, b3, b4, b5, b6, b7⟩ := comp_parts hI hC hE ho hP hg xs.ok h2
        simp only [swL, Bool.and_eq_true, Bool.not_eq_true'] at h5
        obtain ⟨⟨s1, s2⟩, s3⟩ := h5
        have hl : X.env.scope.names.lookup x = some .local := by rw [xs.ok.sc]; exact lclB_of s2
        exact (ps_setLc xs.ok.calm hN hi hl (sw_true (by rw [xs.ok.sc]; exact xs.kind) hl s1 s3) b1 b2 b3 b4 b5 b6).mono fun D σ H z => b7 σ H _ (key hk D σ H z)
      | _ => cases h4
  · cases h
theorem pg_st {c : Cfg} {sc : Scope} {X : Cx} {tg : Tg} {t : Expr} (xs : XS m c k sc X) (h : mTg m sc tg t = true) : PG X t (tgG X.K tg) :=
  pg_tgT xs.ok.calm (fun i x pos hi hl => pg_name (by rw [xs.ok.hN]; exact xs.ok.nd) (by rw [xs.ok.hN]; exact hi) (xs.ok.loc hl) (.inl (xs.fn x))) h
theorem plnP_of {p : Pv} (h : plnP p = true) : (p.new || p.top.isEmpty) = true ∧ p.inn = [] := by
  unfold plnP at h
  rw [Bool.and_eq_true, List.isEmpty_iff] at h
  exact h
theorem sm_setT {tg : Tg} : SndS m g k rn (.setT tg e) := by
  intro c sc X st hg xs h
  rw [cS] at h
  unfold cSetT at h
  split at h
  · rename_i t y pos
    simp only [Bool.and_eq_true, List.all_eq_true, Bool.not_eq_true'] at h
    obtain ⟨⟨⟨⟨⟨h1, h2⟩, h3⟩, h4⟩, h5⟩, h6⟩ := h
    obtain ⟨p, hp, hk⟩ := pvK_of h4
    obtain ⟨k1, k2⟩ := plnP_of hk
    refine (ps_asg (snd e hp c sc X y hg xs.ok h3) (pg_st xs h2) (sw_tup h1) (sw_none h1 h6) ?_).mono fun D σ H ⟨env, st, μ, G, I, hq⟩ => ?_
    · cases t with
      | Tuple _ _ _ => rfl
      | _ => cases h1
    · rw [evS] at hq
      refine TEv.ofS I hq fun x st1 v H1 μ1 t F I1 S1 r1 hq => ?_
      cases hb : bindTg tg x env with
      | none => rw [hb] at hq; exact hq.elim
      | some env' =>
        rw [hb] at hq
        exact SI.tg I1 (fun i hi => by rw [xs.ok.ow]; exact h5 i hi) hb r1.rep (r1.pln I.gdom k1 k2) fun σ' I' hl hj => hq σ' H1 μ1 G I' S1.ss
  · cases h
theorem sm_brk : SndS m g k rn .brk := by
  intro c sc X st hg xs h
  rw [cS] at h
  unfold cBrk at h
  split at h
  · exact ps_break.mono fun D σ H ⟨env, st, μ, G, I, hq⟩ => by
      rw [evS] at hq
      exact hq σ H μ G I .refl
  · cases h
theorem sm_cont : SndS m g k rn .cont := by
  intro c sc X st hg xs h
  rw [cS] at h
  unfold cCont at h
  split at h
  · exact ps_continue.mono fun D σ H ⟨env, st, μ, G, I, hq⟩ => by
      rw [evS] at hq
      exact hq σ H μ G I .refl
  · cases h
theorem sm_pass : SndS m g k rn .pass := by
  intro c sc X st hg xs h
  rw [cS] at h
  unfold cPass at h
  split at h
  · exact ps_pass.mono fun D σ H ⟨env, st, μ, G, I, hq⟩ => by
      rw [evS] at hq
      exact hq σ H μ G I .refl
  · cases h
theorem sm_dead : SndS m g k rn .dead := fun c sc X st hg xs h => ps_never.mono fun D σ H ⟨env, st, μ, G, I, hq⟩ => by
  rw [evS] at hq
  exact hq
theorem sm_drop : SndS m g k rn (.drop e) := by
  intro c sc X st hg xs h
  rw [cS] at h
  unfold cDrop at h
  split at h
  · rename_i x pos
    simp only [Bool.and_eq_true, Bool.not_eq_true'] at h
    obtain ⟨⟨h1, h2⟩, h3⟩ := h
    obtain ⟨p, hp, _⟩ := pvK_of h3
    refine (ps_expr (snd e hp c sc X x hg xs.ok h1) (sw_plain h2)).mono fun D σ H ⟨env, st, μ, G, I, hq⟩ => ?_
    rw [evS] at hq
    exact TEv.ofS I hq fun x st1 v H1 μ1 t F I1 S1 r1 hq => hq σ H1 μ1 G I1 S1.ss
  · cases h
end
end WT
end

section
set_option Elab.async false
set_option linter.all false
set_option maxRecDepth 100000
set_option autoImplicit false
/-! K21: statements: several names, changes of lists. -/
namespace WT
open PySem PySem.Spec PyProof.Rows L2

section
variable {m : MC} {g : GE} {k : Nat} {rn : Bool} {a b d e : E}
theorem Acc.new {c : Cfg} {K : PySem.W.Frag} {env envA : Env} {μ μ1 : List Addr} {G GA : Addr → Option Nat} {σ σA : St} {H H1 : Hp} {st1 : Sto} {T : List Addr} (A : Acc c K env μ G σ H st1 μ1 H1 envA GA σA T) {p : Addr} {o : HO} (hp : H1 p = none) : Acc c K env μ G σ H st1 μ1 (upd H1 p o) envA GA σA T :=
  ⟨A.act.new hp, A.vir.new hp, A.step.trans (.new hp), fun a ha => ⟨(A.tn a ha).1, (Step.new (μ := μ1) (o := o) hp).dom a (A.tn a ha).2⟩, A.ga⟩
theorem nodup_ne {N : List Str} {i j : Nat} {x y : Str} (hN : N.Nodup) (hi : N[i]? = some x) (hj : N[j]? = some y) (h : i ≠ j) : x ≠ y := fun e => by
  subst e
  have h1 := (List.getElem?_eq_some_iff.mp hi)
  have h2 := (List.getElem?_eq_some_iff.mp hj)
  obtain ⟨l1, e1⟩ := h1
  obtain ⟨l2, e2⟩ := h2
  exact h ((List.getElem_inj hN).mp (e1.trans e2.symm))
theorem folded_swNone {t1 t2 : List Expr} {k1 k2 : Nat} {p1 p2 : Pos} (h : t2.all (foldedForSure 8) = true) : swNone (.Tuple t1 k1 p1) (.Tuple t2 k2 p2) = true := by
  unfold swNone
  simp only [h, Bool.or_true]
theorem Acc.fit {c : Cfg} {K : PySem.W.Frag} {env envA : Env} {μ μ1 : List Addr} {G GA : Addr → Option Nat} {σ σA : St} {H H1 : Hp} {st1 : Sto} {T : List Addr} {M : List Nat} {D : Ends} (A : Acc c K env μ G σ H st1 μ1 H1 envA GA σA T) (h : okS c K M rn μ G H D (.nx envA st1)) : D.nx σA H1 := h σA H1 μ1 GA A.vir A.ss
theorem sm_par {i j : Nat} {ki kj : Ak} : SndS m g k rn (.par i j ki kj a b) := by
  intro c sc X st hg xs h
  rw [cS] at h
  unfold cPar at h
  split at h
  · rename_i x px y py kt pt u v k2 pt2 pos
    simp only [Bool.and_eq_true, Bool.or_eq_true, decide_eq_true_eq] at h
    obtain ⟨⟨⟨⟨⟨⟨⟨h1, h2⟩, h3⟩, h4⟩, h5⟩, h6⟩, h7⟩, h8⟩ := h
    obtain ⟨n1, n2⟩ := nmC_of h1
    obtain ⟨n3, n4⟩ := nmC_of h2
    obtain ⟨p, hp, hk⟩ := pvK_of h6
    obtain ⟨q, hq, hk2⟩ := pvK_of h7
    have hN : X.N.Nodup := by rw [xs.ok.hN]; exact xs.ok.nd
    have hi : X.N[i]? = some x := by rw [xs.ok.hN]; exact n1
    have hj : X.N[j]? = some y := by rw [xs.ok.hN]; exact n3
    have pa := pa_cons (snd (k := k) a hp c sc X u hg xs.ok h4) (pa_cons (PE.ex fun o => snd (k := k) b hq (c.ok o) sc X v hg (xs.ok.ok o) h5) pa_nil (star_of (mE_plain h5) _ _)) (star_of (mE_plain h4) _ _)
    have key : ∀ (D : Ends) (σ : St) (H : Hp) (Q : List V → Hp → Prop), (∀ v w H1, D.nx ((σ.set i (some v)).set j (some w)) H1 → True) → TSv c X.K (tchs (.par i j ki kj a b)) rn (evS g (.par i j ki kj a b)) D σ H →
        (∀ v w μ1 H1 st1 env μ G envA GA T, Acc c X.K env μ G σ H st1 μ1 H1 envA GA ((σ.set i (some v)).set j (some w)) T → okS c X.K [] rn μ G H D (.nx envA st1) → Q [v, w] H1) → tCons (TEv c X.K p (evE g a)) (tCons (fun σ H Q => ∃ o, TEv (c.ok o) X.K q (evE g b) σ H Q) tNil) σ H Q := fun D σ H Q _ ⟨env, st, μ, G, I, hw⟩ kk => by
      rw [evS] at hw
      refine TEv.ofS I hw fun x1 st1 v1 H1 μ1 t1 F1 I1 S1 r1 hw => ?_
      cases hd : akOk ki x1 with
      | false => rw [hd] at hw; exact hw.elim
      | true =>
        rw [hd, if_pos rfl] at hw
        obtain ⟨GB, T1, A1⟩ := (Acc.nil I).put xs.ok.ow I1 S1 r1 (fun _ _ h => by simp at h) hk hd
        refine A1.eval I hw fun x2 st2 v2 H2 μ2 t2 F2 I2 S2 r2 hT hw => ?_
        cases hd2 : akOk kj x2 with
        | false => rw [hd2] at hw; exact hw.elim
        | true =>
          rw [hd2, if_pos rfl] at hw
          obtain ⟨GC, T2, A2⟩ := A1.put xs.ok.ow I2 S2 r2 hT hk2 hd2
          exact kk v1 v2 μ2 H2 st2 env μ G _ _ _ A2 hw
    rcases h8 with h8 | h8
    · have h9 := h8
      simp only [swPair, Bool.and_eq_true] at h9
      refine (ps_par xs.ok.calm hN hi hj h3 (by rw [xs.ok.sc]; exact lclB_of h9.1.1.1.1) (by rw [xs.ok.sc]; exact lclB_of h9.1.1.1.2) pa (sw_pair (by rw [xs.ok.sc]; exact xs.kind) (nodup_ne hN hi hj h3) (mE_plain h4) (mE_plain h5) (by rw [xs.ok.sc]; exact h8)) (sw_tup rfl)).mono fun D σ H hw => ?_
      exact key D σ H _ (fun _ _ _ _ => trivial) hw fun v w μ1 H1 st1 env μ G envA GA T A hw => ⟨v, w, rfl, A.fit hw⟩
    · have hsw : ∀ env : PySem.Env, env.scope = sc → swappedStores [.Tuple [.Name x px, .Name y py] kt pt] (.Tuple [u, v] k2 pt2) env = pure none := fun env he => by
        rcases h8 with h8 | h8
        · exact sw_none rfl (folded_swNone h8)
        · exact sw_cell (by rw [he, Bool.or_eq_true]; exact h8)
      refine (ps_asg (pe_tup pa) (pg_tup xs.ok.calm (pgs_cons (pg_name hN hi (xs.ok.loc n2) (.inl (xs.fn x))) (pgs_cons (pg_name hN hj (xs.ok.loc n4) (.inl (xs.fn y))) pgs_nil))) (sw_tup rfl) (hsw _ xs.ok.sc)).mono fun D σ H hw => ?_
      exact key D σ H (fun vs H1 => vs.length ≤ sizeLine ∧ ∀ p, H1 p = none → gTup X.K 2 (gCons (gName i) (gCons (gName j) gNil)) (.ref p) σ (upd H1 p (.tup vs)) D.nx) (fun _ _ _ _ => trivial) hw fun v w μ1 H1 st1 env μ G envA GA T A hw =>
        ⟨by show 2 ≤ sizeLine; decide, fun p hp => ⟨p, [v, w], rfl, .inl (.inl upd_same), rfl, v, [w], rfl, w, [], rfl, rfl, (A.new hp).fit hw⟩⟩
  · cases h
theorem sm_par3 {i j l : Nat} {ki kj kl : Ak} : SndS m g k rn (.par3 i j l ki kj kl a b d) := by
  intro c sc X st hg xs h
  rw [cS] at h
  unfold cPar3 at h
  split at h
  · rename_i x px y py z pz kt pt u v w k2 pt2 pos
    simp only [Bool.and_eq_true, Bool.or_eq_true, decide_eq_true_eq] at h
    obtain ⟨⟨⟨⟨⟨⟨⟨⟨⟨⟨⟨⟨h1, h2⟩, h3⟩, n12⟩, n13⟩, n23⟩, h4⟩, h5⟩, h6⟩, h7⟩, h8⟩, h9⟩, h10⟩ := h
    obtain ⟨n1, n2⟩ := nmC_of h1
    obtain ⟨n3, n4⟩ := nmC_of h2
    obtain ⟨n5, n6⟩ := nmC_of h3
    obtain ⟨p, hp, hk⟩ := pvK_of h7
    obtain ⟨q, hq, hk2⟩ := pvK_of h8
    obtain ⟨r, hr, hk3⟩ := pvK_of h9
    have hN : X.N.Nodup := by rw [xs.ok.hN]; exact xs.ok.nd
    have hi : X.N[i]? = some x := by rw [xs.ok.hN]; exact n1
    have hj : X.N[j]? = some y := by rw [xs.ok.hN]; exact n3
    have hl : X.N[l]? = some z := by rw [xs.ok.hN]; exact n5
    have pa := pa_cons (snd (k := k) a hp c sc X u hg xs.ok h4) (pa_cons (PE.ex fun o => snd (k := k) b hq (c.ok o) sc X v hg (xs.ok.ok o) h5) (pa_cons (PE.ex fun o => snd (k := k) d hr (c.ok o) sc X w hg (xs.ok.ok o) h6) pa_nil (star_of (mE_plain h6) _ _)) (star_of (mE_plain h5) _ _)) (star_of (mE_plain h4) _ _)
    have key : ∀ (D : Ends) (σ : St) (H : Hp) (Q : List V → Hp → Prop), TSv c X.K (tchs (.par3 i j l ki kj kl a b d)) rn (evS g (.par3 i j l ki kj kl a b d)) D σ H →
        (∀ v w x μ1 H1 st1 env μ G envA GA T, Acc c X.K env μ G σ H st1 μ1 H1 envA GA (((σ.set i (some v)).set j (some w)).set l (some x)) T → okS c X.K [] rn μ G H D (.nx envA st1) → Q [v, w, x] H1) →
        tCons (TEv c X.K p (evE g a)) (tCons (fun σ H Q => ∃ o, TEv (c.ok o) X.K q (evE g b) σ H Q) (tCons (fun σ H Q => ∃ o, TEv (c.ok o) X.K r (evE g d) σ H Q) tNil)) σ H Q := fun D σ H Q ⟨env, st, μ, G, I, hw⟩ kk => by
      rw [evS] at hw
      refine TEv.ofS I hw fun x1 st1 v1 H1 μ1 t1 F1 I1 S1 r1 hw => ?_
      cases hd : akOk ki x1 with
      | false => rw [hd] at hw; exact hw.elim
      | true =>
        rw [hd, if_pos rfl] at hw
        obtain ⟨GB, T1, A1⟩ := (Acc.nil I).put xs.ok.ow I1 S1 r1 (fun _ _ h => by simp at h) hk hd
        refine A1.eval I hw fun x2 st2 v2 H2 μ2 t2 F2 I2 S2 r2 hT hw => ?_
        cases hd2 : akOk kj x2 with
        | false => rw [hd2] at hw; exact hw.elim
        | true =>
          rw [hd2, if_pos rfl] at hw
          obtain ⟨GC, T2, A2⟩ := A1.put xs.ok.ow I2 S2 r2 hT hk2 hd2
          refine A2.eval I hw fun x3 st3 v3 H3 μ3 t3 F3 I3 S3 r3 hT3 hw => ?_
          cases hd3 : akOk kl x3 with
          | false => rw [hd3] at hw; exact hw.elim
          | true =>
            rw [hd3, if_pos rfl] at hw
            obtain ⟨GD, T3, A3⟩ := A2.put xs.ok.ow I3 S3 r3 hT3 hk3 hd3
            exact kk v1 v2 v3 μ3 H3 st3 env μ G _ _ _ A3 hw
    rcases h10 with h10 | h10
    · have h11 := h10
      simp only [swTri, Bool.and_eq_true] at h11
      refine (ps_par3 xs.ok.calm hN hi hj hl n12 n13 n23 (by rw [xs.ok.sc]; exact lclB_of h11.1.1.1.1.1.1) (by rw [xs.ok.sc]; exact lclB_of h11.1.1.1.1.1.2) (by rw [xs.ok.sc]; exact lclB_of h11.1.1.1.1.2) pa
        (sw_tri (by rw [xs.ok.sc]; exact xs.kind) (nodup_ne hN hi hj n12) (nodup_ne hN hi hl n13) (nodup_ne hN hj hl n23) (mE_plain h4) (mE_plain h5) (mE_plain h6) (by rw [xs.ok.sc]; exact h10)) (sw_tup rfl)).mono fun D σ H hw => ?_
      exact key D σ H _ hw fun v w x μ1 H1 st1 env μ G envA GA T A hw => ⟨v, w, x, rfl, A.fit hw⟩
    · refine (ps_asg (pe_tup pa) (pg_tup xs.ok.calm (pgs_cons (pg_name hN hi (xs.ok.loc n2) (.inl (xs.fn x))) (pgs_cons (pg_name hN hj (xs.ok.loc n4) (.inl (xs.fn y))) (pgs_cons (pg_name hN hl (xs.ok.loc n6) (.inl (xs.fn z))) pgs_nil)))) (sw_tup rfl) (sw_none rfl (folded_swNone h10))).mono fun D σ H hw => ?_
      exact key D σ H (fun vs H1 => vs.length ≤ sizeLine ∧ ∀ p, H1 p = none → gTup X.K 3 (gCons (gName i) (gCons (gName j) (gCons (gName l) gNil))) (.ref p) σ (upd H1 p (.tup vs)) D.nx) hw fun v w x μ1 H1 st1 env μ G envA GA T A hw =>
        ⟨by show 3 ≤ sizeLine; decide, fun p hp => ⟨p, [v, w, x], rfl, .inl (.inl upd_same), rfl, v, [w, x], rfl, w, [x], rfl, x, [], rfl, rfl, (A.new hp).fit hw⟩⟩
  · cases h
theorem gset_owner {t : List Addr} {G : Addr → Option Nat} {i j : Nat} (h : ∀ a ∈ t, G a = some j) {a : Addr} : a ∈ t → G a = some j := h a
theorem sm_move {i j : Nat} : SndS m g k rn (.move i j) := by
  intro c sc X st hg xs h
  rw [cS] at h
  unfold cMove at h
  split at h
  · rename_i x px y py pos
    simp only [Bool.and_eq_true, decide_eq_true_eq] at h
    obtain ⟨⟨⟨⟨⟨h1, h2⟩, h3⟩, h4⟩, h5⟩, h6⟩ := h
    obtain ⟨n1, n2⟩ := nmC_of h1
    obtain ⟨d1, d2⟩ := plB_ok h4
    have hN : X.N.Nodup := by rw [xs.ok.hN]; exact xs.ok.nd
    refine (ps_set hN (by rw [xs.ok.hN]; exact n1) (xs.ok.loc n2) (pe_var (i := j) (by rw [xs.ok.hN]; exact h2) (xs.ok.vis h3) d1 d2) rfl (.inl (xs.fn x))).mono fun D σ H ⟨env, st, μ, G, I, hq⟩ => ?_
    rw [evS] at hq
    cases e1 : slot env j with
    | none => rw [e1] at hq; exact hq.elim
    | some d =>
      rw [e1] at hq
      obtain ⟨v, t, F, e2, r, g1, g2, g3⟩ := I.slot j d e1
      refine ⟨v, e2, ?_⟩
      rw [xs.ok.ow] at g1
      cases ho : m.ow j with
      | false =>
        rw [ho] at g1 h5
        have J := I.put (i := i) (by rw [xs.ok.ow]; exact h5) r fun a ha => ⟨by
          rcases List.mem_append.mp ha with ha | ha
          · simpa using g1 a ha
          · exact g2 a ha, g3 a ha⟩
        exact hq _ H μ G (J.kill (i := j)) .refl
      | true =>
        rw [ho] at g1 h5
        have gj : ∀ a ∈ t, G a = some j := fun a ha => by simpa using g1 a ha
        refine hq (σ.set i (some v)) H μ (gset G t i) ?_ ⟨.refl, fun a ha hM => gset_ne fun z => hM j (by simp [tchs]) (gj a z)⟩
        refine ⟨fun l d' e' => ?_, I.box, I.muLen, I.muNd, fun a ha => ⟨?_, (I.gmu a ha).2⟩, fun a ha => ?_, I.okn, by simpa using I.len⟩
        · rcases slot_set e' with ⟨_, _, e'⟩ | ⟨hlj, e'⟩
          · cases e'
          · rcases slot_set e' with ⟨rfl, hl, e'⟩ | ⟨hli, e'⟩
            · cases e'
              refine ⟨v, t, F, by rw [List.getElem?_set_self (Nat.lt_of_lt_of_le hl I.len)], r, fun a ha => by rw [xs.ok.ow, h5, gset_in ha]; rfl, fun a ha => ?_, g3⟩
              rw [gset_ne fun z => by have := gj a z; rw [g2 a ha] at this; cases this]
              exact g2 a ha
            · obtain ⟨v', t', F', k1, k2, k3, k4, k5⟩ := I.slot l d' e'
              refine ⟨v', t', F', by rw [List.getElem?_set_ne (Ne.symm hli)]; exact k1, k2, fun a ha => ?_, fun a ha => ?_, k5⟩
              · rw [gset_ne fun z => ?_]
                · exact k3 a ha
                · have h8 := gj a z
                  rw [k3 a ha] at h8
                  split at h8
                  · exact hlj (Option.some.inj h8)
                  · cases h8
              · rw [gset_ne fun z => by have := gj a z; rw [k4 a ha] at this; cases this]
                exact k4 a ha
        · rw [gset_ne fun z => by have := gj a z; rw [(I.gmu a ha).1] at this; cases this]
          exact (I.gmu a ha).1
        · by_cases z : a ∈ t
          · exact r.there a (List.mem_append_left _ z)
          · rw [gset_ne z] at ha
            exact I.gdom a ha
  · cases h
end
end WT
end

section
set_option Elab.async false
set_option linter.all false
set_option maxRecDepth 100000
set_option autoImplicit false
/-! K22: statements: changes. -/
namespace WT
open PySem PySem.Spec PyProof.Rows L2

section
variable {m : MC} {g : GE} {k : Nat} {rn : Bool} {a b d e : E}
def ipV (op : Operator) : TIp := fun x y H Q => ∃ i j z, x = .int i ∧ y = .int j ∧ binD op (.int i) (.int j) = some (.int z) ∧ Q (.int z) H
theorem mulD_int {i j z : Int} (h : mulD (.int i) (.int j) = some (.int z)) : mulOK i j ∧ z = i * j := by
  unfold mulD guardO at h
  simp only at h
  split at h
  · cases h; exact ⟨by assumption, rfl⟩
  · cases h
theorem ip_v {X : Cx} {op : Operator} (h : augOp op = true) : PIp X op (ipV op) := by
  intro pins s σ H x y v u Q I r1 r2 hq
  obtain ⟨i, j, z, rfl, rfl, hb, q⟩ := hq
  obtain ⟨t, rfl⟩ := r1
  obtain ⟨t', rfl⟩ := r2
  cases op with
  | Add =>
    cases hb
    exact iadd_int ⟨.int _, H, I.tok _, ⟨_, rfl⟩, q⟩
  | Sub =>
    cases hb
    exact isub_int ⟨.int _, H, I.tok _, ⟨_, rfl⟩, q⟩
  | Mult =>
    obtain ⟨h1, rfl⟩ := mulD_int hb
    exact imul_int ⟨.int _, H, I.tok _, ⟨_, rfl⟩, q⟩ h1.ok
  | _ => cases h
theorem sm_aug {i : Nat} {op : Operator} : SndS m g k rn (.aug i op e) := by
  intro c sc X st hg xs h
  rw [cS] at h
  unfold cAug at h
  split at h
  · rename_i x px op' y pos
    simp only [Bool.and_eq_true, decide_eq_true_eq] at h
    obtain ⟨⟨⟨⟨h1, rfl⟩, h2⟩, h3⟩, h4⟩ := h
    obtain ⟨n1, n2⟩ := nmC_of h1
    obtain ⟨p, hp, _⟩ := pvK_of h4
    refine (ps_aug (by rw [xs.ok.hN]; exact xs.ok.nd) (by rw [xs.ok.hN]; exact n1) (xs.ok.loc n2) (snd e hp c sc X y hg xs.ok h3) (ip_v h2) (.inl (xs.fn x))).mono fun D σ H ⟨env, st, μ, G, I, hq⟩ => ?_
    rw [evS] at hq
    cases e1 : slot env i with
    | none => rw [e1] at hq; exact hq.elim
    | some d =>
      rw [e1] at hq
      obtain ⟨v, t, F, e2, r, g1, g2, g3⟩ := I.slot i d e1
      refine ⟨v, e2, TEv.ofS I hq fun x1 st1 v1 H1 μ1 t1 F1 I1 S1 r1 hq => ?_⟩
      obtain ⟨i0, rfl⟩ : ∃ i0, d = .int i0 := by cases d <;> first | exact ⟨_, rfl⟩ | exact hq.elim
      obtain ⟨j0, rfl⟩ : ∃ j0, x1 = .int j0 := by cases x1 <;> first | exact ⟨_, rfl⟩ | exact hq.elim
      cases hb : binD op (.int i0) (.int j0) with
      | none => rw [hb] at hq; exact hq.elim
      | some z =>
        rw [hb] at hq
        obtain ⟨z0, rfl⟩ : ∃ z0, z = .int z0 := by
          cases op with
          | Add => cases hb; exact ⟨_, rfl⟩
          | Sub => cases hb; exact ⟨_, rfl⟩
          | Mult =>
            have hb : mulD (.int i0) (.int j0) = some z := hb
            unfold mulD guardO at hb
            simp only at hb
            split at hb
            · cases hb; exact ⟨_, rfl⟩
            · cases hb
          | _ => cases h2
        cases r
        obtain ⟨r2, po⟩ := r1
        cases r2
        exact ⟨i0, j0, z0, rfl, rfl, hb, hq _ H1 μ1 G (I1.flat (.int z0)) S1.ss⟩
  · cases h
/-- a name's list, changed -/
theorem chg_ok {c : Cfg} {K : PySem.W.Frag} {M : List Nat} {μ0 μ : List Addr} {G : Addr → Option Nat} {H0 H : Hp} {D : Ends} {i : Nat} {o ok : Bool} {env : Env} {st : Sto} {σ : St} {f : List WT.D → Option (List WT.D)} (how : c.ow = m.ow) (ho : o = true → m.ow i = true ∧ i ∈ M) (I : SI K c.ow c.Ok env st μ G σ H) (S : StepS M μ0 G H0 μ G H)
    (h : okS c K M rn μ0 G H0 D (chg i o ok env st f)) : ∃ a xs ys vs F, σ[i]? = some (some (.ref a)) ∧ H a = some (.lst vs) ∧ Reps K H μ xs vs F ∧ f xs = some ys ∧ (∀ b ∈ F, G b = none ∧ b ∉ μ ∧ c.Ok b) ∧
      ∀ vs' F', Reps K H μ ys vs' F' → (∀ b ∈ F', G b = none ∧ b ∉ μ ∧ c.Ok b) → (ok = true → F = [] → F' = []) → D.nx σ (upd H a (.lst vs')) := by
  unfold chg at h
  cases e1 : slot env i with
  | none => rw [e1] at h; exact h.elim
  | some d =>
    rw [e1] at h
    cases d with
    | lst xs =>
      simp only at h
      cases o with
      | false => exact h.elim
      | true =>
        rw [if_pos rfl] at h
        cases e2 : f xs with
        | none => rw [e2] at h; exact h.elim
        | some ys =>
          rw [e2] at h
          obtain ⟨h1, h2⟩ := ho rfl
          obtain ⟨a, vs, F, k1, k2, k3, k4, k5⟩ := I.chgOwn (ys := ys) (by rw [how]; exact h1) h2 e1
          refine ⟨a, xs, ys, vs, F, k1, k2, k3, e2, k4, fun vs' F' r hF _ => ?_⟩
          obtain ⟨J, S2⟩ := k5 vs' F' r hF
          exact h σ _ μ G J (S.trans S2)
    | ref j =>
      simp only at h
      cases ok with
      | false => exact h.elim
      | true =>
        rw [if_pos rfl] at h
        cases e2 : st[j]? with
        | none => rw [e2] at h; exact h.elim
        | some xs =>
          rw [e2] at h
          cases e3 : f xs with
          | none => rw [Option.bind_some, e3] at h; exact h.elim
          | some ys =>
            rw [Option.bind_some, e3] at h
            obtain ⟨a, vs, k1, k2, k3, k4⟩ := I.chgRef (M := M) (ys := ys) e1 e2
            refine ⟨a, xs, ys, vs, [], k1, k2, k3, e3, fun _ h => by simp at h, fun vs' F' r hF hf => ?_⟩
            have : F' = [] := hf rfl rfl
            subst this
            obtain ⟨J, S2⟩ := k4 vs' r
            exact h σ _ μ G J (S.trans S2)
    | _ => exact h.elim
theorem named {c : Cfg} {K : PySem.W.Frag} {M : List Nat} {μ : List Addr} {G : Addr → Option Nat} {H : Hp} {D : Ends} {i : Nat} {env : Env} {st : Sto} {σ : St} {r : RS} (I : SI K c.ow c.Ok env st μ G σ H) (h : okS c K M rn μ G H D (if (slot env i).isNone = true then .bad else r)) : ∃ v0, σ[i]? = some (some v0) ∧ okS c K M rn μ G H D r := by
  cases e1 : slot env i with
  | none => rw [e1] at h; exact h.elim
  | some d =>
    rw [e1] at h
    obtain ⟨v, t, F, e2, _⟩ := I.slot i d e1
    exact ⟨v, e2, h⟩
theorem own_tch {i : Nat} {o : Bool} (h : (!o || m.ow i) = true) : o = true → m.ow i = true ∧ i ∈ (if o = true then [i] else []) := fun e => by
  subst e
  exact ⟨by simpa using h, by simp⟩
theorem pln_or {c : Cfg} {K : PySem.W.Frag} {G : Addr → Option Nat} {p : Pv} {nl : Bool} {H H1 : Hp} {x : WT.D} {v : V} {t F μ1 : List Addr} (r : Held K c G p H x v t F μ1 H1) (gd : ∀ a, G a ≠ none → H a ≠ none) (h : (nl || plnP p) = true) (hd : (nl && !noL x) = false) : ∀ a ∈ t ++ F, G a = none ∧ a ∉ μ1 ∧ c.Ok a := by
  cases nl with
  | true =>
    have hn : noL x = true := by simpa using hd
    obtain ⟨rfl, rfl⟩ := r.rep.noL hn
    exact fun _ h => by simp at h
  | false =>
    obtain ⟨k1, k2⟩ := plnP_of (by simpa using h)
    exact r.pln gd k1 k2
theorem sm_setIx {i : Nat} {o nl : Bool} {ix : E} : SndS m g k rn (.setIx i o nl ix e) := by
  intro c sc X st hg xs h
  rw [cS] at h
  unfold cSetIx at h
  split at h
  · rename_i x px z sp y pos
    simp only [Bool.and_eq_true, decide_eq_true_eq] at h
    obtain ⟨⟨⟨⟨⟨⟨⟨n1, n2⟩, n3⟩, h1⟩, h2⟩, h3⟩, h4⟩, h5⟩ := h
    obtain ⟨d1, d2⟩ := plB_ok n3
    obtain ⟨p, hp, hk⟩ := pvK_of h4
    obtain ⟨q, hq, _⟩ := pvK_of h5
    have hz := mE_plain h1
    refine (ps_asg (snd e hp c sc X y hg xs.ok h2) (pg_sub (pe_var (i := i) (by rw [xs.ok.hN]; exact n1) (xs.ok.vis n2) d1 d2) (snd ix hq c sc X z hg xs.ok h1) set_list (fun v => ?_)) ?_ ?_ rfl).mono fun D σ H ⟨env, st, μ, G, I, hw⟩ => ?_
    · cases z <;> first | rfl | (cases hz; done)
    · cases y <;> rfl
    · cases y <;> rfl
    · rw [evS] at hw
      obtain ⟨v0, hv0, hw⟩ := named I hw
      refine TEv.ofS I hw fun x1 st1 v1 H1 μ1 t1 F1 I1 S1 r1 hw => ?_
      -- the name's list, then the index
      have go : TEv c X.K q (evE g ix) σ H1 fun kv H2 => ∀ v0, σ[i]? = some (some v0) → rSetL v0 kv v1 H2 fun H3 => D.nx σ H3 := by
        refine TEv.nxtS S1 I1 hw fun x2 st2 v2 H2 μ2 t2 F2 I2 S2 r2 hw v0 hv0 => ?_
        cases hd : (nl && !noL x1) with
        | true => rw [hd] at hw; exact hw.elim
        | false =>
          rw [hd, if_neg (by simp)] at hw
          have r1' := r1.step S2
          have pl := pln_or r1' I.gdom hk hd
          obtain ⟨a0, xs0, ys0, vs0, F0, k1, k2, k3, k4, k5, k6⟩ := chg_ok xs.ok.ow (own_tch h3) I2 (S1.trans S2).ss hw
          rw [k1] at hv0
          cases hv0
          cases x2 with
          | int kk =>
            obtain ⟨r2, po⟩ := r2
            cases r2
            obtain ⟨j0, e1, rfl⟩ := Option.map_eq_some_iff.mp (show (ixN xs0.length kk).map (fun j => xs0.set j x1) = some ys0 from k4)
            rw [k3.length] at e1
            obtain ⟨F3, r3, hF3⟩ := k3.set j0 r1'.rep
            refine ⟨a0, vs0, kk, j0, rfl, rfl, k2, e1, k6 _ F3 r3 (fun b hb => ?_) fun hn hF0 => ?_⟩
            · rcases hF3 b hb with hb | hb
              · exact k5 b hb
              · exact pl b hb
            · obtain ⟨z1, z2⟩ := r1'.rep.noL hn
              cases F3 with
              | nil => rfl
              | cons b F3 =>
                rcases hF3 b (by simp) with hb | hb
                · rw [hF0] at hb; simp at hb
                · rw [z1, z2] at hb; simp at hb
          | _ => cases k4
      obtain ⟨env2, st2, μ2, G2, I', hf⟩ := go
      exact ⟨v0, hv0, env2, st2, μ2, G2, I', hf.mono (fun x2 st3 _ z v2 H2 μ2 t2 F2 I2 S2 r2 po2 => z v2 H2 μ2 t2 F2 I2 S2 r2 po2 v0 hv0) fun _ _ _ z => z⟩
  · cases h
end
end WT
end

section
set_option Elab.async false
set_option linter.all false
set_option maxRecDepth 100000
set_option autoImplicit false
/-! K23: statements: append, augmented items, if, while, for; every statement. -/
namespace WT
open PySem PySem.Spec PyProof.Rows L2

theorem meth_desc_append : typeOf (.builtin "list.append") = pure (.type "method_descriptor") := by show builtinType _ = _; rw [builtinType_eq_fast]; kernel_rfl
section
variable {m : MC} {g : GE} {k : Nat} {rn : Bool} {a b d e : E}
theorem attr_plain {x : Str} {p : Pos} {n : Str} {env : PySem.Env} (w : Sem Value) : attributeBase (.Name x p) n env w = w := rfl
theorem listed {c : Cfg} {K : PySem.W.Frag} {M : List Nat} {μ : List Addr} {G : Addr → Option Nat} {H : Hp} {D : Ends} {i : Nat} {env : Env} {st : Sto} {σ : St} {r : RS} (I : SI K c.ow c.Ok env st μ G σ H) (h : okS c K M rn μ G H D (if (!isLs env st i) = true then .bad else r)) :
    ∃ a vs, σ[i]? = some (some (.ref a)) ∧ H a = some (.lst vs) ∧ okS c K M rn μ G H D r := by
  cases hl : isLs env st i with
  | false => rw [hl] at h; exact h.elim
  | true =>
    rw [hl] at h
    unfold isLs at hl
    cases e1 : slot env i with
    | none => rw [e1] at hl; cases hl
    | some d =>
      rw [e1] at hl
      obtain ⟨v, t, F, e2, r1, _⟩ := I.slot i d e1
      cases d with
      | lst xs =>
        cases r1 with
        | lst ha _ => exact ⟨_, _, e2, ha, h⟩
      | ref j =>
        cases r1 with
        | ref hj =>
          obtain ⟨a, vs, k1, k2, _⟩ := I.box j _ (List.getElem?_eq_getElem (by simpa using hl))
          rw [hj] at k1
          cases k1
          exact ⟨_, vs, e2, k2, h⟩
      | _ => cases hl
theorem sm_app {i : Nat} {o nl : Bool} : SndS m g k rn (.app i o nl e) := by
  intro c sc X st hg xs h
  rw [cS] at h
  unfold cApp at h
  split at h
  · rename_i x px f ap y cp pos
    simp only [Bool.and_eq_true, decide_eq_true_eq, beq_iff_eq] at h
    obtain ⟨⟨⟨⟨⟨⟨⟨rfl, n1⟩, n2⟩, n3⟩, h1⟩, h2⟩, h3⟩, h4⟩ := h
    obtain ⟨d1, d2⟩ := plB_ok n3
    obtain ⟨p, hp, hk⟩ := pvK_of h3
    have hy := mE_plain h1
    have hst := star_of hy ([] : List Expr) X.env
    refine (ps_expr (pe_bm F.plainAttrs_list F.slot_list_append meth_desc_append mt_append (pe_var (i := i) (by rw [xs.ok.hN]; exact n1) (xs.ok.vis n2) d1 d2) (pa_cons (snd e hp c sc X y hg xs.ok h1) pa_nil hst) rfl ?_ (by rw [h4]; simp) hst rfl) rfl).mono fun D σ H ⟨env, st, μ, G, I, hw⟩ => ?_
    · rw [hst]
      rfl
    · rw [evS] at hw
      obtain ⟨a0, vs0, hv0, ha0, hw⟩ := listed I hw
      refine ⟨_, hv0, .inl ⟨rfl, vs0, .inl (.inl ha0)⟩, ?_⟩
      refine TEv.ofS I hw fun x1 st1 v1 H1 μ1 t1 F1 I1 S1 r1 hw => ?_
      cases hd : (nl && !noL x1) with
      | true => rw [hd] at hw; exact hw.elim
      | false =>
        rw [hd, if_neg (by simp)] at hw
        have pl := pln_or r1 I.gdom hk hd
        obtain ⟨a1, xs0, ys0, vs1, F0, k1, k2, k3, k4, k5, k6⟩ := chg_ok xs.ok.ow (own_tch h2) I1 S1.ss hw
        rw [k1] at hv0
        cases hv0
        obtain ⟨hz, rfl⟩ := guardO_some k4
        obtain ⟨F3, r3, hF3⟩ := k3.append (.cons r1.rep .nil)
        refine ⟨_, vs1, v1, rfl, rfl, k2, by rw [← k3.length]; exact hz, ?_⟩
        refine k6 _ F3 r3 (fun b hb => ?_) fun hn hF0 => ?_
        · rcases hF3 b hb with hb | hb
          · exact k5 b hb
          · exact pl b (by simpa using hb)
        · obtain ⟨z1, z2⟩ := r1.rep.noL hn
          cases F3 with
          | nil => rfl
          | cons b F3 =>
            rcases hF3 b (by simp) with hb | hb
            · rw [hF0] at hb; simp at hb
            · rw [z1, z2] at hb; simp at hb
  · cases h
end
end WT
end

section
set_option Elab.async false
set_option linter.all false
set_option maxRecDepth 100000
set_option autoImplicit false
/-! K24: augmented items, if, while, for; every statement. -/
namespace WT
open PySem PySem.Spec PyProof.Rows L2

section
variable {m : MC} {g : GE} {k : Nat} {rn : Bool} {a b d e : E}
theorem SndSs.nil : SndSs m g k rn .nil := by
  intro c sc X st hg xs h
  rw [cSs] at h
  have : st = [] := List.isEmpty_iff.mp h
  subst this
  exact pss_nil.mono fun D σ H ⟨env, st, μ, G, I, hq⟩ => by
    rw [evSs] at hq
    exact hq σ H μ G I .refl
theorem SndSs.cons {s : S} {ss : Ss} (h1 : SndS m g k rn s) (h2 : SndSs m g k rn ss) : SndSs m g k rn (.cons s ss) := by
  intro c sc X st hg xs h
  rw [cSs] at h
  unfold cCons at h
  rw [Bool.or_eq_true] at h
  rcases h with h | h
  · cases s <;> first | (cases h; done) | skip
    exact pss_never.mono fun D σ H ⟨env, st, μ, G, I, hq⟩ => by
      rw [evSs, evS] at hq
      exact hq
  · cases hk : isKill s with
    | some i =>
      rw [hk, if_pos (by rfl)] at h
      have e : s = .kill i := by
        cases s <;> first | (cases hk; done) | skip
        cases hk
        rfl
      subst e
      refine (h2 c sc X st hg xs h).mono fun D σ H ⟨env, st, μ, G, I, hq⟩ => ?_
      rw [evSs, evS] at hq
      exact ⟨_, st, μ, G, I.kill (i := i), hq⟩
    | none =>
      rw [hk, if_neg (by simp)] at h
      cases st with
      | nil => cases h
      | cons x r =>
        rw [Bool.and_eq_true] at h
        refine (pss_cons (h1 c sc X x hg xs h.1) (h2 c sc X r hg xs h.2)).mono fun D σ H ⟨env, st, μ, G, I, hq⟩ => ?_
        rw [evSs] at hq
        rw [tchss] at hq
        refine ⟨env, st, μ, G, I, ?_⟩
        cases es : evS g s env st with
        | nx env' st' =>
          rw [es] at hq
          exact fun σ' H' μ' G' I' S' => ⟨env', st', μ', G', I', (hq.step (S'.weak fun i hi => List.mem_append_left _ hi)).less fun i hi => List.mem_append_right _ hi⟩
        | bk env' st' =>
          rw [es] at hq
          exact okS.less (D := D) (r := .bk env' st') hq fun i hi => List.mem_append_left _ hi
        | ct env' st' =>
          rw [es] at hq
          exact okS.less (D := D) (r := .ct env' st') hq fun i hi => List.mem_append_left _ hi
        | rt d st' =>
          rw [es] at hq
          exact okS.less (D := D) (r := .rt d st') hq fun i hi => List.mem_append_left _ hi
        | exn x d env' st' =>
          rw [es] at hq
          exact okS.less (D := D) (r := .exn x d env' st') hq fun i hi => List.mem_append_left _ hi
        | bad => rw [es] at hq; exact hq
theorem sm_ite {p q : Ss} (h1 : SndSs m g k rn p) (h2 : SndSs m g k rn q) : SndS m g k rn (.ite e p q) := by
  intro c sc X st hg xs h
  rw [cS] at h
  unfold cIf at h
  split at h
  · rename_i x pp qq pos
    simp only [Bool.and_eq_true] at h
    obtain ⟨⟨⟨⟨e1, e2⟩, e3⟩, e4⟩, e5⟩ := h
    obtain ⟨pv, hp, _⟩ := pvK_of e3
    refine (ps_if (sndt e hp c sc X x hg xs.ok e1 e2) (h1 c sc X pp hg xs e4) (h2 c sc X qq hg xs e5)).mono fun D σ H ⟨env, st, μ, G, I, hq⟩ => ?_
    rw [evS] at hq
    refine TTv.ofS I hq fun b st1 H1 μ1 I1 S1 hq => ?_
    have hq := hq.step S1.ss
    cases b with
    | true => exact ⟨env, st1, μ1, G, I1, hq.less fun i hi => by rw [tchs]; exact List.mem_append_left _ hi⟩
    | false => exact ⟨env, st1, μ1, G, I1, hq.less fun i hi => by rw [tchs]; exact List.mem_append_right _ hi⟩
  · cases h
/-- behind a loop's body -/
theorem okS.again {c : Cfg} {K : PySem.W.Frag} {M : List Nat} {μ : List Addr} {G : Addr → Option Nat} {H : Hp} {D : Ends} {r : RS} {N : St → Hp → Prop} {f : RS}
    (h : okS c K M rn μ G H D f) (h1 : ∀ env st, r = .nx env st → ∀ σ' H' μ' G', SI K c.ow c.Ok env st μ' G' σ' H' → StepS M μ G H μ' G' H' → N σ' H') (h2 : ∀ env st, r = .ct env st → ∀ σ' H' μ' G', SI K c.ow c.Ok env st μ' G' σ' H' → StepS M μ G H μ' G' H' → N σ' H')
    (h3 : ∀ env st, r = .bk env st → f = .nx env st) (h4 : (∀ env st, r ≠ .nx env st) → (∀ env st, r ≠ .ct env st) → (∀ env st, r ≠ .bk env st) → f = r) : okS c K M rn μ G H { D with nx := N, ct := N, bk := D.nx } r := by
  cases r with
  | nx env st => exact h1 env st rfl
  | ct env st => exact h2 env st rfl
  | bk env st =>
    have := h3 env st rfl
    subst this
    exact h
  | rt d st =>
    have := h4 (fun _ _ z => by cases z) (fun _ _ z => by cases z) (fun _ _ z => by cases z)
    subst this
    exact h
  | exn x d env st =>
    have := h4 (fun _ _ z => by cases z) (fun _ _ z => by cases z) (fun _ _ z => by cases z)
    subst this
    exact h
  | bad =>
    have := h4 (fun _ _ z => by cases z) (fun _ _ z => by cases z) (fun _ _ z => by cases z)
    subst this
    exact h
theorem sm_whl {p : Ss} (h1 : SndSs m g k rn p) : SndS m g k rn (.whl e p) := by
  intro c sc X st hg xs h
  rw [cS] at h
  unfold cWh at h
  split at h
  · rename_i x pp pos
    · simp only [Bool.and_eq_true] at h
      obtain ⟨⟨⟨e1, e2⟩, e3⟩, e4⟩ := h
      obtain ⟨pv, hp, _⟩ := pvK_of e3
      refine (ps_while xs.po (sndt e hp c sc X x hg xs.ok e1 e2) (h1 c sc X pp hg xs e4)).mono fun D σ H ⟨env, st, μ, G, I, hq⟩ => ?_
      rw [evS] at hq
      rw [tchs] at hq
      have hne : whD (evC g e) (evSs g p) env st ≠ .bad := fun z => by rw [z] at hq; exact hq
      obtain ⟨n, hn⟩ := whD_ne hne
      rw [whD_of hn] at hq
      refine ⟨fun n σ' H' => ∃ env' st' μ' G', SI X.K c.ow c.Ok env' st' μ' G' σ' H' ∧ okS c X.K (tchss p) rn μ' G' H' D (whN (evC g e) (evSs g p) n env' st'), ⟨n, env, st, μ, G, I, hq⟩, ?_⟩
      rintro n σ' H' ⟨env', st', μ', G', I', hq⟩
      cases n with
      | zero => exact hq.elim
      | succ n =>
        rw [whN] at hq
        refine TTv.ofS I' hq fun b st1 H1 μ1 I1 S1 hq => ?_
        have hq := hq.step S1.ss
        cases b with
        | false =>
          rw [if_neg (by simp)]
          exact hq σ' H1 μ1 G' I1 .refl
        | true =>
          rw [if_pos rfl]
          refine ⟨fun σ2 H2 => ∃ env2 st2 μ2 G2, SI X.K c.ow c.Ok env2 st2 μ2 G2 σ2 H2 ∧ okS c X.K (tchss p) rn μ2 G2 H2 D (whN (evC g e) (evSs g p) n env2 st2), fun σ2 H2 z => ⟨n, by omega, z⟩, env', st1, μ1, G', I1, ?_⟩
          refine okS.again hq (fun env2 st2 e2 σ2 H2 μ2 G2 I2 S2 => ⟨env2, st2, μ2, G2, I2, ?_⟩) (fun env2 st2 e2 σ2 H2 μ2 G2 I2 S2 => ⟨env2, st2, μ2, G2, I2, ?_⟩) (fun env2 st2 e2 => by simp only [e2]) fun n1 n2 n3 => ?_
          · simp only [e2] at hq
            exact hq.step S2
          · simp only [e2] at hq
            exact hq.step S2
          · cases er : evSs g p env' st1 with
            | nx env2 st2 => exact absurd er (n1 env2 st2)
            | ct env2 st2 => exact absurd er (n2 env2 st2)
            | bk env2 st2 => exact absurd er (n3 env2 st2)
            | _ => rfl
  · cases h
theorem sm_for {tg : Tg} {it : WT.It} {p : Ss} (h1 : SndSs m g k rn p) : SndS m g k rn (.for_ tg it p) := by
  intro c sc X st hg xs h
  rw [cS] at h
  unfold cFor at h
  split at h
  · rename_i t i pp pos
    · simp only [Bool.and_eq_true, List.all_eq_true, decide_eq_true_eq, Bool.not_eq_true'] at h
      obtain ⟨⟨⟨⟨⟨⟨e1, e2⟩, e3⟩, e4⟩, e5⟩, e6⟩, e7⟩ := h
      cases el : pvIt m it with
      | none => rw [el] at e4; cases e4
      | some l =>
        rw [el] at e4
        have : l = [] := List.isEmpty_iff.mp e4
        subst this
        have htup : itP it = true → ∃ elts kk tpos, t = .Tuple elts kk tpos := fun z => by
          cases tg with
          | name _ => cases it <;> simp [itP, itTg] at z e3
          | tup _ =>
            cases t with
            | Tuple e k p => exact ⟨e, k, p, rfl⟩
            | _ => simp [mTg] at e1
        refine (ps_for xs.po xs.ok.calm (sndi it el c sc X t i hg xs.ok e2 htup) (pg_st xs e1) (h1 c sc X pp hg xs e7) (foldedSet e2)).mono fun D σ H ⟨env, st, μ, G, I, hq⟩ => ?_
        rw [evS, tchs] at hq
        refine TIv.ofS I hq fun ds st1 J H1 μ1 L I1 S1 wk hL hq => ?_
        have hq := hq.step S1.ss
        refine ⟨fun i n σ' H' => n = ds.length - i ∧ i ≤ ds.length ∧ ∃ env' st' μ' G', SI X.K c.ow c.Ok env' st' μ' G' σ' H' ∧ StepS (tchss p) μ1 G H1 μ' G' H' ∧ okS c X.K (tchss p) rn μ' G' H' D (forD tg (evSs g p) (ds.drop i) env' st'), ⟨ds.length, by simp, Nat.zero_le _, env, st1, μ1, G, I1, .refl, hq⟩, ?_⟩
        rintro i n σ' H' ⟨rfl, hi, env', st', μ', G', I', S', hq⟩
        have sl : SL (· ∈ L) μ1 H1 μ' H' := S'.sl.weak fun a ha i hi e => (hL a ha).elim (fun z => by rw [z] at e; cases e) fun ⟨j, hj, z⟩ => by
          rw [z] at e
          cases e
          exact e6 _ hj hi
        have nL : ∀ a ∈ L, ∀ i ∈ tchss p, G a ≠ some i := fun a ha i hi e => (hL a ha).elim (fun z => by rw [z] at e; cases e) fun ⟨j, hj, z⟩ => by
          rw [z] at e
          cases e
          exact e6 _ hj hi
        by_cases hlt : i < ds.length
        · obtain ⟨go, yl⟩ := wk.go μ' H' i _ sl (List.getElem?_eq_getElem hlt)
          refine .inr ⟨go, fun σ2 H2 => ∃ env' st' μ' G', SI X.K c.ow c.Ok env' st' μ' G' σ2 H2 ∧ StepS (tchss p) μ1 G H1 μ' G' H2 ∧ okS c X.K (tchss p) rn μ' G' H2 D (forD tg (evSs g p) (ds.drop (i + 1)) env' st'), fun σ2 H2 z => ⟨ds.length - (i + 1), by omega, rfl, hlt, z⟩, fun v H2 hy => ?_⟩
          obtain ⟨n1, tv, Fv, rv, hv⟩ := yl v H2 hy
          rw [List.drop_eq_getElem_cons hlt, forD] at hq
          cases eb : bindTg tg ds[i] env' with
          | none => rw [eb] at hq; exact hq.elim
          | some env1 =>
            rw [eb] at hq
            simp only at hq
            have hq := hq.step (n1.step (μ := μ')).ss
            refine SI.tg (I'.new1 n1) (fun i hi => by rw [xs.ok.ow]; exact e5 i hi) eb rv (fun a ha => ?_) fun σ2 I2 hl hj => ?_
            · obtain ⟨z1, z2, z3⟩ := hv a ha
              refine ⟨?_, wk.mu sl a z1, z3⟩
              rw [S'.agr a (wk.there a z1).1 (nL a z1)]
              exact z2.elim id fun ⟨i, hi, _⟩ => by simp at hi
            · have S2 : StepS (tchss p) μ1 G H1 μ' G' H2 := S'.trans (n1.step (μ := μ')).ss
              refine ⟨env1, st', μ', G', I2, ?_⟩
              refine okS.again hq (fun env2 st2 e2 σ3 H3 μ3 G3 I3 S3 => ⟨env2, st2, μ3, G3, I3, S2.trans S3, ?_⟩) (fun env2 st2 e2 σ3 H3 μ3 G3 I3 S3 => ⟨env2, st2, μ3, G3, I3, S2.trans S3, ?_⟩) (fun env2 st2 e2 => by simp only [e2]) fun n1 n2 n3 => ?_
              · simp only [e2] at hq
                exact hq.step S3
              · simp only [e2] at hq
                exact hq.step S3
              · cases er : evSs g p env1 st' with
                | nx env2 st2 => exact absurd er (n1 env2 st2)
                | ct env2 st2 => exact absurd er (n2 env2 st2)
                | bk env2 st2 => exact absurd er (n3 env2 st2)
                | _ => rfl
        · refine .inl ?_
          have e : i = ds.length := by omega
          subst e
          rw [List.drop_length, forD] at hq
          exact ⟨wk.stop μ' H' _ sl (Nat.le_refl _), hq σ' H' μ' G' I' .refl⟩
  · cases h
end
end WT
end

section
set_option Elab.async false
set_option linter.all false
set_option maxRecDepth 100000
set_option autoImplicit false
/-! K24m: statements: extend, insert; d[k] = v. -/
namespace WT
open PySem PySem.Spec PyProof.Rows L2
theorem meth_desc_extend : typeOf (.builtin "list.extend") = pure (.type "method_descriptor") := by show builtinType _ = _; rw [builtinType_eq_fast]; kernel_rfl
theorem meth_desc_insert : typeOf (.builtin "list.insert") = pure (.type "method_descriptor") := by show builtinType _ = _; rw [builtinType_eq_fast]; kernel_rfl
section
variable {m : MC} {g : GE} {k : Nat} {rn : Bool} {a b d e : E}
theorem TAv.ofS {c : Cfg} {K : PySem.W.Frag} {M : List Nat} {μ : List Addr} {G : Addr → Option Nat} {H : Hp} {D : Ends} {env : Env} {st : Sto} {σ : St} {l : List Nat} {s : Env → Sto → WT.R (List WT.D)} {f : List WT.D → Sto → RS} {R' : List V → Hp → Prop} (I : SI K c.ow c.Ok env st μ G σ H) (h : okS c K M rn μ G H D ((s env st).toS env f))
    (kk : ∀ xs st1 vs H1 μ1 F, SI K c.ow c.Ok env st1 μ1 G σ H1 → Step μ H μ1 H1 → Reps K H1 μ1 xs vs F → okS c K M rn μ G H D (f xs st1) → R' vs H1) : TAv c K l s σ H R' :=
  ⟨env, st, μ, G, I, (h.toS I).mono (fun xs st1 _ hx vs H1 μ1 F I1 S1 r po => kk xs st1 vs H1 μ1 F I1 S1 r hx) fun _ _ _ hx => hx⟩
theorem few_of {m : MC} {sc : Scope} {es : Es} {y : Expr} {ys : List Expr} (h : mEs m es sc (y :: ys) = true) (hl : ys.length ≤ 1) (env : PySem.Env) (cp : Pos) :
    ((backTo cp (starEach (y :: ys) env)).all (fun x => !x.1) && (backToKw cp (keywordEach [] env)).all (fun x => x.1.isSome) && decide ((y :: ys).length + ([] : List Keyword).length + (if ([] : List Keyword).isEmpty then 0 else 1) < 30)) = true := by
  have h1 := mEs_star h env cp
  have e1 : (backTo cp (starEach (y :: ys) env)).all (fun x => !x.1) = true := by
    rw [List.all_eq_true]
    intro x hx
    have : ¬ x.1 = true := fun z => by
      rw [List.any_eq_false] at h1
      exact h1 x hx z
    simpa using this
  rw [e1]
  match ys, hl with
  | [], _ => rfl
  | [_], _ => rfl
theorem noL_flat {K : PySem.W.Frag} {H : Hp} {μ : List Addr} {v : WT.D} {x : V} {t F : List Addr} (r : Rep K H μ v x t F) (h : noL v = true) : Rep K H μ v x [] [] := by
  obtain ⟨h1, h2⟩ := r.noL h
  subst h1 h2
  exact r
theorem Reps.nil_of {K : PySem.W.Frag} {H : Hp} {μ : List Addr} {ds : List WT.D} {vs : List V} {F : List Addr} (r : Reps K H μ ds vs F) (h : noLs ds = true) : Reps K H μ ds vs [] := by
  have := r.noL h
  subst this
  exact r
theorem mthD_ext {xs ds ys : List WT.D} (h : mthD .extend xs ds = some ys) : ∃ zs, ds = [.lst zs] ∧ noLs zs = true ∧ xs.length + zs.length ≤ sizeLine ∧ ys = xs ++ zs := by
  match ds, h with
  | [.lst zs], h =>
    obtain ⟨⟨hn, hz⟩, e⟩ := guardO_some (show guardO _ (xs ++ zs) = some ys from h)
    exact ⟨zs, rfl, hn, hz, e.symm⟩
  | [], h => cases h
  | _ :: _ :: _, h => simp [mthD] at h
theorem mthD_ins {xs ds ys : List WT.D} (h : mthD .insert xs ds = some ys) : ∃ i d, ds = [.int i, d] ∧ noL d = true ∧ xs.length < sizeLine ∧ 0 ≤ i ∧ i < 2 ^ 63 ∧ ys = xs.take i.toNat ++ [d] ++ xs.drop i.toNat := by
  match ds, h with
  | [.int i, d], h =>
    obtain ⟨⟨hn, hz, h0, h1⟩, e⟩ := guardO_some (show guardO _ (xs.take i.toNat ++ [d] ++ xs.drop i.toNat) = some ys from h)
    exact ⟨i, d, rfl, hn, hz, h0, h1, e.symm⟩
  | [], h => cases h
  | [x], h => cases x <;> cases h
  | x :: _ :: _ :: _, h => cases x <;> cases h
theorem sm_mth {i : Nat} {o : Bool} {f : Mth} {es : Es} : SndS m g k rn (.mth i o f es) := by
  intro c sc X st hg xs h
  rw [cS] at h
  unfold cMth at h
  split at h
  · rename_i x px n ap y ys cp pos
    simp only [Bool.and_eq_true, decide_eq_true_eq, beq_iff_eq, Bool.not_eq_true', decide_eq_false_iff_not] at h
    obtain ⟨⟨⟨⟨⟨⟨⟨⟨⟨rfl, n1⟩, n2⟩, n3⟩, h1⟩, h2⟩, h3⟩, h4⟩, h5⟩, h6⟩ := h
    obtain ⟨d1, d2⟩ := plB_ok n3
    obtain ⟨l, hl⟩ := Option.isSome_iff_exists.mp h3
    have hst : starEach (y :: ys) X.env = (false, eval y X.env) :: starEach ys X.env := by
      cases es with
      | nil => simp [mEs] at h1
      | cons e es => rw [mEs, Bool.and_eq_true] at h1; exact star_of (mE_plain h1.1) ys X.env
    have hpl : (backTo cp (starEach ys X.env)).any (·.1) = false := by
      cases es with
      | nil => simp [mEs] at h1
      | cons e es => rw [mEs, Bool.and_eq_true] at h1; exact mEs_star h1.2 X.env cp
    have few := few_of h1 h5 X.env cp
    cases f with
    | reverse => exact absurd rfl h6
    | extend =>
      refine (ps_expr (pe_bm F.plainAttrs_list F.slot_list_extend meth_desc_extend mt_extend (pe_var (i := i) (by rw [xs.ok.hN]; exact n1) (xs.ok.vis n2) d1 d2) (snda es hl c sc X (y :: ys) hg xs.ok h1).1 rfl few (by rw [h4]; simp) hst hpl) rfl).mono fun D σ H ⟨env, st, μ, G, I, hw⟩ => ?_
      rw [evS] at hw
      obtain ⟨a0, vs0, hv0, ha0, hw⟩ := listed I hw
      refine ⟨_, hv0, .inl ⟨rfl, vs0, .inl (.inl ha0)⟩, ?_⟩
      refine TAv.ofS I hw fun ds st1 ws H1 μ1 F1 I1 S1 r1 hw => ?_
      obtain ⟨a1, xs0, ys0, vs1, F0, k1, k2, k3, k4, k5, k6⟩ := chg_ok xs.ok.ow (own_tch h2) I1 S1.ss hw
      rw [k1] at hv0
      cases hv0
      obtain ⟨zs, rfl, hn, hz, rfl⟩ := mthD_ext k4
      cases r1 with
      | cons r1 r2 =>
        cases r2
        cases r1
        rename_i b zv e1 rz
        have rz := rz.nil_of hn
        obtain ⟨F3, r3, hF3⟩ := k3.append rz
        refine ⟨_, b, vs1, zv, rfl, rfl, k2, e1, by rw [← k3.length, ← rz.length]; exact hz, ?_⟩
        refine k6 _ F3 r3 (fun b hb => ?_) fun _ hF0 => ?_
        · rcases hF3 b hb with hb | hb
          · exact k5 b hb
          · simp at hb
        · cases F3 with
          | nil => rfl
          | cons b F3 =>
            rcases hF3 b (by simp) with hb | hb
            · rw [hF0] at hb; simp at hb
            · simp at hb
    | insert =>
      refine (ps_expr (pe_bm F.plainAttrs_list F.slot_list_insert meth_desc_insert mt_insert (pe_var (i := i) (by rw [xs.ok.hN]; exact n1) (xs.ok.vis n2) d1 d2) (snda es hl c sc X (y :: ys) hg xs.ok h1).1 rfl few (by rw [h4]; simp) hst hpl) rfl).mono fun D σ H ⟨env, st, μ, G, I, hw⟩ => ?_
      rw [evS] at hw
      obtain ⟨a0, vs0, hv0, ha0, hw⟩ := listed I hw
      refine ⟨_, hv0, .inl ⟨rfl, vs0, .inl (.inl ha0)⟩, ?_⟩
      refine TAv.ofS I hw fun ds st1 ws H1 μ1 F1 I1 S1 r1 hw => ?_
      obtain ⟨a1, xs0, ys0, vs1, F0, k1, k2, k3, k4, k5, k6⟩ := chg_ok xs.ok.ow (own_tch h2) I1 S1.ss hw
      rw [k1] at hv0
      cases hv0
      obtain ⟨j, w, rfl, hn, hz, hj, hj2, rfl⟩ := mthD_ins k4
      cases r1 with
      | cons r1 r2 =>
        cases r1
        cases r2 with
        | cons r2 r3 =>
          cases r3
          have r2 := noL_flat r2 hn
          obtain ⟨Fa, ra, hFa⟩ := k3.take j.toNat
          obtain ⟨Fb, rb, hFb⟩ := k3.drop j.toNat
          obtain ⟨Fc, rc, hFc⟩ := ra.append (.cons r2 .nil)
          obtain ⟨F3, r3, hF3⟩ := rc.append rb
          have hall : ∀ b ∈ F3, b ∈ F0 := fun b hb => by
            rcases hF3 b hb with hb | hb
            · rcases hFc b hb with hb | hb
              · exact hFa b hb
              · simp at hb
            · exact hFb b hb
          refine ⟨_, vs1, j, _, rfl, rfl, k2, by rw [← k3.length]; exact hz, hj, hj2, ?_⟩
          refine k6 _ F3 r3 (fun b hb => k5 b (hall b hb)) fun _ hF0 => ?_
          cases F3 with
          | nil => rfl
          | cons b F3 =>
            have := hall b (by simp)
            rw [hF0] at this; simp at this
  · cases h
/-! ### dicts -/
theorem repP_map {k : Key} {v : V} : ∀ {kvs : List (Key × V)}, (kvs.map fun kv => if kv.1 = k then (kv.1, v) else kv).map (·.1) = kvs.map (·.1) ∧ (kvs.map fun kv => if kv.1 = k then (kv.1, v) else kv).map (·.2) = repP k v (kvs.map (·.1)) (kvs.map (·.2))
  | [] => ⟨rfl, rfl⟩
  | p :: kvs => by
    obtain ⟨h1, h2⟩ := repP_map (k := k) (v := v) (kvs := kvs)
    refine ⟨?_, ?_⟩
    · rw [List.map_cons, List.map_cons, h1, List.map_cons]
      split <;> rfl
    · rw [List.map_cons, List.map_cons, h2, List.map_cons, List.map_cons]
      show _ = (if p.1 = k then v else p.2) :: _
      split <;> rfl
theorem Reps.repP {κ : Type} [DecidableEq κ] {K : PySem.W.Frag} {H : Hp} {μ : List Addr} {k : κ} {d : WT.D} {v : V} (rd : Rep K H μ d v [] []) : ∀ {ks : List κ} {ds : List WT.D} {vs : List V}, Reps K H μ ds vs [] → Reps K H μ (WT.repP k d ks ds) (WT.repP k v ks vs) []
  | [], _, _, _ => by unfold WT.repP; exact .nil
  | k' :: ks, [], vs, r => by
    cases r
    exact .nil
  | k' :: ks, d' :: ds, vs, r => by
    generalize hF : ([] : List Addr) = F at r
    cases r with
    | @cons _ v' t F1 _ vs' G r rs =>
      have h1 : t = [] ∧ F1 = [] ∧ G = [] := by
        have := hF.symm
        simp only [List.append_eq_nil_iff] at this
        exact ⟨this.1.1, this.1.2, this.2⟩
      obtain ⟨rfl, rfl, rfl⟩ := h1
      have ih := Reps.repP (k := k) rd (ks := ks) rs
      unfold WT.repP
      split
      · exact .cons rd ih
      · exact .cons r ih
theorem slUpdK {L : Addr → Prop} {μ : List Addr} {H : Hp} {p : Addr} {xs ys : List (Key × V)} (h : H p = some (.dK xs)) (hL : ¬ L p) : SL L μ H μ (upd H p (.dK ys)) where
  keep := fun a o e n l => by rw [upd_ne (fun z => hL (by rw [← z]; exact l) : a ≠ p)]; exact e
  tups := fun a u e => by
    rw [upd_ne fun z => ?_]
    · exact e
    · rw [z, h] at e; cases e
  frzs := fun a o u e => by
    rw [upd_ne fun z => ?_]
    · exact e
    · rw [z, h] at e; cases e
  dom := fun a e => by
    by_cases q : a = p
    · rw [q, upd_same]; simp
    · rw [upd_ne q]; exact e
  ext := ⟨[], by simp, fun _ h => by simp at h⟩
theorem SI.chgDict {K : PySem.W.Frag} {ow : Nat → Bool} {Ok : Addr → Prop} {env : Env} {st : Sto} {μ : List Addr} {G : Addr → Option Nat} {σ : St} {H : Hp} {M : List Nat} (I : SI K ow Ok env st μ G σ H) {i : Nat} (hi : ow i = true) (hM : i ∈ M) {ks : List Key} {ds : List WT.D} (e : WT.slot env i = some (.dK ks ds)) :
    ∃ a kvs, σ[i]? = some (some (.ref a)) ∧ H a = some (.dK kvs) ∧ kvs.map (·.1) = ks ∧ Reps K H μ ds (kvs.map (·.2)) [] ∧ ∀ kvs' ks' ds', kvs'.map (·.1) = ks' → Reps K H μ ds' (kvs'.map (·.2)) [] →
      SI K ow Ok (env.set i (some (.dK ks' ds'))) st μ G σ (upd H a (.dK kvs')) ∧ StepS M μ G H μ G (upd H a (.dK kvs')) := by
  obtain ⟨v, t, F, e1, r, g1, g2, g3⟩ := I.slot i _ e
  cases r with
  | dK ha hk hv rs hF =>
    rename_i a kvs vs F
    subst hv
    subst hF
    have ga : G a = some i := by rw [g1 a (by simp), hi]; rfl
    have na : a ∉ μ := (g3 a (by simp)).1
    refine ⟨a, kvs, e1, ha, hk, rs, fun kvs' ks' ds' hk' rs' => ?_⟩
    have sl : SL (· ≠ a) μ H μ (upd H a (.dK kvs')) := slUpdK ha fun z => z rfl
    have ne : ∀ b, G b ≠ some i → b ≠ a := fun b hb z => hb (by rw [z]; exact ga)
    refine ⟨⟨fun j d ej => ?_, I.box.sl sl fun b hb ws eb => ?_, I.muLen, I.muNd, fun b hb => ⟨(I.gmu b hb).1, sl.dom b (I.gmu b hb).2⟩, fun b hb => sl.dom b (I.gdom b hb), fun b hb => I.okn b (sl.wasNone hb), by simpa using I.len⟩, slUpdK ha fun z => z i hM ga, fun _ _ _ => rfl⟩
    · rcases slot_set ej with ⟨rfl, hl, ej⟩ | ⟨hne, ej⟩
      · cases ej
        exact ⟨.ref a, [a], [], e1, .dK upd_same hk' rfl (rs'.flatMu sl) rfl, fun b hb => g1 b hb, fun b hb => by simp at hb, fun b hb => g3 b (by simpa using hb)⟩
      · obtain ⟨v', t', F2, e2, r2, k1, k2, k3⟩ := I.slot j d ej
        refine ⟨v', t', F2, e2, r2.sl sl fun b hb => ⟨(k3 b hb).1, ne b ?_⟩, k1, k2, k3⟩
        rcases List.mem_append.mp hb with hb | hb
        · rw [k1 b hb]
          split
          · exact fun z => hne (Option.some.inj z)
          · simp
        · rw [k2 b hb]; simp
    · rw [upd_ne fun z => na (by rw [← z]; exact hb)]
      exact eb
/-! ### dicts with tuples for keys -/
theorem slUpdX {L : Addr → Prop} {μ : List Addr} {H : Hp} {p : Addr} {φ ψ : Heap → Prop} (h : H p = some (.ext φ)) (hL : ¬ L p) : SL L μ H μ (upd H p (.ext ψ)) where
  keep := fun a o e n l => by rw [upd_ne (fun z => hL (by rw [← z]; exact l) : a ≠ p)]; exact e
  tups := fun a u e => by
    rw [upd_ne fun z => ?_]
    · exact e
    · rw [z, h] at e; cases e
  frzs := fun a o u e => by
    rw [upd_ne fun z => ?_]
    · exact e
    · rw [z, h] at e; cases e
  dom := fun a e => by
    by_cases q : a = p
    · rw [q, upd_same]; simp
    · rw [upd_ne q]; exact e
  ext := ⟨[], by simp, fun _ h => by simp at h⟩
theorem SI.chgDictX {K : PySem.W.Frag} {ow : Nat → Bool} {Ok : Addr → Prop} {env : Env} {st : Sto} {μ : List Addr} {G : Addr → Option Nat} {σ : St} {H : Hp} {M : List Nat} (I : SI K ow Ok env st μ G σ H) {i : Nat} (hi : ow i = true) (hM : i ∈ M) {ks : List NestedKey} {ds : List WT.D} (e : WT.slot env i = some (.dT ks ds)) :
    ∃ a xs vs, σ[i]? = some (some (.ref a)) ∧ H a = some (DTo a xs) ∧ (a == sysModules) = false ∧ xs.map (·.1) = ks ∧ NKx K H xs ∧ Vals vs (xs.map (·.2.2)) ∧ Reps K H μ ds vs [] ∧ ∀ xs' ks' vs' ds', xs'.length ≤ sizeLine → xs'.map (·.1) = ks' → NKx K H xs' → Vals vs' (xs'.map (·.2.2)) → Reps K H μ ds' vs' [] →
      SI K ow Ok (env.set i (some (.dT ks' ds'))) st μ G σ (upd H a (DTo a xs')) ∧ StepS M μ G H μ G (upd H a (DTo a xs')) := by
  obtain ⟨v, t, F, e1, r, g1, g2, g3⟩ := I.slot i _ e
  cases r with
  | dT ha hs hl hk nk hv rs hF =>
    rename_i a xs vs F
    subst hF
    have ga : G a = some i := by rw [g1 a (by simp), hi]; rfl
    have na : a ∉ μ := (g3 a (by simp)).1
    refine ⟨a, xs, vs, e1, ha, hs, hk, nk, hv, rs, fun xs' ks' vs' ds' hl' hk' nk' hv' rs' => ?_⟩
    have sl : SL (· ≠ a) μ H μ (upd H a (DTo a xs')) := slUpdX ha fun z => z rfl
    have ne : ∀ b, G b ≠ some i → b ≠ a := fun b hb z => hb (by rw [z]; exact ga)
    refine ⟨⟨fun j d ej => ?_, I.box.sl sl fun b hb ws eb => ?_, I.muLen, I.muNd, fun b hb => ⟨(I.gmu b hb).1, sl.dom b (I.gmu b hb).2⟩, fun b hb => sl.dom b (I.gdom b hb), fun b hb => I.okn b (sl.wasNone hb), by simpa using I.len⟩, slUpdX ha fun z => z i hM ga, fun _ _ _ => rfl⟩
    · rcases slot_set ej with ⟨rfl, hl, ej⟩ | ⟨hne, ej⟩
      · cases ej
        exact ⟨.ref a, [a], [], e1, .dT upd_same hs hl' hk' (nk'.mono fun _ _ z => SqT.sl z sl) hv' (rs'.flatMu sl) rfl, fun b hb => g1 b hb, fun b hb => by simp at hb, fun b hb => g3 b (by simpa using hb)⟩
      · obtain ⟨v', t', F2, e2, r2, k1, k2, k3⟩ := I.slot j d ej
        refine ⟨v', t', F2, e2, r2.sl sl fun b hb => ⟨(k3 b hb).1, ne b ?_⟩, k1, k2, k3⟩
        rcases List.mem_append.mp hb with hb | hb
        · rw [k1 b hb]
          split
          · exact fun z => hne (Option.some.inj z)
          · simp
        · rw [k2 b hb]; simp
    · rw [upd_ne fun z => na (by rw [← z]; exact hb)]
      exact eb
theorem putAt_fst {k : NestedKey} {u : Value} : ∀ {xs : List (NestedKey × Addr × Value)}, (xs.map (putAt k u)).map (·.1) = xs.map (·.1)
  | [] => rfl
  | p :: xs => by
    rw [List.map_cons, List.map_cons, putAt_fst, List.map_cons]
    unfold putAt
    split <;> rfl
theorem putAt_vals {k : NestedKey} {v : V} {u : Value} (rv : RelV v u) : ∀ {xs : List (NestedKey × Addr × Value)} {vs : List V}, Vals vs (xs.map (·.2.2)) → Vals (WT.repP k v (xs.map (·.1)) vs) ((xs.map (putAt k u)).map (·.2.2))
  | [], _, r => by cases r; exact .nil
  | p :: xs, _, r => by
    rw [List.map_cons] at r
    cases r with
    | cons r rs =>
      have ih := putAt_vals (k := k) rv rs
      rw [List.map_cons, List.map_cons, List.map_cons]
      unfold WT.repP putAt
      split
      · exact .cons rv ih
      · exact .cons r ih
theorem mem_storedH {xs : List (NestedKey × Addr × Value)} {k : NestedKey} {b : Addr} {u : Value} {x : NestedKey × Addr × Value} (h : x ∈ storedH xs k b u) : (∃ y ∈ xs, y.1 = x.1 ∧ y.2.1 = x.2.1) ∨ x = (k, b, u) := by
  unfold storedH at h
  split at h
  · obtain ⟨y, hy, rfl⟩ := List.mem_map.mp h
    refine .inl ⟨y, hy, ?_⟩
    unfold putAt
    split <;> exact ⟨rfl, rfl⟩
  · rcases List.mem_append.mp h with h | h
    · exact .inl ⟨x, h, rfl, rfl⟩
    · exact .inr (List.mem_singleton.mp h)
theorem NKx.stored {K : PySem.W.Frag} {H : Hp} {xs : List (NestedKey × Addr × Value)} (h : NKx K H xs) {k : NestedKey} {b : Addr} (nk : NK K H k (.ref b)) (n2 : noTx k = true) (n3 : k.depth ≤ 8) (u : Value) : NKx K H (storedH xs k b u) := fun x hx => by
  rcases mem_storedH hx with ⟨y, hy, e1, e2⟩ | rfl
  · rw [← e1, ← e2]; exact h y hy
  · exact ⟨nk, n2, n3⟩
/-- what a write does -/
def DPX (K : PySem.W.Frag) (H : Hp) (a : Addr) (y v : V) (Q : Hp → Prop) : Prop := ∃ xs k b, H a = some (DTo a xs) ∧ (a == sysModules) = false ∧ xs.length < sizeLine ∧ NKx K H xs ∧ y = .ref b ∧ NK K H k (.ref b) ∧ noTx k = true ∧ k.depth ≤ 8 ∧
  ∀ u, RelV v u → Q (upd H a (DTo a (storedH xs k b u)))
def sDPutX (K : PySem.W.Frag) (td ty tv : TE) : TS := fun D σ H => tv σ H fun v H1 => td σ H1 fun x H2 => ty σ H2 fun y H3 => ∃ a, x = .ref a ∧ ((∃ H4, DPut H3 a y v H4 ∧ D.nx σ H4) ∨ DPX K H3 a y v (D.nx σ))
theorem ps_dputX {X : Cx} {o i value : Expr} {pos pos' : Pos} {td ty tv : TE} (hu : X.A.units + 64 < cLine) (ho : PE X o td) (hi : PE X i ty) (hv : PE X value tv) (hs : swapsWith value (some (.Subscript o i pos')) pos.line X.env = pure false) :
    PS X (.Assign [.Subscript o i pos'] value pos) (sDPutX X.K td ty tv) := by
  refine ⟨fun pins s σ H D I h => ?_⟩
  refine wpAny_Assign_Subscript (thn (hv.run pins s σ H _ I h) fun r s1 ⟨v, H1, I1, rv, q1⟩ => thn (ho.run pins s1 σ H1 _ I1 q1) fun u s2 ⟨x, H2, I2, rx, q2⟩ => thn (hi.run pins s2 σ H2 _ I2 q2) fun iv s3 ⟨y, H3, I3, ry, a, ex, g⟩ => ?_) hs
  subst ex
  obtain rfl : u = Value.ref a := rx
  rcases g with ⟨H4, g, q3⟩ | ⟨xs, k, b, e, hs, hl, nk, ey, n1, n2, n3, q3⟩
  · exact d_setItem (by omega) I3 g ry rv fun s4 I4 => ⟨σ, H4, I4, q3⟩
  · subst ey
    obtain rfl : iv = Value.ref b := ry
    refine wpAny_setItem_heap (knd := nestedKind X.prog X.w) (k := k) (hsz := by omega) (nk_room hu) ⟨n1.is I3 rfl, n3⟩ (dto_of I3 e nk) fun h' dd hsb => ?_
    obtain ⟨q, es, ep, hq, k2, k3, k4, _, k5⟩ := dd
    refine ⟨σ, _, d_write (ob := DTo a (storedH xs k b r)) I3 (by rw [e]; exact True.intro) hsb ⟨q, hq⟩ ⟨⟨q, es, ep, hq, k2, k3, ?_, k5⟩, ⟨q, hq⟩, fun h1 h2 ⟨o, es, ep, e1, e2⟩ k => ⟨o, es, ep, k _ e1, e2⟩⟩, q3 r rv⟩
    rw [k4]
    refine List.map_congr_left fun x hx => ?_
    unfold entryOfKey
    show (⟨x.1.hash X.w, .ref x.2.1, x.2.2⟩ : DictEntry) = _
    rw [hash0_eq X.w x.1 (nk.stored n1 n2 n3 r x hx).2.1]
theorem sm_dput {i : Nat} {kx : E} : SndS m g k rn (.dput i kx e) := by
  intro c sc X st hg xs h
  rw [cS] at h
  unfold cDput at h
  split at h
  · rename_i x px z sp y pos
    simp only [Bool.and_eq_true, decide_eq_true_eq, Bool.not_eq_true'] at h
    obtain ⟨⟨⟨⟨⟨⟨⟨⟨n1, n2⟩, n3⟩, h1⟩, h2⟩, h3⟩, h4⟩, h5⟩, h6⟩ := h
    obtain ⟨d1, d2⟩ := plB_ok n3
    obtain ⟨p, hp, _⟩ := pvK_of h5
    obtain ⟨q, hq, _⟩ := pvK_of h6
    refine (ps_dputX (by have := xs.ok.room.units; omega) (pe_var (i := i) (by rw [xs.ok.hN]; exact n1) (xs.ok.vis n2) d1 d2) (snd kx hq c sc X z hg xs.ok h1) (snd e hp c sc X y hg xs.ok h2) (sw_plain h4)).mono fun D σ H ⟨env, st, μ, G, I, hw⟩ => ?_
    rw [evS] at hw
    obtain ⟨v0, hv0, hw⟩ := named I hw
    refine TEv.ofS I hw fun x1 st1 v1 H1 μ1 t1 F1 I1 S1 r1 hw => ?_
    refine ⟨v0, hv0, TEv.nxtS S1 I1 hw fun x2 st2 v2 H2 μ2 t2 F2 I2 S2 r2 hw => ?_⟩
    cases e1 : slot env i with
    | none => rw [e1] at hw; exact hw.elim
    | some d =>
      rw [e1, Option.bind_some] at hw
      cases e2 : dputD d x2 x1 with
      | none => rw [e2] at hw; exact hw.elim
      | some d' =>
        rw [e2] at hw
        cases d with
        | dK ks ds =>
          simp only [dputD] at e2
          split at e2
          · rename_i hn
            simp only [Bool.and_eq_true, decide_eq_true_eq] at hn
            obtain ⟨kk, e3, e4⟩ := Option.map_eq_some_iff.mp e2
            obtain rfl := r2.rep.key e3
            have rv := noL_flat (r1.rep.step S2 fun a ha => (r1.po.out a ha).1) hn.1
            obtain ⟨a, kvs, k1, k2, k3, k4, k5⟩ := I2.chgDict (M := [i]) (by rw [xs.ok.ow]; exact h3) (by simp) e1
            rw [k1] at hv0
            cases hv0
            have hlen : kvs.length < sizeLine := by
              have := hn.2
              rw [← k3, List.length_map] at this
              exact this
            refine ⟨a, rfl, .inl ⟨_, .k k2 hlen, ?_⟩⟩
            have hany : (kvs.any fun kv => decide (kv.1 = kk)) = (valP ks ds kk).isSome := by
              rw [valV_any]
              rcases Reps.valP kk k3 rfl k4 with ⟨d0, v0, t0, G0, a1, a2, _, _⟩ | ⟨a1, a2⟩
              · rw [a1, a2]; rfl
              · rw [a1, a2]; rfl
            unfold putK
            rw [hany]
            cases hs : (valP ks ds kk).isSome with
            | true =>
              rw [hs, if_pos rfl] at e4
              subst e4
              rw [if_pos rfl]
              obtain ⟨m1, m2⟩ := repP_map (k := kk) (v := v1) (kvs := kvs)
              obtain ⟨J, S3⟩ := k5 (kvs.map fun kv => if kv.1 = kk then (kv.1, v1) else kv) ks (repP kk x1 ks ds) (m1.trans k3) (by rw [m2, k3]; exact Reps.repP rv k4)
              exact hw σ _ μ2 G J ((S1.trans S2).ss.trans S3)
            | false =>
              rw [hs, if_neg (by simp)] at e4
              subst e4
              rw [if_neg (by simp)]
              obtain ⟨L, r3, hL⟩ := k4.append (.cons rv .nil)
              have hL0 : L = [] := by
                cases L with
                | nil => rfl
                | cons b L =>
                  rcases hL b (by simp) with hb | hb
                  · simp at hb
                  · simp at hb
              subst hL0
              obtain ⟨J, S3⟩ := k5 (kvs ++ [(kk, v1)]) (ks ++ [kk]) (ds ++ [x1]) (by rw [List.map_append, k3]; rfl) (by rw [List.map_append]; exact r3)
              exact hw σ _ μ2 G J ((S1.trans S2).ss.trans S3)
          · cases e2
        | dT ks ds =>
          simp only [dputD] at e2
          split at e2
          · rename_i hn
            simp only [Bool.and_eq_true, decide_eq_true_eq] at hn
            obtain ⟨kk, e3, e4⟩ := Option.map_eq_some_iff.mp e2
            obtain ⟨b, rfl, n1, n2, n3⟩ := r2.rep.keyT e3
            have rv := noL_flat (r1.rep.step S2 fun a ha => (r1.po.out a ha).1) hn.1
            obtain ⟨a, ys, ws, k1, k2, ks0, k3, nk, kv, k4, k5⟩ := I2.chgDictX (M := [i]) (by rw [xs.ok.ow]; exact h3) (by simp) e1
            rw [k1] at hv0
            cases hv0
            have hlen : ys.length < sizeLine := by
              have := hn.2
              rw [← k3, List.length_map] at this
              exact this
            refine ⟨a, rfl, .inr ⟨ys, kk, b, k2, ks0, hlen, nk, rfl, n1, n2, n3, fun u ru => ?_⟩⟩
            have nk' := nk.stored n1 n2 n3 u
            rcases Reps.valT kk k3 kv k4 with ⟨d0, v0, t0, G0, b0, u0, a1, a2, _⟩ | ⟨a1, a2⟩
            · rw [a1, Option.isSome_some, if_pos rfl] at e4
              subst e4
              rw [storedH_old a2] at nk' ⊢
              obtain ⟨J, S3⟩ := k5 (ys.map (putAt kk u)) ks (repP kk v1 ks ws) (repP kk x1 ks ds) (by rw [List.length_map]; omega) (by rw [putAt_fst]; exact k3) nk' (by rw [← k3]; exact putAt_vals ru kv) (Reps.repP rv k4)
              exact hw σ _ μ2 G J ((S1.trans S2).ss.trans S3)
            · rw [a1, Option.isSome_none, if_neg (by simp)] at e4
              subst e4
              rw [storedH_new a2] at nk' ⊢
              obtain ⟨L, r3, hL⟩ := k4.append (.cons rv .nil)
              have hL0 : L = [] := by
                cases L with
                | nil => rfl
                | cons b L =>
                  rcases hL b (by simp) with hb | hb
                  · simp at hb
                  · simp at hb
              subst hL0
              obtain ⟨J, S3⟩ := k5 (ys ++ [(kk, b, u)]) (ks ++ [kk]) (ws ++ [v1]) (ds ++ [x1]) (by rw [List.length_append]; simp; omega) (by rw [List.map_append, k3]; rfl) nk' (by rw [List.map_append]; exact Vals.append kv (.cons ru .nil)) r3
              exact hw σ _ μ2 G J ((S1.trans S2).ss.trans S3)
          · cases e2
        | _ => cases e2
  · cases h
end
end WT
end

section
set_option Elab.async false
set_option linter.all false
set_option maxRecDepth 100000
set_option autoImplicit false
/-! K25: augmented items; every statement. -/
namespace WT
open PySem PySem.Spec PyProof.Rows L2

section
variable {m : MC} {g : GE} {k : Nat} {rn : Bool} {e : E}
def rGetL : V → V → Hp → VK → Prop := fun x y H Q => ∃ p xs i v, x = .ref p ∧ y = .int i ∧ H p = some (.lst xs) ∧ atI xs i = some v ∧ Q v H
theorem get_list {X : Cx} : PGet X rGetL := by
  intro pins s σ H x y v u Q I rx ry h
  obtain ⟨p, xs, i, z, rfl, rfl, hq, he, q⟩ := h
  cases rx
  obtain ⟨t, rfl⟩ := ry
  obtain ⟨its, r, pl, hz⟩ := I.list (.inl (.inl hq))
  obtain ⟨j, h1, h2, h3, h4, h5⟩ := atI_get he
  obtain ⟨w, ew, rw'⟩ := r.get h2
  have hl := r.length
  have hn := line63
  have fin : EP X pins σ Q w s := ⟨z, H, I, rw', q⟩
  by_cases h0 : 0 ≤ i
  · have hj : i.toNat = j := by
      rw [seqIndex_of h0 h5] at h1
      exact Option.some.inj h1
    exact wpAny_getItem_list pl.isList h0 (by omega) (by rw [hj]; simpa using ew) fin
  · have hj : (i + (its.toArray.size : Int)).toNat = j := by
      rw [seqIndex_neg (by omega) h4] at h1
      rw [List.size_toArray, ← hl]
      exact Option.some.inj h1
    exact wpAny_getItem_list_neg pl.isList (by omega) (by rw [List.size_toArray] <;> omega) (by omega) (by rw [hj]; simpa using ew) fin
theorem sm_augIx {i : Nat} {o : Bool} {op : Operator} {ix : E} : SndS m g k rn (.augIx i o op ix e) := by
  intro c sc X st hg xs h
  rw [cS] at h
  unfold cAugIx at h
  split at h
  · rename_i x px z sp op' y pos
    simp only [Bool.and_eq_true, decide_eq_true_eq] at h
    obtain ⟨⟨⟨⟨⟨⟨⟨⟨⟨n1, n2⟩, n3⟩, h1⟩, h2⟩, rfl⟩, h6⟩, h3⟩, h4⟩, h5⟩ := h
    obtain ⟨d1, d2⟩ := plB_ok n3
    obtain ⟨p, hp, hk⟩ := pvK_of h4
    obtain ⟨q, hq, _⟩ := pvK_of h5
    have hz := mE_plain h1
    refine (ps_augS (pe_var (i := i) (by rw [xs.ok.hN]; exact n1) (xs.ok.vis n2) d1 d2) (snd ix hq c sc X z hg xs.ok h1) get_list (snd e hp c sc X y hg xs.ok h2) (ip_v h6) set_list (fun ov iv new => ?_)).mono fun D σ H ⟨env, st, μ, G, I, hw⟩ => ?_
    · cases z <;> first | rfl | (cases hz; done)
    · rw [evS] at hw
      have hw0 := hw
      obtain ⟨a0, vs0, hv0, ha0, hw⟩ := listed I hw
      refine ⟨_, hv0, TEv.ofS I hw fun x1 st1 v1 H1 μ1 t1 F1 I1 S1 r1 hw => ?_⟩
      cases eg : (slot env i).bind fun d => idxD st1 d x1 with
      | none => rw [eg] at hw; exact hw.elim
      | some xv =>
        rw [eg] at hw
        simp only at hw
        obtain ⟨ds, es, eg⟩ := Option.bind_eq_some_iff.mp eg
        -- the item that stands there
        have item : ∃ kk vs v t F, v1 = .int kk ∧ x1 = .int kk ∧ H1 a0 = some (.lst vs) ∧ atI vs kk = some v ∧ Rep X.K H1 μ1 xv v t F := by
          obtain ⟨vv, tt, FF, e2, rr, _⟩ := I1.slot i ds es
          rw [hv0] at e2
          cases e2
          cases ds with
          | lst zs =>
            cases rr with
            | lst ha rs =>
              cases x1 with
              | int kk =>
                obtain ⟨r1, _⟩ := r1
                cases r1
                obtain ⟨v, t, F, z1, z2, _⟩ := atI_rep rs eg
                exact ⟨kk, _, v, t, F, rfl, rfl, ha, z1, z2⟩
              | _ => cases eg
          | ref j =>
            cases rr with
            | ref hj =>
              cases x1 with
              | int kk =>
                obtain ⟨r1, _⟩ := r1
                cases r1
                obtain ⟨zs, z0, eg⟩ := Option.bind_eq_some_iff.mp (show (st1[j]?).bind (fun xs => ixD xs kk) = some xv from eg)
                obtain ⟨a, vs, k1, k2, rs⟩ := I1.box j zs z0
                rw [hj] at k1
                cases k1
                obtain ⟨v, t, F, z1, z2, _⟩ := atI_rep rs eg
                exact ⟨kk, _, v, t, F, rfl, rfl, k2, z1, z2⟩
              | _ => cases eg
          | _ =>
            exfalso
            obtain ⟨vv, tt, FF, e2, rr, _⟩ := I.slot i _ es
            revert hw0
            unfold isLs
            rw [es]
            exact fun z => z
        obtain ⟨kk, vs, v, t, F, rfl, rfl, k2, k3, k4⟩ := item
        refine ⟨a0, vs, kk, v, rfl, rfl, k2, k3, ?_⟩
        refine TEv.nxtS S1 I1 hw fun x2 st2 v2 H2 μ2 t2 F2 I2 S2 r2 hw => ?_
        obtain ⟨i0, rfl⟩ : ∃ i0, xv = .int i0 := by cases xv <;> first | exact ⟨_, rfl⟩ | exact hw.elim
        obtain ⟨j0, rfl⟩ : ∃ j0, x2 = .int j0 := by cases x2 <;> first | exact ⟨_, rfl⟩ | exact hw.elim
        cases hb : binD op (.int i0) (.int j0) with
        | none => rw [hb] at hw; exact hw.elim
        | some z =>
          rw [hb] at hw
          obtain ⟨z0, rfl⟩ : ∃ z0, z = .int z0 := by
            cases op with
            | Add => cases hb; exact ⟨_, rfl⟩
            | Sub => cases hb; exact ⟨_, rfl⟩
            | Mult =>
              have hb : mulD (.int i0) (.int j0) = some z := hb
              unfold mulD guardO at hb
              simp only at hb
              split at hb
              · cases hb; exact ⟨_, rfl⟩
              · cases hb
            | _ => cases h6
          cases k4
          obtain ⟨r2, po⟩ := r2
          cases r2
          refine ⟨i0, j0, z0, rfl, rfl, hb, ?_⟩
          simp only at hw
          obtain ⟨a1, xs0, ys0, vs1, F0, m1, m2, m3, m4, m5, m6⟩ := chg_ok xs.ok.ow (own_tch h3) I2 (S1.trans S2).ss hw
          rw [hv0] at m1
          cases m1
          obtain ⟨j1, e1, rfl⟩ := Option.map_eq_some_iff.mp (show (ixN xs0.length kk).map (fun j => xs0.set j (.int z0)) = some ys0 from m4)
          rw [m3.length] at e1
          obtain ⟨F3, r3, hF3⟩ := m3.set j1 (.int z0)
          refine ⟨a0, vs1, kk, j1, rfl, rfl, m2, e1, m6 _ F3 r3 (fun b hb => ?_) fun hn hF0 => ?_⟩
          · rcases hF3 b hb with hb | hb
            · exact m5 b hb
            · simp at hb
          · cases F3 with
            | nil => rfl
            | cons b F3 =>
              rcases hF3 b (by simp) with hb | hb
              · rw [hF0] at hb; simp at hb
              · simp at hb
  · cases h
theorem sm_no {s : S} (h : ∀ sc st, cS m sc rn s st = false) : SndS m g k rn s := fun c sc X st hg xs hh => by rw [h] at hh; cases hh
mutual
theorem sndS : ∀ s : S, SndS m g k rn s
  | .ret e => sm_ret
  | .retN => sm_retN
  | .set i kk e => sm_set
  | .setT tg e => sm_setT
  | .par i j ki kj a b => sm_par
  | .par3 i j l ki kj kl a b c => sm_par3
  | .move i j => sm_move
  | .aug i op e => sm_aug
  | .setIx i o nl ix e => sm_setIx
  | .augIx i o op ix e => sm_augIx
  | .app i o nl e => sm_app
  | .mth i o f es => sm_mth
  | .dput i kx e => sm_dput
  | .ite e a b => sm_ite (sndSs a) (sndSs b)
  | .whl e a => sm_whl (sndSs a)
  | .for_ tg it a => sm_for (sndSs a)
  | .brk => sm_brk
  | .cont => sm_cont
  | .pass => sm_pass
  | .drop e => sm_drop
  | .kill i => sm_no fun sc st => by rw [cS]
  | .raise_ c e => sm_no fun sc st => by rw [cS]
  | .dead => sm_dead
theorem sndSs : ∀ s : Ss, SndSs m g k rn s
  | .nil => SndSs.nil
  | .cons s ss => SndSs.cons (sndS s) (sndSs ss)
end
end
end WT
end

section
set_option Elab.async false
set_option linter.all false
set_option maxRecDepth 100000
set_option autoImplicit false
/-! K26: a def keeps its promise. -/
namespace WT
open PySem PySem.Spec PyProof.Rows L2

theorem slot_args {ds : List D} {n i : Nat} {d : D} (h : slot (ds.map some ++ List.replicate n none) i = some d) : ds[i]? = some d := by
  unfold slot at h
  by_cases hi : i < ds.length
  · rw [List.getElem?_append_left (by simpa using hi), List.getElem?_map] at h
    cases e : ds[i]? with
    | none => rw [e] at h; cases h
    | some a => rw [e] at h; cases h; rfl
  · rw [List.getElem?_append_right (by simpa using hi), List.getElem?_replicate] at h
    split at h <;> cases h
theorem start_get {N : List Str} {vs : List V} {i : Nat} {v : V} (h : vs[i]? = some v) : (L2.start N vs)[i]? = some (some v) := by
  have hi : i < vs.length := (List.getElem?_eq_some_iff.mp h).1
  unfold L2.start
  rw [List.getElem?_append_left (by simpa using hi), List.getElem?_map, h]
  rfl
theorem StepS.step {μ μ' : List Addr} {G' : Addr → Option Nat} {M : List Nat} {H H' : Hp} (s : StepS M μ (fun _ => none) H μ' G' H') : Step μ H μ' H' :=
  ⟨fun a o h n => s.sl.keep a o h n fun i hi => by simp, s.sl.tups, s.sl.frzs, s.sl.dom, s.sl.ext⟩
/-- what the defs that are in reach promise -/
structure FnsOk (P : Program) (w : World) (K : PySem.W.Frag) (mg : Str → Option Value) (base : Heap) (CA : Str → Option Addr) (m : MC) (g : GE) (k : Nat) : Prop where
  fns : ∀ (i : Nat) (n : Str) (ps : List Str), m.fns[i]? = some (n, ps) → ∃ fi f fd, g.fns[i]? = some fi ∧ fi.ps = ps ∧ mg n = some (.ref f) ∧ PySem.W.keepIn K (.ref f) = true ∧
    FnOk P w K mg base (L2.CX P w) k f fd ps (spF K CA (m.rn i) fi.sem ps.length) ∧ KBd K fd ps (m.kw i)
  cons : ∀ (i : Nat) (x : Str), m.cons[i]? = some x → ∃ d v u, g.cons[i]? = some (x, d) ∧ mg x = some u ∧ RelV v u ∧ ∀ H μ, Rep K H μ d v [] []
  free : ∀ x ∈ freeNames, mg x = none
  gcd : m.gcd = true → mg "gcd" = some (.builtin "math.gcd")
section
variable {P : Program} {w : World} {K : PySem.W.Frag} {mg : Str → Option Value} {base : Heap} {CA : Str → Option Addr} {m : MC} {g : GE} {k : Nat} {rn : Bool}
theorem fn_body {ps : List Str} {scope : Scope} {stmts : List Stmt} {body : Ss} (fo : FnsOk P w K mg base CA m g k) (S : FnScope m.N ps scope) (hpo : ∀ i, i < ps.length → m.ow i = false) (hc : cSs m scope rn body stmts = true)
    (qual : Str) (f : Addr) (cdv : Value) (A : Around) (outer : List PySem.Env) (s : Shared) (H : Hp) (vs : List V) (Q : VK) (E : XK) (hr : Room k (A.deeper (envOfC qual scope s.heap.objs.size f cdv))) (hsp : spF K CA rn (evF g m.N.length body) ps.length vs H Q E) :
    ∃ t, PSs (cxOf (L2.CX P w) P w K mg base m.N qual scope f cdv A outer s H E) stmts t ∧ t { nx := fun _ H' => Q .non H', rt := Q } (L2.start m.N vs) H := by
  obtain ⟨ds, st, μ, F, A', hl, reps, bx, ml, md, hF, fin⟩ := hsp
  let c : Cfg := { g := g, ow := m.ow, Ok := fun a => H a = none ∨ A' a, CA := CA, W := fun cls d _ H => E cls d H }
  have xs : XS m c k scope (cxOf (L2.CX P w) P w K mg base m.N qual scope f cdv A outer s H E) :=
    { ok := { hN := rfl, nd := S.nd, sc := rfl, ow := rfl, calm := rfl, room := hr, tk := takes_of rfl rfl rfl rfl, fns := fo.fns, cons := fo.cons, free := fo.free, gcd := fo.gcd }
      fn := fun _ => rfl
      po := passes_of rfl
      kind := S.kind }
  refine ⟨_, sndSs (g := g) body c scope _ stmts rfl xs hc, ds.map some ++ List.replicate (m.N.length - ds.length) none, st, μ, fun _ => none, ⟨fun i d e => ?_, bx, ml, md, fun a ha => ⟨rfl, ?_⟩, fun a ha => absurd rfl ha, fun a ha => .inl ha, ?_⟩, ?_⟩
  · have e1 := slot_args e
    obtain ⟨v, t, F', e2, r, hs⟩ := reps.get e1
    have hi : i < ps.length := by rw [← hl]; exact (List.getElem?_eq_some_iff.mp e1).1
    refine ⟨v, t, F', start_get e2, r, fun a ha => ?_, fun a ha => rfl, fun a ha => ⟨(hF a (hs a ha)).1, .inr (hF a (hs a ha)).2⟩⟩
    show none = if m.ow i = true then some i else none
    rw [hpo i hi]
    rfl
  · obtain ⟨j, hj, e⟩ := List.mem_iff_getElem.mp ha
    obtain ⟨a', vs', e1, e2, _⟩ := bx j _ (List.getElem?_eq_getElem (by rw [← ml]; exact hj))
    rw [List.getElem?_eq_getElem hj] at e1
    cases e1
    rw [← e, e2]
    simp
  · have hlv : ds.length = vs.length := reps.length
    unfold L2.start
    simp only [List.length_append, List.length_map, List.length_replicate, hlv]
    exact Nat.le_refl _
  · have fin2 := fin
    unfold evF at fin2
    cases er : evSs g body (ds.map some ++ List.replicate (m.N.length - ds.length) none) st with
    | nx env' st' =>
      rw [er] at fin2
      exact fun σ' H' μ' G' I' S' => fin2 .non H' μ' [] [] S'.step I'.box I'.muLen I'.muNd .non (fun _ h => by simp at h) fun _ _ h => by simp at h
    | rt d st' =>
      rw [er] at fin2
      exact fun v H' μ' G' t F' b l n S' r po nw => fin2 v H' μ' t F' S'.step b l n r po fun e a ha => ⟨(nw e a ha).1.elim id fun z => by
        cases q : H a with
        | none => rfl
        | some o => exact absurd (S'.agr a (by rw [q]; simp) fun i hi => by simp) z, (nw e a ha).2⟩
    | exn x d env' st' =>
      rw [er] at fin2
      exact fun cls dd σ' H' μ' G' I' S' xr => fin2 cls dd H' μ' S'.step I'.box I'.muLen I'.muNd xr
    | bk env' st' => rw [er] at fin2; exact fin2.elim
    | ct env' st' => rw [er] at fin2; exact fin2.elim
    | bad => rw [er] at fin2; exact fin2.elim
theorem spF_len {sem : List D → Sto → R D} {n : Nat} {vs : List V} {H : Hp} {Q : VK} {E : XK} (h : spF K CA rn sem n vs H Q E) : vs.length = n := by
  obtain ⟨ds, st, μ, F, A', hl, reps, _⟩ := h
  rw [← reps.length]
  exact hl
theorem fn_ok {x qual : Str} {params : Arguments} {ps : List Str} {scope : Scope} {stmts : List Stmt} {body : Ss} {dvs : List V} {kws : List (Str × V)} {f : Addr} {fd : FuncData} (fo : FnsOk P w K mg base CA m g k) (F : FunD K x qual params stmts scope dvs kws f fd)
    (S : FnScope m.N ps scope) (hpo : ∀ i, i < ps.length → m.ow i = false) (hc : cSs m scope rn body stmts = true) : FnOk P w K mg base (L2.CX P w) (k + 1) f fd ps (spF K CA rn (evF g m.N.length body) ps.length) :=
  F.ok S (fun vs H Q E h => spF_len h) fun cdv A outer s H vs Q E hr hsp => fn_body fo S hpo hc qual f cdv A outer s H vs Q E hr hsp
end
end WT
end

section
set_option Elab.async false
set_option linter.all false
set_option maxRecDepth 100000
set_option autoImplicit false
/-! K27: the module's facts, the law's end. -/
namespace WT
open PySem PySem.Spec PyProof.Rows L2

/-! ### constants of the module -/
mutual
def repB (K : PySem.W.Frag) : D → Value → Bool
  | .non, v => (match v with | .none => true | _ => false)
  | .bl b, v => (match v with | .bool c => b == c | _ => false)
  | .int i, v => (match v with | .int j _ => decide (i = j) | _ => false)
  | .str x, v => (match v with | .str y _ => decide (x = y) | _ => false)
  | .tup ds, v => (match v with
    | .ref a => (match K.lookup a with
      | some ⟨.type c, _, .seq its _, _⟩ => decide (c = "tuple") && (decide (its.size ≤ sizeLine) && repsB K ds its.toList)
      | _ => false)
    | _ => false)
  | .lst _, _ => false
  | .frz _, _ => false
  | .dK _ _, _ => false
  | .dT _ _, _ => false
  | .ref _, _ => false
  | .exc _ _, _ => false
def repsB (K : PySem.W.Frag) : List D → List Value → Bool
  | [], us => us.isEmpty
  | d :: ds, us => (match us with
    | [] => false
    | u :: us => repB K d u && repsB K ds us)
end
mutual
theorem repB_ok {K : PySem.W.Frag} : ∀ {d : D} {u : Value}, repB K d u = true → ∃ v, RelV v u ∧ ∀ H μ, Rep K H μ d v [] []
  | .non, u, h => by
    unfold repB at h
    split at h
    · exact ⟨.non, rfl, fun _ _ => .non⟩
    · cases h
  | .bl b, u, h => by
    unfold repB at h
    split at h
    · have := eq_of_beq h
      subst this
      exact ⟨.bl b, rfl, fun _ _ => .bl b⟩
    · cases h
  | .int i, u, h => by
    unfold repB at h
    split at h
    · have := of_decide_eq_true h
      subst this
      exact ⟨.int i, ⟨_, rfl⟩, fun _ _ => .int i⟩
    · cases h
  | .str x, u, h => by
    unfold repB at h
    split at h
    · have := of_decide_eq_true h
      subst this
      exact ⟨.str x, ⟨_, rfl⟩, fun _ _ => .str x⟩
    · cases h
  | .tup ds, u, h => by
    unfold repB at h
    split at h
    · rename_i a
      cases q : K.lookup a with
      | none => rw [q] at h; cases h
      | some o =>
        rw [q] at h
        obtain ⟨oc, od, dt, osl⟩ := o
        cases oc with
        | type c =>
          cases dt with
          | seq its n =>
            have h : (decide (c = "tuple") && (decide (its.size ≤ sizeLine) && repsB K ds its.toList)) = true := h
            rw [Bool.and_eq_true, Bool.and_eq_true, decide_eq_true_eq, decide_eq_true_eq] at h
            obtain ⟨h1, h2, h3⟩ := h
            obtain ⟨vs, r1, r2⟩ := repsB_ok h3
            exact ⟨.ref a, rfl, fun H μ => .tup (.inr ⟨_, its, n, q, congrArg Value.type h1, rfl, h2, r1⟩) (r2 H μ)⟩
          | _ => cases h
        | _ => cases dt <;> cases h
    · cases h
  | .lst _, u, h => by cases h
  | .frz _, u, h => by cases h
  | .dK _ _, u, h => by cases h
  | .dT _ _, u, h => by cases h
  | .ref _, u, h => by cases h
  | .exc _ _, u, h => by cases h
theorem repsB_ok {K : PySem.W.Frag} : ∀ {ds : List D} {us : List Value}, repsB K ds us = true → ∃ vs, Vals vs us ∧ ∀ H μ, Reps K H μ ds vs []
  | [], us, h => by
    unfold repsB at h
    have := List.isEmpty_iff.mp h
    subst this
    exact ⟨[], .nil, fun _ _ => .nil⟩
  | d :: ds, us, h => by
    unfold repsB at h
    split at h
    · cases h
    · rw [Bool.and_eq_true] at h
      obtain ⟨v, r1, r2⟩ := repB_ok h.1
      obtain ⟨vs, r3, r4⟩ := repsB_ok h.2
      exact ⟨v :: vs, .cons r1 r3, fun H μ => .cons (r2 H μ) (r4 H μ)⟩
end
/-! ### a Hook of one's own: any look at the fragment, and the defs -/
abbrev AlW : Type := Bool × List He.FnW
def obsW (chk : PySem.W.Frag → Bool) (fn : List He.DefD) (K : PySem.W.Frag) : AlW := (chk K && fn.all fun d => d.ok K, fn.map fun d => He.fnW K d.at_)
def valW (fn : List He.DefD) : AlW := (true, fn.map He.DefD.val)
def SaysW (chk : PySem.W.Frag → Bool) (fn : List He.DefD) (K : PySem.W.Frag) : Prop := obsW chk fn K = valW fn
def obsWG (n : Nat) (chk : PySem.W.Frag → Bool) (fn : List He.DefD) (g : Addr → Option Obj) : AlW := obsW chk fn (He.frG g (He.asD g n))
def hookW (n : Nat) (chk : PySem.W.Frag → Bool) (fn : List He.DefD) : PySem.W.Hook where
  α := AlW
  obs := fun s => obsWG n chk fn s.heap.get?
  val := fun _ => valW fn
  says := fun _ h => ∃ K : PySem.W.Frag, K.In h ∧ SaysW chk fn K
  of := fun _ _ e => ⟨_, He.frG_in, e⟩
  keeps := fun _ _ _ ⟨K, hK, c⟩ k => ⟨K, PySem.W.Frag.In.keeps hK k, c⟩
theorem obsWG_eq {n : Nat} {chk : PySem.W.Frag → Bool} {fn : List He.DefD} {g : Addr → Option Obj} {s : Shared} (h : ∀ a, g a = s.heap.get? a) : obsWG n chk fn g = (hookW n chk fn).obs s := by
  have e : g = s.heap.get? := funext h
  rw [e] <;> rfl
section
variable {chk : PySem.W.Frag → Bool} {fn : List He.DefD} {K : PySem.W.Frag}
theorem SaysW.look (c : SaysW chk fn K) : chk K = true := (Bool.and_eq_true_iff.mp (show (chk K && fn.all fun d => d.ok K) = true from congrArg (fun z : AlW => z.1) c)).1
theorem SaysW.def_ (c : SaysW chk fn K) (i : Nat) {d : He.DefD} (h : fn[i]? = some d) : ∃ fd, FunD K d.name d.qual d.params d.body d.scope (d.dvs K) (d.kws K) (He.fAd K d.at_) fd := by
  have c2 := (Bool.and_eq_true_iff.mp (show (chk K && fn.all fun d => d.ok K) = true from congrArg (fun z : AlW => z.1) c)).2
  have e : fn.map (fun d => He.fnW K d.at_) = fn.map He.DefD.val := congrArg (fun z : AlW => z.2) c
  have e2 : (fn.map fun d => He.fnW K d.at_)[i]? = (fn.map He.DefD.val)[i]? := by rw [e]
  rw [List.getElem?_map, List.getElem?_map, h] at e2
  exact He.DefD.funD (Option.some.inj e2) (List.all_eq_true.mp c2 d (List.mem_of_getElem? h))
end
/-- the facts that the defs lean on -/
def conB (K : PySem.W.Frag) (p : Str × D) : Bool := match PySem.W.nsIn K mainGlobals p.1 with
  | some (some v) => repB K p.2 v
  | _ => false
def facts (names : List Str) (cons : List (Str × D)) (gcd : Bool) (K : PySem.W.Frag) : Bool :=
  (names.all fun x => (He.Fa.glo x).ok K) && (cons.all fun p => conB K p) && (freeNames.all fun x => (He.Fa.free x).ok K) && (!gcd || He.eqO (PySem.W.nsIn K mainGlobals "gcd") (some (some (.builtin "math.gcd"))))
theorem conB_ok {K : PySem.W.Frag} {h : Heap} {mg : Str → Option Value} (X : K.In h) (G : h.Ns mainGlobals mg) {p : Str × D} (c : conB K p = true) : ∃ u v, mg p.1 = some u ∧ RelV v u ∧ ∀ H μ, Rep K H μ p.2 v [] [] := by
  unfold conB at c
  split at c
  · rename_i u e
    obtain ⟨v, r1, r2⟩ := repB_ok c
    exact ⟨u, v, PySem.W.mg_of X G e, r1, r2⟩
  · cases c
/-- how arguments go to a plain def's parameters -/
theorem kbd_of {K : PySem.W.Frag} {x qual : Str} {params : Arguments} {body : List Stmt} {scope : Scope} {f : Addr} {fd : FuncData} {ps : List Str} {kw : List (Nat × List Str × List Nat)} (F : FunD K x qual params body scope [] [] f fd)
    (h0 : ∀ (kV doc pm : Value) (an : Option Addr) (cdv ct : Value) (us : List Value), us.length = ps.length → bindArgs (PySem.W.fnOf x qual params body scope .none kV doc pm an cdv ct) ⟨us, []⟩ = pure (ps.zip us))
    (h : ∀ q ∈ kw, ∀ (kV doc pm : Value) (an : Option Addr) (cdv ct : Value) (us ws : List Value), us.length = q.1 → ws.length = q.2.1.length → bindArgs (PySem.W.fnOf x qual params body scope .none kV doc pm an cdv ct) ⟨us, q.2.1.zip ws⟩ = pure (ps.zip (us ++ permL q.2.2 ws))) : KBd K fd ps kw := by
  obtain ⟨oc, od, dV, kV, doc, pm, an, cdv, ct, osl, rfl, lk, hcd, hD, hK⟩ := F.ex
  rcases hD with ⟨_, rfl⟩ | ⟨e, _⟩
  · exact fun s us ws _ => ⟨fun hl => .of_eq (h0 kV doc pm an cdv ct us hl), fun q hq h1 h2 => .of_eq (h q hq kV doc pm an cdv ct us ws h1 h2)⟩
  · exact absurd rfl e
/-- a promise that no one can ask for -/
theorem fn_bad {P : Program} {w : World} {K : PySem.W.Frag} {mg : Str → Option Value} {base : Heap} {CX : CXT} {k : Nat} {f : Addr} {fd : FuncData} {ps : List Str} {CA : Str → Option Addr} {rn : Bool} : FnOk P w K mg base CX k f fd ps (spF K CA rn (fun _ _ => .bad) ps.length) :=
  ⟨fun vs H Q E h => spF_len h, fun A outer s H args us vs Q E hr he hb hv hs => by
    obtain ⟨_, _, _, _, _, _, _, _, _, _, _, z⟩ := hs
    exact z.elim⟩
end WT
end

section
set_option Elab.async false
set_option linter.all false
set_option maxRecDepth 100000
set_option autoImplicit false
/-! K28: the defs one behind another. -/
namespace WT
open PySem PySem.Spec PyProof.Rows L2

section
variable {P : Program} {w : World} {K : PySem.W.Frag} {mg : Str → Option Value} {base : Heap} {CA : Str → Option Addr} {m m' : MC} {g g' : GE} {k : Nat}
/-- the fields that the promise of the defs in reach looks at -/
theorem FnsOk.cong (fo : FnsOk P w K mg base CA m g k) (h1 : m'.fns = m.fns) (h2 : m'.cons = m.cons) (h3 : m'.rn = m.rn) (h4 : m'.kw = m.kw) (h5 : m'.gcd = m.gcd) : FnsOk P w K mg base CA m' g k :=
  ⟨fun i n ps h => by rw [h1] at h; rw [h3, h4]; exact fo.fns i n ps h, fun i x h => by rw [h2] at h; exact fo.cons i x h, fo.free, fun h => by rw [h5] at h; exact fo.gcd h⟩
theorem FnsOk.mono (fo : FnsOk P w K mg base CA m g k) {k' : Nat} (h : k ≤ k') : FnsOk P w K mg base CA m g k' :=
  ⟨fun i n ps e => by
    obtain ⟨fi, f, fd, a1, a2, a3, a4, a5, a6⟩ := fo.fns i n ps e
    exact ⟨fi, f, fd, a1, a2, a3, a4, a5.mono h, a6⟩, fo.cons, fo.free, fo.gcd⟩
theorem FnsOk.snoc (fo : FnsOk P w K mg base CA m g k) {n : Str} {ps : List Str} {fi : FnI} {f : Addr} {fd : FuncData} {k' : Nat} (hk' : k ≤ k') (h1 : m'.fns = m.fns ++ [(n, ps)]) (h2 : m'.cons = m.cons) (h3 : m'.rn = m.rn) (h4 : m'.kw = m.kw) (h5 : m'.gcd = m.gcd)
    (e1 : g'.fns = g.fns ++ [fi]) (e2 : g'.cons = g.cons) (el : m.fns.length = g.fns.length) (hps : fi.ps = ps) (hm : mg n = some (.ref f)) (hk : PySem.W.keepIn K (.ref f) = true)
    (F : FnOk P w K mg base (L2.CX P w) k' f fd ps (spF K CA (m.rn m.fns.length) fi.sem ps.length)) (hb : KBd K fd ps (m.kw m.fns.length)) : FnsOk P w K mg base CA m' g' k' := by
  refine ⟨fun i n' ps' h => ?_, fun i x h => ?_, fo.free, fun h => by rw [h5] at h; exact fo.gcd h⟩
  · rw [h1] at h
    rw [h3, h4]
    by_cases hi : i < m.fns.length
    · rw [List.getElem?_append_left hi] at h
      obtain ⟨fi', f', fd', a1, a2, a3, a4, a5, a6⟩ := fo.fns i n' ps' h
      exact ⟨fi', f', fd', by rw [e1, List.getElem?_append_left (by rw [← el]; exact hi)]; exact a1, a2, a3, a4, a5.mono hk', a6⟩
    · rw [List.getElem?_append_right (by omega)] at h
      have hi2 : i = m.fns.length := by
        have := (List.getElem?_eq_some_iff.mp h).1
        simp at this
        omega
      subst hi2
      simp at h
      obtain ⟨rfl, rfl⟩ := h
      exact ⟨fi, f, fd, by rw [e1, el, List.getElem?_append_right (Nat.le_refl _)]; simp, hps, hm, hk, F, hb⟩
  · rw [h2] at h
    obtain ⟨d, v, u, b1, b2⟩ := fo.cons i x h
    exact ⟨d, v, u, by rw [e2]; exact b1, b2⟩
end
end WT
end

section
set_option Elab.async false
set_option linter.all false
set_option maxRecDepth 100000
set_option autoImplicit false
/-! K29: the law's own promise. -/
namespace WT
open PySem PySem.Spec PyProof.Rows L2

theorem fz_of {K : PySem.W.Frag} {H : Hp} {a : Addr} {ns : List Int} (hO : Only H) (h : SqL K H a (ns.map V.int)) : Fz K H a ns := by
  rcases h with (h | ⟨o, h⟩) | h
  · rcases hO a with z | ⟨o, xs, z⟩
    · rw [z] at h; cases h
    · rw [z] at h; cases h
  · exact .inl ⟨o, h⟩
  · exact .inr h
theorem law_sp {K : PySem.W.Frag} {CA : Str → Option Addr} {rn : Bool} {sem : List D → Sto → R D} {H : Hp} {a : Addr} {ns : List Int} {st' : Sto} (h : sem [.frz ns] [] = .ok (.bl true) st') (hO : Only H) (hS : SqL K H a (ns.map V.int)) :
    spF K CA rn sem 1 [.ref a] H (fun v _ => v = .bl true) fun _ _ _ => False := by
  refine ⟨[.frz ns], [], [], [], fun _ => True, rfl, .cons (t := []) (F := []) (.frz (fz_of hO hS)) .nil, fun k xs e => by simp at e, rfl, List.nodup_nil, fun _ h => by simp at h, ?_⟩
  rw [h]
  exact fun v H' μ' t F' _ _ _ _ r _ _ => by cases r; rfl
/-- a def that calls itself, by how deep it may -/
theorem rec_ok {P : Program} {w : World} {K : PySem.W.Frag} {mg : Str → Option Value} {base : Heap} {CA : Str → Option Addr} {m m' : MC} {g : GE} {k : Nat} {x qual : Str} {params : Arguments} {ps : List Str} {scope : Scope} {stmts : List Stmt} {body : Ss} {dvs : List V} {kws : List (Str × V)} {f : Addr} {fd : FuncData}
    {n : Str} {sem : Nat → List D → Sto → R D} (fo : FnsOk P w K mg base CA m g k) (F : FunD K x qual params stmts scope dvs kws f fd) (S : FnScope m'.N ps scope) (hpo : ∀ i, i < ps.length → m'.ow i = false) (hc : cSs m' scope (m.rn m.fns.length) body stmts = true)
    (h0 : sem 0 = fun _ _ => .bad) (hs : ∀ j, sem (j + 1) = evF ⟨g.fns ++ [⟨n, ps, sem j⟩], g.cons⟩ m'.N.length body)
    (h1 : m'.fns = m.fns ++ [(n, ps)]) (h2 : m'.cons = m.cons) (h3 : m'.rn = m.rn) (h4 : m'.kw = m.kw) (h5 : m'.gcd = m.gcd) (el : m.fns.length = g.fns.length) (hm : mg n = some (.ref f)) (hk : PySem.W.keepIn K (.ref f) = true) (hb : KBd K fd ps (m.kw m.fns.length)) :
    ∀ j, FnOk P w K mg base (L2.CX P w) (k + j) f fd ps (spF K CA (m.rn m.fns.length) (sem j) ps.length)
  | 0 => by
    rw [h0]
    exact fn_bad
  | j + 1 => by
    have ih := rec_ok fo F S hpo hc h0 hs h1 h2 h3 h4 h5 el hm hk hb j
    have fo' : FnsOk P w K mg base CA m' ⟨g.fns ++ [⟨n, ps, sem j⟩], g.cons⟩ (k + j) := fo.snoc (by omega) h1 h2 h3 h4 h5 rfl rfl el rfl hm hk ih hb
    rw [hs j]
    exact fn_ok fo' F S hpo hc
end WT
end

section
set_option Elab.async false
set_option linter.all false
set_option maxRecDepth 100000
set_option autoImplicit false
/-! K30: from the module's facts. -/
namespace WT
open PySem PySem.Spec PyProof.Rows L2

section
variable {P : Program} {w : World} {K : PySem.W.Frag} {mg : Str → Option Value} {base h : Heap} {CA : Str → Option Addr} {names : List Str} {cons : List (Str × D)} {gcd : Bool}
theorem facts_parts (hf : facts names cons gcd K = true) : (∀ x ∈ names, (He.Fa.glo x).ok K = true) ∧ (∀ p ∈ cons, conB K p = true) ∧ (∀ x ∈ freeNames, (He.Fa.free x).ok K = true) ∧ (gcd = true → PySem.W.nsIn K mainGlobals "gcd" = some (some (.builtin "math.gcd"))) := by
  unfold facts at hf
  simp only [Bool.and_eq_true, List.all_eq_true, Bool.or_eq_true, Bool.not_eq_true'] at hf
  obtain ⟨⟨⟨h1, h2⟩, h3⟩, h4⟩ := hf
  exact ⟨h1, h2, h3, fun e => h4.elim (fun z => by rw [e] at z; cases z) He.eqO_ok⟩
theorem facts_glo (hf : facts names cons gcd K = true) (X : K.In h) (G : h.Ns mainGlobals mg) {x : Str} (hx : x ∈ names) : mg x = some (.ref (He.ga K x)) := He.glo_ok X G ((facts_parts hf).1 x hx)
theorem FnsOk.zero {m : MC} (hf : facts names cons gcd K = true) (X : K.In h) (G : h.Ns mainGlobals mg) (h1 : m.fns = []) (h2 : m.cons = cons.map (·.1)) (h3 : m.gcd = gcd) : FnsOk P w K mg base CA m ⟨[], cons⟩ 0 := by
  obtain ⟨f1, f2, f3, f4⟩ := facts_parts hf
  refine ⟨fun i n ps e => by rw [h1] at e; simp at e, fun i x e => ?_, fun x hx => He.free_ok X G (f3 x hx), fun e => PySem.W.mg_of X G (f4 (by rw [← h3]; exact e))⟩
  rw [h2, List.getElem?_map] at e
  obtain ⟨p, hp, rfl⟩ := Option.map_eq_some_iff.mp e
  obtain ⟨u, v, g1, g2, g3⟩ := conB_ok X G (f2 p (List.mem_of_getElem? hp))
  exact ⟨p.2, v, u, hp, g1, g2, g3⟩
end
def scB (N P : List Str) (sc : Scope) : Bool := fnB sc && !sc.isCoroutine && !sc.isGenerator && decide N.Nodup && decide (N.take P.length = P) && (P.all fun x => locB sc x) && sc.names.all fun y => !decide (y.2 = .free)
theorem fnScope_by {N P : List Str} {sc : Scope} (h : scB N P sc = true) : FnScope N P sc := by
  unfold scB at h
  simp only [Bool.and_eq_true, Bool.not_eq_true', decide_eq_true_eq, List.all_eq_true, decide_eq_false_iff_not] at h
  obtain ⟨⟨⟨⟨⟨⟨h1, h2⟩, h3⟩, h4⟩, h5⟩, h6⟩, h7⟩ := h
  refine ⟨?_, h2, h3, h4, h5, fun x hx => locB_k (h6 x hx), h7⟩
  unfold fnB at h1
  split at h1
  · assumption
  · cases h1
end WT
end

section
set_option Elab.async false
set_option linter.all false
set_option maxRecDepth 100000
set_option autoImplicit false
/-! K31: the law's end: what a callee may let out depends on the world. -/
namespace WT
open PySem PySem.Spec PyProof.Rows L2
theorem walk_ofW {l : PySem.W.OpenLaw} {n k : Nat} {q : Program} {loose : List Str} {XP : (Str → Option Value) → Heap → Prop} {YP : World → Heap → Prop} {d : DefRec} {x : Str}
    (hn : l.most = some n) (hn2 : n ≤ sizeLine) (hdf : d.params.defaults = []) (hr : Room k callerA)
    (F : ∀ (w : World) (mg : Str → Option Value) (fa : Addr) (h : Heap), YP w h → h.Ns mainGlobals mg → mg d.name = some (.ref fa) →
      ∃ (K : PySem.W.Frag) (fd : FuncData) (sp : Sp), K.In h ∧ (∀ (s : Shared) (u : Value), BindsTo s fd ⟨[u], []⟩ [(x, u)]) ∧
        (∀ (H : Hp) (a : Addr) (ns : List Int), ns.length ≤ n → Only H → SqL K H a (ns.map V.int) → sp [.ref a] H (fun v _ => v = .bl true) fun _ _ _ => False) ∧
        ∀ base : Heap, K.In base → base.Ns mainGlobals mg → FnOk l.prog w K mg base (L2.CX l.prog w) k fa fd [x] sp) :
    PySem.W.WalkO q loose XP YP l.row.toRowW d [] (fun f vs => PySem.call f vs) := by
  refine Att.attach_call hn hdf fun w s₀ s₁ mg mb fa o pm cd doc a vs ns G Y ho hd hcd hmg hobj hints hlen hg => ?_
  obtain ⟨K, fd, sp, KX, hb, hsp, hF⟩ := F w mg fa _ Y G.T.g hmg
  exact law_call KX G.T.g G.T.b G.T.builtins G.T.nolimit hg hobj hints (Nat.le_trans hlen hn2) hr hF hb (fun H hO hS => hsp H a ns hlen hO hS) fun H e s' z => by
    obtain ⟨_, _, _, _, _, _, _, _, _, _, _, _, z⟩ := z
    exact z
end WT
end

section
set_option Elab.async false
set_option linter.all false
set_option maxRecDepth 100000
set_option autoImplicit false
/-! M1: the evaluator as rewriting rules without open lambdas, loop rules. Own work. -/
namespace WT
open PySem
variable {α β : Type}
def callK (g : GE) (f : Nat) (ord : List Nat) (xs zs : List D) (st : Sto) : R D := match g.fns[f]? with
  | some fi => if xs.length + (permL ord zs).length = fi.ps.length then fi.sem (xs ++ permL ord zs) st else .bad
  | none => .bad
def kBin2 (op : Operator) (x : D) : D → Sto → R D := fun y st => .ofO st (binD op x y)
def kBin (g : GE) (op : Operator) (b : E) (env : Env) : D → Sto → R D := fun x st => (evE g b env st).bind (kBin2 op x)
def kNeg : D → Sto → R D := fun x st1 => match x with | .int i => .ok (.int (-i)) st1 | _ => .bad
def kNot : D → Sto → R D := fun x st1 => .ofO st1 ((truD st1 x).map fun b => D.bl (!b))
def kCmp2 (op : CmpOp) (x : D) : D → Sto → R D := fun y st => .ofO st ((cmpD op x y).map D.bl)
def kCmp (g : GE) (op : CmpOp) (b : E) (env : Env) : D → Sto → R D := fun x st => (evE g b env st).bind (kCmp2 op x)
def kCc (g : GE) (op' : CmpOp) (c : E) (env : Env) (y : D) (st : Sto) : Option Bool → R D
  | some true => (evE g c env st).bind (kCmp2 op' y)
  | some false => .ok (.bl false) st
  | none => .bad
def kCh2 (g : GE) (op op' : CmpOp) (c : E) (env : Env) (x : D) : D → Sto → R D := fun y st => kCc g op' c env y st (cmpD op x y)
def kCh (g : GE) (op op' : CmpOp) (b c : E) (env : Env) : D → Sto → R D := fun x st => (evE g b env st).bind (kCh2 g op op' c env x)
def kAnd' (g : GE) (b : E) (env : Env) (x : D) (st : Sto) : Option Bool → R D
  | some true => evE g b env st
  | some false => .ok x st
  | none => .bad
def kAnd (g : GE) (b : E) (env : Env) : D → Sto → R D := fun x st => kAnd' g b env x st (truD st x)
def kOr' (g : GE) (b : E) (env : Env) (x : D) (st : Sto) : Option Bool → R D
  | some true => .ok x st
  | some false => evE g b env st
  | none => .bad
def kOr (g : GE) (b : E) (env : Env) : D → Sto → R D := fun x st => kOr' g b env x st (truD st x)
def kIfe' (g : GE) (a b : E) (env : Env) (st : Sto) : Option Bool → R D
  | some true => evE g a env st
  | some false => evE g b env st
  | none => .bad
def kIfe (g : GE) (a b : E) (env : Env) : D → Sto → R D := fun x st => kIfe' g a b env st (truD st x)
def kTup : List D → Sto → R D := fun xs st => .ofO st (guardO (xs.length ≤ sizeLine) (.tup xs))
def kLst : List D → Sto → R D := fun xs st => .ofO st (guardO (xs.length ≤ sizeLine) (.lst xs))
def kIdx2 (x : D) : D → Sto → R D := fun y st => .ofO st (idxD st x y)
def kIdx (g : GE) (i : E) (env : Env) : D → Sto → R D := fun x st => (evE g i env st).bind (kIdx2 x)
def kSl3 (x : D) (l : Option Int) : Option Int → Sto → R D := fun u st => .ofO st (sliceD x l u)
def kSl2 (g : GE) (hi : Eo) (env : Env) (x : D) : Option Int → Sto → R D := fun l st => (evEo g hi env st).bind (kSl3 x l)
def kSl (g : GE) (lo hi : Eo) (env : Env) : D → Sto → R D := fun x st => (evEo g lo env st).bind (kSl2 g hi env x)
def kIsi (ts : List Ty) : D → Sto → R D := fun x st => .ofO st ((isiD x ts).map D.bl)
def kRg2 (l : Bool) (x : D) : D → Sto → R D := fun y st => .ofO st (rgD l x y)
def kRg (g : GE) (l : Bool) (b : E) (env : Env) : D → Sto → R D := fun x st => (evE g b env st).bind (kRg2 l x)
def kRev : D → Sto → R D := fun x st => .ofO st (revD x)
def kBi (f : Bi) : List D → Sto → R D := fun xs st => .ofO st (biD st f xs)
def kCall2 (g : GE) (f : Nat) (ord : List Nat) (xs : List D) : List D → Sto → R D := fun zs st => callK g f ord xs zs st
def kCall (g : GE) (f : Nat) (kes : Es) (ord : List Nat) (env : Env) : List D → Sto → R D := fun xs st => (evEs g kes env st).bind (kCall2 g f ord xs)
def kBox : D → Sto → R D := fun x st1 => match x with
    | .lst xs => if noLs xs then .ok (.ref st1.length) (st1 ++ [xs]) else .bad
    | _ => .bad
def kSome : D → Sto → R (Option D) := fun y st => .ok (some y) st
def kCi' (g : GE) (elt : E) (env : Env) (st : Sto) : Option Bool → R (Option D)
  | some true => (evE g elt env st).bind kSome
  | some false => .ok none st
  | none => .bad
def kCi (g : GE) (elt : E) (env : Env) : D → Sto → R (Option D) := fun c st => kCi' g elt env st (truD st c)
def kCb' (g : GE) (hasIf : Bool) (cond elt : E) (st : Sto) : Option Env → R (Option D)
  | some env => (if hasIf then (evE g cond env st).bind (kCi g elt env) else (evE g elt env st).bind kSome).nox
  | none => .bad
def kCb (g : GE) (tg : Tg) (hasIf : Bool) (cond elt : E) (env : Env) : D → Sto → R (Option D) := fun x st => kCb' g hasIf cond elt st (bindTg tg x env)
def kComp (g : GE) (tg : Tg) (hasIf : Bool) (cond elt : E) (env : Env) : List D → Sto → R D := fun xs st => (compLoop (kCb g tg hasIf cond elt env) xs st).bind kLst
def kIn (g : GE) (tg1 : Tg) (elt : E) (env : Env) : List D → Sto → R (List D) := fun ys st => compLoop (kCb g tg1 false .non elt env) ys st
def kC2' (g : GE) (tg1 : Tg) (it1 : It) (elt : E) (st : Sto) : Option Env → R (List D)
  | some env => ((evIt g it1 env st).bind (kIn g tg1 elt env)).nox
  | none => .bad
def kC2 (g : GE) (tg tg1 : Tg) (it1 : It) (elt : E) (env : Env) : D → Sto → R (List D) := fun x st => kC2' g tg1 it1 elt st (bindTg tg x (clrs env (tg.slots ++ tg1.slots)))
def kComp2 (g : GE) (tg tg1 : Tg) (it1 : It) (elt : E) (env : Env) : List D → Sto → R D := fun xs st => (compCat (kC2 g tg tg1 it1 elt env) xs st).bind kLst
def kDg3 (x y : D) : D → Sto → R D := fun z st => .ofO st (dgetoD x y z)
def kDg2 (g : GE) (e : E) (env : Env) (x : D) : D → Sto → R D := fun y st => (evE g e env st).bind (kDg3 x y)
def kDg (g : GE) (k e : E) (env : Env) : D → Sto → R D := fun x st => if isDK x then (evE g k env st).bind (kDg2 g e env x) else .bad
def kMi2 (x : D) : D → Sto → R D := fun y st => .ofO st (midxD x y)
def kMi (g : GE) (e : E) (env : Env) : D → Sto → R D := fun x st => if isLst x then (evE g e env st).bind (kMi2 x) else .bad
def kEs2 (x : D) : List D → Sto → R (List D) := fun xs st => .ok (x :: xs) st
def kEs (g : GE) (es : Es) (env : Env) : D → Sto → R (List D) := fun x st => (evEs g es env st).bind (kEs2 x)
def kEo : D → Sto → R (Option Int) := fun x st1 => match x with | .int i => .ok (some i) st1 | _ => .bad
def kSeq : D → Sto → R (List D) := fun x st => .ofO st (seqOf x)
def kR1 : D → Sto → R (List D) := fun x st1 => match x with | .int n => .ofO st1 (rangeD 0 n 1) | _ => .bad
def kR22 (x : D) : D → Sto → R (List D) := fun y st2 => match x, y with | .int m, .int n => .ofO st2 (rangeD m n 1) | _, _ => .bad
def kR2 (g : GE) (b : E) (env : Env) : D → Sto → R (List D) := fun x st => (evE g b env st).bind (kR22 x)
def kR33 (x y : D) : D → Sto → R (List D) := fun z st3 => match x, y, z with | .int m, .int n, .int c => .ofO st3 (rangeD m n c) | _, _, _ => .bad
def kR32 (g : GE) (c : E) (env : Env) (x : D) : D → Sto → R (List D) := fun y st => (evE g c env st).bind (kR33 x y)
def kR3 (g : GE) (b c : E) (env : Env) : D → Sto → R (List D) := fun x st => (evE g b env st).bind (kR32 g c env x)
def kEnum : D → Sto → R (List D) := fun x st1 => match x with | .lst xs => .ok (enumD xs) st1 | .tup xs => .ok (enumD xs) st1 | _ => .bad
def kZip2 (x : D) : D → Sto → R (List D) := fun y st2 => match x, y with
      | .lst xs, .lst ys => .ok (zipD xs ys) st2
      | .tup xs, .tup ys => .ok (zipD xs ys) st2
      | _, _ => .bad
def kZip (g : GE) (b : E) (env : Env) : D → Sto → R (List D) := fun x st => (evE g b env st).bind (kZip2 x)

section
variable (g : GE) (env : Env) (st : Sto)
@[simp] theorem evE_var (i : Nat) : evE g (.var i) env st = .ofO st (slot env i) := (rfl)
@[simp] theorem evE_int (i : Int) : evE g (.int i) env st = .ok (.int i) st := (rfl)
@[simp] theorem evE_bl (b : Bool) : evE g (.bl b) env st = .ok (.bl b) st := (rfl)
@[simp] theorem evE_non : evE g .non env st = .ok .non st := (rfl)
@[simp] theorem evE_str (x : Str) : evE g (.str x) env st = .ok (.str x) st := (rfl)
@[simp] theorem evE_glob (c : Nat) : evE g (.glob c) env st = .ofO st ((g.cons[c]?).map (·.2)) := (rfl)
@[simp] theorem evE_bin (op : Operator) (a b : E) : evE g (.bin op a b) env st = (evE g a env st).bind (kBin g op b env) := (rfl)
@[simp] theorem kBin_ap (op : Operator) (b : E) (x : D) : kBin g op b env x st = (evE g b env st).bind (kBin2 op x) := (rfl)
@[simp] theorem kBin2_ap (op : Operator) (x y : D) : kBin2 op x y st = .ofO st (binD op x y) := (rfl)
@[simp] theorem evE_neg (a : E) : evE g (.neg a) env st = (evE g a env st).bind kNeg := (rfl)
@[simp] theorem kNeg_ap (i : Int) : kNeg (.int i) st = .ok (.int (-i)) st := (rfl)
@[simp] theorem evE_not (a : E) : evE g (.not a) env st = (evE g a env st).bind kNot := (rfl)
@[simp] theorem kNot_ap (x : D) : kNot x st = .ofO st ((truD st x).map fun b => D.bl (!b)) := (rfl)
@[simp] theorem evE_cmp (op : CmpOp) (a b : E) : evE g (.cmp op a b) env st = (evE g a env st).bind (kCmp g op b env) := (rfl)
@[simp] theorem kCmp_ap (op : CmpOp) (b : E) (x : D) : kCmp g op b env x st = (evE g b env st).bind (kCmp2 op x) := (rfl)
@[simp] theorem kCmp2_ap (op : CmpOp) (x y : D) : kCmp2 op x y st = .ofO st ((cmpD op x y).map D.bl) := (rfl)
@[simp] theorem evE_cmp2 (op op' : CmpOp) (a b c : E) : evE g (.cmp2 op op' a b c) env st = (evE g a env st).bind (kCh g op op' b c env) := by
  rw [evE]
  refine congrArg _ ?_; funext x st1
  refine congrArg _ ?_; funext y st2
  show _ = kCc g op' c env y st2 (cmpD op x y)
  generalize cmpD op x y = t
  rcases t with _ | _ | _ <;> rfl
@[simp] theorem kCh_ap (op op' : CmpOp) (b c : E) (x : D) : kCh g op op' b c env x st = (evE g b env st).bind (kCh2 g op op' c env x) := (rfl)
@[simp] theorem kCh2_ap (op op' : CmpOp) (c : E) (x y : D) : kCh2 g op op' c env x y st = kCc g op' c env y st (cmpD op x y) := (rfl)
@[simp] theorem kCc_t (op' : CmpOp) (c : E) (y : D) : kCc g op' c env y st (some true) = (evE g c env st).bind (kCmp2 op' y) := (rfl)
@[simp] theorem kCc_f (op' : CmpOp) (c : E) (y : D) : kCc g op' c env y st (some false) = .ok (.bl false) st := (rfl)
@[simp] theorem evE_and (a b : E) : evE g (.and a b) env st = (evE g a env st).bind (kAnd g b env) := by
  rw [evE]
  refine congrArg _ ?_; funext x st1
  show _ = kAnd' g b env x st1 (truD st1 x)
  generalize truD st1 x = t
  rcases t with _ | _ | _ <;> rfl
@[simp] theorem kAnd_ap (b : E) (x : D) : kAnd g b env x st = kAnd' g b env x st (truD st x) := (rfl)
@[simp] theorem kAnd_t (b : E) (x : D) : kAnd' g b env x st (some true) = evE g b env st := (rfl)
@[simp] theorem kAnd_f (b : E) (x : D) : kAnd' g b env x st (some false) = .ok x st := (rfl)
@[simp] theorem evE_or (a b : E) : evE g (.or a b) env st = (evE g a env st).bind (kOr g b env) := by
  rw [evE]
  refine congrArg _ ?_; funext x st1
  show _ = kOr' g b env x st1 (truD st1 x)
  generalize truD st1 x = t
  rcases t with _ | _ | _ <;> rfl
@[simp] theorem kOr_ap (b : E) (x : D) : kOr g b env x st = kOr' g b env x st (truD st x) := (rfl)
@[simp] theorem kOr_t (b : E) (x : D) : kOr' g b env x st (some true) = .ok x st := (rfl)
@[simp] theorem kOr_f (b : E) (x : D) : kOr' g b env x st (some false) = evE g b env st := (rfl)
@[simp] theorem evE_ife (c a b : E) : evE g (.ife c a b) env st = (evE g c env st).bind (kIfe g a b env) := by
  rw [evE]
  refine congrArg _ ?_; funext x st1
  show _ = kIfe' g a b env st1 (truD st1 x)
  generalize truD st1 x = t
  rcases t with _ | _ | _ <;> rfl
@[simp] theorem kIfe_ap (a b : E) (x : D) : kIfe g a b env x st = kIfe' g a b env st (truD st x) := (rfl)
@[simp] theorem kIfe_t (a b : E) : kIfe' g a b env st (some true) = evE g a env st := (rfl)
@[simp] theorem kIfe_f (a b : E) : kIfe' g a b env st (some false) = evE g b env st := (rfl)
@[simp] theorem evE_tup (es : Es) : evE g (.tup es) env st = (evEs g es env st).bind kTup := (rfl)
@[simp] theorem kTup_ap (xs : List D) : kTup xs st = .ofO st (guardO (xs.length ≤ sizeLine) (.tup xs)) := (rfl)
@[simp] theorem evE_lst (es : Es) : evE g (.lst es) env st = (evEs g es env st).bind kLst := (rfl)
@[simp] theorem kLst_ap (xs : List D) : kLst xs st = .ofO st (guardO (xs.length ≤ sizeLine) (.lst xs)) := (rfl)
@[simp] theorem evE_idx (a i : E) : evE g (.idx a i) env st = (evE g a env st).bind (kIdx g i env) := (rfl)
@[simp] theorem kIdx_ap (i : E) (x : D) : kIdx g i env x st = (evE g i env st).bind (kIdx2 x) := (rfl)
@[simp] theorem kIdx2_ap (x y : D) : kIdx2 x y st = .ofO st (idxD st x y) := (rfl)
@[simp] theorem evE_slice (a : E) (lo hi : Eo) : evE g (.slice a lo hi) env st = (evE g a env st).bind (kSl g lo hi env) := (rfl)
@[simp] theorem kSl_ap (lo hi : Eo) (x : D) : kSl g lo hi env x st = (evEo g lo env st).bind (kSl2 g hi env x) := (rfl)
@[simp] theorem kSl2_ap (hi : Eo) (x : D) (l : Option Int) : kSl2 g hi env x l st = (evEo g hi env st).bind (kSl3 x l) := (rfl)
@[simp] theorem kSl3_ap (x : D) (l u : Option Int) : kSl3 x l u st = .ofO st (sliceD x l u) := (rfl)
@[simp] theorem evE_isi (a : E) (ts : List Ty) (t : Bool) : evE g (.isi a ts t) env st = (evE g a env st).bind (kIsi ts) := (rfl)
@[simp] theorem kIsi_ap (ts : List Ty) (x : D) : kIsi ts x st = .ofO st ((isiD x ts).map D.bl) := (rfl)
@[simp] theorem evE_rg1 (l : Bool) (b : E) : evE g (.rg1 l b) env st = (evE g b env st).bind (kRg2 l (.int 0)) := (rfl)
@[simp] theorem evE_rg2 (l : Bool) (a b : E) : evE g (.rg2 l a b) env st = (evE g a env st).bind (kRg g l b env) := (rfl)
@[simp] theorem kRg_ap (l : Bool) (b : E) (x : D) : kRg g l b env x st = (evE g b env st).bind (kRg2 l x) := (rfl)
@[simp] theorem kRg2_ap (l : Bool) (x y : D) : kRg2 l x y st = .ofO st (rgD l x y) := (rfl)
@[simp] theorem evE_rev (a : E) : evE g (.rev a) env st = (evE g a env st).bind kRev := (rfl)
@[simp] theorem kRev_ap (x : D) : kRev x st = .ofO st (revD x) := (rfl)
@[simp] theorem evE_bi (f : Bi) (es : Es) : evE g (.bi f es) env st = (evEs g es env st).bind (kBi f) := (rfl)
@[simp] theorem kBi_ap (f : Bi) (xs : List D) : kBi f xs st = .ofO st (biD st f xs) := (rfl)
@[simp] theorem evE_call (f : Nat) (es kes : Es) (ord : List Nat) : evE g (.call f es kes ord) env st = (evEs g es env st).bind (kCall g f kes ord env) := (rfl)
@[simp] theorem kCall_ap (f : Nat) (kes : Es) (ord : List Nat) (xs : List D) : kCall g f kes ord env xs st = (evEs g kes env st).bind (kCall2 g f ord xs) := (rfl)
@[simp] theorem kCall2_ap (f : Nat) (ord : List Nat) (xs zs : List D) : kCall2 g f ord xs zs st = callK g f ord xs zs st := (rfl)
@[simp] theorem evE_box (e : E) : evE g (.box e) env st = (evE g e env st).bind kBox := (rfl)
@[simp] theorem kBox_ap (xs : List D) : kBox (.lst xs) st = if noLs xs then .ok (.ref st.length) (st ++ [xs]) else .bad := (rfl)
@[simp] theorem kSome_ap (x : D) : kSome x st = .ok (some x) st := (rfl)
theorem kCb_eq (tg : Tg) (hasIf : Bool) (cond elt : E) : (fun (x : D) (st2 : Sto) => match bindTg tg x env with
        | some env' => (if hasIf then (evE g cond env' st2).bind fun c st3 => match truD st3 c with
            | some true => (evE g elt env' st3).bind fun y st4 => .ok (some y) st4
            | some false => .ok none st3
            | none => .bad
          else (evE g elt env' st2).bind fun y st3 => .ok (some y) st3).nox
        | none => .bad) = kCb g tg hasIf cond elt env := by
  funext x st2
  show _ = kCb' g hasIf cond elt st2 (bindTg tg x env)
  generalize bindTg tg x env = t
  rcases t with _ | env'
  · rfl
  · show R.nox _ = R.nox _
    refine congrArg _ ?_
    cases hasIf
    · rfl
    · show R.bind _ _ = R.bind _ _
      refine congrArg _ ?_; funext c st3
      show _ = kCi' g elt env' st3 (truD st3 c)
      generalize truD st3 c = t
      rcases t with _ | _ | _ <;> rfl
@[simp] theorem evE_comp (tg : Tg) (it : It) (hasIf : Bool) (cond elt : E) : evE g (.comp tg it hasIf cond elt) env st = (evIt g it env st).bind (kComp g tg hasIf cond elt env) := by
  rw [evE]
  refine congrArg _ ?_; funext xs st1
  exact congrArg (fun f => R.bind (compLoop f xs st1) kLst) (kCb_eq g env tg hasIf cond elt)
@[simp] theorem evE_comp2 (tg tg1 : Tg) (it it1 : It) (elt : E) : evE g (.comp2 tg it tg1 it1 elt) env st = (evIt g it env st).bind (kComp2 g tg tg1 it1 elt env) := by
  rw [evE]
  refine congrArg _ ?_; funext xs st1
  refine congrArg (fun f => R.bind (compCat f xs st1) kLst) ?_
  funext x st2
  show _ = kC2' g tg1 it1 elt st2 (bindTg tg x (clrs env (tg.slots ++ tg1.slots)))
  generalize bindTg tg x (clrs env (tg.slots ++ tg1.slots)) = t
  rcases t with _ | env'
  · rfl
  · show R.nox _ = R.nox _
    refine congrArg _ ?_
    show R.bind _ _ = R.bind _ _
    refine congrArg _ ?_; funext ys st3
    exact congrArg (fun f => compLoop f ys st3) (kCb_eq g env' tg1 false .non elt)
@[simp] theorem kComp2_ap (tg tg1 : Tg) (it1 : It) (elt : E) (xs : List D) : kComp2 g tg tg1 it1 elt env xs st = (compCat (kC2 g tg tg1 it1 elt env) xs st).bind kLst := (rfl)
@[simp] theorem kComp_ap (tg : Tg) (hasIf : Bool) (cond elt : E) (xs : List D) : kComp g tg hasIf cond elt env xs st = (compLoop (kCb g tg hasIf cond elt env) xs st).bind kLst := (rfl)
@[simp] theorem kCb_ap (tg : Tg) (hasIf : Bool) (cond elt : E) (x : D) : kCb g tg hasIf cond elt env x st = kCb' g hasIf cond elt st (bindTg tg x env) := (rfl)
@[simp] theorem kCb_t (cond elt : E) : kCb' g true cond elt st (some env) = ((evE g cond env st).bind (kCi g elt env)).nox := (rfl)
@[simp] theorem kCb_f (cond elt : E) : kCb' g false cond elt st (some env) = ((evE g elt env st).bind kSome).nox := (rfl)
@[simp] theorem kCi_ap (elt : E) (c : D) : kCi g elt env c st = kCi' g elt env st (truD st c) := (rfl)
@[simp] theorem kCi_t (elt : E) : kCi' g elt env st (some true) = (evE g elt env st).bind kSome := (rfl)
@[simp] theorem kCi_f (elt : E) : kCi' g elt env st (some false) = .ok none st := (rfl)
@[simp] theorem evE_dnew : evE g (.dnew false) env st = .ok (.dK [] []) st := (rfl)
@[simp] theorem evE_dnewT : evE g (.dnew true) env st = .ok (.dT [] []) st := (rfl)
@[simp] theorem evE_dgeto (d k e : E) : evE g (.dgeto d k e) env st = (evE g d env st).bind (kDg g k e env) := (rfl)
@[simp] theorem kDg_ap (k e : E) (ks : List L2.Key) (vs : List D) : kDg g k e env (.dK ks vs) st = (evE g k env st).bind (kDg2 g e env (.dK ks vs)) := (rfl)
@[simp] theorem kDg2_ap (e : E) (x y : D) : kDg2 g e env x y st = (evE g e env st).bind (kDg3 x y) := (rfl)
@[simp] theorem kDg3_ap (x y z : D) : kDg3 x y z st = .ofO st (dgetoD x y z) := (rfl)
@[simp] theorem evE_midx (l e : E) : evE g (.midx l e) env st = (evE g l env st).bind (kMi g e env) := (rfl)
@[simp] theorem kMi_ap (e : E) (xs : List D) : kMi g e env (.lst xs) st = (evE g e env st).bind (kMi2 (.lst xs)) := (rfl)
@[simp] theorem kMi2_ap (x y : D) : kMi2 x y st = .ofO st (midxD x y) := (rfl)
@[simp] theorem evEs_nil : evEs g .nil env st = .ok [] st := (rfl)
@[simp] theorem evEs_cons (e : E) (es : Es) : evEs g (.cons e es) env st = (evE g e env st).bind (kEs g es env) := (rfl)
@[simp] theorem kEs_ap (es : Es) (x : D) : kEs g es env x st = (evEs g es env st).bind (kEs2 x) := (rfl)
@[simp] theorem kEs2_ap (x : D) (xs : List D) : kEs2 x xs st = .ok (x :: xs) st := (rfl)
@[simp] theorem evEo_no : evEo g .no env st = .ok none st := (rfl)
@[simp] theorem evEo_yes (e : E) : evEo g (.yes e) env st = (evE g e env st).bind kEo := (rfl)
@[simp] theorem kEo_ap (i : Int) : kEo (.int i) st = .ok (some i) st := (rfl)
@[simp] theorem evIt_seq (e : E) : evIt g (.seq e) env st = (evE g e env st).bind kSeq := (rfl)
@[simp] theorem kSeq_ap (x : D) : kSeq x st = .ofO st (seqOf x) := (rfl)
@[simp] theorem evIt_r1 (a : E) : evIt g (.range1 a) env st = (evE g a env st).bind kR1 := (rfl)
@[simp] theorem kR1_ap (n : Int) : kR1 (.int n) st = .ofO st (rangeD 0 n 1) := (rfl)
@[simp] theorem evIt_r2 (a b : E) : evIt g (.range2 a b) env st = (evE g a env st).bind (kR2 g b env) := (rfl)
@[simp] theorem kR2_ap (b : E) (x : D) : kR2 g b env x st = (evE g b env st).bind (kR22 x) := (rfl)
@[simp] theorem kR22_ap (m n : Int) : kR22 (.int m) (.int n) st = .ofO st (rangeD m n 1) := (rfl)
@[simp] theorem evIt_r3 (a b c : E) : evIt g (.range3 a b c) env st = (evE g a env st).bind (kR3 g b c env) := (rfl)
@[simp] theorem kR3_ap (b c : E) (x : D) : kR3 g b c env x st = (evE g b env st).bind (kR32 g c env x) := (rfl)
@[simp] theorem kR32_ap (c : E) (x y : D) : kR32 g c env x y st = (evE g c env st).bind (kR33 x y) := (rfl)
@[simp] theorem kR33_ap (m n c : Int) : kR33 (.int m) (.int n) (.int c) st = .ofO st (rangeD m n c) := (rfl)
@[simp] theorem evIt_enum (a : E) : evIt g (.enum a) env st = (evE g a env st).bind kEnum := (rfl)
@[simp] theorem kEnum_ap (xs : List D) : kEnum (.lst xs) st = .ok (enumD xs) st := (rfl)
@[simp] theorem kEnum_apT (xs : List D) : kEnum (.tup xs) st = .ok (enumD xs) st := (rfl)
@[simp] theorem evIt_zip (a b : E) : evIt g (.zip a b) env st = (evE g a env st).bind (kZip g b env) := (rfl)
@[simp] theorem kZip_ap (b : E) (x : D) : kZip g b env x st = (evE g b env st).bind (kZip2 x) := (rfl)
@[simp] theorem kZip2_l (xs ys : List D) : kZip2 (.lst xs) (.lst ys) st = .ok (zipD xs ys) st := (rfl)
@[simp] theorem kZip2_t (xs ys : List D) : kZip2 (.tup xs) (.tup ys) st = .ok (zipD xs ys) st := (rfl)
end

/-! ### statements -/
def RS.seq (r : RS) (k : Env → Sto → RS) : RS := match r with
  | .nx env st => k env st
  | r => r
@[simp] theorem RS.seq_nx (env : Env) (st : Sto) (k : Env → Sto → RS) : (RS.nx env st).seq k = k env st := (rfl)
@[simp] theorem RS.seq_rt (d : D) (st : Sto) (k : Env → Sto → RS) : (RS.rt d st).seq k = .rt d st := (rfl)
@[simp] theorem RS.seq_bk (env : Env) (st : Sto) (k : Env → Sto → RS) : (RS.bk env st).seq k = .bk env st := (rfl)
@[simp] theorem RS.seq_ct (env : Env) (st : Sto) (k : Env → Sto → RS) : (RS.ct env st).seq k = .ct env st := (rfl)
@[simp] theorem RS.seq_exn (c : Str) (d : D) (env : Env) (st : Sto) (k : Env → Sto → RS) : (RS.exn c d env st).seq k = .exn c d env st := (rfl)
@[simp] theorem RS.fin_nx (env : Env) (st : Sto) : (RS.nx env st).fin = .ok .non st := (rfl)
@[simp] theorem RS.fin_rt (d : D) (st : Sto) : (RS.rt d st).fin = .ok d st := (rfl)
def kRet : D → Sto → RS := fun d st => .rt d st
def kSet (i : Nat) (k : Ak) (env : Env) : D → Sto → RS := fun d st1 => if akOk k d then .nx (env.set i (some d)) st1 else .bad
def kOpE (st : Sto) : Option Env → RS
  | some env => .nx env st
  | none => .bad
def kSetT (tg : Tg) (env : Env) : D → Sto → RS := fun d st1 => kOpE st1 (bindTg tg d env)
def kPar2 (i j : Nat) (kj : Ak) (env : Env) (x : D) : D → Sto → RS := fun y st2 => if akOk kj y then .nx ((env.set i (some x)).set j (some y)) st2 else .bad
def kPar (g : GE) (i j : Nat) (ki kj : Ak) (b : E) (env : Env) : D → Sto → RS := fun x st1 => if akOk ki x then (evE g b env st1).toS env (kPar2 i j kj env x) else .bad
def kP33 (i j l : Nat) (kl : Ak) (env : Env) (x y : D) : D → Sto → RS := fun z st3 => if akOk kl z then .nx (((env.set i (some x)).set j (some y)).set l (some z)) st3 else .bad
def kP32 (g : GE) (i j l : Nat) (kj kl : Ak) (c : E) (env : Env) (x : D) : D → Sto → RS := fun y st2 => if akOk kj y then (evE g c env st2).toS env (kP33 i j l kl env x y) else .bad
def kP3 (g : GE) (i j l : Nat) (ki kj kl : Ak) (b c : E) (env : Env) : D → Sto → RS := fun x st1 => if akOk ki x then (evE g b env st1).toS env (kP32 g i j l kj kl c env x) else .bad
def kMove (i j : Nat) (env : Env) (st : Sto) : Option D → RS
  | some d => .nx ((env.set i (some d)).set j none) st
  | none => .bad
def kAug3 (i : Nat) (env : Env) (st1 : Sto) : D → D → Option D → RS := fun x y z => match x, y, z with
      | .int _, .int _, some z => .nx (env.set i (some z)) st1
      | _, _, _ => .bad
def kAug2 (i : Nat) (op : Operator) (env : Env) (x : D) : D → Sto → RS := fun y st1 => kAug3 i env st1 x y (binD op x y)
def kAug (g : GE) (i : Nat) (op : Operator) (e : E) (env : Env) (st : Sto) : Option D → RS
  | some x => (evE g e env st).toS env (kAug2 i op env x)
  | none => .bad
def kSx2 (i : Nat) (o nl : Bool) (env : Env) (d : D) : D → Sto → RS := fun k st2 => if nl && !noL d then .bad else chg i o (noL d) env st2 fun xs => setIxL xs k d
def kSx (g : GE) (i : Nat) (o nl : Bool) (ix : E) (env : Env) : D → Sto → RS := fun d st1 => (evE g ix env st1).toS env (kSx2 i o nl env d)
def kAx4 (i : Nat) (o : Bool) (k : D) (env : Env) (st2 : Sto) : D → D → Option D → RS := fun x y z => match x, y, z with
      | .int _, .int _, some z => chg i o true env st2 fun xs => setIxL xs k z
      | _, _, _ => .bad
def kAx3 (i : Nat) (o : Bool) (op : Operator) (k : D) (env : Env) (x : D) : D → Sto → RS := fun y st2 => kAx4 i o k env st2 x y (binD op x y)
def kAx2 (g : GE) (i : Nat) (o : Bool) (op : Operator) (e : E) (env : Env) (k : D) (st1 : Sto) : Option D → RS
  | some x => (evE g e env st1).toS env (kAx3 i o op k env x)
  | none => .bad
def kAx (g : GE) (i : Nat) (o : Bool) (op : Operator) (e : E) (env : Env) : D → Sto → RS := fun k st1 => kAx2 g i o op e env k st1 ((slot env i).bind fun d => idxD st1 d k)
def kApp (i : Nat) (o nl : Bool) (env : Env) : D → Sto → RS := fun d st1 => if nl && !noL d then .bad else chg i o (noL d) env st1 fun xs => guardO (xs.length < sizeLine) (xs ++ [d])
noncomputable def kIte (g : GE) (a b : Ss) (env : Env) : Bool → Sto → RS := fun k st1 => match k with
    | true => evSs g a env st1
    | false => evSs g b env st1
def kMth (i : Nat) (o : Bool) (f : Mth) (env : Env) : List D → Sto → RS := fun ds st1 => chg i o true env st1 fun xs => mthD f xs ds
def kDp3 (i : Nat) (env : Env) (st : Sto) : Option D → RS
  | some d => .nx (env.set i (some d)) st
  | none => .bad
def kDp2 (i : Nat) (env : Env) (v : D) : D → Sto → RS := fun y st => kDp3 i env st ((slot env i).bind fun d => dputD d y v)
def kDp (g : GE) (i : Nat) (k : E) (env : Env) : D → Sto → RS := fun v st => (evE g k env st).toS env (kDp2 i env v)
def kTru : D → Sto → R Bool := fun x st1 => .ofO st1 (truD st1 x)
noncomputable def kFor (g : GE) (tg : Tg) (body : Ss) (env : Env) : List D → Sto → RS := fun xs st1 => forD tg (evSs g body) xs env st1
def kDrop (env : Env) : D → Sto → RS := fun _ st1 => .nx env st1
def kRaise (c : Str) (env : Env) : D → Sto → RS := fun d st1 => .exn c d env st1
section
variable (g : GE) (env : Env) (st : Sto)
@[simp] theorem evS_ret (e : E) : evS g (.ret e) env st = (evE g e env st).toS env kRet := (rfl)
@[simp] theorem kRet_ap (d : D) : kRet d st = .rt d st := (rfl)
@[simp] theorem evS_retN : evS g .retN env st = .rt .non st := (rfl)
@[simp] theorem evS_set (i : Nat) (k : Ak) (e : E) : evS g (.set i k e) env st = (evE g e env st).toS env (kSet i k env) := (rfl)
@[simp] theorem kSet_ap (i : Nat) (k : Ak) (d : D) : kSet i k env d st = if akOk k d then .nx (env.set i (some d)) st else .bad := (rfl)
@[simp] theorem evS_setT (tg : Tg) (e : E) : evS g (.setT tg e) env st = (evE g e env st).toS env (kSetT tg env) := by
  rw [evS]
  refine congrArg _ ?_; funext d st1
  show _ = kOpE st1 (bindTg tg d env)
  generalize bindTg tg d env = t
  rcases t with _ | _ <;> rfl
@[simp] theorem kSetT_ap (tg : Tg) (d : D) : kSetT tg env d st = kOpE st (bindTg tg d env) := (rfl)
@[simp] theorem kOpE_ap : kOpE st (some env) = .nx env st := (rfl)
@[simp] theorem evS_par (i j : Nat) (ki kj : Ak) (a b : E) : evS g (.par i j ki kj a b) env st = (evE g a env st).toS env (kPar g i j ki kj b env) := (rfl)
@[simp] theorem kPar_ap (i j : Nat) (ki kj : Ak) (b : E) (x : D) : kPar g i j ki kj b env x st = if akOk ki x then (evE g b env st).toS env (kPar2 i j kj env x) else .bad := (rfl)
@[simp] theorem kPar2_ap (i j : Nat) (kj : Ak) (x y : D) : kPar2 i j kj env x y st = if akOk kj y then .nx ((env.set i (some x)).set j (some y)) st else .bad := (rfl)
@[simp] theorem evS_par3 (i j l : Nat) (ki kj kl : Ak) (a b c : E) : evS g (.par3 i j l ki kj kl a b c) env st = (evE g a env st).toS env (kP3 g i j l ki kj kl b c env) := (rfl)
@[simp] theorem kP3_ap (i j l : Nat) (ki kj kl : Ak) (b c : E) (x : D) : kP3 g i j l ki kj kl b c env x st = if akOk ki x then (evE g b env st).toS env (kP32 g i j l kj kl c env x) else .bad := (rfl)
@[simp] theorem kP32_ap (i j l : Nat) (kj kl : Ak) (c : E) (x y : D) : kP32 g i j l kj kl c env x y st = if akOk kj y then (evE g c env st).toS env (kP33 i j l kl env x y) else .bad := (rfl)
@[simp] theorem kP33_ap (i j l : Nat) (kl : Ak) (x y z : D) : kP33 i j l kl env x y z st = if akOk kl z then .nx (((env.set i (some x)).set j (some y)).set l (some z)) st else .bad := (rfl)
@[simp] theorem evS_move (i j : Nat) : evS g (.move i j) env st = kMove i j env st (slot env j) := by
  rw [evS]
  generalize slot env j = t
  rcases t with _ | _ <;> rfl
@[simp] theorem kMove_ap (i j : Nat) (d : D) : kMove i j env st (some d) = .nx ((env.set i (some d)).set j none) st := (rfl)
@[simp] theorem evS_aug (i : Nat) (op : Operator) (e : E) : evS g (.aug i op e) env st = kAug g i op e env st (slot env i) := by
  rw [evS]
  generalize slot env i = t
  rcases t with _ | _ <;> rfl
@[simp] theorem kAug_ap (i : Nat) (op : Operator) (e : E) (x : D) : kAug g i op e env st (some x) = (evE g e env st).toS env (kAug2 i op env x) := (rfl)
@[simp] theorem kAug2_ap (i : Nat) (op : Operator) (x y : D) : kAug2 i op env x y st = kAug3 i env st x y (binD op x y) := (rfl)
@[simp] theorem kAug3_ap (i : Nat) (a b : Int) (z : D) : kAug3 i env st (.int a) (.int b) (some z) = .nx (env.set i (some z)) st := (rfl)
@[simp] theorem evS_setIx (i : Nat) (o nl : Bool) (ix e : E) : evS g (.setIx i o nl ix e) env st = if (slot env i).isNone then .bad else (evE g e env st).toS env (kSx g i o nl ix env) := (rfl)
@[simp] theorem kSx_ap (i : Nat) (o nl : Bool) (ix : E) (d : D) : kSx g i o nl ix env d st = (evE g ix env st).toS env (kSx2 i o nl env d) := (rfl)
@[simp] theorem kSx2_ap (i : Nat) (o nl : Bool) (d k : D) : kSx2 i o nl env d k st = if nl && !noL d then .bad else chg i o (noL d) env st fun xs => setIxL xs k d := (rfl)
@[simp] theorem evS_augIx (i : Nat) (o : Bool) (op : Operator) (ix e : E) : evS g (.augIx i o op ix e) env st = if !isLs env st i then .bad else (evE g ix env st).toS env (kAx g i o op e env) := by
  rw [evS]
  refine congrArg _ ?_
  refine congrArg _ ?_; funext k st1
  show _ = kAx2 g i o op e env k st1 ((slot env i).bind fun d => idxD st1 d k)
  generalize (slot env i).bind (fun d => idxD st1 d k) = t
  rcases t with _ | _ <;> rfl
@[simp] theorem kAx_ap (i : Nat) (o : Bool) (op : Operator) (e : E) (k : D) : kAx g i o op e env k st = kAx2 g i o op e env k st ((slot env i).bind fun d => idxD st d k) := (rfl)
@[simp] theorem kAx2_ap (i : Nat) (o : Bool) (op : Operator) (e : E) (k x : D) : kAx2 g i o op e env k st (some x) = (evE g e env st).toS env (kAx3 i o op k env x) := (rfl)
@[simp] theorem kAx3_ap (i : Nat) (o : Bool) (op : Operator) (k x y : D) : kAx3 i o op k env x y st = kAx4 i o k env st x y (binD op x y) := (rfl)
@[simp] theorem kAx4_ap (i : Nat) (o : Bool) (k : D) (a b : Int) (z : D) : kAx4 i o k env st (.int a) (.int b) (some z) = chg i o true env st fun xs => setIxL xs k z := (rfl)
@[simp] theorem evS_app (i : Nat) (o nl : Bool) (e : E) : evS g (.app i o nl e) env st = if !isLs env st i then .bad else (evE g e env st).toS env (kApp i o nl env) := (rfl)
@[simp] theorem kApp_ap (i : Nat) (o nl : Bool) (d : D) : kApp i o nl env d st = if nl && !noL d then .bad else chg i o (noL d) env st fun xs => guardO (xs.length < sizeLine) (xs ++ [d]) := (rfl)
@[simp] theorem evS_mth (i : Nat) (o : Bool) (f : Mth) (es : Es) : evS g (.mth i o f es) env st = if !isLs env st i then .bad else (evEs g es env st).toS env (kMth i o f env) := (rfl)
@[simp] theorem kMth_ap (i : Nat) (o : Bool) (f : Mth) (ds : List D) : kMth i o f env ds st = chg i o true env st fun xs => mthD f xs ds := (rfl)
@[simp] theorem evS_dput (i : Nat) (k e : E) : evS g (.dput i k e) env st = if (slot env i).isNone then .bad else (evE g e env st).toS env (kDp g i k env) := by
  rw [evS]
  refine congrArg _ ?_
  refine congrArg _ ?_; funext v st1
  refine congrArg _ ?_; funext y st2
  show _ = kDp3 i env st2 ((slot env i).bind fun d => dputD d y v)
  generalize (slot env i).bind (fun d => dputD d y v) = t
  rcases t with _ | _ <;> rfl
@[simp] theorem kDp_ap (i : Nat) (k : E) (v : D) : kDp g i k env v st = (evE g k env st).toS env (kDp2 i env v) := (rfl)
@[simp] theorem kDp2_ap (i : Nat) (v y : D) : kDp2 i env v y st = kDp3 i env st ((slot env i).bind fun d => dputD d y v) := (rfl)
@[simp] theorem kDp3_ap (i : Nat) (d : D) : kDp3 i env st (some d) = .nx (env.set i (some d)) st := (rfl)
theorem evC_eq (c : E) : evC g c env st = (evE g c env st).bind kTru := rfl
@[simp] theorem kTru_ap (x : D) : kTru x st = .ofO st (truD st x) := (rfl)
@[simp] theorem evS_ite (c : E) (a b : Ss) : evS g (.ite c a b) env st = ((evE g c env st).bind kTru).toS env (kIte g a b env) := (rfl)
@[simp] theorem kIte_t (a b : Ss) : kIte g a b env true st = evSs g a env st := (rfl)
@[simp] theorem kIte_f (a b : Ss) : kIte g a b env false st = evSs g b env st := (rfl)
@[simp] theorem evS_whl (c : E) (body : Ss) : evS g (.whl c body) env st = whD (evC g c) (evSs g body) env st := (rfl)
@[simp] theorem evS_for (tg : Tg) (it : It) (body : Ss) : evS g (.for_ tg it body) env st = (evIt g it env st).toS env (kFor g tg body env) := (rfl)
@[simp] theorem kFor_ap (tg : Tg) (body : Ss) (xs : List D) : kFor g tg body env xs st = forD tg (evSs g body) xs env st := (rfl)
@[simp] theorem evS_brk : evS g .brk env st = .bk env st := (rfl)
@[simp] theorem evS_cont : evS g .cont env st = .ct env st := (rfl)
@[simp] theorem evS_pass : evS g .pass env st = .nx env st := (rfl)
@[simp] theorem evS_drop (e : E) : evS g (.drop e) env st = (evE g e env st).toS env (kDrop env) := (rfl)
@[simp] theorem kDrop_ap (d : D) : kDrop env d st = .nx env st := (rfl)
@[simp] theorem evS_kill (i : Nat) : evS g (.kill i) env st = .nx (env.set i none) st := (rfl)
@[simp] theorem evS_raise (c : Str) (e : E) : evS g (.raise_ c e) env st = (evE g e env st).toS env (kRaise c env) := (rfl)
@[simp] theorem evSs_nil : evSs g .nil env st = .nx env st := (rfl)
@[simp] theorem evSs_cons (s : S) (ss : Ss) : evSs g (.cons s ss) env st = (evS g s env st).seq (evSs g ss) := by
  rw [evSs]
  generalize evS g s env st = t
  cases t <;> rfl
end

/-! ### small facts for the rewriting -/
@[simp] theorem slot_zero (x : Option D) (env : Env) : slot (x :: env) 0 = x := (rfl)
@[simp] theorem slot_succ (x : Option D) (env : Env) (n : Nat) : slot (x :: env) (n + 1) = slot env n := (rfl)
@[simp] theorem guardO_true {p : Prop} [Decidable p] {x : α} (h : p) : guardO p x = some x := if_pos h
@[simp] theorem akOk_own (d : D) : akOk .own d = true := (rfl)
@[simp] theorem akOk_pln (d : D) : akOk .pln d = true := (rfl)
@[simp] theorem akOk_nl (d : D) : akOk .nl d = noL d := (rfl)
@[simp] theorem akOk_n1 (d : D) : akOk .n1 d = noI d := (rfl)
@[simp] theorem noI_lst (xs : List D) : noI (.lst xs) = noLs xs := (rfl)
@[simp] theorem permL_nil {zs : List α} : permL [] zs = [] := (rfl)
@[simp] theorem bindTg_name (i : Nat) (d : D) (env : Env) : bindTg (.name i) d env = some (env.set i (some d)) := (rfl)
@[simp] theorem bindTg_tup (ts : Tgs) (ds : List D) (env : Env) : bindTg (.tup ts) (.tup ds) env = bindTgs ts ds env := (rfl)
@[simp] theorem bindTgs_nil (env : Env) : bindTgs .nil [] env = some env := (rfl)
@[simp] theorem bindTgs_cons (t : Tg) (ts : Tgs) (d : D) (ds : List D) (env : Env) : bindTgs (.cons t ts) (d :: ds) env = (bindTg t d env).bind fun env' => bindTgs ts ds env' := (rfl)

/-! ### rules of loops -/
inductive stepOK (I : Env → Sto → Prop) (P : RS → Prop) : RS → Prop where
  | nx (e : Env) (s : Sto) : I e s → stepOK I P (.nx e s)
  | ct (e : Env) (s : Sto) : I e s → stepOK I P (.ct e s)
  | bk (e : Env) (s : Sto) : P (.nx e s) → stepOK I P (.bk e s)
  | rt (d : D) (s : Sto) : P (.rt d s) → stepOK I P (.rt d s)
  | exn (c : Str) (d : D) (e : Env) (s : Sto) : P (.exn c d e s) → stepOK I P (.exn c d e s)
@[simp] theorem stepOK_nx (I : Env → Sto → Prop) (P : RS → Prop) (e : Env) (s : Sto) : stepOK I P (.nx e s) = I e s := propext ⟨fun h => by cases h; assumption, .nx e s⟩
@[simp] theorem stepOK_ct (I : Env → Sto → Prop) (P : RS → Prop) (e : Env) (s : Sto) : stepOK I P (.ct e s) = I e s := propext ⟨fun h => by cases h; assumption, .ct e s⟩
@[simp] theorem stepOK_bk (I : Env → Sto → Prop) (P : RS → Prop) (e : Env) (s : Sto) : stepOK I P (.bk e s) = P (.nx e s) := propext ⟨fun h => by cases h; assumption, .bk e s⟩
@[simp] theorem stepOK_rt (I : Env → Sto → Prop) (P : RS → Prop) (d : D) (s : Sto) : stepOK I P (.rt d s) = P (.rt d s) := propext ⟨fun h => by cases h; assumption, .rt d s⟩
@[simp] theorem stepOK_exn (I : Env → Sto → Prop) (P : RS → Prop) (c : Str) (d : D) (e : Env) (s : Sto) : stepOK I P (.exn c d e s) = P (.exn c d e s) := propext ⟨fun h => by cases h; assumption, .exn c d e s⟩
theorem forD_rule {tg : Tg} {b : Env → Sto → RS} {xs : List D} {env : Env} {st : Sto} (I : List D → Env → Sto → Prop) {P : RS → Prop} (h0 : I [] env st)
    (hs : ∀ pre x post env st, xs = pre ++ x :: post → I pre env st → ∃ env1, bindTg tg x env = some env1 ∧ stepOK (I (pre ++ [x])) P (b env1 st))
    (he : ∀ env st, I xs env st → P (.nx env st)) : P (forD tg b xs env st) := by
  have key : ∀ (post pre : List D) (env : Env) (st : Sto), xs = pre ++ post → I pre env st → P (forD tg b post env st) := by
    intro post
    induction post with
    | nil => intro pre env st e i; rw [List.append_nil] at e; subst e; exact he _ _ i
    | cons x post ih =>
      intro pre env st e i
      obtain ⟨env1, h1, h2⟩ := hs pre x post env st e i
      have e' : xs = (pre ++ [x]) ++ post := by rw [e]; simp
      have u : forD tg b (x :: post) env st = match b env1 st with
        | .nx env' st' => forD tg b post env' st'
        | .ct env' st' => forD tg b post env' st'
        | .bk env' st' => .nx env' st'
        | r => r := by rw [forD, h1] <;> rfl
      rw [u]
      generalize b env1 st = r at h2
      cases h2 with
      | nx e s h2 => exact ih _ _ _ e' h2
      | ct e s h2 => exact ih _ _ _ e' h2
      | bk e s h2 => exact h2
      | rt d s h2 => exact h2
      | exn c d e s h2 => exact h2
  exact key xs [] env st rfl h0
theorem whD_rule {c : Env → Sto → R Bool} {b : Env → Sto → RS} {env : Env} {st : Sto} (I : Nat → Env → Sto → Prop) {P : RS → Prop} (n : Nat) (h0 : I n env st)
    (hs : ∀ n env st, I n env st → ∃ k st1, c env st = .ok k st1 ∧ (k = false → P (.nx env st1)) ∧ (k = true → stepOK (fun e s => ∃ m, m < n ∧ I m e s) P (b env st1))) : P (whD c b env st) := by
  induction n using Nat.strongRecOn generalizing env st with
  | ind n ih =>
    obtain ⟨k, st1, h1, h2, h3⟩ := hs n env st h0
    rw [whD_eq, h1]
    cases k with
    | false => exact h2 rfl
    | true =>
      have h3 := h3 rfl
      simp only [R.toS_ok]
      generalize b env st1 = r at h3
      cases h3 with
      | nx e s h3 => obtain ⟨m, hm, i⟩ := h3; exact ih m hm i
      | ct e s h3 => obtain ⟨m, hm, i⟩ := h3; exact ih m hm i
      | bk e s h3 => exact h3
      | rt d s h3 => exact h3
      | exn c d e s h3 => exact h3
theorem compLoop_map {f : D → Sto → R (Option D)} (h : D → Option D) {st : Sto} : ∀ {xs : List D}, (∀ x ∈ xs, f x st = .ok (h x) st) → compLoop f xs st = .ok (xs.filterMap h) st
  | [], _ => rfl
  | x :: xs, hx => by
    unfold compLoop
    rw [hx x (by simp), R.bind_ok, compLoop_map h fun y hy => hx y (by simp [hy]), R.bind_ok]
    cases e : h x <;> simp [e]
end WT
end

section
set_option Elab.async false
set_option linter.all false
set_option maxRecDepth 100000
set_option autoImplicit false
/-! written by wip/gen.py for k18_whole_least_means: terms and what they mean. -/
namespace Lk18
open PySem WT
def consL : List (Str × D) := [(("ZERO" : Str), (.tup [(.int 0), (.int 1)])), (("ONE" : Str), (.tup [(.int 1), (.int 1)]))]
/-- _law_deck -/
def N_law_deck : List Str := [("script" : Str), ("k" : Str), ("cell" : Str), ("mixed" : Str)]
def b_law_deck : Ss := (.cons (.set 2 .pln (.ife (.cmp .Lt (.var 1) (.bi .len (.cons (.var 0) .nil))) (.idx (.var 0) (.var 1)) (.bin .Add (.bin .Mult (.int 1009) (.var 1)) (.int 977)))) (.cons (.set 3 .pln (.bin .Add (.bin .Add (.bin .Mod (.bi .int (.cons (.var 2) .nil)) (.bin .Pow (.int 10) (.int 40))) (.bin .Mult (.int 65537) (.var 1))) (.int 11))) (.cons (.ret (.lst (.cons (.ife (.cmp .GtE (.var 2) (.bin .Pow (.int 10) (.int 18))) (.bin .Sub (.var 2) (.bin .Pow (.int 10) (.int 18))) (.int 0)) (.cons (.var 3) (.cons (.int 0) .nil))))) .nil)))
/-- _law_take -/
def N_law_take : List Str := [("deck" : Str), ("many" : Str), ("number" : Str), ("found" : Str)]
def b_law_take : Ss := (.cons (.ite (.cmp .Gt (.idx (.var 0) (.int 0)) (.int 0)) (.cons (.set 3 .pln (.bin .Mod (.bi .int (.cons (.idx (.var 0) (.int 0)) .nil)) (.var 1))) (.cons (.setIx 0 false false (.int 0) (.bin .FloorDiv (.idx (.var 0) (.int 0)) (.var 1))) (.cons (.ret (.var 3)) .nil))) .nil) (.cons (.setIx 0 false false (.int 2) (.bin .Add (.idx (.var 0) (.int 2)) (.int 1))) (.cons (.set 2 .pln (.bin .Mod (.bi .int (.cons (.bin .Pow (.bin .Add (.idx (.var 0) (.int 1)) (.bin .Mult (.int 7919) (.idx (.var 0) (.int 2)))) (.int 3)) .nil)) (.int 2305843009213693951))) (.cons (.set 2 .pln (.bin .Mod (.bi .int (.cons (.bin .Pow (.bin .Add (.var 2) (.bin .Mult (.int 31) (.idx (.var 0) (.int 2)))) (.int 2)) .nil)) (.int 1000000000000000003))) (.cons (.ret (.bin .Mod (.bi .int (.cons (.bin .FloorDiv (.var 2) (.int 64)) .nil)) (.var 1))) .nil)))))
def t_law_take1 : S := (.ite (.cmp .Gt (.idx (.var 0) (.int 0)) (.int 0)) (.cons (.set 3 .pln (.bin .Mod (.bi .int (.cons (.idx (.var 0) (.int 0)) .nil)) (.var 1))) (.cons (.setIx 0 false false (.int 0) (.bin .FloorDiv (.idx (.var 0) (.int 0)) (.var 1))) (.cons (.ret (.var 3)) .nil))) .nil)
def t_law_take2 : S := (.setIx 0 false false (.int 2) (.bin .Add (.idx (.var 0) (.int 2)) (.int 1)))
def t_law_take3 : S := (.set 2 .pln (.bin .Mod (.bi .int (.cons (.bin .Pow (.bin .Add (.idx (.var 0) (.int 1)) (.bin .Mult (.int 7919) (.idx (.var 0) (.int 2)))) (.int 3)) .nil)) (.int 2305843009213693951)))
def t_law_take4 : S := (.set 2 .pln (.bin .Mod (.bi .int (.cons (.bin .Pow (.bin .Add (.var 2) (.bin .Mult (.int 31) (.idx (.var 0) (.int 2)))) (.int 2)) .nil)) (.int 1000000000000000003)))
def t_law_take5 : S := (.ret (.bin .Mod (.bi .int (.cons (.bin .FloorDiv (.var 2) (.int 64)) .nil)) (.var 1)))
theorem bt_law_take : b_law_take = (.cons t_law_take1 (.cons t_law_take2 (.cons t_law_take3 (.cons t_law_take4 (.cons t_law_take5 .nil))))) := rfl
/-- _law_power -/
def N_law_power : List Str := [("many" : Str), ("found" : Str), ("turn" : Str)]
def l_law_power1 : Ss := (.cons (.set 1 .pln (.bin .Mult (.int 2) (.var 1))) .nil)
def b_law_power : Ss := (.cons (.set 1 .pln (.int 1)) (.cons (.for_ (.name 2) (.range1 (.var 0)) l_law_power1) (.cons (.ret (.var 1)) .nil)))
/-- _law_number -/
def N_law_number : List Str := [("top" : Str), ("bottom" : Str), ("turn" : Str), ("sign" : Str), ("first" : Str), ("second" : Str)]
def l_law_number1 : Ss := (.cons (.ite (.cmp .Eq (.var 5) (.int 0)) (.cons .brk .nil) .nil) (.cons (.par 4 5 .pln .pln (.var 5) (.bin .Mod (.bi .int (.cons (.var 4) .nil)) (.var 5))) .nil))
def b_law_number : Ss := (.cons (.par 4 5 .pln .pln (.bi .abs (.cons (.var 0) .nil)) (.bi .abs (.cons (.var 1) .nil))) (.cons (.for_ (.name 2) (.range1 (.int 100000)) l_law_number1) (.cons (.set 3 .pln (.ife (.cmp .Lt (.var 1) (.int 0)) (.neg (.int 1)) (.int 1))) (.cons (.ret (.tup (.cons (.bin .FloorDiv (.bin .Mult (.var 3) (.var 0)) (.var 4)) (.cons (.bin .FloorDiv (.bin .Mult (.var 3) (.var 1)) (.var 4)) .nil)))) .nil))))
def t_law_number1 : S := (.par 4 5 .pln .pln (.bi .abs (.cons (.var 0) .nil)) (.bi .abs (.cons (.var 1) .nil)))
def t_law_number2 : S := (.for_ (.name 2) (.range1 (.int 100000)) l_law_number1)
def t_law_number3 : S := (.set 3 .pln (.ife (.cmp .Lt (.var 1) (.int 0)) (.neg (.int 1)) (.int 1)))
def t_law_number4 : S := (.ret (.tup (.cons (.bin .FloorDiv (.bin .Mult (.var 3) (.var 0)) (.var 4)) (.cons (.bin .FloorDiv (.bin .Mult (.var 3) (.var 1)) (.var 4)) .nil))))
theorem bt_law_number : b_law_number = (.cons t_law_number1 (.cons t_law_number2 (.cons t_law_number3 (.cons t_law_number4 .nil)))) := rfl
/-- _law_weights -/
def N_law_weights : List Str := [("deck" : Str), ("n" : Str), ("total" : Str), ("found" : Str), ("turn" : Str)]
def l_law_weights1 : Ss := (.cons (.augIx 3 true .Add (.call 1 (.cons (.var 0) (.cons (.var 1) .nil)) .nil []) (.int 1)) .nil)
def b_law_weights : Ss := (.cons (.set 3 .own (.bin .Mult (.lst (.cons (.int 1) .nil)) (.var 1))) (.cons (.for_ (.name 4) (.range1 (.bin .Sub (.var 2) (.var 1))) l_law_weights1) (.cons (.ret (.var 3)) .nil)))
/-- _law_shares -/
def N_law_shares : List Str := [("deck" : Str), ("most" : Str), ("n" : Str), ("way" : Str), ("total" : Str), ("many" : Str), ("first" : Str), ("second" : Str), ("bottom" : Str), ("weight" : Str)]
def e_law_shares1 : E := (.call 3 (.cons (.var 9) (.cons (.bin .Mult (.int 2) (.var 8)) .nil)) .nil [])
def l_law_shares1 : Ss := (.cons (.set 8 .pln (.bin .Add (.var 5) (.call 1 (.cons (.var 0) (.cons (.bin .Sub (.int 31) (.var 5)) .nil)) .nil []))) (.cons (.set 7 .pln (.bin .Add (.var 7) (.comp (.name 9) (.seq (.call 4 (.cons (.var 0) (.cons (.var 5) (.cons (.var 8) .nil))) .nil [])) false .non e_law_shares1))) .nil))
def e_law_shares2 : E := (.call 3 (.cons (.var 9) (.cons (.var 4) .nil)) .nil [])
def b_law_shares : Ss := (.cons (.par 2 3 .pln .pln (.bin .Add (.int 1) (.call 1 (.cons (.var 0) (.cons (.var 1) .nil)) .nil [])) (.call 1 (.cons (.var 0) (.cons (.int 6) .nil)) .nil [])) (.cons (.ite (.cmp .Eq (.var 3) (.int 0)) (.cons (.ret (.bin .Mult (.tup (.cons (.tup (.cons (.int 1) (.cons (.var 2) .nil))) .nil)) (.var 2))) .nil) .nil) (.cons (.ite (.cmp .Eq (.var 3) (.int 1)) (.cons (.set 4 .pln (.call 2 (.cons (.bin .Add (.int 3) (.call 1 (.cons (.var 0) (.cons (.int 3) .nil)) .nil [])) .nil) .nil [])) .nil) (.cons (.ite (.and (.cmp .Eq (.var 3) (.int 2)) (.cmp .Gt (.var 2) (.int 1))) (.cons (.par 6 7 .pln .pln (.bin .Add (.int 1) (.call 1 (.cons (.var 0) (.cons (.bin .Sub (.var 2) (.int 1)) .nil)) .nil [])) (.lst .nil)) (.cons (.for_ (.name 5) (.seq (.tup (.cons (.var 6) (.cons (.bin .Sub (.var 2) (.var 6)) .nil)))) l_law_shares1) (.cons (.ret (.bi .tuple (.cons (.var 7) .nil))) .nil))) (.cons (.set 4 .pln (.bin .Add (.var 2) (.call 1 (.cons (.var 0) (.cons (.bin .Sub (.int 61) (.var 2)) .nil)) .nil []))) .nil)) .nil)) (.cons (.ret (.bi .tuple (.cons (.comp (.name 9) (.seq (.call 4 (.cons (.var 0) (.cons (.var 2) (.cons (.var 4) .nil))) .nil [])) false .non e_law_shares2) .nil))) .nil))))
def t_law_shares1 : S := (.par 2 3 .pln .pln (.bin .Add (.int 1) (.call 1 (.cons (.var 0) (.cons (.var 1) .nil)) .nil [])) (.call 1 (.cons (.var 0) (.cons (.int 6) .nil)) .nil []))
def t_law_shares2 : S := (.ite (.cmp .Eq (.var 3) (.int 0)) (.cons (.ret (.bin .Mult (.tup (.cons (.tup (.cons (.int 1) (.cons (.var 2) .nil))) .nil)) (.var 2))) .nil) .nil)
def t_law_shares3 : S := (.ite (.cmp .Eq (.var 3) (.int 1)) (.cons (.set 4 .pln (.call 2 (.cons (.bin .Add (.int 3) (.call 1 (.cons (.var 0) (.cons (.int 3) .nil)) .nil [])) .nil) .nil [])) .nil) (.cons (.ite (.and (.cmp .Eq (.var 3) (.int 2)) (.cmp .Gt (.var 2) (.int 1))) (.cons (.par 6 7 .pln .pln (.bin .Add (.int 1) (.call 1 (.cons (.var 0) (.cons (.bin .Sub (.var 2) (.int 1)) .nil)) .nil [])) (.lst .nil)) (.cons (.for_ (.name 5) (.seq (.tup (.cons (.var 6) (.cons (.bin .Sub (.var 2) (.var 6)) .nil)))) l_law_shares1) (.cons (.ret (.bi .tuple (.cons (.var 7) .nil))) .nil))) (.cons (.set 4 .pln (.bin .Add (.var 2) (.call 1 (.cons (.var 0) (.cons (.bin .Sub (.int 61) (.var 2)) .nil)) .nil []))) .nil)) .nil))
def t_law_shares4 : S := (.ret (.bi .tuple (.cons (.comp (.name 9) (.seq (.call 4 (.cons (.var 0) (.cons (.var 2) (.cons (.var 4) .nil))) .nil [])) false .non e_law_shares2) .nil)))
theorem bt_law_shares : b_law_shares = (.cons t_law_shares1 (.cons t_law_shares2 (.cons t_law_shares3 (.cons t_law_shares4 .nil)))) := rfl
/-- _law_times -/
def N_law_times : List Str := [("a" : Str), ("b" : Str)]
def b_law_times : Ss := (.cons (.ret (.call 3 (.cons (.bin .Mult (.idx (.var 0) (.int 0)) (.idx (.var 1) (.int 0))) (.cons (.bin .Mult (.idx (.var 0) (.int 1)) (.idx (.var 1) (.int 1))) .nil)) .nil [])) .nil)
/-- _law_plus -/
def N_law_plus : List Str := [("a" : Str), ("b" : Str)]
def b_law_plus : Ss := (.cons (.ret (.call 3 (.cons (.bin .Add (.bin .Mult (.idx (.var 0) (.int 0)) (.idx (.var 1) (.int 1))) (.bin .Mult (.idx (.var 1) (.int 0)) (.idx (.var 0) (.int 1)))) (.cons (.bin .Mult (.idx (.var 0) (.int 1)) (.idx (.var 1) (.int 1))) .nil)) .nil [])) .nil)
/-- _law_sum -/
def N_law_sum : List Str := [("numbers" : Str), ("total" : Str), ("a" : Str)]
def l_law_sum1 : Ss := (.cons (.set 1 .pln (.call 7 (.cons (.var 1) (.cons (.var 2) .nil)) .nil [])) .nil)
def b_law_sum : Ss := (.cons (.set 1 .pln (.tup (.cons (.int 0) (.cons (.int 1) .nil)))) (.cons (.for_ (.name 2) (.seq (.var 0)) l_law_sum1) (.cons (.ret (.var 1)) .nil)))
/-- _law_tail -/
def N_law_tail : List Str := [("parts_of" : Str), ("k" : Str), ("power_v" : Str), ("top" : Str), ("bottom" : Str)]
def e_law_tail1 : E := (.call 3 (.cons (.bin .Mod (.bi .int (.cons (.bin .Mult (.var 3) (.var 2)) .nil)) (.var 4)) (.cons (.bin .Mult (.var 4) (.var 2)) .nil)) .nil [])
def b_law_tail : Ss := (.cons (.set 2 .pln (.call 2 (.cons (.var 1) .nil) .nil [])) (.cons (.ret (.call 8 (.cons (.comp (.tup (.cons (.name 3) (.cons (.name 4) .nil))) (.seq (.var 0)) false .non e_law_tail1) .nil) .nil [])) .nil))
/-- _law_least -/
def N_law_least : List Str := [("parts_of" : Str), ("turn" : Str), ("again" : Str), ("met" : Str), ("tails" : Str), ("rests" : Str), ("begin" : Str), ("size" : Str), ("top" : Str), ("bottom" : Str)]
def e_law_least1 : E := (.call 3 (.cons (.bin .Mod (.bi .int (.cons (.bin .Mult (.int 2) (.var 8)) .nil)) (.var 9)) (.cons (.var 9) .nil)) .nil [])
def l_law_least1 : Ss := (.cons (.ite (.cmp .In (.var 5) (.var 3)) (.cons .brk .nil) .nil) (.cons (.dput 3 (.var 5) (.var 1)) (.cons (.app 4 true false (.call 9 (.cons (.var 0) (.cons (.var 1) .nil)) .nil [])) (.cons (.set 5 .pln (.bi .tuple (.cons (.comp (.tup (.cons (.name 8) (.cons (.name 9) .nil))) (.seq (.var 5)) false .non e_law_least1) .nil))) .nil))))
def tl_law_least1_1 : S := (.ite (.cmp .In (.var 5) (.var 3)) (.cons .brk .nil) .nil)
def tl_law_least1_2 : S := (.dput 3 (.var 5) (.var 1))
def tl_law_least1_3 : S := (.app 4 true false (.call 9 (.cons (.var 0) (.cons (.var 1) .nil)) .nil []))
def tl_law_least1_4 : S := (.set 5 .pln (.bi .tuple (.cons (.comp (.tup (.cons (.name 8) (.cons (.name 9) .nil))) (.seq (.var 5)) false .non e_law_least1) .nil)))
theorem btl_law_least1 : l_law_least1 = (.cons tl_law_least1_1 (.cons tl_law_least1_2 (.cons tl_law_least1_3 (.cons tl_law_least1_4 .nil)))) := rfl
def b_law_least : Ss := (.cons (.par3 3 4 5 .own .own .pln (.dnew true) (.lst .nil) (.var 0)) (.cons (.for_ (.name 1) (.range1 (.int 4000)) l_law_least1) (.cons (.par 6 7 .pln .nl (.idx (.var 3) (.var 5)) (.call 2 (.cons (.bin .Sub (.bi .len (.cons (.var 4) .nil)) (.idx (.var 3) (.var 5))) .nil) .nil [])) (.cons (.set 2 .pln (.call 6 (.cons (.call 8 (.cons (.slice (.var 4) (.yes (.var 6)) .no) .nil) .nil []) (.cons (.ife (.cmp .Gt (.var 7) (.int 1)) (.tup (.cons (.var 7) (.cons (.bin .Sub (.var 7) (.int 1)) .nil))) (.tup (.cons (.int 1) (.cons (.int 1) .nil)))) .nil)) .nil [])) (.cons (.ret (.call 7 (.cons (.call 8 (.cons (.slice (.var 4) .no (.yes (.var 6))) .nil) .nil []) (.cons (.var 2) .nil)) .nil [])) .nil)))))
def t_law_least1 : S := (.par3 3 4 5 .own .own .pln (.dnew true) (.lst .nil) (.var 0))
def t_law_least2 : S := (.for_ (.name 1) (.range1 (.int 4000)) l_law_least1)
def t_law_least3 : S := (.par 6 7 .pln .nl (.idx (.var 3) (.var 5)) (.call 2 (.cons (.bin .Sub (.bi .len (.cons (.var 4) .nil)) (.idx (.var 3) (.var 5))) .nil) .nil []))
def t_law_least4 : S := (.set 2 .pln (.call 6 (.cons (.call 8 (.cons (.slice (.var 4) (.yes (.var 6)) .no) .nil) .nil []) (.cons (.ife (.cmp .Gt (.var 7) (.int 1)) (.tup (.cons (.var 7) (.cons (.bin .Sub (.var 7) (.int 1)) .nil))) (.tup (.cons (.int 1) (.cons (.int 1) .nil)))) .nil)) .nil []))
def t_law_least5 : S := (.ret (.call 7 (.cons (.call 8 (.cons (.slice (.var 4) .no (.yes (.var 6))) .nil) .nil []) (.cons (.var 2) .nil)) .nil []))
theorem bt_law_least : b_law_least = (.cons t_law_least1 (.cons t_law_least2 (.cons t_law_least3 (.cons t_law_least4 (.cons t_law_least5 .nil))))) := rfl
/-- _law_same -/
def N_law_same : List Str := [("found" : Str), ("due" : Str), ("a" : Str), ("b" : Str)]
def e_law_same1 : E := (.call 11 (.cons (.var 2) (.cons (.var 3) .nil)) .nil [])
def b_law_same : Ss := (.cons (.ite (.isi (.var 1) [.tuple, .list] true) (.cons (.ite (.or (.cmp .NotEq (.isi (.var 0) [.tuple] false) (.isi (.var 1) [.tuple] false)) (.cmp .NotEq (.isi (.var 0) [.list] false) (.isi (.var 1) [.list] false))) (.cons (.ret (.bl false)) .nil) .nil) (.cons (.ret (.and (.cmp .Eq (.bi .len (.cons (.var 0) .nil)) (.bi .len (.cons (.var 1) .nil))) (.bi .all (.cons (.comp (.tup (.cons (.name 2) (.cons (.name 3) .nil))) (.zip (.var 0) (.var 1)) false .non e_law_same1) .nil)))) .nil)) .nil) (.cons (.ite (.cmp .Is (.var 1) .non) (.cons (.ret (.cmp .Is (.var 0) .non)) .nil) .nil) (.cons (.ite (.isi (.var 1) [.str] false) (.cons (.ret (.and (.isi (.var 0) [.str] false) (.cmp .Eq (.var 0) (.var 1)))) .nil) .nil) (.cons (.ite (.isi (.var 1) [.dict] false) (.cons (.ret (.and (.isi (.var 0) [.dict] false) (.cmp .Eq (.var 0) (.var 1)))) .nil) .nil) (.cons (.ite (.or (.isi (.var 1) [.bool] false) (.isi (.var 0) [.bool] false)) (.cons (.ret (.and (.isi (.var 1) [.bool] false) (.and (.isi (.var 0) [.bool] false) (.cmp .Eq (.var 0) (.var 1))))) .nil) .nil) (.cons (.ret (.and (.isi (.var 0) [.int] false) (.cmp .Eq (.var 0) (.var 1)))) .nil))))))
def t_law_same1 : S := (.ite (.isi (.var 1) [.tuple, .list] true) (.cons (.ite (.or (.cmp .NotEq (.isi (.var 0) [.tuple] false) (.isi (.var 1) [.tuple] false)) (.cmp .NotEq (.isi (.var 0) [.list] false) (.isi (.var 1) [.list] false))) (.cons (.ret (.bl false)) .nil) .nil) (.cons (.ret (.and (.cmp .Eq (.bi .len (.cons (.var 0) .nil)) (.bi .len (.cons (.var 1) .nil))) (.bi .all (.cons (.comp (.tup (.cons (.name 2) (.cons (.name 3) .nil))) (.zip (.var 0) (.var 1)) false .non e_law_same1) .nil)))) .nil)) .nil)
def t_law_same2 : S := (.ite (.cmp .Is (.var 1) .non) (.cons (.ret (.cmp .Is (.var 0) .non)) .nil) .nil)
def t_law_same3 : S := (.ite (.isi (.var 1) [.str] false) (.cons (.ret (.and (.isi (.var 0) [.str] false) (.cmp .Eq (.var 0) (.var 1)))) .nil) .nil)
def t_law_same4 : S := (.ite (.isi (.var 1) [.dict] false) (.cons (.ret (.and (.isi (.var 0) [.dict] false) (.cmp .Eq (.var 0) (.var 1)))) .nil) .nil)
def t_law_same5 : S := (.ite (.or (.isi (.var 1) [.bool] false) (.isi (.var 0) [.bool] false)) (.cons (.ret (.and (.isi (.var 1) [.bool] false) (.and (.isi (.var 0) [.bool] false) (.cmp .Eq (.var 0) (.var 1))))) .nil) .nil)
def t_law_same6 : S := (.ret (.and (.isi (.var 0) [.int] false) (.cmp .Eq (.var 0) (.var 1))))
theorem bt_law_same : b_law_same = (.cons t_law_same1 (.cons t_law_same2 (.cons t_law_same3 (.cons t_law_same4 (.cons t_law_same5 (.cons t_law_same6 .nil)))))) := rfl
/-- _law_cheapest -/
def N_law_cheapest : List Str := [("left" : Str), ("k" : Str), ("deep" : Str), ("many" : Str), ("size" : Str), ("found" : Str)]
def l_law_cheapest1 : Ss := (.cons (.app 5 true false (.bin .Add (.bin .Mult (.bin .Mult (.var 3) (.var 4)) (.var 1)) (.call 12 (.cons (.bin .Sub (.var 0) (.bin .Mult (.var 3) (.var 4))) (.cons (.bin .Add (.var 1) (.int 1)) (.cons (.var 2) .nil))) .nil []))) .nil)
def b_law_cheapest : Ss := (.cons (.ite (.cmp .Eq (.var 0) (.int 0)) (.cons (.ret (.int 0)) .nil) .nil) (.cons (.ite (.cmp .Eq (.var 1) (.var 2)) (.cons (.ret (.bin .Mult (.var 1) (.var 0))) .nil) .nil) (.cons (.par 4 5 .pln .own (.call 2 (.cons (.bin .Sub (.var 2) (.var 1)) .nil) .nil []) (.lst .nil)) (.cons (.for_ (.name 3) (.range1 (.bin .Add (.bin .FloorDiv (.var 0) (.var 4)) (.int 1))) l_law_cheapest1) (.cons (.ret (.bi .min (.cons (.var 5) .nil))) .nil)))))
def t_law_cheapest1 : S := (.ite (.cmp .Eq (.var 0) (.int 0)) (.cons (.ret (.int 0)) .nil) .nil)
def t_law_cheapest2 : S := (.ite (.cmp .Eq (.var 1) (.var 2)) (.cons (.ret (.bin .Mult (.var 1) (.var 0))) .nil) .nil)
def t_law_cheapest3 : S := (.par 4 5 .pln .own (.call 2 (.cons (.bin .Sub (.var 2) (.var 1)) .nil) .nil []) (.lst .nil))
def t_law_cheapest4 : S := (.for_ (.name 3) (.range1 (.bin .Add (.bin .FloorDiv (.var 0) (.var 4)) (.int 1))) l_law_cheapest1)
def t_law_cheapest5 : S := (.ret (.bi .min (.cons (.var 5) .nil)))
theorem bt_law_cheapest : b_law_cheapest = (.cons t_law_cheapest1 (.cons t_law_cheapest2 (.cons t_law_cheapest3 (.cons t_law_cheapest4 (.cons t_law_cheapest5 .nil))))) := rfl
/-- lowest -/
def N_lowest : List Str := [("top" : Str), ("bottom" : Str), ("common" : Str)]
def b_lowest : Ss := (.cons (.set 2 .pln (.bi .gcd (.cons (.var 0) (.cons (.var 1) .nil)))) (.cons (.ite (.cmp .Lt (.var 1) (.int 0)) (.cons (.set 2 .pln (.neg (.var 2))) .nil) .nil) (.cons (.ret (.tup (.cons (.bin .FloorDiv (.var 0) (.var 2)) (.cons (.bin .FloorDiv (.var 1) (.var 2)) .nil)))) .nil)))
/-- sum_of_two -/
def N_sum_of_two : List Str := [("a" : Str), ("b" : Str)]
def b_sum_of_two : Ss := (.cons (.ret (.call 13 (.cons (.bin .Add (.bin .Mult (.idx (.var 0) (.int 0)) (.idx (.var 1) (.int 1))) (.bin .Mult (.idx (.var 1) (.int 0)) (.idx (.var 0) (.int 1)))) (.cons (.bin .Mult (.idx (.var 0) (.int 1)) (.idx (.var 1) (.int 1))) .nil)) .nil [])) .nil)
/-- sum_of_all -/
def N_sum_of_all : List Str := [("numbers" : Str), ("total" : Str), ("a" : Str)]
def l_sum_of_all1 : Ss := (.cons (.set 1 .pln (.call 14 (.cons (.var 1) (.cons (.var 2) .nil)) .nil [])) .nil)
def b_sum_of_all : Ss := (.cons (.set 1 .pln (.glob 0)) (.cons (.for_ (.name 2) (.seq (.var 0)) l_sum_of_all1) (.cons (.ret (.var 1)) .nil)))
/-- is_pair -/
def N_is_pair : List Str := [("value" : Str)]
def b_is_pair : Ss := (.cons (.ret (.and (.isi (.var 0) [.tuple] false) (.cmp .Eq (.bi .len (.cons (.var 0) .nil)) (.int 2)))) .nil)
/-- is_integer -/
def N_is_integer : List Str := [("value" : Str)]
def b_is_integer : Ss := (.cons (.ret (.and (.isi (.var 0) [.int] false) (.not (.isi (.var 0) [.bool] false)))) .nil)
/-- is_number_of -/
def N_is_number_of : List Str := [("told" : Str)]
def b_is_number_of : Ss := (.cons (.ite (.or (.not (.call 16 (.cons (.var 0) .nil) .nil [])) (.or (.not (.call 17 (.cons (.idx (.var 0) (.int 0)) .nil) .nil [])) (.not (.call 17 (.cons (.idx (.var 0) (.int 1)) .nil) .nil [])))) (.cons (.ret (.bl false)) .nil) .nil) (.cons (.ret (.and (.cmp .Gt (.idx (.var 0) (.int 1)) (.int 0)) (.cmp .Eq (.call 13 (.cons (.idx (.var 0) (.int 0)) (.cons (.idx (.var 0) (.int 1)) .nil)) .nil []) (.var 0)))) .nil))
/-- is_shares_of -/
def N_is_shares_of : List Str := [("told" : Str), ("share" : Str)]
def e_is_shares_of1 : E := (.call 18 (.cons (.var 1) .nil) .nil [])
def e_is_shares_of2 : E := (.cmp .Gt (.idx (.var 1) (.int 0)) (.int 0))
def b_is_shares_of : Ss := (.cons (.ite (.or (.not (.isi (.var 0) [.tuple] false)) (.or (.cmp .Eq (.bi .len (.cons (.var 0) .nil)) (.int 0)) (.not (.bi .all (.cons (.comp (.name 1) (.seq (.var 0)) false .non e_is_shares_of1) .nil))))) (.cons (.ret (.bl false)) .nil) .nil) (.cons (.ret (.and (.bi .all (.cons (.comp (.name 1) (.seq (.var 0)) false .non e_is_shares_of2) .nil)) (.cmp .Eq (.call 15 (.cons (.var 0) .nil) .nil []) (.glob 1)))) .nil))
/-- check_shares -/
def N_check_shares : List Str := [("shares" : Str)]
def b_check_shares : Ss := (.cons (.ite (.not (.call 19 (.cons (.var 0) .nil) .nil [])) (.cons .dead .nil) .nil) .nil)
/-- shortest -/
def N_shortest : List Str := [("ahead" : Str), ("again" : Str), ("turn" : Str)]
def l_shortest1 : Ss := (.cons (.ite (.cmp .NotEq (.idx (.var 0) (.neg (.int 1))) (.idx (.var 1) (.neg (.int 1)))) (.cons .brk .nil) .nil) (.cons (.par 0 1 .pln .pln (.slice (.var 0) .no (.yes (.neg (.int 1)))) (.bin .Add (.slice (.var 1) (.yes (.neg (.int 1))) .no) (.slice (.var 1) .no (.yes (.neg (.int 1)))))) .nil))
def b_shortest : Ss := (.cons (.for_ (.name 2) (.range1 (.bi .len (.cons (.var 0) .nil))) l_shortest1) (.cons (.ret (.tup (.cons (.var 0) (.cons (.var 1) .nil)))) .nil))
/-- power -/
def N_power : List Str := [("b" : Str), ("n" : Str), ("found" : Str), ("turn" : Str)]
def l_power1 : Ss := (.cons (.set 2 .pln (.bin .Mult (.var 2) (.var 0))) .nil)
def b_power : Ss := (.cons (.set 2 .pln (.int 1)) (.cons (.for_ (.name 3) (.range1 (.var 1)) l_power1) (.cons (.ret (.var 2)) .nil)))
/-- rest_of -/
def N_rest_of : List Str := [("number" : Str), ("k" : Str), ("top" : Str), ("bottom" : Str)]
def b_rest_of : Ss := (.cons (.setT (.tup (.cons (.name 2) (.cons (.name 3) .nil))) (.var 0)) (.cons (.ret (.call 13 (.cons (.bin .Mod (.bin .Mult (.var 2) (.call 22 (.cons (.int 2) (.cons (.var 1) .nil)) .nil [])) (.var 3)) (.cons (.var 3) .nil)) .nil [])) .nil))
/-- product -/
def N_product : List Str := [("a" : Str), ("b" : Str)]
def b_product : Ss := (.cons (.ret (.call 13 (.cons (.bin .Mult (.idx (.var 0) (.int 0)) (.idx (.var 1) (.int 0))) (.cons (.bin .Mult (.idx (.var 0) (.int 1)) (.idx (.var 1) (.int 1))) .nil)) .nil [])) .nil)
/-- figure_of -/
def N_figure_of : List Str := [("number" : Str), ("k" : Str), ("top" : Str), ("bottom" : Str)]
def b_figure_of : Ss := (.cons (.setT (.tup (.cons (.name 2) (.cons (.name 3) .nil))) (.var 0)) (.cons (.ret (.bin .Mod (.bin .FloorDiv (.bin .Mult (.var 2) (.call 22 (.cons (.int 2) (.cons (.var 1) .nil)) .nil [])) (.var 3)) (.int 2))) .nil))
/-- whole -/
def N_whole : List Str := [("a" : Str)]
def b_whole : Ss := (.cons (.ret (.tup (.cons (.var 0) (.cons (.int 1) .nil)))) .nil)
/-- is_less -/
def N_is_less : List Str := [("a" : Str), ("b" : Str)]
def b_is_less : Ss := (.cons (.ret (.cmp .Lt (.bin .Mult (.idx (.var 0) (.int 0)) (.idx (.var 1) (.int 1))) (.bin .Mult (.idx (.var 1) (.int 0)) (.idx (.var 0) (.int 1))))) .nil)
/-- figures_of -/
def N_figures_of : List Str := [("number" : Str), ("turn" : Str), ("begin" : Str), ("found" : Str), ("met" : Str), ("rest" : Str), ("twice" : Str)]
def l_figures_of1 : Ss := (.cons (.ite (.cmp .In (.var 5) (.var 4)) (.cons .brk .nil) .nil) (.cons (.dput 4 (.var 5) (.bi .len (.cons (.var 3) .nil))) (.cons (.set 6 .pln (.call 24 (.cons (.var 5) (.cons (.call 26 (.cons (.int 2) .nil) .nil []) .nil)) .nil [])) (.cons (.app 3 true false (.bi .int (.cons (.not (.call 27 (.cons (.var 6) (.cons (.glob 1) .nil)) .nil [])) .nil))) (.cons (.set 5 .pln (.call 23 (.cons (.var 5) (.cons (.int 1) .nil)) .nil [])) .nil)))))
def tl_figures_of1_1 : S := (.ite (.cmp .In (.var 5) (.var 4)) (.cons .brk .nil) .nil)
def tl_figures_of1_2 : S := (.dput 4 (.var 5) (.bi .len (.cons (.var 3) .nil)))
def tl_figures_of1_3 : S := (.set 6 .pln (.call 24 (.cons (.var 5) (.cons (.call 26 (.cons (.int 2) .nil) .nil []) .nil)) .nil []))
def tl_figures_of1_4 : S := (.app 3 true false (.bi .int (.cons (.not (.call 27 (.cons (.var 6) (.cons (.glob 1) .nil)) .nil [])) .nil)))
def tl_figures_of1_5 : S := (.set 5 .pln (.call 23 (.cons (.var 5) (.cons (.int 1) .nil)) .nil []))
theorem btl_figures_of1 : l_figures_of1 = (.cons tl_figures_of1_1 (.cons tl_figures_of1_2 (.cons tl_figures_of1_3 (.cons tl_figures_of1_4 (.cons tl_figures_of1_5 .nil))))) := rfl
def b_figures_of : Ss := (.cons (.par3 3 4 5 .own .own .pln (.lst (.cons (.call 25 (.cons (.var 0) (.cons (.int 0) .nil)) .nil []) .nil)) (.dnew true) (.call 23 (.cons (.var 0) (.cons (.int 0) .nil)) .nil [])) (.cons (.for_ (.name 1) (.range1 (.bin .Add (.idx (.var 0) (.int 1)) (.int 1))) l_figures_of1) (.cons (.set 2 .pln (.idx (.var 4) (.var 5))) (.cons (.ret (.call 21 (.cons (.bi .tuple (.cons (.slice (.var 3) .no (.yes (.var 2))) .nil)) (.cons (.bi .tuple (.cons (.slice (.var 3) (.yes (.var 2)) .no) .nil)) .nil)) .nil [])) .nil))))
def t_figures_of1 : S := (.par3 3 4 5 .own .own .pln (.lst (.cons (.call 25 (.cons (.var 0) (.cons (.int 0) .nil)) .nil []) .nil)) (.dnew true) (.call 23 (.cons (.var 0) (.cons (.int 0) .nil)) .nil []))
def t_figures_of2 : S := (.for_ (.name 1) (.range1 (.bin .Add (.idx (.var 0) (.int 1)) (.int 1))) l_figures_of1)
def t_figures_of3 : S := (.set 2 .pln (.idx (.var 4) (.var 5)))
def t_figures_of4 : S := (.ret (.call 21 (.cons (.bi .tuple (.cons (.slice (.var 3) .no (.yes (.var 2))) .nil)) (.cons (.bi .tuple (.cons (.slice (.var 3) (.yes (.var 2)) .no) .nil)) .nil)) .nil []))
theorem bt_figures_of : b_figures_of = (.cons t_figures_of1 (.cons t_figures_of2 (.cons t_figures_of3 (.cons t_figures_of4 .nil)))) := rfl
/-- quotient -/
def N_quotient : List Str := [("a" : Str), ("b" : Str)]
def b_quotient : Ss := (.cons (.ret (.call 13 (.cons (.bin .Mult (.idx (.var 0) (.int 0)) (.idx (.var 1) (.int 1))) (.cons (.bin .Mult (.idx (.var 0) (.int 1)) (.idx (.var 1) (.int 0))) .nil)) .nil [])) .nil)
/-- again_and_again -/
def N_again_and_again : List Str := [("first" : Str), ("many" : Str)]
def b_again_and_again : Ss := (.cons (.ret (.call 29 (.cons (.var 0) (.cons (.call 13 (.cons (.bin .Sub (.call 22 (.cons (.int 2) (.cons (.var 1) .nil)) .nil []) (.int 1)) (.cons (.call 22 (.cons (.int 2) (.cons (.var 1) .nil)) .nil []) .nil)) .nil []) .nil)) .nil [])) .nil)
/-- by_halves -/
def N_by_halves : List Str := [("a" : Str), ("k" : Str)]
def b_by_halves : Ss := (.cons (.ret (.call 13 (.cons (.idx (.var 0) (.int 0)) (.cons (.bin .Mult (.idx (.var 0) (.int 1)) (.call 22 (.cons (.int 2) (.cons (.var 1) .nil)) .nil [])) .nil)) .nil [])) .nil)
/-- sum_of_figures -/
def N_sum_of_figures : List Str := [("some" : Str), ("begin" : Str), ("at" : Str), ("a" : Str)]
def e_sum_of_figures1 : E := (.call 31 (.cons (.call 26 (.cons (.var 3) .nil) .nil []) (.cons (.bin .Add (.var 1) (.var 2)) .nil)) .nil [])
def b_sum_of_figures : Ss := (.cons (.ret (.call 15 (.cons (.comp (.tup (.cons (.name 2) (.cons (.name 3) .nil))) (.enum (.var 0)) false .non e_sum_of_figures1) .nil) .nil [])) .nil)
/-- cost_of -/
def N_cost_of : List Str := [("number" : Str), ("total" : Str), ("many" : Str), ("later" : Str), ("worth" : Str), ("more" : Str), ("ahead" : Str), ("again" : Str), ("at" : Str), ("a" : Str), ("k" : Str)]
def e_cost_of1 : E := (.call 31 (.cons (.call 26 (.cons (.bin .Mult (.var 10) (.var 9)) .nil) .nil []) (.cons (.var 10) .nil)) .nil [])
def l_cost_of1 : Ss := (.cons (.set 10 .pln (.bin .Add (.bi .len (.cons (.var 6) .nil)) (.var 8))) (.cons (.set 3 .pln (.call 14 (.cons (.var 3) (.cons (.call 31 (.cons (.call 26 (.cons (.bin .Mult (.var 10) (.var 9)) .nil) .nil []) (.cons (.var 10) .nil)) .nil []) .nil)) .nil [])) .nil))
def b_cost_of : Ss := (.cons (.setT (.tup (.cons (.name 6) (.cons (.name 7) .nil))) (.call 28 (.cons (.var 0) .nil) .nil [])) (.cons (.set 1 .pln (.call 15 (.cons (.comp (.tup (.cons (.name 10) (.cons (.name 9) .nil))) (.enum (.var 6)) false .non e_cost_of1) .nil) .nil [])) (.cons (.set 2 .pln (.bi .len (.cons (.var 7) .nil))) (.cons (.set 3 .pln (.glob 0)) (.cons (.for_ (.tup (.cons (.name 8) (.cons (.name 9) .nil))) (.enum (.var 7)) l_cost_of1) (.cons (.set 4 .pln (.call 30 (.cons (.call 32 (.cons (.var 7) (.cons (.bi .len (.cons (.var 6) .nil)) .nil)) .nil []) (.cons (.var 2) .nil)) .nil [])) (.cons (.set 5 .pln (.call 29 (.cons (.call 24 (.cons (.call 26 (.cons (.var 2) .nil) .nil []) (.cons (.var 4) .nil)) .nil []) (.cons (.call 26 (.cons (.bin .Sub (.call 22 (.cons (.int 2) (.cons (.var 2) .nil)) .nil []) (.int 1)) .nil) .nil []) .nil)) .nil [])) (.cons (.ret (.call 15 (.cons (.lst (.cons (.var 1) (.cons (.call 30 (.cons (.var 3) (.cons (.var 2) .nil)) .nil []) (.cons (.var 5) .nil)))) .nil) .nil [])) .nil))))))))
def t_cost_of1 : S := (.setT (.tup (.cons (.name 6) (.cons (.name 7) .nil))) (.call 28 (.cons (.var 0) .nil) .nil []))
def t_cost_of2 : S := (.set 1 .pln (.call 15 (.cons (.comp (.tup (.cons (.name 10) (.cons (.name 9) .nil))) (.enum (.var 6)) false .non e_cost_of1) .nil) .nil []))
def t_cost_of3 : S := (.set 2 .pln (.bi .len (.cons (.var 7) .nil)))
def t_cost_of4 : S := (.set 3 .pln (.glob 0))
def t_cost_of5 : S := (.for_ (.tup (.cons (.name 8) (.cons (.name 9) .nil))) (.enum (.var 7)) l_cost_of1)
def t_cost_of6 : S := (.set 4 .pln (.call 30 (.cons (.call 32 (.cons (.var 7) (.cons (.bi .len (.cons (.var 6) .nil)) .nil)) .nil []) (.cons (.var 2) .nil)) .nil []))
def t_cost_of7 : S := (.set 5 .pln (.call 29 (.cons (.call 24 (.cons (.call 26 (.cons (.var 2) .nil) .nil []) (.cons (.var 4) .nil)) .nil []) (.cons (.call 26 (.cons (.bin .Sub (.call 22 (.cons (.int 2) (.cons (.var 2) .nil)) .nil []) (.int 1)) .nil) .nil []) .nil)) .nil []))
def t_cost_of8 : S := (.ret (.call 15 (.cons (.lst (.cons (.var 1) (.cons (.call 30 (.cons (.var 3) (.cons (.var 2) .nil)) .nil []) (.cons (.var 5) .nil)))) .nil) .nil []))
theorem bt_cost_of : b_cost_of = (.cons t_cost_of1 (.cons t_cost_of2 (.cons t_cost_of3 (.cons t_cost_of4 (.cons t_cost_of5 (.cons t_cost_of6 (.cons t_cost_of7 (.cons t_cost_of8 .nil)))))))) := rfl
/-- least_mean_of -/
def N_least_mean_of : List Str := [("shares" : Str), ("share" : Str)]
def e_least_mean_of1 : E := (.call 33 (.cons (.var 1) .nil) .nil [])
def b_least_mean_of : Ss := (.cons (.ret (.call 15 (.cons (.comp (.name 1) (.seq (.var 0)) false .non e_least_mean_of1) .nil) .nil [])) .nil)
/-- least_mean -/
def N_least_mean : List Str := [("shares" : Str)]
def b_least_mean : Ss := (.cons (.drop (.call 20 (.cons (.var 0) .nil) .nil [])) (.cons (.ret (.call 34 (.cons (.var 0) .nil) .nil [])) .nil))
/-- law -/
def N_law : List Str := [("script" : Str), ("turn" : Str), ("deck" : Str), ("parts_of" : Str), ("due" : Str), ("weights" : Str), ("more" : Str), ("total" : Str), ("bottom" : Str), ("n" : Str), ("deep" : Str), ("weight" : Str)]
def e_law1 : E := (.call 3 (.cons (.var 11) (.cons (.var 8) .nil)) .nil [])
def l_law1 : Ss := (.cons (.set 10 .pln (.bin .Add (.var 10) (.bi .int (.cons (.cmp .LtE (.call 2 (.cons (.var 10) .nil) .nil []) (.var 8)) .nil)))) .nil)
def e_law2 : E := (.call 12 (.cons (.bin .FloorDiv (.bin .Mult (.var 11) (.call 2 (.cons (.var 10) .nil) .nil [])) (.var 8)) (.cons (.int 0) (.cons (.var 10) .nil))) .nil [])
def l_law2 : Ss := (.cons (.set 2 .pln (.box (.call 0 (.cons (.var 0) (.cons (.var 1) .nil)) .nil []))) (.cons (.set 3 .pln (.call 5 (.cons (.var 2) (.cons (.int 6) .nil)) .nil [])) (.cons (.set 4 .pln (.call 10 (.cons (.var 3) .nil) .nil [])) (.cons (.ite (.not (.call 11 (.cons (.lst (.cons (.call 35 (.cons (.var 3) .nil) .nil []) (.cons (.call 35 .nil (.cons (.var 3) .nil) [0]) (.cons (.call 35 (.cons (.rev (.var 3)) .nil) .nil []) .nil)))) (.cons (.bin .Mult (.lst (.cons (.var 4) .nil)) (.int 3)) .nil)) .nil [])) (.cons (.ret (.bl false)) .nil) .nil) (.cons (.par 8 9 .pln .pln (.idx (.lst (.cons (.int 2) (.cons (.int 4) (.cons (.int 8) (.cons (.int 16) .nil))))) (.call 1 (.cons (.var 2) (.cons (.int 4) .nil)) .nil [])) (.bin .Add (.int 1) (.call 1 (.cons (.var 2) (.cons (.int 4) .nil)) .nil []))) (.cons (.set 5 .pln (.call 4 (.cons (.var 2) (.cons (.bi .min2 (.cons (.var 9) (.cons (.var 8) .nil))) (.cons (.var 8) .nil))) .nil [])) (.cons (.par 3 10 .pln .pln (.bi .tuple (.cons (.comp (.name 11) (.seq (.var 5)) false .non e_law1) .nil)) (.int 1)) (.cons (.for_ (.name 6) (.range1 (.int 5)) l_law1) (.cons (.set 7 .pln (.bi .sum (.cons (.comp (.name 11) (.seq (.var 5)) false .non e_law2) .nil))) (.cons (.set 4 .pln (.call 3 (.cons (.var 7) (.cons (.call 2 (.cons (.var 10) .nil) .nil []) .nil)) .nil [])) (.cons (.ite (.or (.cmp .NotEq (.call 10 (.cons (.var 3) .nil) .nil []) (.var 4)) (.not (.call 11 (.cons (.call 35 (.cons (.var 3) .nil) .nil []) (.cons (.var 4) .nil)) .nil []))) (.cons (.ret (.bl false)) .nil) .nil) .nil)))))))))))
def tl_law2_1 : S := (.set 2 .pln (.box (.call 0 (.cons (.var 0) (.cons (.var 1) .nil)) .nil [])))
def tl_law2_2 : S := (.set 3 .pln (.call 5 (.cons (.var 2) (.cons (.int 6) .nil)) .nil []))
def tl_law2_3 : S := (.set 4 .pln (.call 10 (.cons (.var 3) .nil) .nil []))
def tl_law2_4 : S := (.ite (.not (.call 11 (.cons (.lst (.cons (.call 35 (.cons (.var 3) .nil) .nil []) (.cons (.call 35 .nil (.cons (.var 3) .nil) [0]) (.cons (.call 35 (.cons (.rev (.var 3)) .nil) .nil []) .nil)))) (.cons (.bin .Mult (.lst (.cons (.var 4) .nil)) (.int 3)) .nil)) .nil [])) (.cons (.ret (.bl false)) .nil) .nil)
def tl_law2_5 : S := (.par 8 9 .pln .pln (.idx (.lst (.cons (.int 2) (.cons (.int 4) (.cons (.int 8) (.cons (.int 16) .nil))))) (.call 1 (.cons (.var 2) (.cons (.int 4) .nil)) .nil [])) (.bin .Add (.int 1) (.call 1 (.cons (.var 2) (.cons (.int 4) .nil)) .nil [])))
def tl_law2_6 : S := (.set 5 .pln (.call 4 (.cons (.var 2) (.cons (.bi .min2 (.cons (.var 9) (.cons (.var 8) .nil))) (.cons (.var 8) .nil))) .nil []))
def tl_law2_7 : S := (.par 3 10 .pln .pln (.bi .tuple (.cons (.comp (.name 11) (.seq (.var 5)) false .non e_law1) .nil)) (.int 1))
def tl_law2_8 : S := (.for_ (.name 6) (.range1 (.int 5)) l_law1)
def tl_law2_9 : S := (.set 7 .pln (.bi .sum (.cons (.comp (.name 11) (.seq (.var 5)) false .non e_law2) .nil)))
def tl_law2_10 : S := (.set 4 .pln (.call 3 (.cons (.var 7) (.cons (.call 2 (.cons (.var 10) .nil) .nil []) .nil)) .nil []))
def tl_law2_11 : S := (.ite (.or (.cmp .NotEq (.call 10 (.cons (.var 3) .nil) .nil []) (.var 4)) (.not (.call 11 (.cons (.call 35 (.cons (.var 3) .nil) .nil []) (.cons (.var 4) .nil)) .nil []))) (.cons (.ret (.bl false)) .nil) .nil)
theorem btl_law2 : l_law2 = (.cons tl_law2_1 (.cons tl_law2_2 (.cons tl_law2_3 (.cons tl_law2_4 (.cons tl_law2_5 (.cons tl_law2_6 (.cons tl_law2_7 (.cons tl_law2_8 (.cons tl_law2_9 (.cons tl_law2_10 (.cons tl_law2_11 .nil))))))))))) := rfl
def b_law : Ss := (.cons (.for_ (.name 1) (.range1 (.bi .max2 (.cons (.int 2) (.cons (.bi .min2 (.cons (.int 8) (.cons (.bi .len (.cons (.var 0) .nil)) .nil))) .nil)))) l_law2) (.cons (.ret (.bl true)) .nil))
noncomputable def g_law_deck : GE := ⟨[], consL⟩
noncomputable def F_law_deck : FnI := ⟨("_law_deck" : Str), [("script" : Str), ("k" : Str)], evF g_law_deck N_law_deck.length b_law_deck⟩
theorem ev_law_deck (as : List D) (st : Sto) : F_law_deck.sem as st = (evSs g_law_deck b_law_deck (as.map some ++ List.replicate (4 - as.length) none) st).fin := rfl
noncomputable def g_law_take : GE := ⟨[F_law_deck], consL⟩
noncomputable def F_law_take : FnI := ⟨("_law_take" : Str), [("deck" : Str), ("many" : Str)], evF g_law_take N_law_take.length b_law_take⟩
theorem ev_law_take (as : List D) (st : Sto) : F_law_take.sem as st = (evSs g_law_take b_law_take (as.map some ++ List.replicate (4 - as.length) none) st).fin := rfl
noncomputable def g_law_power : GE := ⟨[F_law_deck, F_law_take], consL⟩
noncomputable def F_law_power : FnI := ⟨("_law_power" : Str), [("many" : Str)], evF g_law_power N_law_power.length b_law_power⟩
theorem ev_law_power (as : List D) (st : Sto) : F_law_power.sem as st = (evSs g_law_power b_law_power (as.map some ++ List.replicate (3 - as.length) none) st).fin := rfl
noncomputable def g_law_number : GE := ⟨[F_law_deck, F_law_take, F_law_power], consL⟩
noncomputable def F_law_number : FnI := ⟨("_law_number" : Str), [("top" : Str), ("bottom" : Str)], evF g_law_number N_law_number.length b_law_number⟩
theorem ev_law_number (as : List D) (st : Sto) : F_law_number.sem as st = (evSs g_law_number b_law_number (as.map some ++ List.replicate (6 - as.length) none) st).fin := rfl
noncomputable def g_law_weights : GE := ⟨[F_law_deck, F_law_take, F_law_power, F_law_number], consL⟩
noncomputable def F_law_weights : FnI := ⟨("_law_weights" : Str), [("deck" : Str), ("n" : Str), ("total" : Str)], evF g_law_weights N_law_weights.length b_law_weights⟩
theorem ev_law_weights (as : List D) (st : Sto) : F_law_weights.sem as st = (evSs g_law_weights b_law_weights (as.map some ++ List.replicate (5 - as.length) none) st).fin := rfl
@[simp] theorem call_law_weights__law_take (xs zs : List D) (ord : List Nat) (st : Sto) : callK g_law_weights 1 ord xs zs st = (if xs.length + (permL ord zs).length = 2 then F_law_take.sem (xs ++ permL ord zs) st else .bad) := (rfl)
noncomputable def g_law_shares : GE := ⟨[F_law_deck, F_law_take, F_law_power, F_law_number, F_law_weights], consL⟩
noncomputable def F_law_shares : FnI := ⟨("_law_shares" : Str), [("deck" : Str), ("most" : Str)], evF g_law_shares N_law_shares.length b_law_shares⟩
theorem ev_law_shares (as : List D) (st : Sto) : F_law_shares.sem as st = (evSs g_law_shares b_law_shares (as.map some ++ List.replicate (10 - as.length) none) st).fin := rfl
@[simp] theorem call_law_shares__law_take (xs zs : List D) (ord : List Nat) (st : Sto) : callK g_law_shares 1 ord xs zs st = (if xs.length + (permL ord zs).length = 2 then F_law_take.sem (xs ++ permL ord zs) st else .bad) := (rfl)
@[simp] theorem call_law_shares__law_power (xs zs : List D) (ord : List Nat) (st : Sto) : callK g_law_shares 2 ord xs zs st = (if xs.length + (permL ord zs).length = 1 then F_law_power.sem (xs ++ permL ord zs) st else .bad) := (rfl)
@[simp] theorem call_law_shares__law_weights (xs zs : List D) (ord : List Nat) (st : Sto) : callK g_law_shares 4 ord xs zs st = (if xs.length + (permL ord zs).length = 3 then F_law_weights.sem (xs ++ permL ord zs) st else .bad) := (rfl)
@[simp] theorem call_law_shares__law_number (xs zs : List D) (ord : List Nat) (st : Sto) : callK g_law_shares 3 ord xs zs st = (if xs.length + (permL ord zs).length = 2 then F_law_number.sem (xs ++ permL ord zs) st else .bad) := (rfl)
noncomputable def g_law_times : GE := ⟨[F_law_deck, F_law_take, F_law_power, F_law_number, F_law_weights, F_law_shares], consL⟩
noncomputable def F_law_times : FnI := ⟨("_law_times" : Str), [("a" : Str), ("b" : Str)], evF g_law_times N_law_times.length b_law_times⟩
theorem ev_law_times (as : List D) (st : Sto) : F_law_times.sem as st = (evSs g_law_times b_law_times (as.map some ++ List.replicate (2 - as.length) none) st).fin := rfl
@[simp] theorem call_law_times__law_number (xs zs : List D) (ord : List Nat) (st : Sto) : callK g_law_times 3 ord xs zs st = (if xs.length + (permL ord zs).length = 2 then F_law_number.sem (xs ++ permL ord zs) st else .bad) := (rfl)
noncomputable def g_law_plus : GE := ⟨[F_law_deck, F_law_take, F_law_power, F_law_number, F_law_weights, F_law_shares, F_law_times], consL⟩
noncomputable def F_law_plus : FnI := ⟨("_law_plus" : Str), [("a" : Str), ("b" : Str)], evF g_law_plus N_law_plus.length b_law_plus⟩
theorem ev_law_plus (as : List D) (st : Sto) : F_law_plus.sem as st = (evSs g_law_plus b_law_plus (as.map some ++ List.replicate (2 - as.length) none) st).fin := rfl
@[simp] theorem call_law_plus__law_number (xs zs : List D) (ord : List Nat) (st : Sto) : callK g_law_plus 3 ord xs zs st = (if xs.length + (permL ord zs).length = 2 then F_law_number.sem (xs ++ permL ord zs) st else .bad) := (rfl)
noncomputable def g_law_sum : GE := ⟨[F_law_deck, F_law_take, F_law_power, F_law_number, F_law_weights, F_law_shares, F_law_times, F_law_plus], consL⟩
noncomputable def F_law_sum : FnI := ⟨("_law_sum" : Str), [("numbers" : Str)], evF g_law_sum N_law_sum.length b_law_sum⟩
theorem ev_law_sum (as : List D) (st : Sto) : F_law_sum.sem as st = (evSs g_law_sum b_law_sum (as.map some ++ List.replicate (3 - as.length) none) st).fin := rfl
@[simp] theorem call_law_sum__law_plus (xs zs : List D) (ord : List Nat) (st : Sto) : callK g_law_sum 7 ord xs zs st = (if xs.length + (permL ord zs).length = 2 then F_law_plus.sem (xs ++ permL ord zs) st else .bad) := (rfl)
noncomputable def g_law_tail : GE := ⟨[F_law_deck, F_law_take, F_law_power, F_law_number, F_law_weights, F_law_shares, F_law_times, F_law_plus, F_law_sum], consL⟩
noncomputable def F_law_tail : FnI := ⟨("_law_tail" : Str), [("parts_of" : Str), ("k" : Str)], evF g_law_tail N_law_tail.length b_law_tail⟩
theorem ev_law_tail (as : List D) (st : Sto) : F_law_tail.sem as st = (evSs g_law_tail b_law_tail (as.map some ++ List.replicate (5 - as.length) none) st).fin := rfl
@[simp] theorem call_law_tail__law_power (xs zs : List D) (ord : List Nat) (st : Sto) : callK g_law_tail 2 ord xs zs st = (if xs.length + (permL ord zs).length = 1 then F_law_power.sem (xs ++ permL ord zs) st else .bad) := (rfl)
@[simp] theorem call_law_tail__law_number (xs zs : List D) (ord : List Nat) (st : Sto) : callK g_law_tail 3 ord xs zs st = (if xs.length + (permL ord zs).length = 2 then F_law_number.sem (xs ++ permL ord zs) st else .bad) := (rfl)
@[simp] theorem call_law_tail__law_sum (xs zs : List D) (ord : List Nat) (st : Sto) : callK g_law_tail 8 ord xs zs st = (if xs.length + (permL ord zs).length = 1 then F_law_sum.sem (xs ++ permL ord zs) st else .bad) := (rfl)
noncomputable def g_law_least : GE := ⟨[F_law_deck, F_law_take, F_law_power, F_law_number, F_law_weights, F_law_shares, F_law_times, F_law_plus, F_law_sum, F_law_tail], consL⟩
noncomputable def F_law_least : FnI := ⟨("_law_least" : Str), [("parts_of" : Str)], evF g_law_least N_law_least.length b_law_least⟩
theorem ev_law_least (as : List D) (st : Sto) : F_law_least.sem as st = (evSs g_law_least b_law_least (as.map some ++ List.replicate (10 - as.length) none) st).fin := rfl
@[simp] theorem call_law_least__law_tail (xs zs : List D) (ord : List Nat) (st : Sto) : callK g_law_least 9 ord xs zs st = (if xs.length + (permL ord zs).length = 2 then F_law_tail.sem (xs ++ permL ord zs) st else .bad) := (rfl)
@[simp] theorem call_law_least__law_number (xs zs : List D) (ord : List Nat) (st : Sto) : callK g_law_least 3 ord xs zs st = (if xs.length + (permL ord zs).length = 2 then F_law_number.sem (xs ++ permL ord zs) st else .bad) := (rfl)
@[simp] theorem call_law_least__law_power (xs zs : List D) (ord : List Nat) (st : Sto) : callK g_law_least 2 ord xs zs st = (if xs.length + (permL ord zs).length = 1 then F_law_power.sem (xs ++ permL ord zs) st else .bad) := (rfl)
@[simp] theorem call_law_least__law_sum (xs zs : List D) (ord : List Nat) (st : Sto) : callK g_law_least 8 ord xs zs st = (if xs.length + (permL ord zs).length = 1 then F_law_sum.sem (xs ++ permL ord zs) st else .bad) := (rfl)
@[simp] theorem call_law_least__law_times (xs zs : List D) (ord : List Nat) (st : Sto) : callK g_law_least 6 ord xs zs st = (if xs.length + (permL ord zs).length = 2 then F_law_times.sem (xs ++ permL ord zs) st else .bad) := (rfl)
@[simp] theorem call_law_least__law_plus (xs zs : List D) (ord : List Nat) (st : Sto) : callK g_law_least 7 ord xs zs st = (if xs.length + (permL ord zs).length = 2 then F_law_plus.sem (xs ++ permL ord zs) st else .bad) := (rfl)
noncomputable def s_law_same : Nat → List D → Sto → R D
  | 0 => fun _ _ => .bad
  | k + 1 => evF ⟨[F_law_deck, F_law_take, F_law_power, F_law_number, F_law_weights, F_law_shares, F_law_times, F_law_plus, F_law_sum, F_law_tail, F_law_least] ++ [⟨("_law_same" : Str), [("found" : Str), ("due" : Str)], s_law_same k⟩], consL⟩ N_law_same.length b_law_same
noncomputable def F_law_same : FnI := ⟨("_law_same" : Str), [("found" : Str), ("due" : Str)], s_law_same 12⟩
noncomputable def g_law_same (k : Nat) : GE := ⟨[F_law_deck, F_law_take, F_law_power, F_law_number, F_law_weights, F_law_shares, F_law_times, F_law_plus, F_law_sum, F_law_tail, F_law_least] ++ [⟨("_law_same" : Str), [("found" : Str), ("due" : Str)], s_law_same k⟩], consL⟩
theorem ev_law_same (k : Nat) (as : List D) (st : Sto) : s_law_same (k + 1) as st = (evSs (g_law_same k) b_law_same (as.map some ++ List.replicate (4 - as.length) none) st).fin := rfl
@[simp] theorem call_law_same__law_same (k : Nat) (xs zs : List D) (ord : List Nat) (st : Sto) : callK (g_law_same k) 11 ord xs zs st = (if xs.length + (permL ord zs).length = 2 then s_law_same k (xs ++ permL ord zs) st else .bad) := (rfl)
noncomputable def s_law_cheapest : Nat → List D → Sto → R D
  | 0 => fun _ _ => .bad
  | k + 1 => evF ⟨[F_law_deck, F_law_take, F_law_power, F_law_number, F_law_weights, F_law_shares, F_law_times, F_law_plus, F_law_sum, F_law_tail, F_law_least, F_law_same] ++ [⟨("_law_cheapest" : Str), [("left" : Str), ("k" : Str), ("deep" : Str)], s_law_cheapest k⟩], consL⟩ N_law_cheapest.length b_law_cheapest
noncomputable def F_law_cheapest : FnI := ⟨("_law_cheapest" : Str), [("left" : Str), ("k" : Str), ("deep" : Str)], s_law_cheapest 12⟩
noncomputable def g_law_cheapest (k : Nat) : GE := ⟨[F_law_deck, F_law_take, F_law_power, F_law_number, F_law_weights, F_law_shares, F_law_times, F_law_plus, F_law_sum, F_law_tail, F_law_least, F_law_same] ++ [⟨("_law_cheapest" : Str), [("left" : Str), ("k" : Str), ("deep" : Str)], s_law_cheapest k⟩], consL⟩
theorem ev_law_cheapest (k : Nat) (as : List D) (st : Sto) : s_law_cheapest (k + 1) as st = (evSs (g_law_cheapest k) b_law_cheapest (as.map some ++ List.replicate (6 - as.length) none) st).fin := rfl
@[simp] theorem call_law_cheapest__law_power (k : Nat) (xs zs : List D) (ord : List Nat) (st : Sto) : callK (g_law_cheapest k) 2 ord xs zs st = (if xs.length + (permL ord zs).length = 1 then F_law_power.sem (xs ++ permL ord zs) st else .bad) := (rfl)
@[simp] theorem call_law_cheapest__law_cheapest (k : Nat) (xs zs : List D) (ord : List Nat) (st : Sto) : callK (g_law_cheapest k) 12 ord xs zs st = (if xs.length + (permL ord zs).length = 3 then s_law_cheapest k (xs ++ permL ord zs) st else .bad) := (rfl)
noncomputable def g_lowest : GE := ⟨[F_law_deck, F_law_take, F_law_power, F_law_number, F_law_weights, F_law_shares, F_law_times, F_law_plus, F_law_sum, F_law_tail, F_law_least, F_law_same, F_law_cheapest], consL⟩
noncomputable def F_lowest : FnI := ⟨("lowest" : Str), [("top" : Str), ("bottom" : Str)], evF g_lowest N_lowest.length b_lowest⟩
theorem ev_lowest (as : List D) (st : Sto) : F_lowest.sem as st = (evSs g_lowest b_lowest (as.map some ++ List.replicate (3 - as.length) none) st).fin := rfl
noncomputable def g_sum_of_two : GE := ⟨[F_law_deck, F_law_take, F_law_power, F_law_number, F_law_weights, F_law_shares, F_law_times, F_law_plus, F_law_sum, F_law_tail, F_law_least, F_law_same, F_law_cheapest, F_lowest], consL⟩
noncomputable def F_sum_of_two : FnI := ⟨("sum_of_two" : Str), [("a" : Str), ("b" : Str)], evF g_sum_of_two N_sum_of_two.length b_sum_of_two⟩
theorem ev_sum_of_two (as : List D) (st : Sto) : F_sum_of_two.sem as st = (evSs g_sum_of_two b_sum_of_two (as.map some ++ List.replicate (2 - as.length) none) st).fin := rfl
@[simp] theorem call_sum_of_two__lowest (xs zs : List D) (ord : List Nat) (st : Sto) : callK g_sum_of_two 13 ord xs zs st = (if xs.length + (permL ord zs).length = 2 then F_lowest.sem (xs ++ permL ord zs) st else .bad) := (rfl)
noncomputable def g_sum_of_all : GE := ⟨[F_law_deck, F_law_take, F_law_power, F_law_number, F_law_weights, F_law_shares, F_law_times, F_law_plus, F_law_sum, F_law_tail, F_law_least, F_law_same, F_law_cheapest, F_lowest, F_sum_of_two], consL⟩
noncomputable def F_sum_of_all : FnI := ⟨("sum_of_all" : Str), [("numbers" : Str)], evF g_sum_of_all N_sum_of_all.length b_sum_of_all⟩
theorem ev_sum_of_all (as : List D) (st : Sto) : F_sum_of_all.sem as st = (evSs g_sum_of_all b_sum_of_all (as.map some ++ List.replicate (3 - as.length) none) st).fin := rfl
@[simp] theorem call_sum_of_all__sum_of_two (xs zs : List D) (ord : List Nat) (st : Sto) : callK g_sum_of_all 14 ord xs zs st = (if xs.length + (permL ord zs).length = 2 then F_sum_of_two.sem (xs ++ permL ord zs) st else .bad) := (rfl)
@[simp] theorem glob_sum_of_all_ZERO : (g_sum_of_all.cons[0]?).map (·.2) = some (.tup [(.int 0), (.int 1)]) := (rfl)
noncomputable def g_is_pair : GE := ⟨[F_law_deck, F_law_take, F_law_power, F_law_number, F_law_weights, F_law_shares, F_law_times, F_law_plus, F_law_sum, F_law_tail, F_law_least, F_law_same, F_law_cheapest, F_lowest, F_sum_of_two, F_sum_of_all], consL⟩
noncomputable def F_is_pair : FnI := ⟨("is_pair" : Str), [("value" : Str)], evF g_is_pair N_is_pair.length b_is_pair⟩
theorem ev_is_pair (as : List D) (st : Sto) : F_is_pair.sem as st = (evSs g_is_pair b_is_pair (as.map some ++ List.replicate (1 - as.length) none) st).fin := rfl
noncomputable def g_is_integer : GE := ⟨[F_law_deck, F_law_take, F_law_power, F_law_number, F_law_weights, F_law_shares, F_law_times, F_law_plus, F_law_sum, F_law_tail, F_law_least, F_law_same, F_law_cheapest, F_lowest, F_sum_of_two, F_sum_of_all, F_is_pair], consL⟩
noncomputable def F_is_integer : FnI := ⟨("is_integer" : Str), [("value" : Str)], evF g_is_integer N_is_integer.length b_is_integer⟩
theorem ev_is_integer (as : List D) (st : Sto) : F_is_integer.sem as st = (evSs g_is_integer b_is_integer (as.map some ++ List.replicate (1 - as.length) none) st).fin := rfl
noncomputable def g_is_number_of : GE := ⟨[F_law_deck, F_law_take, F_law_power, F_law_number, F_law_weights, F_law_shares, F_law_times, F_law_plus, F_law_sum, F_law_tail, F_law_least, F_law_same, F_law_cheapest, F_lowest, F_sum_of_two, F_sum_of_all, F_is_pair, F_is_integer], consL⟩
noncomputable def F_is_number_of : FnI := ⟨("is_number_of" : Str), [("told" : Str)], evF g_is_number_of N_is_number_of.length b_is_number_of⟩
theorem ev_is_number_of (as : List D) (st : Sto) : F_is_number_of.sem as st = (evSs g_is_number_of b_is_number_of (as.map some ++ List.replicate (1 - as.length) none) st).fin := rfl
@[simp] theorem call_is_number_of__is_pair (xs zs : List D) (ord : List Nat) (st : Sto) : callK g_is_number_of 16 ord xs zs st = (if xs.length + (permL ord zs).length = 1 then F_is_pair.sem (xs ++ permL ord zs) st else .bad) := (rfl)
@[simp] theorem call_is_number_of__is_integer (xs zs : List D) (ord : List Nat) (st : Sto) : callK g_is_number_of 17 ord xs zs st = (if xs.length + (permL ord zs).length = 1 then F_is_integer.sem (xs ++ permL ord zs) st else .bad) := (rfl)
@[simp] theorem call_is_number_of__lowest (xs zs : List D) (ord : List Nat) (st : Sto) : callK g_is_number_of 13 ord xs zs st = (if xs.length + (permL ord zs).length = 2 then F_lowest.sem (xs ++ permL ord zs) st else .bad) := (rfl)
noncomputable def g_is_shares_of : GE := ⟨[F_law_deck, F_law_take, F_law_power, F_law_number, F_law_weights, F_law_shares, F_law_times, F_law_plus, F_law_sum, F_law_tail, F_law_least, F_law_same, F_law_cheapest, F_lowest, F_sum_of_two, F_sum_of_all, F_is_pair, F_is_integer, F_is_number_of], consL⟩
noncomputable def F_is_shares_of : FnI := ⟨("is_shares_of" : Str), [("told" : Str)], evF g_is_shares_of N_is_shares_of.length b_is_shares_of⟩
theorem ev_is_shares_of (as : List D) (st : Sto) : F_is_shares_of.sem as st = (evSs g_is_shares_of b_is_shares_of (as.map some ++ List.replicate (2 - as.length) none) st).fin := rfl
@[simp] theorem call_is_shares_of__is_number_of (xs zs : List D) (ord : List Nat) (st : Sto) : callK g_is_shares_of 18 ord xs zs st = (if xs.length + (permL ord zs).length = 1 then F_is_number_of.sem (xs ++ permL ord zs) st else .bad) := (rfl)
@[simp] theorem call_is_shares_of__sum_of_all (xs zs : List D) (ord : List Nat) (st : Sto) : callK g_is_shares_of 15 ord xs zs st = (if xs.length + (permL ord zs).length = 1 then F_sum_of_all.sem (xs ++ permL ord zs) st else .bad) := (rfl)
@[simp] theorem glob_is_shares_of_ONE : (g_is_shares_of.cons[1]?).map (·.2) = some (.tup [(.int 1), (.int 1)]) := (rfl)
noncomputable def g_check_shares : GE := ⟨[F_law_deck, F_law_take, F_law_power, F_law_number, F_law_weights, F_law_shares, F_law_times, F_law_plus, F_law_sum, F_law_tail, F_law_least, F_law_same, F_law_cheapest, F_lowest, F_sum_of_two, F_sum_of_all, F_is_pair, F_is_integer, F_is_number_of, F_is_shares_of], consL⟩
noncomputable def F_check_shares : FnI := ⟨("check_shares" : Str), [("shares" : Str)], evF g_check_shares N_check_shares.length b_check_shares⟩
theorem ev_check_shares (as : List D) (st : Sto) : F_check_shares.sem as st = (evSs g_check_shares b_check_shares (as.map some ++ List.replicate (1 - as.length) none) st).fin := rfl
@[simp] theorem call_check_shares__is_shares_of (xs zs : List D) (ord : List Nat) (st : Sto) : callK g_check_shares 19 ord xs zs st = (if xs.length + (permL ord zs).length = 1 then F_is_shares_of.sem (xs ++ permL ord zs) st else .bad) := (rfl)
noncomputable def g_shortest : GE := ⟨[F_law_deck, F_law_take, F_law_power, F_law_number, F_law_weights, F_law_shares, F_law_times, F_law_plus, F_law_sum, F_law_tail, F_law_least, F_law_same, F_law_cheapest, F_lowest, F_sum_of_two, F_sum_of_all, F_is_pair, F_is_integer, F_is_number_of, F_is_shares_of, F_check_shares], consL⟩
noncomputable def F_shortest : FnI := ⟨("shortest" : Str), [("ahead" : Str), ("again" : Str)], evF g_shortest N_shortest.length b_shortest⟩
theorem ev_shortest (as : List D) (st : Sto) : F_shortest.sem as st = (evSs g_shortest b_shortest (as.map some ++ List.replicate (3 - as.length) none) st).fin := rfl
noncomputable def g_power : GE := ⟨[F_law_deck, F_law_take, F_law_power, F_law_number, F_law_weights, F_law_shares, F_law_times, F_law_plus, F_law_sum, F_law_tail, F_law_least, F_law_same, F_law_cheapest, F_lowest, F_sum_of_two, F_sum_of_all, F_is_pair, F_is_integer, F_is_number_of, F_is_shares_of, F_check_shares, F_shortest], consL⟩
noncomputable def F_power : FnI := ⟨("power" : Str), [("b" : Str), ("n" : Str)], evF g_power N_power.length b_power⟩
theorem ev_power (as : List D) (st : Sto) : F_power.sem as st = (evSs g_power b_power (as.map some ++ List.replicate (4 - as.length) none) st).fin := rfl
noncomputable def g_rest_of : GE := ⟨[F_law_deck, F_law_take, F_law_power, F_law_number, F_law_weights, F_law_shares, F_law_times, F_law_plus, F_law_sum, F_law_tail, F_law_least, F_law_same, F_law_cheapest, F_lowest, F_sum_of_two, F_sum_of_all, F_is_pair, F_is_integer, F_is_number_of, F_is_shares_of, F_check_shares, F_shortest, F_power], consL⟩
noncomputable def F_rest_of : FnI := ⟨("rest_of" : Str), [("number" : Str), ("k" : Str)], evF g_rest_of N_rest_of.length b_rest_of⟩
theorem ev_rest_of (as : List D) (st : Sto) : F_rest_of.sem as st = (evSs g_rest_of b_rest_of (as.map some ++ List.replicate (4 - as.length) none) st).fin := rfl
@[simp] theorem call_rest_of__power (xs zs : List D) (ord : List Nat) (st : Sto) : callK g_rest_of 22 ord xs zs st = (if xs.length + (permL ord zs).length = 2 then F_power.sem (xs ++ permL ord zs) st else .bad) := (rfl)
@[simp] theorem call_rest_of__lowest (xs zs : List D) (ord : List Nat) (st : Sto) : callK g_rest_of 13 ord xs zs st = (if xs.length + (permL ord zs).length = 2 then F_lowest.sem (xs ++ permL ord zs) st else .bad) := (rfl)
noncomputable def g_product : GE := ⟨[F_law_deck, F_law_take, F_law_power, F_law_number, F_law_weights, F_law_shares, F_law_times, F_law_plus, F_law_sum, F_law_tail, F_law_least, F_law_same, F_law_cheapest, F_lowest, F_sum_of_two, F_sum_of_all, F_is_pair, F_is_integer, F_is_number_of, F_is_shares_of, F_check_shares, F_shortest, F_power, F_rest_of], consL⟩
noncomputable def F_product : FnI := ⟨("product" : Str), [("a" : Str), ("b" : Str)], evF g_product N_product.length b_product⟩
theorem ev_product (as : List D) (st : Sto) : F_product.sem as st = (evSs g_product b_product (as.map some ++ List.replicate (2 - as.length) none) st).fin := rfl
@[simp] theorem call_product__lowest (xs zs : List D) (ord : List Nat) (st : Sto) : callK g_product 13 ord xs zs st = (if xs.length + (permL ord zs).length = 2 then F_lowest.sem (xs ++ permL ord zs) st else .bad) := (rfl)
noncomputable def g_figure_of : GE := ⟨[F_law_deck, F_law_take, F_law_power, F_law_number, F_law_weights, F_law_shares, F_law_times, F_law_plus, F_law_sum, F_law_tail, F_law_least, F_law_same, F_law_cheapest, F_lowest, F_sum_of_two, F_sum_of_all, F_is_pair, F_is_integer, F_is_number_of, F_is_shares_of, F_check_shares, F_shortest, F_power, F_rest_of, F_product], consL⟩
noncomputable def F_figure_of : FnI := ⟨("figure_of" : Str), [("number" : Str), ("k" : Str)], evF g_figure_of N_figure_of.length b_figure_of⟩
theorem ev_figure_of (as : List D) (st : Sto) : F_figure_of.sem as st = (evSs g_figure_of b_figure_of (as.map some ++ List.replicate (4 - as.length) none) st).fin := rfl
@[simp] theorem call_figure_of__power (xs zs : List D) (ord : List Nat) (st : Sto) : callK g_figure_of 22 ord xs zs st = (if xs.length + (permL ord zs).length = 2 then F_power.sem (xs ++ permL ord zs) st else .bad) := (rfl)
noncomputable def g_whole : GE := ⟨[F_law_deck, F_law_take, F_law_power, F_law_number, F_law_weights, F_law_shares, F_law_times, F_law_plus, F_law_sum, F_law_tail, F_law_least, F_law_same, F_law_cheapest, F_lowest, F_sum_of_two, F_sum_of_all, F_is_pair, F_is_integer, F_is_number_of, F_is_shares_of, F_check_shares, F_shortest, F_power, F_rest_of, F_product, F_figure_of], consL⟩
noncomputable def F_whole : FnI := ⟨("whole" : Str), [("a" : Str)], evF g_whole N_whole.length b_whole⟩
theorem ev_whole (as : List D) (st : Sto) : F_whole.sem as st = (evSs g_whole b_whole (as.map some ++ List.replicate (1 - as.length) none) st).fin := rfl
noncomputable def g_is_less : GE := ⟨[F_law_deck, F_law_take, F_law_power, F_law_number, F_law_weights, F_law_shares, F_law_times, F_law_plus, F_law_sum, F_law_tail, F_law_least, F_law_same, F_law_cheapest, F_lowest, F_sum_of_two, F_sum_of_all, F_is_pair, F_is_integer, F_is_number_of, F_is_shares_of, F_check_shares, F_shortest, F_power, F_rest_of, F_product, F_figure_of, F_whole], consL⟩
noncomputable def F_is_less : FnI := ⟨("is_less" : Str), [("a" : Str), ("b" : Str)], evF g_is_less N_is_less.length b_is_less⟩
theorem ev_is_less (as : List D) (st : Sto) : F_is_less.sem as st = (evSs g_is_less b_is_less (as.map some ++ List.replicate (2 - as.length) none) st).fin := rfl
noncomputable def g_figures_of : GE := ⟨[F_law_deck, F_law_take, F_law_power, F_law_number, F_law_weights, F_law_shares, F_law_times, F_law_plus, F_law_sum, F_law_tail, F_law_least, F_law_same, F_law_cheapest, F_lowest, F_sum_of_two, F_sum_of_all, F_is_pair, F_is_integer, F_is_number_of, F_is_shares_of, F_check_shares, F_shortest, F_power, F_rest_of, F_product, F_figure_of, F_whole, F_is_less], consL⟩
noncomputable def F_figures_of : FnI := ⟨("figures_of" : Str), [("number" : Str)], evF g_figures_of N_figures_of.length b_figures_of⟩
theorem ev_figures_of (as : List D) (st : Sto) : F_figures_of.sem as st = (evSs g_figures_of b_figures_of (as.map some ++ List.replicate (7 - as.length) none) st).fin := rfl
@[simp] theorem call_figures_of__figure_of (xs zs : List D) (ord : List Nat) (st : Sto) : callK g_figures_of 25 ord xs zs st = (if xs.length + (permL ord zs).length = 2 then F_figure_of.sem (xs ++ permL ord zs) st else .bad) := (rfl)
@[simp] theorem call_figures_of__rest_of (xs zs : List D) (ord : List Nat) (st : Sto) : callK g_figures_of 23 ord xs zs st = (if xs.length + (permL ord zs).length = 2 then F_rest_of.sem (xs ++ permL ord zs) st else .bad) := (rfl)
@[simp] theorem call_figures_of__whole (xs zs : List D) (ord : List Nat) (st : Sto) : callK g_figures_of 26 ord xs zs st = (if xs.length + (permL ord zs).length = 1 then F_whole.sem (xs ++ permL ord zs) st else .bad) := (rfl)
@[simp] theorem call_figures_of__product (xs zs : List D) (ord : List Nat) (st : Sto) : callK g_figures_of 24 ord xs zs st = (if xs.length + (permL ord zs).length = 2 then F_product.sem (xs ++ permL ord zs) st else .bad) := (rfl)
@[simp] theorem call_figures_of__is_less (xs zs : List D) (ord : List Nat) (st : Sto) : callK g_figures_of 27 ord xs zs st = (if xs.length + (permL ord zs).length = 2 then F_is_less.sem (xs ++ permL ord zs) st else .bad) := (rfl)
@[simp] theorem call_figures_of__shortest (xs zs : List D) (ord : List Nat) (st : Sto) : callK g_figures_of 21 ord xs zs st = (if xs.length + (permL ord zs).length = 2 then F_shortest.sem (xs ++ permL ord zs) st else .bad) := (rfl)
@[simp] theorem glob_figures_of_ONE : (g_figures_of.cons[1]?).map (·.2) = some (.tup [(.int 1), (.int 1)]) := (rfl)
noncomputable def g_quotient : GE := ⟨[F_law_deck, F_law_take, F_law_power, F_law_number, F_law_weights, F_law_shares, F_law_times, F_law_plus, F_law_sum, F_law_tail, F_law_least, F_law_same, F_law_cheapest, F_lowest, F_sum_of_two, F_sum_of_all, F_is_pair, F_is_integer, F_is_number_of, F_is_shares_of, F_check_shares, F_shortest, F_power, F_rest_of, F_product, F_figure_of, F_whole, F_is_less, F_figures_of], consL⟩
noncomputable def F_quotient : FnI := ⟨("quotient" : Str), [("a" : Str), ("b" : Str)], evF g_quotient N_quotient.length b_quotient⟩
theorem ev_quotient (as : List D) (st : Sto) : F_quotient.sem as st = (evSs g_quotient b_quotient (as.map some ++ List.replicate (2 - as.length) none) st).fin := rfl
@[simp] theorem call_quotient__lowest (xs zs : List D) (ord : List Nat) (st : Sto) : callK g_quotient 13 ord xs zs st = (if xs.length + (permL ord zs).length = 2 then F_lowest.sem (xs ++ permL ord zs) st else .bad) := (rfl)
noncomputable def g_again_and_again : GE := ⟨[F_law_deck, F_law_take, F_law_power, F_law_number, F_law_weights, F_law_shares, F_law_times, F_law_plus, F_law_sum, F_law_tail, F_law_least, F_law_same, F_law_cheapest, F_lowest, F_sum_of_two, F_sum_of_all, F_is_pair, F_is_integer, F_is_number_of, F_is_shares_of, F_check_shares, F_shortest, F_power, F_rest_of, F_product, F_figure_of, F_whole, F_is_less, F_figures_of, F_quotient], consL⟩
noncomputable def F_again_and_again : FnI := ⟨("again_and_again" : Str), [("first" : Str), ("many" : Str)], evF g_again_and_again N_again_and_again.length b_again_and_again⟩
theorem ev_again_and_again (as : List D) (st : Sto) : F_again_and_again.sem as st = (evSs g_again_and_again b_again_and_again (as.map some ++ List.replicate (2 - as.length) none) st).fin := rfl
@[simp] theorem call_again_and_again__power (xs zs : List D) (ord : List Nat) (st : Sto) : callK g_again_and_again 22 ord xs zs st = (if xs.length + (permL ord zs).length = 2 then F_power.sem (xs ++ permL ord zs) st else .bad) := (rfl)
@[simp] theorem call_again_and_again__lowest (xs zs : List D) (ord : List Nat) (st : Sto) : callK g_again_and_again 13 ord xs zs st = (if xs.length + (permL ord zs).length = 2 then F_lowest.sem (xs ++ permL ord zs) st else .bad) := (rfl)
@[simp] theorem call_again_and_again__quotient (xs zs : List D) (ord : List Nat) (st : Sto) : callK g_again_and_again 29 ord xs zs st = (if xs.length + (permL ord zs).length = 2 then F_quotient.sem (xs ++ permL ord zs) st else .bad) := (rfl)
noncomputable def g_by_halves : GE := ⟨[F_law_deck, F_law_take, F_law_power, F_law_number, F_law_weights, F_law_shares, F_law_times, F_law_plus, F_law_sum, F_law_tail, F_law_least, F_law_same, F_law_cheapest, F_lowest, F_sum_of_two, F_sum_of_all, F_is_pair, F_is_integer, F_is_number_of, F_is_shares_of, F_check_shares, F_shortest, F_power, F_rest_of, F_product, F_figure_of, F_whole, F_is_less, F_figures_of, F_quotient, F_again_and_again], consL⟩
noncomputable def F_by_halves : FnI := ⟨("by_halves" : Str), [("a" : Str), ("k" : Str)], evF g_by_halves N_by_halves.length b_by_halves⟩
theorem ev_by_halves (as : List D) (st : Sto) : F_by_halves.sem as st = (evSs g_by_halves b_by_halves (as.map some ++ List.replicate (2 - as.length) none) st).fin := rfl
@[simp] theorem call_by_halves__power (xs zs : List D) (ord : List Nat) (st : Sto) : callK g_by_halves 22 ord xs zs st = (if xs.length + (permL ord zs).length = 2 then F_power.sem (xs ++ permL ord zs) st else .bad) := (rfl)
@[simp] theorem call_by_halves__lowest (xs zs : List D) (ord : List Nat) (st : Sto) : callK g_by_halves 13 ord xs zs st = (if xs.length + (permL ord zs).length = 2 then F_lowest.sem (xs ++ permL ord zs) st else .bad) := (rfl)
noncomputable def g_sum_of_figures : GE := ⟨[F_law_deck, F_law_take, F_law_power, F_law_number, F_law_weights, F_law_shares, F_law_times, F_law_plus, F_law_sum, F_law_tail, F_law_least, F_law_same, F_law_cheapest, F_lowest, F_sum_of_two, F_sum_of_all, F_is_pair, F_is_integer, F_is_number_of, F_is_shares_of, F_check_shares, F_shortest, F_power, F_rest_of, F_product, F_figure_of, F_whole, F_is_less, F_figures_of, F_quotient, F_again_and_again, F_by_halves], consL⟩
noncomputable def F_sum_of_figures : FnI := ⟨("sum_of_figures" : Str), [("some" : Str), ("begin" : Str)], evF g_sum_of_figures N_sum_of_figures.length b_sum_of_figures⟩
theorem ev_sum_of_figures (as : List D) (st : Sto) : F_sum_of_figures.sem as st = (evSs g_sum_of_figures b_sum_of_figures (as.map some ++ List.replicate (4 - as.length) none) st).fin := rfl
@[simp] theorem call_sum_of_figures__whole (xs zs : List D) (ord : List Nat) (st : Sto) : callK g_sum_of_figures 26 ord xs zs st = (if xs.length + (permL ord zs).length = 1 then F_whole.sem (xs ++ permL ord zs) st else .bad) := (rfl)
@[simp] theorem call_sum_of_figures__by_halves (xs zs : List D) (ord : List Nat) (st : Sto) : callK g_sum_of_figures 31 ord xs zs st = (if xs.length + (permL ord zs).length = 2 then F_by_halves.sem (xs ++ permL ord zs) st else .bad) := (rfl)
@[simp] theorem call_sum_of_figures__sum_of_all (xs zs : List D) (ord : List Nat) (st : Sto) : callK g_sum_of_figures 15 ord xs zs st = (if xs.length + (permL ord zs).length = 1 then F_sum_of_all.sem (xs ++ permL ord zs) st else .bad) := (rfl)
noncomputable def g_cost_of : GE := ⟨[F_law_deck, F_law_take, F_law_power, F_law_number, F_law_weights, F_law_shares, F_law_times, F_law_plus, F_law_sum, F_law_tail, F_law_least, F_law_same, F_law_cheapest, F_lowest, F_sum_of_two, F_sum_of_all, F_is_pair, F_is_integer, F_is_number_of, F_is_shares_of, F_check_shares, F_shortest, F_power, F_rest_of, F_product, F_figure_of, F_whole, F_is_less, F_figures_of, F_quotient, F_again_and_again, F_by_halves, F_sum_of_figures], consL⟩
noncomputable def F_cost_of : FnI := ⟨("cost_of" : Str), [("number" : Str)], evF g_cost_of N_cost_of.length b_cost_of⟩
theorem ev_cost_of (as : List D) (st : Sto) : F_cost_of.sem as st = (evSs g_cost_of b_cost_of (as.map some ++ List.replicate (11 - as.length) none) st).fin := rfl
@[simp] theorem call_cost_of__figures_of (xs zs : List D) (ord : List Nat) (st : Sto) : callK g_cost_of 28 ord xs zs st = (if xs.length + (permL ord zs).length = 1 then F_figures_of.sem (xs ++ permL ord zs) st else .bad) := (rfl)
@[simp] theorem call_cost_of__whole (xs zs : List D) (ord : List Nat) (st : Sto) : callK g_cost_of 26 ord xs zs st = (if xs.length + (permL ord zs).length = 1 then F_whole.sem (xs ++ permL ord zs) st else .bad) := (rfl)
@[simp] theorem call_cost_of__by_halves (xs zs : List D) (ord : List Nat) (st : Sto) : callK g_cost_of 31 ord xs zs st = (if xs.length + (permL ord zs).length = 2 then F_by_halves.sem (xs ++ permL ord zs) st else .bad) := (rfl)
@[simp] theorem call_cost_of__sum_of_all (xs zs : List D) (ord : List Nat) (st : Sto) : callK g_cost_of 15 ord xs zs st = (if xs.length + (permL ord zs).length = 1 then F_sum_of_all.sem (xs ++ permL ord zs) st else .bad) := (rfl)
@[simp] theorem call_cost_of__sum_of_two (xs zs : List D) (ord : List Nat) (st : Sto) : callK g_cost_of 14 ord xs zs st = (if xs.length + (permL ord zs).length = 2 then F_sum_of_two.sem (xs ++ permL ord zs) st else .bad) := (rfl)
@[simp] theorem call_cost_of__sum_of_figures (xs zs : List D) (ord : List Nat) (st : Sto) : callK g_cost_of 32 ord xs zs st = (if xs.length + (permL ord zs).length = 2 then F_sum_of_figures.sem (xs ++ permL ord zs) st else .bad) := (rfl)
@[simp] theorem call_cost_of__again_and_again (xs zs : List D) (ord : List Nat) (st : Sto) : callK g_cost_of 30 ord xs zs st = (if xs.length + (permL ord zs).length = 2 then F_again_and_again.sem (xs ++ permL ord zs) st else .bad) := (rfl)
@[simp] theorem call_cost_of__product (xs zs : List D) (ord : List Nat) (st : Sto) : callK g_cost_of 24 ord xs zs st = (if xs.length + (permL ord zs).length = 2 then F_product.sem (xs ++ permL ord zs) st else .bad) := (rfl)
@[simp] theorem call_cost_of__power (xs zs : List D) (ord : List Nat) (st : Sto) : callK g_cost_of 22 ord xs zs st = (if xs.length + (permL ord zs).length = 2 then F_power.sem (xs ++ permL ord zs) st else .bad) := (rfl)
@[simp] theorem call_cost_of__quotient (xs zs : List D) (ord : List Nat) (st : Sto) : callK g_cost_of 29 ord xs zs st = (if xs.length + (permL ord zs).length = 2 then F_quotient.sem (xs ++ permL ord zs) st else .bad) := (rfl)
@[simp] theorem glob_cost_of_ZERO : (g_cost_of.cons[0]?).map (·.2) = some (.tup [(.int 0), (.int 1)]) := (rfl)
noncomputable def g_least_mean_of : GE := ⟨[F_law_deck, F_law_take, F_law_power, F_law_number, F_law_weights, F_law_shares, F_law_times, F_law_plus, F_law_sum, F_law_tail, F_law_least, F_law_same, F_law_cheapest, F_lowest, F_sum_of_two, F_sum_of_all, F_is_pair, F_is_integer, F_is_number_of, F_is_shares_of, F_check_shares, F_shortest, F_power, F_rest_of, F_product, F_figure_of, F_whole, F_is_less, F_figures_of, F_quotient, F_again_and_again, F_by_halves, F_sum_of_figures, F_cost_of], consL⟩
noncomputable def F_least_mean_of : FnI := ⟨("least_mean_of" : Str), [("shares" : Str)], evF g_least_mean_of N_least_mean_of.length b_least_mean_of⟩
theorem ev_least_mean_of (as : List D) (st : Sto) : F_least_mean_of.sem as st = (evSs g_least_mean_of b_least_mean_of (as.map some ++ List.replicate (2 - as.length) none) st).fin := rfl
@[simp] theorem call_least_mean_of__cost_of (xs zs : List D) (ord : List Nat) (st : Sto) : callK g_least_mean_of 33 ord xs zs st = (if xs.length + (permL ord zs).length = 1 then F_cost_of.sem (xs ++ permL ord zs) st else .bad) := (rfl)
@[simp] theorem call_least_mean_of__sum_of_all (xs zs : List D) (ord : List Nat) (st : Sto) : callK g_least_mean_of 15 ord xs zs st = (if xs.length + (permL ord zs).length = 1 then F_sum_of_all.sem (xs ++ permL ord zs) st else .bad) := (rfl)
noncomputable def g_least_mean : GE := ⟨[F_law_deck, F_law_take, F_law_power, F_law_number, F_law_weights, F_law_shares, F_law_times, F_law_plus, F_law_sum, F_law_tail, F_law_least, F_law_same, F_law_cheapest, F_lowest, F_sum_of_two, F_sum_of_all, F_is_pair, F_is_integer, F_is_number_of, F_is_shares_of, F_check_shares, F_shortest, F_power, F_rest_of, F_product, F_figure_of, F_whole, F_is_less, F_figures_of, F_quotient, F_again_and_again, F_by_halves, F_sum_of_figures, F_cost_of, F_least_mean_of], consL⟩
noncomputable def F_least_mean : FnI := ⟨("least_mean" : Str), [("shares" : Str)], evF g_least_mean N_least_mean.length b_least_mean⟩
theorem ev_least_mean (as : List D) (st : Sto) : F_least_mean.sem as st = (evSs g_least_mean b_least_mean (as.map some ++ List.replicate (1 - as.length) none) st).fin := rfl
@[simp] theorem call_least_mean__check_shares (xs zs : List D) (ord : List Nat) (st : Sto) : callK g_least_mean 20 ord xs zs st = (if xs.length + (permL ord zs).length = 1 then F_check_shares.sem (xs ++ permL ord zs) st else .bad) := (rfl)
@[simp] theorem call_least_mean__least_mean_of (xs zs : List D) (ord : List Nat) (st : Sto) : callK g_least_mean 34 ord xs zs st = (if xs.length + (permL ord zs).length = 1 then F_least_mean_of.sem (xs ++ permL ord zs) st else .bad) := (rfl)
noncomputable def g_law : GE := ⟨[F_law_deck, F_law_take, F_law_power, F_law_number, F_law_weights, F_law_shares, F_law_times, F_law_plus, F_law_sum, F_law_tail, F_law_least, F_law_same, F_law_cheapest, F_lowest, F_sum_of_two, F_sum_of_all, F_is_pair, F_is_integer, F_is_number_of, F_is_shares_of, F_check_shares, F_shortest, F_power, F_rest_of, F_product, F_figure_of, F_whole, F_is_less, F_figures_of, F_quotient, F_again_and_again, F_by_halves, F_sum_of_figures, F_cost_of, F_least_mean_of, F_least_mean], consL⟩
noncomputable def F_law : FnI := ⟨("law" : Str), [("script" : Str)], evF g_law N_law.length b_law⟩
theorem ev_law (as : List D) (st : Sto) : F_law.sem as st = (evSs g_law b_law (as.map some ++ List.replicate (12 - as.length) none) st).fin := rfl
@[simp] theorem call_law__law_deck (xs zs : List D) (ord : List Nat) (st : Sto) : callK g_law 0 ord xs zs st = (if xs.length + (permL ord zs).length = 2 then F_law_deck.sem (xs ++ permL ord zs) st else .bad) := (rfl)
@[simp] theorem call_law__law_shares (xs zs : List D) (ord : List Nat) (st : Sto) : callK g_law 5 ord xs zs st = (if xs.length + (permL ord zs).length = 2 then F_law_shares.sem (xs ++ permL ord zs) st else .bad) := (rfl)
@[simp] theorem call_law__law_least (xs zs : List D) (ord : List Nat) (st : Sto) : callK g_law 10 ord xs zs st = (if xs.length + (permL ord zs).length = 1 then F_law_least.sem (xs ++ permL ord zs) st else .bad) := (rfl)
@[simp] theorem call_law__least_mean (xs zs : List D) (ord : List Nat) (st : Sto) : callK g_law 35 ord xs zs st = (if xs.length + (permL ord zs).length = 1 then F_least_mean.sem (xs ++ permL ord zs) st else .bad) := (rfl)
@[simp] theorem call_law__law_same (xs zs : List D) (ord : List Nat) (st : Sto) : callK g_law 11 ord xs zs st = (if xs.length + (permL ord zs).length = 2 then F_law_same.sem (xs ++ permL ord zs) st else .bad) := (rfl)
@[simp] theorem call_law__law_take (xs zs : List D) (ord : List Nat) (st : Sto) : callK g_law 1 ord xs zs st = (if xs.length + (permL ord zs).length = 2 then F_law_take.sem (xs ++ permL ord zs) st else .bad) := (rfl)
@[simp] theorem call_law__law_weights (xs zs : List D) (ord : List Nat) (st : Sto) : callK g_law 4 ord xs zs st = (if xs.length + (permL ord zs).length = 3 then F_law_weights.sem (xs ++ permL ord zs) st else .bad) := (rfl)
@[simp] theorem call_law__law_number (xs zs : List D) (ord : List Nat) (st : Sto) : callK g_law 3 ord xs zs st = (if xs.length + (permL ord zs).length = 2 then F_law_number.sem (xs ++ permL ord zs) st else .bad) := (rfl)
@[simp] theorem call_law__law_power (xs zs : List D) (ord : List Nat) (st : Sto) : callK g_law 2 ord xs zs st = (if xs.length + (permL ord zs).length = 1 then F_law_power.sem (xs ++ permL ord zs) st else .bad) := (rfl)
@[simp] theorem call_law__law_cheapest (xs zs : List D) (ord : List Nat) (st : Sto) : callK g_law 12 ord xs zs st = (if xs.length + (permL ord zs).length = 3 then F_law_cheapest.sem (xs ++ permL ord zs) st else .bad) := (rfl)
end Lk18
end

section
set_option Elab.async false
set_option linter.all false
set_option maxRecDepth 100000
set_option autoImplicit false
/-! written by wip/gen.py for k18_whole_least_means. -/
namespace Lk18
open PySem PySem.Spec PyProof.Rows L2 WT
def top (i : Nat) : Stmt := PySem.Challenge.pw_wholetosses_k18_whole_least_means.main.body.getD i (.Pass ⟨0, 0, 0, 0⟩)
def fnsL : List (Str × List Str) := [(("_law_deck" : Str), [("script" : Str), ("k" : Str)]), (("_law_take" : Str), [("deck" : Str), ("many" : Str)]), (("_law_power" : Str), [("many" : Str)]), (("_law_number" : Str), [("top" : Str), ("bottom" : Str)]), (("_law_weights" : Str), [("deck" : Str), ("n" : Str), ("total" : Str)]), (("_law_shares" : Str), [("deck" : Str), ("most" : Str)]), (("_law_times" : Str), [("a" : Str), ("b" : Str)]), (("_law_plus" : Str), [("a" : Str), ("b" : Str)]), (("_law_sum" : Str), [("numbers" : Str)]), (("_law_tail" : Str), [("parts_of" : Str), ("k" : Str)]), (("_law_least" : Str), [("parts_of" : Str)]), (("_law_same" : Str), [("found" : Str), ("due" : Str)]), (("_law_cheapest" : Str), [("left" : Str), ("k" : Str), ("deep" : Str)]), (("lowest" : Str), [("top" : Str), ("bottom" : Str)]), (("sum_of_two" : Str), [("a" : Str), ("b" : Str)]), (("sum_of_all" : Str), [("numbers" : Str)]), (("is_pair" : Str), [("value" : Str)]), (("is_integer" : Str), [("value" : Str)]), (("is_number_of" : Str), [("told" : Str)]), (("is_shares_of" : Str), [("told" : Str)]), (("check_shares" : Str), [("shares" : Str)]), (("shortest" : Str), [("ahead" : Str), ("again" : Str)]), (("power" : Str), [("b" : Str), ("n" : Str)]), (("rest_of" : Str), [("number" : Str), ("k" : Str)]), (("product" : Str), [("a" : Str), ("b" : Str)]), (("figure_of" : Str), [("number" : Str), ("k" : Str)]), (("whole" : Str), [("a" : Str)]), (("is_less" : Str), [("a" : Str), ("b" : Str)]), (("figures_of" : Str), [("number" : Str)]), (("quotient" : Str), [("a" : Str), ("b" : Str)]), (("again_and_again" : Str), [("first" : Str), ("many" : Str)]), (("by_halves" : Str), [("a" : Str), ("k" : Str)]), (("sum_of_figures" : Str), [("some" : Str), ("begin" : Str)]), (("cost_of" : Str), [("number" : Str)]), (("least_mean_of" : Str), [("shares" : Str)]), (("least_mean" : Str), [("shares" : Str)]), (("law" : Str), [("script" : Str)])]
def rnL : List Bool := [true, false, false, true, true, true, true, true, false, false, true, true, true, true, true, false, true, true, true, true, true, true, false, true, true, true, true, true, true, true, true, true, false, false, false, false, true]
def kwL : List (List (Nat × List Str × List Nat)) := [[], [], [], [], [], [], [], [], [], [], [], [], [], [], [], [], [], [], [], [], [], [], [], [], [], [], [], [], [], [], [], [], [], [], [], [(0, [("shares" : Str)], [0])], []]
def mc (j : Nat) (N : List Str) (ow : List Nat) : MC := { N := N, fns := fnsL.take j, cons := consL.map (·.1), kw := fun i => kwL.getD i [], rn := fun i => rnL.getD i false, ow := fun i => decide (i ∈ ow), gcd := true }
def m_law_deck : MC := mc 0 N_law_deck []
theorem c_law_deck : cSs m_law_deck (defScope (top 34)) (rnL.getD 0 false) b_law_deck (defBody (top 34)) = true := by kernel_rfl
def m_law_take : MC := mc 1 N_law_take []
theorem c_law_take : cSs m_law_take (defScope (top 35)) (rnL.getD 1 false) b_law_take (defBody (top 35)) = true := by kernel_rfl
def m_law_power : MC := mc 2 N_law_power []
theorem c_law_power : cSs m_law_power (defScope (top 40)) (rnL.getD 2 false) b_law_power (defBody (top 40)) = true := by kernel_rfl
def m_law_number : MC := mc 3 N_law_number []
theorem c_law_number : cSs m_law_number (defScope (top 36)) (rnL.getD 3 false) b_law_number (defBody (top 36)) = true := by kernel_rfl
def m_law_weights : MC := mc 4 N_law_weights [3]
theorem c_law_weights : cSs m_law_weights (defScope (top 41)) (rnL.getD 4 false) b_law_weights (defBody (top 41)) = true := by kernel_rfl
def m_law_shares : MC := mc 5 N_law_shares []
theorem c_law_shares : cSs m_law_shares (defScope (top 42)) (rnL.getD 5 false) b_law_shares (defBody (top 42)) = true := by kernel_rfl
def m_law_times : MC := mc 6 N_law_times []
theorem c_law_times : cSs m_law_times (defScope (top 38)) (rnL.getD 6 false) b_law_times (defBody (top 38)) = true := by kernel_rfl
def m_law_plus : MC := mc 7 N_law_plus []
theorem c_law_plus : cSs m_law_plus (defScope (top 37)) (rnL.getD 7 false) b_law_plus (defBody (top 37)) = true := by kernel_rfl
def m_law_sum : MC := mc 8 N_law_sum []
theorem c_law_sum : cSs m_law_sum (defScope (top 39)) (rnL.getD 8 false) b_law_sum (defBody (top 39)) = true := by kernel_rfl
def m_law_tail : MC := mc 9 N_law_tail []
theorem c_law_tail : cSs m_law_tail (defScope (top 43)) (rnL.getD 9 false) b_law_tail (defBody (top 43)) = true := by kernel_rfl
def m_law_least : MC := mc 10 N_law_least [3, 4]
theorem c_law_least : cSs m_law_least (defScope (top 44)) (rnL.getD 10 false) b_law_least (defBody (top 44)) = true := by kernel_rfl
def m_law_same : MC := mc 12 N_law_same []
theorem c_law_same : cSs m_law_same (defScope (top 45)) (rnL.getD 11 false) b_law_same (defBody (top 45)) = true := by kernel_rfl
def m_law_cheapest : MC := mc 13 N_law_cheapest [5]
theorem c_law_cheapest : cSs m_law_cheapest (defScope (top 46)) (rnL.getD 12 false) b_law_cheapest (defBody (top 46)) = true := by kernel_rfl
def m_lowest : MC := mc 13 N_lowest []
theorem c_lowest : cSs m_lowest (defScope (top 9)) (rnL.getD 13 false) b_lowest (defBody (top 9)) = true := by kernel_rfl
def m_sum_of_two : MC := mc 14 N_sum_of_two []
theorem c_sum_of_two : cSs m_sum_of_two (defScope (top 12)) (rnL.getD 14 false) b_sum_of_two (defBody (top 12)) = true := by kernel_rfl
def m_sum_of_all : MC := mc 15 N_sum_of_all []
theorem c_sum_of_all : cSs m_sum_of_all (defScope (top 16)) (rnL.getD 15 false) b_sum_of_all (defBody (top 16)) = true := by kernel_rfl
def m_is_pair : MC := mc 16 N_is_pair []
theorem c_is_pair : cSs m_is_pair (defScope (top 8)) (rnL.getD 16 false) b_is_pair (defBody (top 8)) = true := by kernel_rfl
def m_is_integer : MC := mc 17 N_is_integer []
theorem c_is_integer : cSs m_is_integer (defScope (top 7)) (rnL.getD 17 false) b_is_integer (defBody (top 7)) = true := by kernel_rfl
def m_is_number_of : MC := mc 18 N_is_number_of []
theorem c_is_number_of : cSs m_is_number_of (defScope (top 10)) (rnL.getD 18 false) b_is_number_of (defBody (top 10)) = true := by kernel_rfl
def m_is_shares_of : MC := mc 19 N_is_shares_of []
theorem c_is_shares_of : cSs m_is_shares_of (defScope (top 28)) (rnL.getD 19 false) b_is_shares_of (defBody (top 28)) = true := by kernel_rfl
def m_check_shares : MC := mc 20 N_check_shares []
theorem c_check_shares : cSs m_check_shares (defScope (top 29)) (rnL.getD 20 false) b_check_shares (defBody (top 29)) = true := by kernel_rfl
def m_shortest : MC := mc 21 N_shortest []
theorem c_shortest : cSs m_shortest (defScope (top 22)) (rnL.getD 21 false) b_shortest (defBody (top 22)) = true := by kernel_rfl
def m_power : MC := mc 22 N_power []
theorem c_power : cSs m_power (defScope (top 17)) (rnL.getD 22 false) b_power (defBody (top 17)) = true := by kernel_rfl
def m_rest_of : MC := mc 23 N_rest_of []
theorem c_rest_of : cSs m_rest_of (defScope (top 20)) (rnL.getD 23 false) b_rest_of (defBody (top 20)) = true := by kernel_rfl
def m_product : MC := mc 24 N_product []
theorem c_product : cSs m_product (defScope (top 13)) (rnL.getD 24 false) b_product (defBody (top 13)) = true := by kernel_rfl
def m_figure_of : MC := mc 25 N_figure_of []
theorem c_figure_of : cSs m_figure_of (defScope (top 21)) (rnL.getD 25 false) b_figure_of (defBody (top 21)) = true := by kernel_rfl
def m_whole : MC := mc 26 N_whole []
theorem c_whole : cSs m_whole (defScope (top 11)) (rnL.getD 26 false) b_whole (defBody (top 11)) = true := by kernel_rfl
def m_is_less : MC := mc 27 N_is_less []
theorem c_is_less : cSs m_is_less (defScope (top 15)) (rnL.getD 27 false) b_is_less (defBody (top 15)) = true := by kernel_rfl
def m_figures_of : MC := mc 28 N_figures_of [3, 4]
theorem c_figures_of : cSs m_figures_of (defScope (top 23)) (rnL.getD 28 false) b_figures_of (defBody (top 23)) = true := by kernel_rfl
def m_quotient : MC := mc 29 N_quotient []
theorem c_quotient : cSs m_quotient (defScope (top 14)) (rnL.getD 29 false) b_quotient (defBody (top 14)) = true := by kernel_rfl
def m_again_and_again : MC := mc 30 N_again_and_again []
theorem c_again_and_again : cSs m_again_and_again (defScope (top 25)) (rnL.getD 30 false) b_again_and_again (defBody (top 25)) = true := by kernel_rfl
def m_by_halves : MC := mc 31 N_by_halves []
theorem c_by_halves : cSs m_by_halves (defScope (top 18)) (rnL.getD 31 false) b_by_halves (defBody (top 18)) = true := by kernel_rfl
def m_sum_of_figures : MC := mc 32 N_sum_of_figures []
theorem c_sum_of_figures : cSs m_sum_of_figures (defScope (top 24)) (rnL.getD 32 false) b_sum_of_figures (defBody (top 24)) = true := by kernel_rfl
def m_cost_of : MC := mc 33 N_cost_of []
theorem c_cost_of : cSs m_cost_of (defScope (top 26)) (rnL.getD 33 false) b_cost_of (defBody (top 26)) = true := by kernel_rfl
def m_least_mean_of : MC := mc 34 N_least_mean_of []
theorem c_least_mean_of : cSs m_least_mean_of (defScope (top 31)) (rnL.getD 34 false) b_least_mean_of (defBody (top 31)) = true := by kernel_rfl
def m_least_mean : MC := mc 35 N_least_mean []
theorem c_least_mean : cSs m_least_mean (defScope (top 32)) (rnL.getD 35 false) b_least_mean (defBody (top 32)) = true := by kernel_rfl
def m_law : MC := mc 36 N_law []
theorem c_law : cSs m_law (defScope (top 47)) (rnL.getD 36 false) b_law (defBody (top 47)) = true := by kernel_rfl
theorem sc_law_deck : FnScope N_law_deck [("script" : Str), ("k" : Str)] (defScope (top 34)) := fnScope_by (by kernel_rfl)
theorem kb_law_deck {K : PySem.W.Frag} {f : Addr} {fd : FuncData} (F : FunD K ("_law_deck" : Str) ("_law_deck" : Str) (defArgs (top 34)) (defBody (top 34)) (defScope (top 34)) [] [] f fd) : KBd K fd [("script" : Str), ("k" : Str)] (kwL.getD 0 []) := by
  refine kbd_of F (fun _ _ _ _ _ _ us hl => match us, hl with | [a0, a1], _ => rfl) (fun q hq => ?_)
  have hq : q ∈ ([] : List (Nat × List Str × List Nat)) := hq
  exact absurd hq (by simp)
theorem sc_law_take : FnScope N_law_take [("deck" : Str), ("many" : Str)] (defScope (top 35)) := fnScope_by (by kernel_rfl)
theorem kb_law_take {K : PySem.W.Frag} {f : Addr} {fd : FuncData} (F : FunD K ("_law_take" : Str) ("_law_take" : Str) (defArgs (top 35)) (defBody (top 35)) (defScope (top 35)) [] [] f fd) : KBd K fd [("deck" : Str), ("many" : Str)] (kwL.getD 1 []) := by
  refine kbd_of F (fun _ _ _ _ _ _ us hl => match us, hl with | [a0, a1], _ => rfl) (fun q hq => ?_)
  have hq : q ∈ ([] : List (Nat × List Str × List Nat)) := hq
  exact absurd hq (by simp)
theorem sc_law_power : FnScope N_law_power [("many" : Str)] (defScope (top 40)) := fnScope_by (by kernel_rfl)
theorem kb_law_power {K : PySem.W.Frag} {f : Addr} {fd : FuncData} (F : FunD K ("_law_power" : Str) ("_law_power" : Str) (defArgs (top 40)) (defBody (top 40)) (defScope (top 40)) [] [] f fd) : KBd K fd [("many" : Str)] (kwL.getD 2 []) := by
  refine kbd_of F (fun _ _ _ _ _ _ us hl => match us, hl with | [a0], _ => rfl) (fun q hq => ?_)
  have hq : q ∈ ([] : List (Nat × List Str × List Nat)) := hq
  exact absurd hq (by simp)
theorem sc_law_number : FnScope N_law_number [("top" : Str), ("bottom" : Str)] (defScope (top 36)) := fnScope_by (by kernel_rfl)
theorem kb_law_number {K : PySem.W.Frag} {f : Addr} {fd : FuncData} (F : FunD K ("_law_number" : Str) ("_law_number" : Str) (defArgs (top 36)) (defBody (top 36)) (defScope (top 36)) [] [] f fd) : KBd K fd [("top" : Str), ("bottom" : Str)] (kwL.getD 3 []) := by
  refine kbd_of F (fun _ _ _ _ _ _ us hl => match us, hl with | [a0, a1], _ => rfl) (fun q hq => ?_)
  have hq : q ∈ ([] : List (Nat × List Str × List Nat)) := hq
  exact absurd hq (by simp)
theorem sc_law_weights : FnScope N_law_weights [("deck" : Str), ("n" : Str), ("total" : Str)] (defScope (top 41)) := fnScope_by (by kernel_rfl)
theorem kb_law_weights {K : PySem.W.Frag} {f : Addr} {fd : FuncData} (F : FunD K ("_law_weights" : Str) ("_law_weights" : Str) (defArgs (top 41)) (defBody (top 41)) (defScope (top 41)) [] [] f fd) : KBd K fd [("deck" : Str), ("n" : Str), ("total" : Str)] (kwL.getD 4 []) := by
  refine kbd_of F (fun _ _ _ _ _ _ us hl => match us, hl with | [a0, a1, a2], _ => rfl) (fun q hq => ?_)
  have hq : q ∈ ([] : List (Nat × List Str × List Nat)) := hq
  exact absurd hq (by simp)
theorem sc_law_shares : FnScope N_law_shares [("deck" : Str), ("most" : Str)] (defScope (top 42)) := fnScope_by (by kernel_rfl)
theorem kb_law_shares {K : PySem.W.Frag} {f : Addr} {fd : FuncData} (F : FunD K ("_law_shares" : Str) ("_law_shares" : Str) (defArgs (top 42)) (defBody (top 42)) (defScope (top 42)) [] [] f fd) : KBd K fd [("deck" : Str), ("most" : Str)] (kwL.getD 5 []) := by
  refine kbd_of F (fun _ _ _ _ _ _ us hl => match us, hl with | [a0, a1], _ => rfl) (fun q hq => ?_)
  have hq : q ∈ ([] : List (Nat × List Str × List Nat)) := hq
  exact absurd hq (by simp)
theorem sc_law_times : FnScope N_law_times [("a" : Str), ("b" : Str)] (defScope (top 38)) := fnScope_by (by kernel_rfl)
theorem kb_law_times {K : PySem.W.Frag} {f : Addr} {fd : FuncData} (F : FunD K ("_law_times" : Str) ("_law_times" : Str) (defArgs (top 38)) (defBody (top 38)) (defScope (top 38)) [] [] f fd) : KBd K fd [("a" : Str), ("b" : Str)] (kwL.getD 6 []) := by
  refine kbd_of F (fun _ _ _ _ _ _ us hl => match us, hl with | [a0, a1], _ => rfl) (fun q hq => ?_)
  have hq : q ∈ ([] : List (Nat × List Str × List Nat)) := hq
  exact absurd hq (by simp)
theorem sc_law_plus : FnScope N_law_plus [("a" : Str), ("b" : Str)] (defScope (top 37)) := fnScope_by (by kernel_rfl)
theorem kb_law_plus {K : PySem.W.Frag} {f : Addr} {fd : FuncData} (F : FunD K ("_law_plus" : Str) ("_law_plus" : Str) (defArgs (top 37)) (defBody (top 37)) (defScope (top 37)) [] [] f fd) : KBd K fd [("a" : Str), ("b" : Str)] (kwL.getD 7 []) := by
  refine kbd_of F (fun _ _ _ _ _ _ us hl => match us, hl with | [a0, a1], _ => rfl) (fun q hq => ?_)
  have hq : q ∈ ([] : List (Nat × List Str × List Nat)) := hq
  exact absurd hq (by simp)
theorem sc_law_sum : FnScope N_law_sum [("numbers" : Str)] (defScope (top 39)) := fnScope_by (by kernel_rfl)
theorem kb_law_sum {K : PySem.W.Frag} {f : Addr} {fd : FuncData} (F : FunD K ("_law_sum" : Str) ("_law_sum" : Str) (defArgs (top 39)) (defBody (top 39)) (defScope (top 39)) [] [] f fd) : KBd K fd [("numbers" : Str)] (kwL.getD 8 []) := by
  refine kbd_of F (fun _ _ _ _ _ _ us hl => match us, hl with | [a0], _ => rfl) (fun q hq => ?_)
  have hq : q ∈ ([] : List (Nat × List Str × List Nat)) := hq
  exact absurd hq (by simp)
theorem sc_law_tail : FnScope N_law_tail [("parts_of" : Str), ("k" : Str)] (defScope (top 43)) := fnScope_by (by kernel_rfl)
theorem kb_law_tail {K : PySem.W.Frag} {f : Addr} {fd : FuncData} (F : FunD K ("_law_tail" : Str) ("_law_tail" : Str) (defArgs (top 43)) (defBody (top 43)) (defScope (top 43)) [] [] f fd) : KBd K fd [("parts_of" : Str), ("k" : Str)] (kwL.getD 9 []) := by
  refine kbd_of F (fun _ _ _ _ _ _ us hl => match us, hl with | [a0, a1], _ => rfl) (fun q hq => ?_)
  have hq : q ∈ ([] : List (Nat × List Str × List Nat)) := hq
  exact absurd hq (by simp)
theorem sc_law_least : FnScope N_law_least [("parts_of" : Str)] (defScope (top 44)) := fnScope_by (by kernel_rfl)
theorem kb_law_least {K : PySem.W.Frag} {f : Addr} {fd : FuncData} (F : FunD K ("_law_least" : Str) ("_law_least" : Str) (defArgs (top 44)) (defBody (top 44)) (defScope (top 44)) [] [] f fd) : KBd K fd [("parts_of" : Str)] (kwL.getD 10 []) := by
  refine kbd_of F (fun _ _ _ _ _ _ us hl => match us, hl with | [a0], _ => rfl) (fun q hq => ?_)
  have hq : q ∈ ([] : List (Nat × List Str × List Nat)) := hq
  exact absurd hq (by simp)
theorem sc_law_same : FnScope N_law_same [("found" : Str), ("due" : Str)] (defScope (top 45)) := fnScope_by (by kernel_rfl)
theorem kb_law_same {K : PySem.W.Frag} {f : Addr} {fd : FuncData} (F : FunD K ("_law_same" : Str) ("_law_same" : Str) (defArgs (top 45)) (defBody (top 45)) (defScope (top 45)) [] [] f fd) : KBd K fd [("found" : Str), ("due" : Str)] (kwL.getD 11 []) := by
  refine kbd_of F (fun _ _ _ _ _ _ us hl => match us, hl with | [a0, a1], _ => rfl) (fun q hq => ?_)
  have hq : q ∈ ([] : List (Nat × List Str × List Nat)) := hq
  exact absurd hq (by simp)
theorem sc_law_cheapest : FnScope N_law_cheapest [("left" : Str), ("k" : Str), ("deep" : Str)] (defScope (top 46)) := fnScope_by (by kernel_rfl)
theorem kb_law_cheapest {K : PySem.W.Frag} {f : Addr} {fd : FuncData} (F : FunD K ("_law_cheapest" : Str) ("_law_cheapest" : Str) (defArgs (top 46)) (defBody (top 46)) (defScope (top 46)) [] [] f fd) : KBd K fd [("left" : Str), ("k" : Str), ("deep" : Str)] (kwL.getD 12 []) := by
  refine kbd_of F (fun _ _ _ _ _ _ us hl => match us, hl with | [a0, a1, a2], _ => rfl) (fun q hq => ?_)
  have hq : q ∈ ([] : List (Nat × List Str × List Nat)) := hq
  exact absurd hq (by simp)
theorem sc_lowest : FnScope N_lowest [("top" : Str), ("bottom" : Str)] (defScope (top 9)) := fnScope_by (by kernel_rfl)
theorem kb_lowest {K : PySem.W.Frag} {f : Addr} {fd : FuncData} (F : FunD K ("lowest" : Str) ("lowest" : Str) (defArgs (top 9)) (defBody (top 9)) (defScope (top 9)) [] [] f fd) : KBd K fd [("top" : Str), ("bottom" : Str)] (kwL.getD 13 []) := by
  refine kbd_of F (fun _ _ _ _ _ _ us hl => match us, hl with | [a0, a1], _ => rfl) (fun q hq => ?_)
  have hq : q ∈ ([] : List (Nat × List Str × List Nat)) := hq
  exact absurd hq (by simp)
theorem sc_sum_of_two : FnScope N_sum_of_two [("a" : Str), ("b" : Str)] (defScope (top 12)) := fnScope_by (by kernel_rfl)
theorem kb_sum_of_two {K : PySem.W.Frag} {f : Addr} {fd : FuncData} (F : FunD K ("sum_of_two" : Str) ("sum_of_two" : Str) (defArgs (top 12)) (defBody (top 12)) (defScope (top 12)) [] [] f fd) : KBd K fd [("a" : Str), ("b" : Str)] (kwL.getD 14 []) := by
  refine kbd_of F (fun _ _ _ _ _ _ us hl => match us, hl with | [a0, a1], _ => rfl) (fun q hq => ?_)
  have hq : q ∈ ([] : List (Nat × List Str × List Nat)) := hq
  exact absurd hq (by simp)
theorem sc_sum_of_all : FnScope N_sum_of_all [("numbers" : Str)] (defScope (top 16)) := fnScope_by (by kernel_rfl)
theorem kb_sum_of_all {K : PySem.W.Frag} {f : Addr} {fd : FuncData} (F : FunD K ("sum_of_all" : Str) ("sum_of_all" : Str) (defArgs (top 16)) (defBody (top 16)) (defScope (top 16)) [] [] f fd) : KBd K fd [("numbers" : Str)] (kwL.getD 15 []) := by
  refine kbd_of F (fun _ _ _ _ _ _ us hl => match us, hl with | [a0], _ => rfl) (fun q hq => ?_)
  have hq : q ∈ ([] : List (Nat × List Str × List Nat)) := hq
  exact absurd hq (by simp)
theorem sc_is_pair : FnScope N_is_pair [("value" : Str)] (defScope (top 8)) := fnScope_by (by kernel_rfl)
theorem kb_is_pair {K : PySem.W.Frag} {f : Addr} {fd : FuncData} (F : FunD K ("is_pair" : Str) ("is_pair" : Str) (defArgs (top 8)) (defBody (top 8)) (defScope (top 8)) [] [] f fd) : KBd K fd [("value" : Str)] (kwL.getD 16 []) := by
  refine kbd_of F (fun _ _ _ _ _ _ us hl => match us, hl with | [a0], _ => rfl) (fun q hq => ?_)
  have hq : q ∈ ([] : List (Nat × List Str × List Nat)) := hq
  exact absurd hq (by simp)
theorem sc_is_integer : FnScope N_is_integer [("value" : Str)] (defScope (top 7)) := fnScope_by (by kernel_rfl)
theorem kb_is_integer {K : PySem.W.Frag} {f : Addr} {fd : FuncData} (F : FunD K ("is_integer" : Str) ("is_integer" : Str) (defArgs (top 7)) (defBody (top 7)) (defScope (top 7)) [] [] f fd) : KBd K fd [("value" : Str)] (kwL.getD 17 []) := by
  refine kbd_of F (fun _ _ _ _ _ _ us hl => match us, hl with | [a0], _ => rfl) (fun q hq => ?_)
  have hq : q ∈ ([] : List (Nat × List Str × List Nat)) := hq
  exact absurd hq (by simp)
theorem sc_is_number_of : FnScope N_is_number_of [("told" : Str)] (defScope (top 10)) := fnScope_by (by kernel_rfl)
theorem kb_is_number_of {K : PySem.W.Frag} {f : Addr} {fd : FuncData} (F : FunD K ("is_number_of" : Str) ("is_number_of" : Str) (defArgs (top 10)) (defBody (top 10)) (defScope (top 10)) [] [] f fd) : KBd K fd [("told" : Str)] (kwL.getD 18 []) := by
  refine kbd_of F (fun _ _ _ _ _ _ us hl => match us, hl with | [a0], _ => rfl) (fun q hq => ?_)
  have hq : q ∈ ([] : List (Nat × List Str × List Nat)) := hq
  exact absurd hq (by simp)
theorem sc_is_shares_of : FnScope N_is_shares_of [("told" : Str)] (defScope (top 28)) := fnScope_by (by kernel_rfl)
theorem kb_is_shares_of {K : PySem.W.Frag} {f : Addr} {fd : FuncData} (F : FunD K ("is_shares_of" : Str) ("is_shares_of" : Str) (defArgs (top 28)) (defBody (top 28)) (defScope (top 28)) [] [] f fd) : KBd K fd [("told" : Str)] (kwL.getD 19 []) := by
  refine kbd_of F (fun _ _ _ _ _ _ us hl => match us, hl with | [a0], _ => rfl) (fun q hq => ?_)
  have hq : q ∈ ([] : List (Nat × List Str × List Nat)) := hq
  exact absurd hq (by simp)
theorem sc_check_shares : FnScope N_check_shares [("shares" : Str)] (defScope (top 29)) := fnScope_by (by kernel_rfl)
theorem kb_check_shares {K : PySem.W.Frag} {f : Addr} {fd : FuncData} (F : FunD K ("check_shares" : Str) ("check_shares" : Str) (defArgs (top 29)) (defBody (top 29)) (defScope (top 29)) [] [] f fd) : KBd K fd [("shares" : Str)] (kwL.getD 20 []) := by
  refine kbd_of F (fun _ _ _ _ _ _ us hl => match us, hl with | [a0], _ => rfl) (fun q hq => ?_)
  have hq : q ∈ ([] : List (Nat × List Str × List Nat)) := hq
  exact absurd hq (by simp)
theorem sc_shortest : FnScope N_shortest [("ahead" : Str), ("again" : Str)] (defScope (top 22)) := fnScope_by (by kernel_rfl)
theorem kb_shortest {K : PySem.W.Frag} {f : Addr} {fd : FuncData} (F : FunD K ("shortest" : Str) ("shortest" : Str) (defArgs (top 22)) (defBody (top 22)) (defScope (top 22)) [] [] f fd) : KBd K fd [("ahead" : Str), ("again" : Str)] (kwL.getD 21 []) := by
  refine kbd_of F (fun _ _ _ _ _ _ us hl => match us, hl with | [a0, a1], _ => rfl) (fun q hq => ?_)
  have hq : q ∈ ([] : List (Nat × List Str × List Nat)) := hq
  exact absurd hq (by simp)
theorem sc_power : FnScope N_power [("b" : Str), ("n" : Str)] (defScope (top 17)) := fnScope_by (by kernel_rfl)
theorem kb_power {K : PySem.W.Frag} {f : Addr} {fd : FuncData} (F : FunD K ("power" : Str) ("power" : Str) (defArgs (top 17)) (defBody (top 17)) (defScope (top 17)) [] [] f fd) : KBd K fd [("b" : Str), ("n" : Str)] (kwL.getD 22 []) := by
  refine kbd_of F (fun _ _ _ _ _ _ us hl => match us, hl with | [a0, a1], _ => rfl) (fun q hq => ?_)
  have hq : q ∈ ([] : List (Nat × List Str × List Nat)) := hq
  exact absurd hq (by simp)
theorem sc_rest_of : FnScope N_rest_of [("number" : Str), ("k" : Str)] (defScope (top 20)) := fnScope_by (by kernel_rfl)
theorem kb_rest_of {K : PySem.W.Frag} {f : Addr} {fd : FuncData} (F : FunD K ("rest_of" : Str) ("rest_of" : Str) (defArgs (top 20)) (defBody (top 20)) (defScope (top 20)) [] [] f fd) : KBd K fd [("number" : Str), ("k" : Str)] (kwL.getD 23 []) := by
  refine kbd_of F (fun _ _ _ _ _ _ us hl => match us, hl with | [a0, a1], _ => rfl) (fun q hq => ?_)
  have hq : q ∈ ([] : List (Nat × List Str × List Nat)) := hq
  exact absurd hq (by simp)
theorem sc_product : FnScope N_product [("a" : Str), ("b" : Str)] (defScope (top 13)) := fnScope_by (by kernel_rfl)
theorem kb_product {K : PySem.W.Frag} {f : Addr} {fd : FuncData} (F : FunD K ("product" : Str) ("product" : Str) (defArgs (top 13)) (defBody (top 13)) (defScope (top 13)) [] [] f fd) : KBd K fd [("a" : Str), ("b" : Str)] (kwL.getD 24 []) := by
  refine kbd_of F (fun _ _ _ _ _ _ us hl => match us, hl with | [a0, a1], _ => rfl) (fun q hq => ?_)
  have hq : q ∈ ([] : List (Nat × List Str × List Nat)) := hq
  exact absurd hq (by simp)
theorem sc_figure_of : FnScope N_figure_of [("number" : Str), ("k" : Str)] (defScope (top 21)) := fnScope_by (by kernel_rfl)
theorem kb_figure_of {K : PySem.W.Frag} {f : Addr} {fd : FuncData} (F : FunD K ("figure_of" : Str) ("figure_of" : Str) (defArgs (top 21)) (defBody (top 21)) (defScope (top 21)) [] [] f fd) : KBd K fd [("number" : Str), ("k" : Str)] (kwL.getD 25 []) := by
  refine kbd_of F (fun _ _ _ _ _ _ us hl => match us, hl with | [a0, a1], _ => rfl) (fun q hq => ?_)
  have hq : q ∈ ([] : List (Nat × List Str × List Nat)) := hq
  exact absurd hq (by simp)
theorem sc_whole : FnScope N_whole [("a" : Str)] (defScope (top 11)) := fnScope_by (by kernel_rfl)
theorem kb_whole {K : PySem.W.Frag} {f : Addr} {fd : FuncData} (F : FunD K ("whole" : Str) ("whole" : Str) (defArgs (top 11)) (defBody (top 11)) (defScope (top 11)) [] [] f fd) : KBd K fd [("a" : Str)] (kwL.getD 26 []) := by
  refine kbd_of F (fun _ _ _ _ _ _ us hl => match us, hl with | [a0], _ => rfl) (fun q hq => ?_)
  have hq : q ∈ ([] : List (Nat × List Str × List Nat)) := hq
  exact absurd hq (by simp)
theorem sc_is_less : FnScope N_is_less [("a" : Str), ("b" : Str)] (defScope (top 15)) := fnScope_by (by kernel_rfl)
theorem kb_is_less {K : PySem.W.Frag} {f : Addr} {fd : FuncData} (F : FunD K ("is_less" : Str) ("is_less" : Str) (defArgs (top 15)) (defBody (top 15)) (defScope (top 15)) [] [] f fd) : KBd K fd [("a" : Str), ("b" : Str)] (kwL.getD 27 []) := by
  refine kbd_of F (fun _ _ _ _ _ _ us hl => match us, hl with | [a0, a1], _ => rfl) (fun q hq => ?_)
  have hq : q ∈ ([] : List (Nat × List Str × List Nat)) := hq
  exact absurd hq (by simp)
theorem sc_figures_of : FnScope N_figures_of [("number" : Str)] (defScope (top 23)) := fnScope_by (by kernel_rfl)
theorem kb_figures_of {K : PySem.W.Frag} {f : Addr} {fd : FuncData} (F : FunD K ("figures_of" : Str) ("figures_of" : Str) (defArgs (top 23)) (defBody (top 23)) (defScope (top 23)) [] [] f fd) : KBd K fd [("number" : Str)] (kwL.getD 28 []) := by
  refine kbd_of F (fun _ _ _ _ _ _ us hl => match us, hl with | [a0], _ => rfl) (fun q hq => ?_)
  have hq : q ∈ ([] : List (Nat × List Str × List Nat)) := hq
  exact absurd hq (by simp)
theorem sc_quotient : FnScope N_quotient [("a" : Str), ("b" : Str)] (defScope (top 14)) := fnScope_by (by kernel_rfl)
theorem kb_quotient {K : PySem.W.Frag} {f : Addr} {fd : FuncData} (F : FunD K ("quotient" : Str) ("quotient" : Str) (defArgs (top 14)) (defBody (top 14)) (defScope (top 14)) [] [] f fd) : KBd K fd [("a" : Str), ("b" : Str)] (kwL.getD 29 []) := by
  refine kbd_of F (fun _ _ _ _ _ _ us hl => match us, hl with | [a0, a1], _ => rfl) (fun q hq => ?_)
  have hq : q ∈ ([] : List (Nat × List Str × List Nat)) := hq
  exact absurd hq (by simp)
theorem sc_again_and_again : FnScope N_again_and_again [("first" : Str), ("many" : Str)] (defScope (top 25)) := fnScope_by (by kernel_rfl)
theorem kb_again_and_again {K : PySem.W.Frag} {f : Addr} {fd : FuncData} (F : FunD K ("again_and_again" : Str) ("again_and_again" : Str) (defArgs (top 25)) (defBody (top 25)) (defScope (top 25)) [] [] f fd) : KBd K fd [("first" : Str), ("many" : Str)] (kwL.getD 30 []) := by
  refine kbd_of F (fun _ _ _ _ _ _ us hl => match us, hl with | [a0, a1], _ => rfl) (fun q hq => ?_)
  have hq : q ∈ ([] : List (Nat × List Str × List Nat)) := hq
  exact absurd hq (by simp)
theorem sc_by_halves : FnScope N_by_halves [("a" : Str), ("k" : Str)] (defScope (top 18)) := fnScope_by (by kernel_rfl)
theorem kb_by_halves {K : PySem.W.Frag} {f : Addr} {fd : FuncData} (F : FunD K ("by_halves" : Str) ("by_halves" : Str) (defArgs (top 18)) (defBody (top 18)) (defScope (top 18)) [] [] f fd) : KBd K fd [("a" : Str), ("k" : Str)] (kwL.getD 31 []) := by
  refine kbd_of F (fun _ _ _ _ _ _ us hl => match us, hl with | [a0, a1], _ => rfl) (fun q hq => ?_)
  have hq : q ∈ ([] : List (Nat × List Str × List Nat)) := hq
  exact absurd hq (by simp)
theorem sc_sum_of_figures : FnScope N_sum_of_figures [("some" : Str), ("begin" : Str)] (defScope (top 24)) := fnScope_by (by kernel_rfl)
theorem kb_sum_of_figures {K : PySem.W.Frag} {f : Addr} {fd : FuncData} (F : FunD K ("sum_of_figures" : Str) ("sum_of_figures" : Str) (defArgs (top 24)) (defBody (top 24)) (defScope (top 24)) [] [] f fd) : KBd K fd [("some" : Str), ("begin" : Str)] (kwL.getD 32 []) := by
  refine kbd_of F (fun _ _ _ _ _ _ us hl => match us, hl with | [a0, a1], _ => rfl) (fun q hq => ?_)
  have hq : q ∈ ([] : List (Nat × List Str × List Nat)) := hq
  exact absurd hq (by simp)
theorem sc_cost_of : FnScope N_cost_of [("number" : Str)] (defScope (top 26)) := fnScope_by (by kernel_rfl)
theorem kb_cost_of {K : PySem.W.Frag} {f : Addr} {fd : FuncData} (F : FunD K ("cost_of" : Str) ("cost_of" : Str) (defArgs (top 26)) (defBody (top 26)) (defScope (top 26)) [] [] f fd) : KBd K fd [("number" : Str)] (kwL.getD 33 []) := by
  refine kbd_of F (fun _ _ _ _ _ _ us hl => match us, hl with | [a0], _ => rfl) (fun q hq => ?_)
  have hq : q ∈ ([] : List (Nat × List Str × List Nat)) := hq
  exact absurd hq (by simp)
theorem sc_least_mean_of : FnScope N_least_mean_of [("shares" : Str)] (defScope (top 31)) := fnScope_by (by kernel_rfl)
theorem kb_least_mean_of {K : PySem.W.Frag} {f : Addr} {fd : FuncData} (F : FunD K ("least_mean_of" : Str) ("least_mean_of" : Str) (defArgs (top 31)) (defBody (top 31)) (defScope (top 31)) [] [] f fd) : KBd K fd [("shares" : Str)] (kwL.getD 34 []) := by
  refine kbd_of F (fun _ _ _ _ _ _ us hl => match us, hl with | [a0], _ => rfl) (fun q hq => ?_)
  have hq : q ∈ ([] : List (Nat × List Str × List Nat)) := hq
  exact absurd hq (by simp)
theorem sc_least_mean : FnScope N_least_mean [("shares" : Str)] (defScope (top 32)) := fnScope_by (by kernel_rfl)
theorem kb_least_mean {K : PySem.W.Frag} {f : Addr} {fd : FuncData} (F : FunD K ("least_mean" : Str) ("least_mean" : Str) (defArgs (top 32)) (defBody (top 32)) (defScope (top 32)) [] [] f fd) : KBd K fd [("shares" : Str)] (kwL.getD 35 []) := by
  refine kbd_of F (fun _ _ _ _ _ _ us hl => match us, hl with | [a0], _ => rfl) (fun q hq => ?_)
  have hq : q ∈ ([(0, [("shares" : Str)], [0])] : List (Nat × List Str × List Nat)) := hq
  rcases List.mem_cons.mp hq with rfl | hq
  · exact fun _ _ _ _ _ _ us ws h1 h2 => match us, ws, h1, h2 with | [], [b0], _, _ => rfl
  exact absurd hq (by simp)
theorem sc_law : FnScope N_law [("script" : Str)] (defScope (top 47)) := fnScope_by (by kernel_rfl)
theorem kb_law {K : PySem.W.Frag} {f : Addr} {fd : FuncData} (F : FunD K ("law" : Str) ("law" : Str) (defArgs (top 47)) (defBody (top 47)) (defScope (top 47)) [] [] f fd) : KBd K fd [("script" : Str)] (kwL.getD 36 []) := by
  refine kbd_of F (fun _ _ _ _ _ _ us hl => match us, hl with | [a0], _ => rfl) (fun q hq => ?_)
  have hq : q ∈ ([] : List (Nat × List Str × List Nat)) := hq
  exact absurd hq (by simp)
def fnD : List He.DefD := [⟨(("_law_deck" : Str), none), ("_law_deck" : Str), ("_law_deck" : Str), defArgs (top 34), defBody (top 34), defScope (top 34), [], []⟩, ⟨(("_law_take" : Str), none), ("_law_take" : Str), ("_law_take" : Str), defArgs (top 35), defBody (top 35), defScope (top 35), [], []⟩, ⟨(("_law_power" : Str), none), ("_law_power" : Str), ("_law_power" : Str), defArgs (top 40), defBody (top 40), defScope (top 40), [], []⟩, ⟨(("_law_number" : Str), none), ("_law_number" : Str), ("_law_number" : Str), defArgs (top 36), defBody (top 36), defScope (top 36), [], []⟩, ⟨(("_law_weights" : Str), none), ("_law_weights" : Str), ("_law_weights" : Str), defArgs (top 41), defBody (top 41), defScope (top 41), [], []⟩, ⟨(("_law_shares" : Str), none), ("_law_shares" : Str), ("_law_shares" : Str), defArgs (top 42), defBody (top 42), defScope (top 42), [], []⟩, ⟨(("_law_times" : Str), none), ("_law_times" : Str), ("_law_times" : Str), defArgs (top 38), defBody (top 38), defScope (top 38), [], []⟩, ⟨(("_law_plus" : Str), none), ("_law_plus" : Str), ("_law_plus" : Str), defArgs (top 37), defBody (top 37), defScope (top 37), [], []⟩, ⟨(("_law_sum" : Str), none), ("_law_sum" : Str), ("_law_sum" : Str), defArgs (top 39), defBody (top 39), defScope (top 39), [], []⟩, ⟨(("_law_tail" : Str), none), ("_law_tail" : Str), ("_law_tail" : Str), defArgs (top 43), defBody (top 43), defScope (top 43), [], []⟩, ⟨(("_law_least" : Str), none), ("_law_least" : Str), ("_law_least" : Str), defArgs (top 44), defBody (top 44), defScope (top 44), [], []⟩, ⟨(("_law_same" : Str), none), ("_law_same" : Str), ("_law_same" : Str), defArgs (top 45), defBody (top 45), defScope (top 45), [], []⟩, ⟨(("_law_cheapest" : Str), none), ("_law_cheapest" : Str), ("_law_cheapest" : Str), defArgs (top 46), defBody (top 46), defScope (top 46), [], []⟩, ⟨(("lowest" : Str), none), ("lowest" : Str), ("lowest" : Str), defArgs (top 9), defBody (top 9), defScope (top 9), [], []⟩, ⟨(("sum_of_two" : Str), none), ("sum_of_two" : Str), ("sum_of_two" : Str), defArgs (top 12), defBody (top 12), defScope (top 12), [], []⟩, ⟨(("sum_of_all" : Str), none), ("sum_of_all" : Str), ("sum_of_all" : Str), defArgs (top 16), defBody (top 16), defScope (top 16), [], []⟩, ⟨(("is_pair" : Str), none), ("is_pair" : Str), ("is_pair" : Str), defArgs (top 8), defBody (top 8), defScope (top 8), [], []⟩, ⟨(("is_integer" : Str), none), ("is_integer" : Str), ("is_integer" : Str), defArgs (top 7), defBody (top 7), defScope (top 7), [], []⟩, ⟨(("is_number_of" : Str), none), ("is_number_of" : Str), ("is_number_of" : Str), defArgs (top 10), defBody (top 10), defScope (top 10), [], []⟩, ⟨(("is_shares_of" : Str), none), ("is_shares_of" : Str), ("is_shares_of" : Str), defArgs (top 28), defBody (top 28), defScope (top 28), [], []⟩, ⟨(("check_shares" : Str), none), ("check_shares" : Str), ("check_shares" : Str), defArgs (top 29), defBody (top 29), defScope (top 29), [], []⟩, ⟨(("shortest" : Str), none), ("shortest" : Str), ("shortest" : Str), defArgs (top 22), defBody (top 22), defScope (top 22), [], []⟩, ⟨(("power" : Str), none), ("power" : Str), ("power" : Str), defArgs (top 17), defBody (top 17), defScope (top 17), [], []⟩, ⟨(("rest_of" : Str), none), ("rest_of" : Str), ("rest_of" : Str), defArgs (top 20), defBody (top 20), defScope (top 20), [], []⟩, ⟨(("product" : Str), none), ("product" : Str), ("product" : Str), defArgs (top 13), defBody (top 13), defScope (top 13), [], []⟩, ⟨(("figure_of" : Str), none), ("figure_of" : Str), ("figure_of" : Str), defArgs (top 21), defBody (top 21), defScope (top 21), [], []⟩, ⟨(("whole" : Str), none), ("whole" : Str), ("whole" : Str), defArgs (top 11), defBody (top 11), defScope (top 11), [], []⟩, ⟨(("is_less" : Str), none), ("is_less" : Str), ("is_less" : Str), defArgs (top 15), defBody (top 15), defScope (top 15), [], []⟩, ⟨(("figures_of" : Str), none), ("figures_of" : Str), ("figures_of" : Str), defArgs (top 23), defBody (top 23), defScope (top 23), [], []⟩, ⟨(("quotient" : Str), none), ("quotient" : Str), ("quotient" : Str), defArgs (top 14), defBody (top 14), defScope (top 14), [], []⟩, ⟨(("again_and_again" : Str), none), ("again_and_again" : Str), ("again_and_again" : Str), defArgs (top 25), defBody (top 25), defScope (top 25), [], []⟩, ⟨(("by_halves" : Str), none), ("by_halves" : Str), ("by_halves" : Str), defArgs (top 18), defBody (top 18), defScope (top 18), [], []⟩, ⟨(("sum_of_figures" : Str), none), ("sum_of_figures" : Str), ("sum_of_figures" : Str), defArgs (top 24), defBody (top 24), defScope (top 24), [], []⟩, ⟨(("cost_of" : Str), none), ("cost_of" : Str), ("cost_of" : Str), defArgs (top 26), defBody (top 26), defScope (top 26), [], []⟩, ⟨(("least_mean_of" : Str), none), ("least_mean_of" : Str), ("least_mean_of" : Str), defArgs (top 31), defBody (top 31), defScope (top 31), [], []⟩, ⟨(("least_mean" : Str), none), ("least_mean" : Str), ("least_mean" : Str), defArgs (top 32), defBody (top 32), defScope (top 32), [], []⟩, ⟨(("law" : Str), none), ("law" : Str), ("law" : Str), defArgs (top 47), defBody (top 47), defScope (top 47), [], []⟩]
def namesL : List Str := [("_law_deck" : Str), ("_law_take" : Str), ("_law_power" : Str), ("_law_number" : Str), ("_law_weights" : Str), ("_law_shares" : Str), ("_law_times" : Str), ("_law_plus" : Str), ("_law_sum" : Str), ("_law_tail" : Str), ("_law_least" : Str), ("_law_same" : Str), ("_law_cheapest" : Str), ("lowest" : Str), ("sum_of_two" : Str), ("sum_of_all" : Str), ("is_pair" : Str), ("is_integer" : Str), ("is_number_of" : Str), ("is_shares_of" : Str), ("check_shares" : Str), ("shortest" : Str), ("power" : Str), ("rest_of" : Str), ("product" : Str), ("figure_of" : Str), ("whole" : Str), ("is_less" : Str), ("figures_of" : Str), ("quotient" : Str), ("again_and_again" : Str), ("by_halves" : Str), ("sum_of_figures" : Str), ("cost_of" : Str), ("least_mean_of" : Str), ("least_mean" : Str), ("law" : Str)]
def chkL : PySem.W.Frag → Bool := facts namesL consL true
theorem all_ok {P : Program} {w : World} {K : PySem.W.Frag} {mg : Str → Option Value} {h : Heap} (X : K.In h) (G : h.Ns mainGlobals mg) (c : SaysW chkL fnD K) :
    ∃ fd, (∀ base : Heap, FnOk P w K mg base (L2.CX P w) 59 (He.ga K ("law" : Str)) fd [("script" : Str)] (spF K (fun _ => none) (rnL.getD 36 false) F_law.sem 1)) ∧ ∀ (s : Shared) (u : Value), BindsTo s fd ⟨[u], []⟩ [(("script" : Str), u)] := by
  have hf := c.look
  obtain ⟨fd_law_deck, D_law_deck⟩ := c.def_ 0 (d := fnD.getD 0 ⟨("", none), "", "", defArgs (top 0), [], defScope (top 0), [], []⟩) rfl
  have h_law_deck : mg ("_law_deck" : Str) = some (.ref (He.ga K ("_law_deck" : Str))) := facts_glo hf X G (by decide)
  obtain ⟨fd_law_take, D_law_take⟩ := c.def_ 1 (d := fnD.getD 1 ⟨("", none), "", "", defArgs (top 0), [], defScope (top 0), [], []⟩) rfl
  have h_law_take : mg ("_law_take" : Str) = some (.ref (He.ga K ("_law_take" : Str))) := facts_glo hf X G (by decide)
  obtain ⟨fd_law_power, D_law_power⟩ := c.def_ 2 (d := fnD.getD 2 ⟨("", none), "", "", defArgs (top 0), [], defScope (top 0), [], []⟩) rfl
  have h_law_power : mg ("_law_power" : Str) = some (.ref (He.ga K ("_law_power" : Str))) := facts_glo hf X G (by decide)
  obtain ⟨fd_law_number, D_law_number⟩ := c.def_ 3 (d := fnD.getD 3 ⟨("", none), "", "", defArgs (top 0), [], defScope (top 0), [], []⟩) rfl
  have h_law_number : mg ("_law_number" : Str) = some (.ref (He.ga K ("_law_number" : Str))) := facts_glo hf X G (by decide)
  obtain ⟨fd_law_weights, D_law_weights⟩ := c.def_ 4 (d := fnD.getD 4 ⟨("", none), "", "", defArgs (top 0), [], defScope (top 0), [], []⟩) rfl
  have h_law_weights : mg ("_law_weights" : Str) = some (.ref (He.ga K ("_law_weights" : Str))) := facts_glo hf X G (by decide)
  obtain ⟨fd_law_shares, D_law_shares⟩ := c.def_ 5 (d := fnD.getD 5 ⟨("", none), "", "", defArgs (top 0), [], defScope (top 0), [], []⟩) rfl
  have h_law_shares : mg ("_law_shares" : Str) = some (.ref (He.ga K ("_law_shares" : Str))) := facts_glo hf X G (by decide)
  obtain ⟨fd_law_times, D_law_times⟩ := c.def_ 6 (d := fnD.getD 6 ⟨("", none), "", "", defArgs (top 0), [], defScope (top 0), [], []⟩) rfl
  have h_law_times : mg ("_law_times" : Str) = some (.ref (He.ga K ("_law_times" : Str))) := facts_glo hf X G (by decide)
  obtain ⟨fd_law_plus, D_law_plus⟩ := c.def_ 7 (d := fnD.getD 7 ⟨("", none), "", "", defArgs (top 0), [], defScope (top 0), [], []⟩) rfl
  have h_law_plus : mg ("_law_plus" : Str) = some (.ref (He.ga K ("_law_plus" : Str))) := facts_glo hf X G (by decide)
  obtain ⟨fd_law_sum, D_law_sum⟩ := c.def_ 8 (d := fnD.getD 8 ⟨("", none), "", "", defArgs (top 0), [], defScope (top 0), [], []⟩) rfl
  have h_law_sum : mg ("_law_sum" : Str) = some (.ref (He.ga K ("_law_sum" : Str))) := facts_glo hf X G (by decide)
  obtain ⟨fd_law_tail, D_law_tail⟩ := c.def_ 9 (d := fnD.getD 9 ⟨("", none), "", "", defArgs (top 0), [], defScope (top 0), [], []⟩) rfl
  have h_law_tail : mg ("_law_tail" : Str) = some (.ref (He.ga K ("_law_tail" : Str))) := facts_glo hf X G (by decide)
  obtain ⟨fd_law_least, D_law_least⟩ := c.def_ 10 (d := fnD.getD 10 ⟨("", none), "", "", defArgs (top 0), [], defScope (top 0), [], []⟩) rfl
  have h_law_least : mg ("_law_least" : Str) = some (.ref (He.ga K ("_law_least" : Str))) := facts_glo hf X G (by decide)
  obtain ⟨fd_law_same, D_law_same⟩ := c.def_ 11 (d := fnD.getD 11 ⟨("", none), "", "", defArgs (top 0), [], defScope (top 0), [], []⟩) rfl
  have h_law_same : mg ("_law_same" : Str) = some (.ref (He.ga K ("_law_same" : Str))) := facts_glo hf X G (by decide)
  obtain ⟨fd_law_cheapest, D_law_cheapest⟩ := c.def_ 12 (d := fnD.getD 12 ⟨("", none), "", "", defArgs (top 0), [], defScope (top 0), [], []⟩) rfl
  have h_law_cheapest : mg ("_law_cheapest" : Str) = some (.ref (He.ga K ("_law_cheapest" : Str))) := facts_glo hf X G (by decide)
  obtain ⟨fd_lowest, D_lowest⟩ := c.def_ 13 (d := fnD.getD 13 ⟨("", none), "", "", defArgs (top 0), [], defScope (top 0), [], []⟩) rfl
  have h_lowest : mg ("lowest" : Str) = some (.ref (He.ga K ("lowest" : Str))) := facts_glo hf X G (by decide)
  obtain ⟨fd_sum_of_two, D_sum_of_two⟩ := c.def_ 14 (d := fnD.getD 14 ⟨("", none), "", "", defArgs (top 0), [], defScope (top 0), [], []⟩) rfl
  have h_sum_of_two : mg ("sum_of_two" : Str) = some (.ref (He.ga K ("sum_of_two" : Str))) := facts_glo hf X G (by decide)
  obtain ⟨fd_sum_of_all, D_sum_of_all⟩ := c.def_ 15 (d := fnD.getD 15 ⟨("", none), "", "", defArgs (top 0), [], defScope (top 0), [], []⟩) rfl
  have h_sum_of_all : mg ("sum_of_all" : Str) = some (.ref (He.ga K ("sum_of_all" : Str))) := facts_glo hf X G (by decide)
  obtain ⟨fd_is_pair, D_is_pair⟩ := c.def_ 16 (d := fnD.getD 16 ⟨("", none), "", "", defArgs (top 0), [], defScope (top 0), [], []⟩) rfl
  have h_is_pair : mg ("is_pair" : Str) = some (.ref (He.ga K ("is_pair" : Str))) := facts_glo hf X G (by decide)
  obtain ⟨fd_is_integer, D_is_integer⟩ := c.def_ 17 (d := fnD.getD 17 ⟨("", none), "", "", defArgs (top 0), [], defScope (top 0), [], []⟩) rfl
  have h_is_integer : mg ("is_integer" : Str) = some (.ref (He.ga K ("is_integer" : Str))) := facts_glo hf X G (by decide)
  obtain ⟨fd_is_number_of, D_is_number_of⟩ := c.def_ 18 (d := fnD.getD 18 ⟨("", none), "", "", defArgs (top 0), [], defScope (top 0), [], []⟩) rfl
  have h_is_number_of : mg ("is_number_of" : Str) = some (.ref (He.ga K ("is_number_of" : Str))) := facts_glo hf X G (by decide)
  obtain ⟨fd_is_shares_of, D_is_shares_of⟩ := c.def_ 19 (d := fnD.getD 19 ⟨("", none), "", "", defArgs (top 0), [], defScope (top 0), [], []⟩) rfl
  have h_is_shares_of : mg ("is_shares_of" : Str) = some (.ref (He.ga K ("is_shares_of" : Str))) := facts_glo hf X G (by decide)
  obtain ⟨fd_check_shares, D_check_shares⟩ := c.def_ 20 (d := fnD.getD 20 ⟨("", none), "", "", defArgs (top 0), [], defScope (top 0), [], []⟩) rfl
  have h_check_shares : mg ("check_shares" : Str) = some (.ref (He.ga K ("check_shares" : Str))) := facts_glo hf X G (by decide)
  obtain ⟨fd_shortest, D_shortest⟩ := c.def_ 21 (d := fnD.getD 21 ⟨("", none), "", "", defArgs (top 0), [], defScope (top 0), [], []⟩) rfl
  have h_shortest : mg ("shortest" : Str) = some (.ref (He.ga K ("shortest" : Str))) := facts_glo hf X G (by decide)
  obtain ⟨fd_power, D_power⟩ := c.def_ 22 (d := fnD.getD 22 ⟨("", none), "", "", defArgs (top 0), [], defScope (top 0), [], []⟩) rfl
  have h_power : mg ("power" : Str) = some (.ref (He.ga K ("power" : Str))) := facts_glo hf X G (by decide)
  obtain ⟨fd_rest_of, D_rest_of⟩ := c.def_ 23 (d := fnD.getD 23 ⟨("", none), "", "", defArgs (top 0), [], defScope (top 0), [], []⟩) rfl
  have h_rest_of : mg ("rest_of" : Str) = some (.ref (He.ga K ("rest_of" : Str))) := facts_glo hf X G (by decide)
  obtain ⟨fd_product, D_product⟩ := c.def_ 24 (d := fnD.getD 24 ⟨("", none), "", "", defArgs (top 0), [], defScope (top 0), [], []⟩) rfl
  have h_product : mg ("product" : Str) = some (.ref (He.ga K ("product" : Str))) := facts_glo hf X G (by decide)
  obtain ⟨fd_figure_of, D_figure_of⟩ := c.def_ 25 (d := fnD.getD 25 ⟨("", none), "", "", defArgs (top 0), [], defScope (top 0), [], []⟩) rfl
  have h_figure_of : mg ("figure_of" : Str) = some (.ref (He.ga K ("figure_of" : Str))) := facts_glo hf X G (by decide)
  obtain ⟨fd_whole, D_whole⟩ := c.def_ 26 (d := fnD.getD 26 ⟨("", none), "", "", defArgs (top 0), [], defScope (top 0), [], []⟩) rfl
  have h_whole : mg ("whole" : Str) = some (.ref (He.ga K ("whole" : Str))) := facts_glo hf X G (by decide)
  obtain ⟨fd_is_less, D_is_less⟩ := c.def_ 27 (d := fnD.getD 27 ⟨("", none), "", "", defArgs (top 0), [], defScope (top 0), [], []⟩) rfl
  have h_is_less : mg ("is_less" : Str) = some (.ref (He.ga K ("is_less" : Str))) := facts_glo hf X G (by decide)
  obtain ⟨fd_figures_of, D_figures_of⟩ := c.def_ 28 (d := fnD.getD 28 ⟨("", none), "", "", defArgs (top 0), [], defScope (top 0), [], []⟩) rfl
  have h_figures_of : mg ("figures_of" : Str) = some (.ref (He.ga K ("figures_of" : Str))) := facts_glo hf X G (by decide)
  obtain ⟨fd_quotient, D_quotient⟩ := c.def_ 29 (d := fnD.getD 29 ⟨("", none), "", "", defArgs (top 0), [], defScope (top 0), [], []⟩) rfl
  have h_quotient : mg ("quotient" : Str) = some (.ref (He.ga K ("quotient" : Str))) := facts_glo hf X G (by decide)
  obtain ⟨fd_again_and_again, D_again_and_again⟩ := c.def_ 30 (d := fnD.getD 30 ⟨("", none), "", "", defArgs (top 0), [], defScope (top 0), [], []⟩) rfl
  have h_again_and_again : mg ("again_and_again" : Str) = some (.ref (He.ga K ("again_and_again" : Str))) := facts_glo hf X G (by decide)
  obtain ⟨fd_by_halves, D_by_halves⟩ := c.def_ 31 (d := fnD.getD 31 ⟨("", none), "", "", defArgs (top 0), [], defScope (top 0), [], []⟩) rfl
  have h_by_halves : mg ("by_halves" : Str) = some (.ref (He.ga K ("by_halves" : Str))) := facts_glo hf X G (by decide)
  obtain ⟨fd_sum_of_figures, D_sum_of_figures⟩ := c.def_ 32 (d := fnD.getD 32 ⟨("", none), "", "", defArgs (top 0), [], defScope (top 0), [], []⟩) rfl
  have h_sum_of_figures : mg ("sum_of_figures" : Str) = some (.ref (He.ga K ("sum_of_figures" : Str))) := facts_glo hf X G (by decide)
  obtain ⟨fd_cost_of, D_cost_of⟩ := c.def_ 33 (d := fnD.getD 33 ⟨("", none), "", "", defArgs (top 0), [], defScope (top 0), [], []⟩) rfl
  have h_cost_of : mg ("cost_of" : Str) = some (.ref (He.ga K ("cost_of" : Str))) := facts_glo hf X G (by decide)
  obtain ⟨fd_least_mean_of, D_least_mean_of⟩ := c.def_ 34 (d := fnD.getD 34 ⟨("", none), "", "", defArgs (top 0), [], defScope (top 0), [], []⟩) rfl
  have h_least_mean_of : mg ("least_mean_of" : Str) = some (.ref (He.ga K ("least_mean_of" : Str))) := facts_glo hf X G (by decide)
  obtain ⟨fd_least_mean, D_least_mean⟩ := c.def_ 35 (d := fnD.getD 35 ⟨("", none), "", "", defArgs (top 0), [], defScope (top 0), [], []⟩) rfl
  have h_least_mean : mg ("least_mean" : Str) = some (.ref (He.ga K ("least_mean" : Str))) := facts_glo hf X G (by decide)
  obtain ⟨fd_law, D_law⟩ := c.def_ 36 (d := fnD.getD 36 ⟨("", none), "", "", defArgs (top 0), [], defScope (top 0), [], []⟩) rfl
  have h_law : mg ("law" : Str) = some (.ref (He.ga K ("law" : Str))) := facts_glo hf X G (by decide)
  refine ⟨fd_law, fun base => ?_, fun s u => FunD.bindsA (ps := [("script" : Str)]) D_law (fun _ _ _ _ _ _ us hl => match us, hl with | [_], _ => rfl) s [u] rfl⟩
  have k0 : FnsOk P w K mg base (fun _ => none) (mc 0 [] []) ⟨[], consL⟩ 0 := FnsOk.zero hf X G rfl rfl rfl
  have f_law_deck := fn_ok (m := m_law_deck) (g := ⟨[], consL⟩) (ps := [("script" : Str), ("k" : Str)]) (body := b_law_deck) (rn := rnL.getD 0 false) (k0.cong rfl rfl rfl rfl rfl) D_law_deck sc_law_deck (fun i hi => by revert i; decide) c_law_deck
  have k1 : FnsOk P w K mg base (fun _ => none) (mc 1 [] []) ⟨[F_law_deck], consL⟩ 1 := k0.snoc (fi := F_law_deck) (by omega) rfl rfl rfl rfl rfl rfl rfl rfl rfl h_law_deck D_law_deck.kp f_law_deck (kb_law_deck D_law_deck)
  have f_law_take := fn_ok (m := m_law_take) (g := ⟨[F_law_deck], consL⟩) (ps := [("deck" : Str), ("many" : Str)]) (body := b_law_take) (rn := rnL.getD 1 false) (k1.cong rfl rfl rfl rfl rfl) D_law_take sc_law_take (fun i hi => by revert i; decide) c_law_take
  have k2 : FnsOk P w K mg base (fun _ => none) (mc 2 [] []) ⟨[F_law_deck, F_law_take], consL⟩ 2 := k1.snoc (fi := F_law_take) (by omega) rfl rfl rfl rfl rfl rfl rfl rfl rfl h_law_take D_law_take.kp f_law_take (kb_law_take D_law_take)
  have f_law_power := fn_ok (m := m_law_power) (g := ⟨[F_law_deck, F_law_take], consL⟩) (ps := [("many" : Str)]) (body := b_law_power) (rn := rnL.getD 2 false) (k2.cong rfl rfl rfl rfl rfl) D_law_power sc_law_power (fun i hi => by revert i; decide) c_law_power
  have k3 : FnsOk P w K mg base (fun _ => none) (mc 3 [] []) ⟨[F_law_deck, F_law_take, F_law_power], consL⟩ 3 := k2.snoc (fi := F_law_power) (by omega) rfl rfl rfl rfl rfl rfl rfl rfl rfl h_law_power D_law_power.kp f_law_power (kb_law_power D_law_power)
  have f_law_number := fn_ok (m := m_law_number) (g := ⟨[F_law_deck, F_law_take, F_law_power], consL⟩) (ps := [("top" : Str), ("bottom" : Str)]) (body := b_law_number) (rn := rnL.getD 3 false) (k3.cong rfl rfl rfl rfl rfl) D_law_number sc_law_number (fun i hi => by revert i; decide) c_law_number
  have k4 : FnsOk P w K mg base (fun _ => none) (mc 4 [] []) ⟨[F_law_deck, F_law_take, F_law_power, F_law_number], consL⟩ 4 := k3.snoc (fi := F_law_number) (by omega) rfl rfl rfl rfl rfl rfl rfl rfl rfl h_law_number D_law_number.kp f_law_number (kb_law_number D_law_number)
  have f_law_weights := fn_ok (m := m_law_weights) (g := ⟨[F_law_deck, F_law_take, F_law_power, F_law_number], consL⟩) (ps := [("deck" : Str), ("n" : Str), ("total" : Str)]) (body := b_law_weights) (rn := rnL.getD 4 false) (k4.cong rfl rfl rfl rfl rfl) D_law_weights sc_law_weights (fun i hi => by revert i; decide) c_law_weights
  have k5 : FnsOk P w K mg base (fun _ => none) (mc 5 [] []) ⟨[F_law_deck, F_law_take, F_law_power, F_law_number, F_law_weights], consL⟩ 5 := k4.snoc (fi := F_law_weights) (by omega) rfl rfl rfl rfl rfl rfl rfl rfl rfl h_law_weights D_law_weights.kp f_law_weights (kb_law_weights D_law_weights)
  have f_law_shares := fn_ok (m := m_law_shares) (g := ⟨[F_law_deck, F_law_take, F_law_power, F_law_number, F_law_weights], consL⟩) (ps := [("deck" : Str), ("most" : Str)]) (body := b_law_shares) (rn := rnL.getD 5 false) (k5.cong rfl rfl rfl rfl rfl) D_law_shares sc_law_shares (fun i hi => by revert i; decide) c_law_shares
  have k6 : FnsOk P w K mg base (fun _ => none) (mc 6 [] []) ⟨[F_law_deck, F_law_take, F_law_power, F_law_number, F_law_weights, F_law_shares], consL⟩ 6 := k5.snoc (fi := F_law_shares) (by omega) rfl rfl rfl rfl rfl rfl rfl rfl rfl h_law_shares D_law_shares.kp f_law_shares (kb_law_shares D_law_shares)
  have f_law_times := fn_ok (m := m_law_times) (g := ⟨[F_law_deck, F_law_take, F_law_power, F_law_number, F_law_weights, F_law_shares], consL⟩) (ps := [("a" : Str), ("b" : Str)]) (body := b_law_times) (rn := rnL.getD 6 false) (k6.cong rfl rfl rfl rfl rfl) D_law_times sc_law_times (fun i hi => by revert i; decide) c_law_times
  have k7 : FnsOk P w K mg base (fun _ => none) (mc 7 [] []) ⟨[F_law_deck, F_law_take, F_law_power, F_law_number, F_law_weights, F_law_shares, F_law_times], consL⟩ 7 := k6.snoc (fi := F_law_times) (by omega) rfl rfl rfl rfl rfl rfl rfl rfl rfl h_law_times D_law_times.kp f_law_times (kb_law_times D_law_times)
  have f_law_plus := fn_ok (m := m_law_plus) (g := ⟨[F_law_deck, F_law_take, F_law_power, F_law_number, F_law_weights, F_law_shares, F_law_times], consL⟩) (ps := [("a" : Str), ("b" : Str)]) (body := b_law_plus) (rn := rnL.getD 7 false) (k7.cong rfl rfl rfl rfl rfl) D_law_plus sc_law_plus (fun i hi => by revert i; decide) c_law_plus
  have k8 : FnsOk P w K mg base (fun _ => none) (mc 8 [] []) ⟨[F_law_deck, F_law_take, F_law_power, F_law_number, F_law_weights, F_law_shares, F_law_times, F_law_plus], consL⟩ 8 := k7.snoc (fi := F_law_plus) (by omega) rfl rfl rfl rfl rfl rfl rfl rfl rfl h_law_plus D_law_plus.kp f_law_plus (kb_law_plus D_law_plus)
  have f_law_sum := fn_ok (m := m_law_sum) (g := ⟨[F_law_deck, F_law_take, F_law_power, F_law_number, F_law_weights, F_law_shares, F_law_times, F_law_plus], consL⟩) (ps := [("numbers" : Str)]) (body := b_law_sum) (rn := rnL.getD 8 false) (k8.cong rfl rfl rfl rfl rfl) D_law_sum sc_law_sum (fun i hi => by revert i; decide) c_law_sum
  have k9 : FnsOk P w K mg base (fun _ => none) (mc 9 [] []) ⟨[F_law_deck, F_law_take, F_law_power, F_law_number, F_law_weights, F_law_shares, F_law_times, F_law_plus, F_law_sum], consL⟩ 9 := k8.snoc (fi := F_law_sum) (by omega) rfl rfl rfl rfl rfl rfl rfl rfl rfl h_law_sum D_law_sum.kp f_law_sum (kb_law_sum D_law_sum)
  have f_law_tail := fn_ok (m := m_law_tail) (g := ⟨[F_law_deck, F_law_take, F_law_power, F_law_number, F_law_weights, F_law_shares, F_law_times, F_law_plus, F_law_sum], consL⟩) (ps := [("parts_of" : Str), ("k" : Str)]) (body := b_law_tail) (rn := rnL.getD 9 false) (k9.cong rfl rfl rfl rfl rfl) D_law_tail sc_law_tail (fun i hi => by revert i; decide) c_law_tail
  have k10 : FnsOk P w K mg base (fun _ => none) (mc 10 [] []) ⟨[F_law_deck, F_law_take, F_law_power, F_law_number, F_law_weights, F_law_shares, F_law_times, F_law_plus, F_law_sum, F_law_tail], consL⟩ 10 := k9.snoc (fi := F_law_tail) (by omega) rfl rfl rfl rfl rfl rfl rfl rfl rfl h_law_tail D_law_tail.kp f_law_tail (kb_law_tail D_law_tail)
  have f_law_least := fn_ok (m := m_law_least) (g := ⟨[F_law_deck, F_law_take, F_law_power, F_law_number, F_law_weights, F_law_shares, F_law_times, F_law_plus, F_law_sum, F_law_tail], consL⟩) (ps := [("parts_of" : Str)]) (body := b_law_least) (rn := rnL.getD 10 false) (k10.cong rfl rfl rfl rfl rfl) D_law_least sc_law_least (fun i hi => by revert i; decide) c_law_least
  have k11 : FnsOk P w K mg base (fun _ => none) (mc 11 [] []) ⟨[F_law_deck, F_law_take, F_law_power, F_law_number, F_law_weights, F_law_shares, F_law_times, F_law_plus, F_law_sum, F_law_tail, F_law_least], consL⟩ 11 := k10.snoc (fi := F_law_least) (by omega) rfl rfl rfl rfl rfl rfl rfl rfl rfl h_law_least D_law_least.kp f_law_least (kb_law_least D_law_least)
  have f_law_same := rec_ok (m' := m_law_same) (sem := s_law_same) (n := ("_law_same" : Str)) (ps := [("found" : Str), ("due" : Str)]) (g := ⟨[F_law_deck, F_law_take, F_law_power, F_law_number, F_law_weights, F_law_shares, F_law_times, F_law_plus, F_law_sum, F_law_tail, F_law_least], consL⟩) k11 D_law_same sc_law_same (fun i hi => by revert i; decide) c_law_same rfl (fun _ => rfl) rfl rfl rfl rfl rfl rfl h_law_same D_law_same.kp (kb_law_same D_law_same) 12
  have k12 : FnsOk P w K mg base (fun _ => none) (mc 12 [] []) ⟨[F_law_deck, F_law_take, F_law_power, F_law_number, F_law_weights, F_law_shares, F_law_times, F_law_plus, F_law_sum, F_law_tail, F_law_least, F_law_same], consL⟩ 23 := k11.snoc (fi := F_law_same) (by omega) rfl rfl rfl rfl rfl rfl rfl rfl rfl h_law_same D_law_same.kp f_law_same (kb_law_same D_law_same)
  have f_law_cheapest := rec_ok (m' := m_law_cheapest) (sem := s_law_cheapest) (n := ("_law_cheapest" : Str)) (ps := [("left" : Str), ("k" : Str), ("deep" : Str)]) (g := ⟨[F_law_deck, F_law_take, F_law_power, F_law_number, F_law_weights, F_law_shares, F_law_times, F_law_plus, F_law_sum, F_law_tail, F_law_least, F_law_same], consL⟩) k12 D_law_cheapest sc_law_cheapest (fun i hi => by revert i; decide) c_law_cheapest rfl (fun _ => rfl) rfl rfl rfl rfl rfl rfl h_law_cheapest D_law_cheapest.kp (kb_law_cheapest D_law_cheapest) 12
  have k13 : FnsOk P w K mg base (fun _ => none) (mc 13 [] []) ⟨[F_law_deck, F_law_take, F_law_power, F_law_number, F_law_weights, F_law_shares, F_law_times, F_law_plus, F_law_sum, F_law_tail, F_law_least, F_law_same, F_law_cheapest], consL⟩ 35 := k12.snoc (fi := F_law_cheapest) (by omega) rfl rfl rfl rfl rfl rfl rfl rfl rfl h_law_cheapest D_law_cheapest.kp f_law_cheapest (kb_law_cheapest D_law_cheapest)
  have f_lowest := fn_ok (m := m_lowest) (g := ⟨[F_law_deck, F_law_take, F_law_power, F_law_number, F_law_weights, F_law_shares, F_law_times, F_law_plus, F_law_sum, F_law_tail, F_law_least, F_law_same, F_law_cheapest], consL⟩) (ps := [("top" : Str), ("bottom" : Str)]) (body := b_lowest) (rn := rnL.getD 13 false) (k13.cong rfl rfl rfl rfl rfl) D_lowest sc_lowest (fun i hi => by revert i; decide) c_lowest
  have k14 : FnsOk P w K mg base (fun _ => none) (mc 14 [] []) ⟨[F_law_deck, F_law_take, F_law_power, F_law_number, F_law_weights, F_law_shares, F_law_times, F_law_plus, F_law_sum, F_law_tail, F_law_least, F_law_same, F_law_cheapest, F_lowest], consL⟩ 36 := k13.snoc (fi := F_lowest) (by omega) rfl rfl rfl rfl rfl rfl rfl rfl rfl h_lowest D_lowest.kp f_lowest (kb_lowest D_lowest)
  have f_sum_of_two := fn_ok (m := m_sum_of_two) (g := ⟨[F_law_deck, F_law_take, F_law_power, F_law_number, F_law_weights, F_law_shares, F_law_times, F_law_plus, F_law_sum, F_law_tail, F_law_least, F_law_same, F_law_cheapest, F_lowest], consL⟩) (ps := [("a" : Str), ("b" : Str)]) (body := b_sum_of_two) (rn := rnL.getD 14 false) (k14.cong rfl rfl rfl rfl rfl) D_sum_of_two sc_sum_of_two (fun i hi => by revert i; decide) c_sum_of_two
  have k15 : FnsOk P w K mg base (fun _ => none) (mc 15 [] []) ⟨[F_law_deck, F_law_take, F_law_power, F_law_number, F_law_weights, F_law_shares, F_law_times, F_law_plus, F_law_sum, F_law_tail, F_law_least, F_law_same, F_law_cheapest, F_lowest, F_sum_of_two], consL⟩ 37 := k14.snoc (fi := F_sum_of_two) (by omega) rfl rfl rfl rfl rfl rfl rfl rfl rfl h_sum_of_two D_sum_of_two.kp f_sum_of_two (kb_sum_of_two D_sum_of_two)
  have f_sum_of_all := fn_ok (m := m_sum_of_all) (g := ⟨[F_law_deck, F_law_take, F_law_power, F_law_number, F_law_weights, F_law_shares, F_law_times, F_law_plus, F_law_sum, F_law_tail, F_law_least, F_law_same, F_law_cheapest, F_lowest, F_sum_of_two], consL⟩) (ps := [("numbers" : Str)]) (body := b_sum_of_all) (rn := rnL.getD 15 false) (k15.cong rfl rfl rfl rfl rfl) D_sum_of_all sc_sum_of_all (fun i hi => by revert i; decide) c_sum_of_all
  have k16 : FnsOk P w K mg base (fun _ => none) (mc 16 [] []) ⟨[F_law_deck, F_law_take, F_law_power, F_law_number, F_law_weights, F_law_shares, F_law_times, F_law_plus, F_law_sum, F_law_tail, F_law_least, F_law_same, F_law_cheapest, F_lowest, F_sum_of_two, F_sum_of_all], consL⟩ 38 := k15.snoc (fi := F_sum_of_all) (by omega) rfl rfl rfl rfl rfl rfl rfl rfl rfl h_sum_of_all D_sum_of_all.kp f_sum_of_all (kb_sum_of_all D_sum_of_all)
  have f_is_pair := fn_ok (m := m_is_pair) (g := ⟨[F_law_deck, F_law_take, F_law_power, F_law_number, F_law_weights, F_law_shares, F_law_times, F_law_plus, F_law_sum, F_law_tail, F_law_least, F_law_same, F_law_cheapest, F_lowest, F_sum_of_two, F_sum_of_all], consL⟩) (ps := [("value" : Str)]) (body := b_is_pair) (rn := rnL.getD 16 false) (k16.cong rfl rfl rfl rfl rfl) D_is_pair sc_is_pair (fun i hi => by revert i; decide) c_is_pair
  have k17 : FnsOk P w K mg base (fun _ => none) (mc 17 [] []) ⟨[F_law_deck, F_law_take, F_law_power, F_law_number, F_law_weights, F_law_shares, F_law_times, F_law_plus, F_law_sum, F_law_tail, F_law_least, F_law_same, F_law_cheapest, F_lowest, F_sum_of_two, F_sum_of_all, F_is_pair], consL⟩ 39 := k16.snoc (fi := F_is_pair) (by omega) rfl rfl rfl rfl rfl rfl rfl rfl rfl h_is_pair D_is_pair.kp f_is_pair (kb_is_pair D_is_pair)
  have f_is_integer := fn_ok (m := m_is_integer) (g := ⟨[F_law_deck, F_law_take, F_law_power, F_law_number, F_law_weights, F_law_shares, F_law_times, F_law_plus, F_law_sum, F_law_tail, F_law_least, F_law_same, F_law_cheapest, F_lowest, F_sum_of_two, F_sum_of_all, F_is_pair], consL⟩) (ps := [("value" : Str)]) (body := b_is_integer) (rn := rnL.getD 17 false) (k17.cong rfl rfl rfl rfl rfl) D_is_integer sc_is_integer (fun i hi => by revert i; decide) c_is_integer
  have k18 : FnsOk P w K mg base (fun _ => none) (mc 18 [] []) ⟨[F_law_deck, F_law_take, F_law_power, F_law_number, F_law_weights, F_law_shares, F_law_times, F_law_plus, F_law_sum, F_law_tail, F_law_least, F_law_same, F_law_cheapest, F_lowest, F_sum_of_two, F_sum_of_all, F_is_pair, F_is_integer], consL⟩ 40 := k17.snoc (fi := F_is_integer) (by omega) rfl rfl rfl rfl rfl rfl rfl rfl rfl h_is_integer D_is_integer.kp f_is_integer (kb_is_integer D_is_integer)
  have f_is_number_of := fn_ok (m := m_is_number_of) (g := ⟨[F_law_deck, F_law_take, F_law_power, F_law_number, F_law_weights, F_law_shares, F_law_times, F_law_plus, F_law_sum, F_law_tail, F_law_least, F_law_same, F_law_cheapest, F_lowest, F_sum_of_two, F_sum_of_all, F_is_pair, F_is_integer], consL⟩) (ps := [("told" : Str)]) (body := b_is_number_of) (rn := rnL.getD 18 false) (k18.cong rfl rfl rfl rfl rfl) D_is_number_of sc_is_number_of (fun i hi => by revert i; decide) c_is_number_of
  have k19 : FnsOk P w K mg base (fun _ => none) (mc 19 [] []) ⟨[F_law_deck, F_law_take, F_law_power, F_law_number, F_law_weights, F_law_shares, F_law_times, F_law_plus, F_law_sum, F_law_tail, F_law_least, F_law_same, F_law_cheapest, F_lowest, F_sum_of_two, F_sum_of_all, F_is_pair, F_is_integer, F_is_number_of], consL⟩ 41 := k18.snoc (fi := F_is_number_of) (by omega) rfl rfl rfl rfl rfl rfl rfl rfl rfl h_is_number_of D_is_number_of.kp f_is_number_of (kb_is_number_of D_is_number_of)
  have f_is_shares_of := fn_ok (m := m_is_shares_of) (g := ⟨[F_law_deck, F_law_take, F_law_power, F_law_number, F_law_weights, F_law_shares, F_law_times, F_law_plus, F_law_sum, F_law_tail, F_law_least, F_law_same, F_law_cheapest, F_lowest, F_sum_of_two, F_sum_of_all, F_is_pair, F_is_integer, F_is_number_of], consL⟩) (ps := [("told" : Str)]) (body := b_is_shares_of) (rn := rnL.getD 19 false) (k19.cong rfl rfl rfl rfl rfl) D_is_shares_of sc_is_shares_of (fun i hi => by revert i; decide) c_is_shares_of
  have k20 : FnsOk P w K mg base (fun _ => none) (mc 20 [] []) ⟨[F_law_deck, F_law_take, F_law_power, F_law_number, F_law_weights, F_law_shares, F_law_times, F_law_plus, F_law_sum, F_law_tail, F_law_least, F_law_same, F_law_cheapest, F_lowest, F_sum_of_two, F_sum_of_all, F_is_pair, F_is_integer, F_is_number_of, F_is_shares_of], consL⟩ 42 := k19.snoc (fi := F_is_shares_of) (by omega) rfl rfl rfl rfl rfl rfl rfl rfl rfl h_is_shares_of D_is_shares_of.kp f_is_shares_of (kb_is_shares_of D_is_shares_of)
  have f_check_shares := fn_ok (m := m_check_shares) (g := ⟨[F_law_deck, F_law_take, F_law_power, F_law_number, F_law_weights, F_law_shares, F_law_times, F_law_plus, F_law_sum, F_law_tail, F_law_least, F_law_same, F_law_cheapest, F_lowest, F_sum_of_two, F_sum_of_all, F_is_pair, F_is_integer, F_is_number_of, F_is_shares_of], consL⟩) (ps := [("shares" : Str)]) (body := b_check_shares) (rn := rnL.getD 20 false) (k20.cong rfl rfl rfl rfl rfl) D_check_shares sc_check_shares (fun i hi => by revert i; decide) c_check_shares
  have k21 : FnsOk P w K mg base (fun _ => none) (mc 21 [] []) ⟨[F_law_deck, F_law_take, F_law_power, F_law_number, F_law_weights, F_law_shares, F_law_times, F_law_plus, F_law_sum, F_law_tail, F_law_least, F_law_same, F_law_cheapest, F_lowest, F_sum_of_two, F_sum_of_all, F_is_pair, F_is_integer, F_is_number_of, F_is_shares_of, F_check_shares], consL⟩ 43 := k20.snoc (fi := F_check_shares) (by omega) rfl rfl rfl rfl rfl rfl rfl rfl rfl h_check_shares D_check_shares.kp f_check_shares (kb_check_shares D_check_shares)
  have f_shortest := fn_ok (m := m_shortest) (g := ⟨[F_law_deck, F_law_take, F_law_power, F_law_number, F_law_weights, F_law_shares, F_law_times, F_law_plus, F_law_sum, F_law_tail, F_law_least, F_law_same, F_law_cheapest, F_lowest, F_sum_of_two, F_sum_of_all, F_is_pair, F_is_integer, F_is_number_of, F_is_shares_of, F_check_shares], consL⟩) (ps := [("ahead" : Str), ("again" : Str)]) (body := b_shortest) (rn := rnL.getD 21 false) (k21.cong rfl rfl rfl rfl rfl) D_shortest sc_shortest (fun i hi => by revert i; decide) c_shortest
  have k22 : FnsOk P w K mg base (fun _ => none) (mc 22 [] []) ⟨[F_law_deck, F_law_take, F_law_power, F_law_number, F_law_weights, F_law_shares, F_law_times, F_law_plus, F_law_sum, F_law_tail, F_law_least, F_law_same, F_law_cheapest, F_lowest, F_sum_of_two, F_sum_of_all, F_is_pair, F_is_integer, F_is_number_of, F_is_shares_of, F_check_shares, F_shortest], consL⟩ 44 := k21.snoc (fi := F_shortest) (by omega) rfl rfl rfl rfl rfl rfl rfl rfl rfl h_shortest D_shortest.kp f_shortest (kb_shortest D_shortest)
  have f_power := fn_ok (m := m_power) (g := ⟨[F_law_deck, F_law_take, F_law_power, F_law_number, F_law_weights, F_law_shares, F_law_times, F_law_plus, F_law_sum, F_law_tail, F_law_least, F_law_same, F_law_cheapest, F_lowest, F_sum_of_two, F_sum_of_all, F_is_pair, F_is_integer, F_is_number_of, F_is_shares_of, F_check_shares, F_shortest], consL⟩) (ps := [("b" : Str), ("n" : Str)]) (body := b_power) (rn := rnL.getD 22 false) (k22.cong rfl rfl rfl rfl rfl) D_power sc_power (fun i hi => by revert i; decide) c_power
  have k23 : FnsOk P w K mg base (fun _ => none) (mc 23 [] []) ⟨[F_law_deck, F_law_take, F_law_power, F_law_number, F_law_weights, F_law_shares, F_law_times, F_law_plus, F_law_sum, F_law_tail, F_law_least, F_law_same, F_law_cheapest, F_lowest, F_sum_of_two, F_sum_of_all, F_is_pair, F_is_integer, F_is_number_of, F_is_shares_of, F_check_shares, F_shortest, F_power], consL⟩ 45 := k22.snoc (fi := F_power) (by omega) rfl rfl rfl rfl rfl rfl rfl rfl rfl h_power D_power.kp f_power (kb_power D_power)
  have f_rest_of := fn_ok (m := m_rest_of) (g := ⟨[F_law_deck, F_law_take, F_law_power, F_law_number, F_law_weights, F_law_shares, F_law_times, F_law_plus, F_law_sum, F_law_tail, F_law_least, F_law_same, F_law_cheapest, F_lowest, F_sum_of_two, F_sum_of_all, F_is_pair, F_is_integer, F_is_number_of, F_is_shares_of, F_check_shares, F_shortest, F_power], consL⟩) (ps := [("number" : Str), ("k" : Str)]) (body := b_rest_of) (rn := rnL.getD 23 false) (k23.cong rfl rfl rfl rfl rfl) D_rest_of sc_rest_of (fun i hi => by revert i; decide) c_rest_of
  have k24 : FnsOk P w K mg base (fun _ => none) (mc 24 [] []) ⟨[F_law_deck, F_law_take, F_law_power, F_law_number, F_law_weights, F_law_shares, F_law_times, F_law_plus, F_law_sum, F_law_tail, F_law_least, F_law_same, F_law_cheapest, F_lowest, F_sum_of_two, F_sum_of_all, F_is_pair, F_is_integer, F_is_number_of, F_is_shares_of, F_check_shares, F_shortest, F_power, F_rest_of], consL⟩ 46 := k23.snoc (fi := F_rest_of) (by omega) rfl rfl rfl rfl rfl rfl rfl rfl rfl h_rest_of D_rest_of.kp f_rest_of (kb_rest_of D_rest_of)
  have f_product := fn_ok (m := m_product) (g := ⟨[F_law_deck, F_law_take, F_law_power, F_law_number, F_law_weights, F_law_shares, F_law_times, F_law_plus, F_law_sum, F_law_tail, F_law_least, F_law_same, F_law_cheapest, F_lowest, F_sum_of_two, F_sum_of_all, F_is_pair, F_is_integer, F_is_number_of, F_is_shares_of, F_check_shares, F_shortest, F_power, F_rest_of], consL⟩) (ps := [("a" : Str), ("b" : Str)]) (body := b_product) (rn := rnL.getD 24 false) (k24.cong rfl rfl rfl rfl rfl) D_product sc_product (fun i hi => by revert i; decide) c_product
  have k25 : FnsOk P w K mg base (fun _ => none) (mc 25 [] []) ⟨[F_law_deck, F_law_take, F_law_power, F_law_number, F_law_weights, F_law_shares, F_law_times, F_law_plus, F_law_sum, F_law_tail, F_law_least, F_law_same, F_law_cheapest, F_lowest, F_sum_of_two, F_sum_of_all, F_is_pair, F_is_integer, F_is_number_of, F_is_shares_of, F_check_shares, F_shortest, F_power, F_rest_of, F_product], consL⟩ 47 := k24.snoc (fi := F_product) (by omega) rfl rfl rfl rfl rfl rfl rfl rfl rfl h_product D_product.kp f_product (kb_product D_product)
  have f_figure_of := fn_ok (m := m_figure_of) (g := ⟨[F_law_deck, F_law_take, F_law_power, F_law_number, F_law_weights, F_law_shares, F_law_times, F_law_plus, F_law_sum, F_law_tail, F_law_least, F_law_same, F_law_cheapest, F_lowest, F_sum_of_two, F_sum_of_all, F_is_pair, F_is_integer, F_is_number_of, F_is_shares_of, F_check_shares, F_shortest, F_power, F_rest_of, F_product], consL⟩) (ps := [("number" : Str), ("k" : Str)]) (body := b_figure_of) (rn := rnL.getD 25 false) (k25.cong rfl rfl rfl rfl rfl) D_figure_of sc_figure_of (fun i hi => by revert i; decide) c_figure_of
  have k26 : FnsOk P w K mg base (fun _ => none) (mc 26 [] []) ⟨[F_law_deck, F_law_take, F_law_power, F_law_number, F_law_weights, F_law_shares, F_law_times, F_law_plus, F_law_sum, F_law_tail, F_law_least, F_law_same, F_law_cheapest, F_lowest, F_sum_of_two, F_sum_of_all, F_is_pair, F_is_integer, F_is_number_of, F_is_shares_of, F_check_shares, F_shortest, F_power, F_rest_of, F_product, F_figure_of], consL⟩ 48 := k25.snoc (fi := F_figure_of) (by omega) rfl rfl rfl rfl rfl rfl rfl rfl rfl h_figure_of D_figure_of.kp f_figure_of (kb_figure_of D_figure_of)
  have f_whole := fn_ok (m := m_whole) (g := ⟨[F_law_deck, F_law_take, F_law_power, F_law_number, F_law_weights, F_law_shares, F_law_times, F_law_plus, F_law_sum, F_law_tail, F_law_least, F_law_same, F_law_cheapest, F_lowest, F_sum_of_two, F_sum_of_all, F_is_pair, F_is_integer, F_is_number_of, F_is_shares_of, F_check_shares, F_shortest, F_power, F_rest_of, F_product, F_figure_of], consL⟩) (ps := [("a" : Str)]) (body := b_whole) (rn := rnL.getD 26 false) (k26.cong rfl rfl rfl rfl rfl) D_whole sc_whole (fun i hi => by revert i; decide) c_whole
  have k27 : FnsOk P w K mg base (fun _ => none) (mc 27 [] []) ⟨[F_law_deck, F_law_take, F_law_power, F_law_number, F_law_weights, F_law_shares, F_law_times, F_law_plus, F_law_sum, F_law_tail, F_law_least, F_law_same, F_law_cheapest, F_lowest, F_sum_of_two, F_sum_of_all, F_is_pair, F_is_integer, F_is_number_of, F_is_shares_of, F_check_shares, F_shortest, F_power, F_rest_of, F_product, F_figure_of, F_whole], consL⟩ 49 := k26.snoc (fi := F_whole) (by omega) rfl rfl rfl rfl rfl rfl rfl rfl rfl h_whole D_whole.kp f_whole (kb_whole D_whole)
  have f_is_less := fn_ok (m := m_is_less) (g := ⟨[F_law_deck, F_law_take, F_law_power, F_law_number, F_law_weights, F_law_shares, F_law_times, F_law_plus, F_law_sum, F_law_tail, F_law_least, F_law_same, F_law_cheapest, F_lowest, F_sum_of_two, F_sum_of_all, F_is_pair, F_is_integer, F_is_number_of, F_is_shares_of, F_check_shares, F_shortest, F_power, F_rest_of, F_product, F_figure_of, F_whole], consL⟩) (ps := [("a" : Str), ("b" : Str)]) (body := b_is_less) (rn := rnL.getD 27 false) (k27.cong rfl rfl rfl rfl rfl) D_is_less sc_is_less (fun i hi => by revert i; decide) c_is_less
  have k28 : FnsOk P w K mg base (fun _ => none) (mc 28 [] []) ⟨[F_law_deck, F_law_take, F_law_power, F_law_number, F_law_weights, F_law_shares, F_law_times, F_law_plus, F_law_sum, F_law_tail, F_law_least, F_law_same, F_law_cheapest, F_lowest, F_sum_of_two, F_sum_of_all, F_is_pair, F_is_integer, F_is_number_of, F_is_shares_of, F_check_shares, F_shortest, F_power, F_rest_of, F_product, F_figure_of, F_whole, F_is_less], consL⟩ 50 := k27.snoc (fi := F_is_less) (by omega) rfl rfl rfl rfl rfl rfl rfl rfl rfl h_is_less D_is_less.kp f_is_less (kb_is_less D_is_less)
  have f_figures_of := fn_ok (m := m_figures_of) (g := ⟨[F_law_deck, F_law_take, F_law_power, F_law_number, F_law_weights, F_law_shares, F_law_times, F_law_plus, F_law_sum, F_law_tail, F_law_least, F_law_same, F_law_cheapest, F_lowest, F_sum_of_two, F_sum_of_all, F_is_pair, F_is_integer, F_is_number_of, F_is_shares_of, F_check_shares, F_shortest, F_power, F_rest_of, F_product, F_figure_of, F_whole, F_is_less], consL⟩) (ps := [("number" : Str)]) (body := b_figures_of) (rn := rnL.getD 28 false) (k28.cong rfl rfl rfl rfl rfl) D_figures_of sc_figures_of (fun i hi => by revert i; decide) c_figures_of
  have k29 : FnsOk P w K mg base (fun _ => none) (mc 29 [] []) ⟨[F_law_deck, F_law_take, F_law_power, F_law_number, F_law_weights, F_law_shares, F_law_times, F_law_plus, F_law_sum, F_law_tail, F_law_least, F_law_same, F_law_cheapest, F_lowest, F_sum_of_two, F_sum_of_all, F_is_pair, F_is_integer, F_is_number_of, F_is_shares_of, F_check_shares, F_shortest, F_power, F_rest_of, F_product, F_figure_of, F_whole, F_is_less, F_figures_of], consL⟩ 51 := k28.snoc (fi := F_figures_of) (by omega) rfl rfl rfl rfl rfl rfl rfl rfl rfl h_figures_of D_figures_of.kp f_figures_of (kb_figures_of D_figures_of)
  have f_quotient := fn_ok (m := m_quotient) (g := ⟨[F_law_deck, F_law_take, F_law_power, F_law_number, F_law_weights, F_law_shares, F_law_times, F_law_plus, F_law_sum, F_law_tail, F_law_least, F_law_same, F_law_cheapest, F_lowest, F_sum_of_two, F_sum_of_all, F_is_pair, F_is_integer, F_is_number_of, F_is_shares_of, F_check_shares, F_shortest, F_power, F_rest_of, F_product, F_figure_of, F_whole, F_is_less, F_figures_of], consL⟩) (ps := [("a" : Str), ("b" : Str)]) (body := b_quotient) (rn := rnL.getD 29 false) (k29.cong rfl rfl rfl rfl rfl) D_quotient sc_quotient (fun i hi => by revert i; decide) c_quotient
  have k30 : FnsOk P w K mg base (fun _ => none) (mc 30 [] []) ⟨[F_law_deck, F_law_take, F_law_power, F_law_number, F_law_weights, F_law_shares, F_law_times, F_law_plus, F_law_sum, F_law_tail, F_law_least, F_law_same, F_law_cheapest, F_lowest, F_sum_of_two, F_sum_of_all, F_is_pair, F_is_integer, F_is_number_of, F_is_shares_of, F_check_shares, F_shortest, F_power, F_rest_of, F_product, F_figure_of, F_whole, F_is_less, F_figures_of, F_quotient], consL⟩ 52 := k29.snoc (fi := F_quotient) (by omega) rfl rfl rfl rfl rfl rfl rfl rfl rfl h_quotient D_quotient.kp f_quotient (kb_quotient D_quotient)
  have f_again_and_again := fn_ok (m := m_again_and_again) (g := ⟨[F_law_deck, F_law_take, F_law_power, F_law_number, F_law_weights, F_law_shares, F_law_times, F_law_plus, F_law_sum, F_law_tail, F_law_least, F_law_same, F_law_cheapest, F_lowest, F_sum_of_two, F_sum_of_all, F_is_pair, F_is_integer, F_is_number_of, F_is_shares_of, F_check_shares, F_shortest, F_power, F_rest_of, F_product, F_figure_of, F_whole, F_is_less, F_figures_of, F_quotient], consL⟩) (ps := [("first" : Str), ("many" : Str)]) (body := b_again_and_again) (rn := rnL.getD 30 false) (k30.cong rfl rfl rfl rfl rfl) D_again_and_again sc_again_and_again (fun i hi => by revert i; decide) c_again_and_again
  have k31 : FnsOk P w K mg base (fun _ => none) (mc 31 [] []) ⟨[F_law_deck, F_law_take, F_law_power, F_law_number, F_law_weights, F_law_shares, F_law_times, F_law_plus, F_law_sum, F_law_tail, F_law_least, F_law_same, F_law_cheapest, F_lowest, F_sum_of_two, F_sum_of_all, F_is_pair, F_is_integer, F_is_number_of, F_is_shares_of, F_check_shares, F_shortest, F_power, F_rest_of, F_product, F_figure_of, F_whole, F_is_less, F_figures_of, F_quotient, F_again_and_again], consL⟩ 53 := k30.snoc (fi := F_again_and_again) (by omega) rfl rfl rfl rfl rfl rfl rfl rfl rfl h_again_and_again D_again_and_again.kp f_again_and_again (kb_again_and_again D_again_and_again)
  have f_by_halves := fn_ok (m := m_by_halves) (g := ⟨[F_law_deck, F_law_take, F_law_power, F_law_number, F_law_weights, F_law_shares, F_law_times, F_law_plus, F_law_sum, F_law_tail, F_law_least, F_law_same, F_law_cheapest, F_lowest, F_sum_of_two, F_sum_of_all, F_is_pair, F_is_integer, F_is_number_of, F_is_shares_of, F_check_shares, F_shortest, F_power, F_rest_of, F_product, F_figure_of, F_whole, F_is_less, F_figures_of, F_quotient, F_again_and_again], consL⟩) (ps := [("a" : Str), ("k" : Str)]) (body := b_by_halves) (rn := rnL.getD 31 false) (k31.cong rfl rfl rfl rfl rfl) D_by_halves sc_by_halves (fun i hi => by revert i; decide) c_by_halves
  have k32 : FnsOk P w K mg base (fun _ => none) (mc 32 [] []) ⟨[F_law_deck, F_law_take, F_law_power, F_law_number, F_law_weights, F_law_shares, F_law_times, F_law_plus, F_law_sum, F_law_tail, F_law_least, F_law_same, F_law_cheapest, F_lowest, F_sum_of_two, F_sum_of_all, F_is_pair, F_is_integer, F_is_number_of, F_is_shares_of, F_check_shares, F_shortest, F_power, F_rest_of, F_product, F_figure_of, F_whole, F_is_less, F_figures_of, F_quotient, F_again_and_again, F_by_halves], consL⟩ 54 := k31.snoc (fi := F_by_halves) (by omega) rfl rfl rfl rfl rfl rfl rfl rfl rfl h_by_halves D_by_halves.kp f_by_halves (kb_by_halves D_by_halves)
  have f_sum_of_figures := fn_ok (m := m_sum_of_figures) (g := ⟨[F_law_deck, F_law_take, F_law_power, F_law_number, F_law_weights, F_law_shares, F_law_times, F_law_plus, F_law_sum, F_law_tail, F_law_least, F_law_same, F_law_cheapest, F_lowest, F_sum_of_two, F_sum_of_all, F_is_pair, F_is_integer, F_is_number_of, F_is_shares_of, F_check_shares, F_shortest, F_power, F_rest_of, F_product, F_figure_of, F_whole, F_is_less, F_figures_of, F_quotient, F_again_and_again, F_by_halves], consL⟩) (ps := [("some" : Str), ("begin" : Str)]) (body := b_sum_of_figures) (rn := rnL.getD 32 false) (k32.cong rfl rfl rfl rfl rfl) D_sum_of_figures sc_sum_of_figures (fun i hi => by revert i; decide) c_sum_of_figures
  have k33 : FnsOk P w K mg base (fun _ => none) (mc 33 [] []) ⟨[F_law_deck, F_law_take, F_law_power, F_law_number, F_law_weights, F_law_shares, F_law_times, F_law_plus, F_law_sum, F_law_tail, F_law_least, F_law_same, F_law_cheapest, F_lowest, F_sum_of_two, F_sum_of_all, F_is_pair, F_is_integer, F_is_number_of, F_is_shares_of, F_check_shares, F_shortest, F_power, F_rest_of, F_product, F_figure_of, F_whole, F_is_less, F_figures_of, F_quotient, F_again_and_again, F_by_halves, F_sum_of_figures], consL⟩ 55 := k32.snoc (fi := F_sum_of_figures) (by omega) rfl rfl rfl rfl rfl rfl rfl rfl rfl h_sum_of_figures D_sum_of_figures.kp f_sum_of_figures (kb_sum_of_figures D_sum_of_figures)
  have f_cost_of := fn_ok (m := m_cost_of) (g := ⟨[F_law_deck, F_law_take, F_law_power, F_law_number, F_law_weights, F_law_shares, F_law_times, F_law_plus, F_law_sum, F_law_tail, F_law_least, F_law_same, F_law_cheapest, F_lowest, F_sum_of_two, F_sum_of_all, F_is_pair, F_is_integer, F_is_number_of, F_is_shares_of, F_check_shares, F_shortest, F_power, F_rest_of, F_product, F_figure_of, F_whole, F_is_less, F_figures_of, F_quotient, F_again_and_again, F_by_halves, F_sum_of_figures], consL⟩) (ps := [("number" : Str)]) (body := b_cost_of) (rn := rnL.getD 33 false) (k33.cong rfl rfl rfl rfl rfl) D_cost_of sc_cost_of (fun i hi => by revert i; decide) c_cost_of
  have k34 : FnsOk P w K mg base (fun _ => none) (mc 34 [] []) ⟨[F_law_deck, F_law_take, F_law_power, F_law_number, F_law_weights, F_law_shares, F_law_times, F_law_plus, F_law_sum, F_law_tail, F_law_least, F_law_same, F_law_cheapest, F_lowest, F_sum_of_two, F_sum_of_all, F_is_pair, F_is_integer, F_is_number_of, F_is_shares_of, F_check_shares, F_shortest, F_power, F_rest_of, F_product, F_figure_of, F_whole, F_is_less, F_figures_of, F_quotient, F_again_and_again, F_by_halves, F_sum_of_figures, F_cost_of], consL⟩ 56 := k33.snoc (fi := F_cost_of) (by omega) rfl rfl rfl rfl rfl rfl rfl rfl rfl h_cost_of D_cost_of.kp f_cost_of (kb_cost_of D_cost_of)
  have f_least_mean_of := fn_ok (m := m_least_mean_of) (g := ⟨[F_law_deck, F_law_take, F_law_power, F_law_number, F_law_weights, F_law_shares, F_law_times, F_law_plus, F_law_sum, F_law_tail, F_law_least, F_law_same, F_law_cheapest, F_lowest, F_sum_of_two, F_sum_of_all, F_is_pair, F_is_integer, F_is_number_of, F_is_shares_of, F_check_shares, F_shortest, F_power, F_rest_of, F_product, F_figure_of, F_whole, F_is_less, F_figures_of, F_quotient, F_again_and_again, F_by_halves, F_sum_of_figures, F_cost_of], consL⟩) (ps := [("shares" : Str)]) (body := b_least_mean_of) (rn := rnL.getD 34 false) (k34.cong rfl rfl rfl rfl rfl) D_least_mean_of sc_least_mean_of (fun i hi => by revert i; decide) c_least_mean_of
  have k35 : FnsOk P w K mg base (fun _ => none) (mc 35 [] []) ⟨[F_law_deck, F_law_take, F_law_power, F_law_number, F_law_weights, F_law_shares, F_law_times, F_law_plus, F_law_sum, F_law_tail, F_law_least, F_law_same, F_law_cheapest, F_lowest, F_sum_of_two, F_sum_of_all, F_is_pair, F_is_integer, F_is_number_of, F_is_shares_of, F_check_shares, F_shortest, F_power, F_rest_of, F_product, F_figure_of, F_whole, F_is_less, F_figures_of, F_quotient, F_again_and_again, F_by_halves, F_sum_of_figures, F_cost_of, F_least_mean_of], consL⟩ 57 := k34.snoc (fi := F_least_mean_of) (by omega) rfl rfl rfl rfl rfl rfl rfl rfl rfl h_least_mean_of D_least_mean_of.kp f_least_mean_of (kb_least_mean_of D_least_mean_of)
  have f_least_mean := fn_ok (m := m_least_mean) (g := ⟨[F_law_deck, F_law_take, F_law_power, F_law_number, F_law_weights, F_law_shares, F_law_times, F_law_plus, F_law_sum, F_law_tail, F_law_least, F_law_same, F_law_cheapest, F_lowest, F_sum_of_two, F_sum_of_all, F_is_pair, F_is_integer, F_is_number_of, F_is_shares_of, F_check_shares, F_shortest, F_power, F_rest_of, F_product, F_figure_of, F_whole, F_is_less, F_figures_of, F_quotient, F_again_and_again, F_by_halves, F_sum_of_figures, F_cost_of, F_least_mean_of], consL⟩) (ps := [("shares" : Str)]) (body := b_least_mean) (rn := rnL.getD 35 false) (k35.cong rfl rfl rfl rfl rfl) D_least_mean sc_least_mean (fun i hi => by revert i; decide) c_least_mean
  have k36 : FnsOk P w K mg base (fun _ => none) (mc 36 [] []) ⟨[F_law_deck, F_law_take, F_law_power, F_law_number, F_law_weights, F_law_shares, F_law_times, F_law_plus, F_law_sum, F_law_tail, F_law_least, F_law_same, F_law_cheapest, F_lowest, F_sum_of_two, F_sum_of_all, F_is_pair, F_is_integer, F_is_number_of, F_is_shares_of, F_check_shares, F_shortest, F_power, F_rest_of, F_product, F_figure_of, F_whole, F_is_less, F_figures_of, F_quotient, F_again_and_again, F_by_halves, F_sum_of_figures, F_cost_of, F_least_mean_of, F_least_mean], consL⟩ 58 := k35.snoc (fi := F_least_mean) (by omega) rfl rfl rfl rfl rfl rfl rfl rfl rfl h_least_mean D_least_mean.kp f_least_mean (kb_least_mean D_least_mean)
  have f_law := fn_ok (m := m_law) (g := ⟨[F_law_deck, F_law_take, F_law_power, F_law_number, F_law_weights, F_law_shares, F_law_times, F_law_plus, F_law_sum, F_law_tail, F_law_least, F_law_same, F_law_cheapest, F_lowest, F_sum_of_two, F_sum_of_all, F_is_pair, F_is_integer, F_is_number_of, F_is_shares_of, F_check_shares, F_shortest, F_power, F_rest_of, F_product, F_figure_of, F_whole, F_is_less, F_figures_of, F_quotient, F_again_and_again, F_by_halves, F_sum_of_figures, F_cost_of, F_least_mean_of, F_least_mean], consL⟩) (ps := [("script" : Str)]) (body := b_law) (rn := rnL.getD 36 false) (k36.cong rfl rfl rfl rfl rfl) D_law sc_law (fun i hi => by revert i; decide) c_law
  exact f_law
def lvl : Nat := 59
end Lk18
end

section
set_option Elab.async false
set_option linter.all false
set_option maxRecDepth 100000
set_option maxHeartbeats 0
namespace Lk18
open PySem PySem.Spec PyProof.Rows L2 WT
abbrev rowR : PySem.W.OpenRow := PySem.W.OpenLaw.row PySem.Challenge.rw_wholetosses_k18_whole_least_means
abbrev hk : PySem.W.Hook := hookW 6 chkL fnD
def ob (s : PySem.W.SharedT) : AlW := obsWG 6 chkL fnD (HandSHeadRun.getT s)
theorem ob_eq (s : PySem.W.SharedT) : ob s = hk.obs s.abs := obsWG_eq (HandSHeadRun.getT_eq s)
def loose : List Str := ([("TossError" : Str), ("InvalidShares" : Str), ("ZERO" : Str), ("ONE" : Str)] : List Str) ++ namesL.dropLast
theorem run (w : World) : HandSHeadRun.RunEqI rowR (PySem.W.view rowR.prog [0, 47]) hk ob 2000 loose w := by
  unfold HandSHeadRun.RunEqI
  kernel_rfl
end Lk18
namespace Lk18
open HandSHeadRun PySem PySem.W PySem.Calls PyProof.Rows
abbrev prgQ : Program := view rowR.prog [0, 47]
abbrev defD := HandSHeadRun.topDef rowR.prog 47
theorem asm1 : defOf prgQ rowR.name = some (defD, []) := by kernel_rfl
theorem asm2 : rowR.prog.theDef rowR.name = some (defD.params, defD.body, defD.scope) := by kernel_rfl
theorem asm3 : kwWritten? defD.params.kwonlyargs defD.params.kw_defaults = some [] := by rfl
theorem asm4 : (!rowR.writes || rowR.records.isEmpty) = true := by first | assumption | decide +kernel
theorem asm5 : rowR.wellSaid = true := by kernel_rfl
theorem asm6 : (chainsOk prgQ && opensWell rowR.prog && (frees rowR.toRowW && rowR.within.isEmpty)) = true := by kernel_rfl
theorem asm7 : rowR.prog.bare := ⟨rfl, rfl, rfl, rfl, rfl, by decide +kernel⟩
theorem asm8 : rowR.toRowW.promised := by w_witness2
theorem asm9 : defD.name = "law" := by kernel_rfl
theorem asm10 : defD.params.defaults = [] := by kernel_rfl
end Lk18
end

section
set_option Elab.async false
set_option linter.all false
set_option maxRecDepth 100000
set_option autoImplicit false
/-! P0: operations of data as rewriting rules. Own work. -/
namespace WT
open PySem
variable {α : Type}
def ilst (ns : List Int) : List D := ns.map D.int
@[simp] theorem ilst_nil : ilst [] = [] := (rfl)
@[simp] theorem ilst_cons (n : Int) (ns : List Int) : ilst (n :: ns) = .int n :: ilst ns := (rfl)
@[simp] theorem ilst_length (ns : List Int) : (ilst ns).length = ns.length := by simp [ilst]
@[simp] theorem ilst_append (a b : List Int) : ilst (a ++ b) = ilst a ++ ilst b := by simp [ilst]
def fr (p : Int × Int) : D := .tup [.int p.1, .int p.2]
@[simp] theorem fr_mk (a b : Int) : D.tup [.int a, .int b] = fr (a, b) := (rfl)

@[simp] theorem binD_add (a b : Int) : binD .Add (.int a) (.int b) = some (.int (a + b)) := (rfl)
@[simp] theorem binD_sub (a b : Int) : binD .Sub (.int a) (.int b) = some (.int (a - b)) := (rfl)
@[simp] theorem binD_mul (a b : Int) : binD .Mult (.int a) (.int b) = guardO (mulOK a b) (.int (a * b)) := (rfl)
@[simp] theorem binD_div (a b : Int) : binD .FloorDiv (.int a) (.int b) = guardO (divOK b) (.int (a.fdiv b)) := (rfl)
@[simp] theorem binD_mod (a b : Int) : binD .Mod (.int a) (.int b) = guardO (b ≠ 0) (.int (a.fmod b)) := (rfl)
@[simp] theorem binD_pow (a b : Int) : binD .Pow (.int a) (.int b) = guardO (pwOK a b) (.int (a ^ b.toNat)) := (rfl)
@[simp] theorem binD_addt (a b : List D) : binD .Add (.tup a) (.tup b) = guardO (a.length + b.length ≤ sizeLine) (.tup (a ++ b)) := (rfl)
@[simp] theorem binD_addl (a b : List D) : binD .Add (.lst a) (.lst b) = guardO (a.length + b.length ≤ sizeLine) (.lst (a ++ b)) := (rfl)
@[simp] theorem cmpD_lt (a b : Int) : cmpD .Lt (.int a) (.int b) = some (decide (a < b)) := (rfl)
@[simp] theorem cmpD_le (a b : Int) : cmpD .LtE (.int a) (.int b) = some (decide (a ≤ b)) := (rfl)
@[simp] theorem cmpD_gt (a b : Int) : cmpD .Gt (.int a) (.int b) = some (decide (b < a)) := (rfl)
@[simp] theorem cmpD_ge (a b : Int) : cmpD .GtE (.int a) (.int b) = some (decide (b ≤ a)) := (rfl)
@[simp] theorem cmpD_eq (a b : D) : cmpD .Eq a b = eqD a b := (rfl)
@[simp] theorem cmpD_ne (a b : D) : cmpD .NotEq a b = (eqD a b).map (!·) := (rfl)
@[simp] theorem cmpD_is_non : cmpD .Is .non .non = some true := (rfl)
@[simp] theorem cmpD_is_bl (b : Bool) : cmpD .Is (.bl b) .non = some false := (rfl)
@[simp] theorem cmpD_is_int (b : Int) : cmpD .Is (.int b) .non = some false := (rfl)
@[simp] theorem cmpD_is_str (b : Str) : cmpD .Is (.str b) .non = some false := (rfl)
@[simp] theorem cmpD_is_tup (b : List D) : cmpD .Is (.tup b) .non = some false := (rfl)
@[simp] theorem cmpD_is_lst (b : List D) : cmpD .Is (.lst b) .non = some false := (rfl)
@[simp] theorem cmpD_isn_non : cmpD .IsNot .non .non = some false := (rfl)
@[simp] theorem cmpD_isn_tup (b : List D) : cmpD .IsNot (.tup b) .non = some true := (rfl)
@[simp] theorem cmpD_is_bb (a b : Bool) : cmpD .Is (.bl a) (.bl b) = some (decide (a = b)) := (rfl)
@[simp] theorem cmpD_isn_bb (a b : Bool) : cmpD .IsNot (.bl a) (.bl b) = some (!decide (a = b)) := (rfl)
@[simp] theorem cmpD_in_dK (a : D) (ks : List L2.Key) (vs : List D) : cmpD .In a (.dK ks vs) = (keyOf a).map fun k => (valP ks vs k).isSome := by cases a <;> rfl
@[simp] theorem cmpD_notin_dK (a : D) (ks : List L2.Key) (vs : List D) : cmpD .NotIn a (.dK ks vs) = (keyOf a).map fun k => !(valP ks vs k).isSome := by cases a <;> rfl
@[simp] theorem keyOf_int (i : Int) : keyOf (.int i) = some (.inl i) := (rfl)
@[simp] theorem keyOf_str (i : Str) : keyOf (.str i) = some (.inr i) := (rfl)
@[simp] theorem idxD_dK (st : Sto) (ks : List L2.Key) (vs : List D) (y : D) : idxD st (.dK ks vs) y = (keyOf y).bind fun k => valP ks vs k := by cases y <;> rfl
@[simp] theorem dputD_dK (ks : List L2.Key) (vs : List D) (y v : D) : dputD (.dK ks vs) y v = if noL v && decide (ks.length < sizeLine) then (keyOf y).map fun k => if (valP ks vs k).isSome then .dK ks (repP k v ks vs) else .dK (ks ++ [k]) (vs ++ [v]) else none := (rfl)
@[simp] theorem dgetoD_dK (ks : List L2.Key) (vs : List D) (y z : D) : dgetoD (.dK ks vs) y z = if noL z then (keyOf y).map fun k => (valP ks vs k).getD z else none := (rfl)
@[simp] theorem cmpD_in_dT (a : D) (ks : List NestedKey) (vs : List D) : cmpD .In a (.dT ks vs) = (keyTO a).map fun k => (valP ks vs k).isSome := by cases a <;> rfl
@[simp] theorem cmpD_notin_dT (a : D) (ks : List NestedKey) (vs : List D) : cmpD .NotIn a (.dT ks vs) = (keyTO a).map fun k => !(valP ks vs k).isSome := by cases a <;> rfl
@[simp] theorem idxD_dT (st : Sto) (ks : List NestedKey) (vs : List D) (y : D) : idxD st (.dT ks vs) y = (keyTO y).bind fun k => valP ks vs k := by cases y <;> rfl
@[simp] theorem dputD_dT (ks : List NestedKey) (vs : List D) (y v : D) : dputD (.dT ks vs) y v = if noL v && decide (ks.length < sizeLine) then (keyTO y).map fun k => if (valP ks vs k).isSome then .dT ks (repP k v ks vs) else .dT (ks ++ [k]) (vs ++ [v]) else none := (rfl)
/-- a pair's key -/
def kPr (a b : Int) : NestedKey := .tup [.num a, .num b]
@[simp] theorem keyTO_pair (a b : Int) : keyTO (.tup [.int a, .int b]) = some (kPr a b) := (rfl)
theorem kPr_inj {a b c d : Int} : kPr a b = kPr c d ↔ a = c ∧ b = d := by
  unfold kPr
  constructor
  · intro h; injection h with h; injection h with h1 h2; injection h2 with h2 h3; injection h1 with h1; injection h2 with h2; exact ⟨h1, h2⟩
  · rintro ⟨rfl, rfl⟩; rfl
@[simp] theorem biD_lend (st : Sto) (ks : List L2.Key) (vs : List D) : biD st .len [.dK ks vs] = some (.int ks.length) := (rfl)
@[simp] theorem truD_bl (st : Sto) (b : Bool) : truD st (.bl b) = some b := (rfl)
@[simp] theorem truD_non (st : Sto) : truD st .non = some false := (rfl)
@[simp] theorem truD_int (st : Sto) (i : Int) : truD st (.int i) = some (i != 0) := (rfl)
@[simp] theorem truD_lst (st : Sto) (xs : List D) : truD st (.lst xs) = some (!xs.isEmpty) := (rfl)
@[simp] theorem truD_tup (st : Sto) (xs : List D) : truD st (.tup xs) = some (!xs.isEmpty) := (rfl)
@[simp] theorem idxD_lst (st : Sto) (xs : List D) (i : Int) : idxD st (.lst xs) (.int i) = ixD xs i := (rfl)
@[simp] theorem idxD_tup (st : Sto) (xs : List D) (i : Int) : idxD st (.tup xs) (.int i) = ixD xs i := (rfl)
@[simp] theorem idxD_frz (st : Sto) (xs : List Int) (i : Int) : idxD st (.frz xs) (.int i) = ixD (xs.map D.int) i := (rfl)
@[simp] theorem idxD_ref (st : Sto) (k : Nat) (i : Int) : idxD st (.ref k) (.int i) = (st[k]?).bind fun xs => ixD xs i := (rfl)
theorem ixD_nat {xs : List α} {k : Nat} {x : α} (h : xs[k]? = some x) : ixD xs (k : Int) = some x := by
  unfold ixD L2.atI
  have hk : k < xs.length := (List.getElem?_eq_some_iff.mp h).1
  simp only [L2.ixN]
  rw [if_pos (by omega), if_pos (by omega)]
  simpa using h
@[simp] theorem ixD_0 (x : α) (xs : List α) : ixD (x :: xs) 0 = some x := ixD_nat (k := 0) rfl
@[simp] theorem ixD_1 (x y : α) (xs : List α) : ixD (x :: y :: xs) 1 = some y := ixD_nat (k := 1) rfl
@[simp] theorem ixD_2 (x y z : α) (xs : List α) : ixD (x :: y :: z :: xs) 2 = some z := ixD_nat (k := 2) rfl
@[simp] theorem ixD_last (x : α) (xs : List α) : ixD (xs ++ [x]) (-1) = some x := by
  unfold ixD L2.atI
  simp only [L2.ixN, List.length_append, List.length_singleton]
  rw [if_neg (by omega), if_pos (by omega)]
  have : (-1 + ((xs.length + 1 : Nat) : Int)).toNat = xs.length := by omega
  show (xs ++ [x])[(-1 + ((xs.length + 1 : Nat) : Int)).toNat]? = some x
  rw [this]
  simp
@[simp] theorem sliceD_lst (xs : List D) (a b : Option Int) : sliceD (.lst xs) a b = some (.lst (cutL xs a b)) := (rfl)
@[simp] theorem sliceD_tup (xs : List D) (a b : Option Int) : sliceD (.tup xs) a b = some (.tup (cutL xs a b)) := (rfl)
@[simp] theorem revD_tup (xs : List D) : revD (.tup xs) = some (.tup xs.reverse) := (rfl)
@[simp] theorem revD_lst (xs : List D) : revD (.lst xs) = some (.lst xs.reverse) := (rfl)
@[simp] theorem isiD_non (ts : List Ty) : isiD .non ts = some (ts.any fun t => ([] : List Ty).contains t) := (rfl)
@[simp] theorem isiD_bl (b : Bool) (ts : List Ty) : isiD (.bl b) ts = some (ts.any fun t => ([.bool, .int] : List Ty).contains t) := (rfl)
@[simp] theorem isiD_int (i : Int) (ts : List Ty) : isiD (.int i) ts = some (ts.any fun t => ([.int] : List Ty).contains t) := (rfl)
@[simp] theorem isiD_str (i : Str) (ts : List Ty) : isiD (.str i) ts = some (ts.any fun t => ([.str] : List Ty).contains t) := (rfl)
@[simp] theorem isiD_tup (i : List D) (ts : List Ty) : isiD (.tup i) ts = some (ts.any fun t => ([.tuple] : List Ty).contains t) := (rfl)
@[simp] theorem isiD_lst (i : List D) (ts : List Ty) : isiD (.lst i) ts = some (ts.any fun t => ([.list] : List Ty).contains t) := (rfl)
@[simp] theorem seqOf_lst (xs : List D) : seqOf (.lst xs) = some xs := (rfl)
@[simp] theorem seqOf_tup (xs : List D) : seqOf (.tup xs) = some xs := (rfl)
@[simp] theorem biD_lenl (st : Sto) (xs : List D) : biD st .len [.lst xs] = some (.int xs.length) := (rfl)
@[simp] theorem biD_lent (st : Sto) (xs : List D) : biD st .len [.tup xs] = some (.int xs.length) := (rfl)
@[simp] theorem biD_lenf (st : Sto) (xs : List Int) : biD st .len [.frz xs] = some (.int xs.length) := (rfl)
@[simp] theorem biD_int (st : Sto) (i : Int) : biD st .int [.int i] = some (.int i) := (rfl)
@[simp] theorem biD_intb (st : Sto) (b : Bool) : biD st .int [.bl b] = some (.int (if b then 1 else 0)) := (rfl)
@[simp] theorem biD_abs (st : Sto) (i : Int) : biD st .abs [.int i] = some (.int (if i < 0 then -i else i)) := (rfl)
@[simp] theorem biD_gcd (st : Sto) (i j : Int) : biD st .gcd [.int i, .int j] = some (.int (Nat.gcd i.natAbs j.natAbs : Nat)) := (rfl)
@[simp] theorem biD_max2 (st : Sto) (i j : Int) : biD st .max2 [.int i, .int j] = some (.int (if j > i then j else i)) := (rfl)
@[simp] theorem biD_min2 (st : Sto) (i j : Int) : biD st .min2 [.int i, .int j] = some (.int (if j < i then j else i)) := (rfl)
@[simp] theorem biD_tuplel (st : Sto) (xs : List D) : biD st .tuple [.lst xs] = some (.tup xs) := (rfl)
@[simp] theorem biD_tuplet (st : Sto) (xs : List D) : biD st .tuple [.tup xs] = some (.tup xs) := (rfl)
@[simp] theorem biD_listl (st : Sto) (xs : List D) : biD st .list [.lst xs] = some (.lst xs) := (rfl)
@[simp] theorem biD_listt (st : Sto) (xs : List D) : biD st .list [.tup xs] = some (.lst xs) := (rfl)
@[simp] theorem biD_sortd (st : Sto) (xs : List D) : biD st .sorted [.lst xs] = (intsD xs).bind fun ns => guardO (ns.length < 64) (.lst ((sortI ns).map D.int)) := (rfl)
@[simp] theorem intsD_ints (ns : List Int) : intsD (ilst ns) = some ns := by
  induction ns with
  | nil => rfl
  | cons n ns ih => rw [ilst_cons, intsD, ih]; rfl
theorem blsD_map (bs : List Bool) : blsD (bs.map D.bl) = some bs := by
  induction bs with
  | nil => rfl
  | cons n ns ih => rw [List.map_cons, blsD, ih]; rfl
theorem biD_all (st : Sto) (bs : List Bool) : biD st .all [.lst (bs.map D.bl)] = some (.bl (bs.all id)) := by
  show (blsD _).map _ = _
  rw [blsD_map]; rfl
theorem mulOK_r {i j : Int} (h1 : -(2 ^ 64) < j) (h2 : j < 2 ^ 64) : mulOK i j := .inl (.inr ⟨h1, h2⟩)
theorem mulOK_l {i j : Int} (h1 : -(2 ^ 64) < i) (h2 : i < 2 ^ 64) : mulOK i j := .inl (.inl ⟨h1, h2⟩)
theorem divOK_of {j : Int} (h : 0 < j) (h2 : j < 2 ^ 8999) : divOK j := by
  refine ⟨by omega, ?_⟩
  show j.natAbs.log2 < 9000
  have hj : j.natAbs < 2 ^ 9000 := by
    have : (j.natAbs : Int) < ((2 ^ 8999 : Nat) : Int) := by
      rw [Int.natCast_pow]
      have : (j.natAbs : Int) = j := by omega
      rw [this]; exact h2
    have h3 := Int.ofNat_lt.mp this
    exact Nat.lt_of_lt_of_le h3 (Nat.pow_le_pow_right (by omega) (by omega))
  exact (Nat.log2_lt (by omega)).mpr hj
theorem divOK_small {j : Int} (h : 0 < j) (h2 : j < 2 ^ 64) : divOK j := by
  refine ⟨by omega, ?_⟩
  show j.natAbs.log2 < 9000
  have hj : j.natAbs.log2 < 64 := (Nat.log2_lt (by omega)).mpr (by omega)
  omega
theorem fdiv_nn {a b : Int} (h : 0 ≤ b) : a.fdiv b = a / b := Int.fdiv_eq_ediv_of_nonneg a h
theorem fmod_nn {a b : Int} (h : 0 ≤ b) : a.fmod b = a % b := Int.fmod_eq_emod_of_nonneg a h

/-! data that == can look at -/
mutual
def okD : Nat → D → Bool
  | _, .non => true
  | _, .bl _ => true
  | _, .int _ => true
  | _, .str x => PyData.strOk x
  | 0, .tup _ => false
  | n + 1, .tup xs => okDs n xs
  | 0, .lst _ => false
  | n + 1, .lst xs => okDs n xs
  | _, .frz _ => false
  | _, .dK _ _ => false
  | _, .dT _ _ => false
  | _, .ref _ => false
  | _, .exc _ _ => false
def okDs : Nat → List D → Bool
  | _, [] => true
  | n, x :: xs => okD n x && okDs n xs
end
mutual
theorem okD_py : ∀ (d : D) (n : Nat), okD n d = true → ∃ p, toPy d = some p ∧ p.canLay0 = true ∧ p.depth ≤ n
  | .non, n, _ => ⟨_, rfl, rfl, Nat.zero_le _⟩
  | .bl _, n, _ => ⟨_, rfl, rfl, Nat.zero_le _⟩
  | .int _, n, _ => ⟨_, rfl, rfl, Nat.zero_le _⟩
  | .str x, n, h => ⟨_, rfl, by simpa [okD, PyData.canLay0] using h, Nat.zero_le _⟩
  | .tup xs, 0, h => by simp [okD] at h
  | .tup xs, n + 1, h => by
    obtain ⟨ps, h1, h2, h3⟩ := okDs_py xs n (by simpa [okD] using h)
    exact ⟨.tuple ps, by rw [toPy, h1]; rfl, by simpa [PyData.canLay0] using h2, by simp only [PyData.depth]; omega⟩
  | .lst xs, 0, h => by simp [okD] at h
  | .lst xs, n + 1, h => by
    obtain ⟨ps, h1, h2, h3⟩ := okDs_py xs n (by simpa [okD] using h)
    exact ⟨.list ps, by rw [toPy, h1]; rfl, by simpa [PyData.canLay0] using h2, by simp only [PyData.depth]; omega⟩
  | .frz _, n, h => by simp [okD] at h
  | .dK _ _, n, h => by simp [okD] at h
  | .dT _ _, n, h => by simp [okD] at h
  | .ref _, n, h => by simp [okD] at h
  | .exc _ _, n, h => by simp [okD] at h
theorem okDs_py : ∀ (xs : List D) (n : Nat), okDs n xs = true → ∃ ps, toPys xs = some ps ∧ PyData.canLayAll0 ps = true ∧ PyData.depthAll ps ≤ n
  | [], n, _ => ⟨[], rfl, rfl, Nat.zero_le _⟩
  | x :: xs, n, h => by
    have h' : okD n x = true ∧ okDs n xs = true := by simpa [okDs] using h
    obtain ⟨p, h1, h2, h3⟩ := okD_py x n h'.1
    obtain ⟨ps, k1, k2, k3⟩ := okDs_py xs n h'.2
    exact ⟨p :: ps, by rw [toPys, h1, k1], by simp [PyData.canLayAll0, h2, k2], by simp only [PyData.depthAll]; omega⟩
end
theorem okDs_all : ∀ (xs : List D) (n : Nat), okDs n xs = xs.all (okD n)
  | [], n => rfl
  | x :: xs, n => by rw [okDs, List.all_cons, okDs_all xs n]
theorem shaped_of {p : PyData} (h : p.canLay0 = true) (h2 : p.depth ≤ 64) : SeqAt.shaped p = true := by
  unfold SeqAt.shaped; rw [h]; simpa using h2
theorem eqD_of {a b : D} {p q : PyData} (h1 : toPy a = some p) (h2 : toPy b = some q) (h3 : p.canLay0 = true) (h4 : q.canLay0 = true) (h5 : p.depth ≤ 64) (h6 : q.depth ≤ 64) : eqD a b = some (PyData.eqv p q) := by
  unfold eqD
  rw [h1, h2]
  exact if_pos ⟨shaped_of h3 h5, shaped_of h4 h6⟩
theorem eqD_refl {d : D} (h : okD 64 d = true) : eqD d d = some true := by
  obtain ⟨p, h1, h2, h3⟩ := okD_py d 64 h
  rw [eqD_of h1 h1 h2 h2 h3 h3, SeqAt.eqv_refl p h2]
@[simp] theorem eqD_int (a b : Int) : eqD (.int a) (.int b) = some (decide (a = b)) := by
  rw [eqD_of (p := .int a) (q := .int b) rfl rfl rfl rfl (Nat.zero_le _) (Nat.zero_le _)]
  rfl
@[simp] theorem eqD_bl (a b : Bool) : eqD (.bl a) (.bl b) = some (decide (a = b)) := by
  rw [eqD_of (p := .bool a) (q := .bool b) rfl rfl rfl rfl (Nat.zero_le _) (Nat.zero_le _)]
  rfl
theorem toPys_ints (ns : List Int) : toPys (ilst ns) = some (ns.map .int) := by
  induction ns with
  | nil => rfl
  | cons n ns ih => rw [ilst_cons, toPys, ih]; rfl
theorem canLay_ints (ns : List Int) : PyData.canLayAll0 (ns.map .int) = true := by
  induction ns with
  | nil => rfl
  | cons n ns ih => simp [PyData.canLayAll0, PyData.canLay0, ih]
theorem depth_ints (ns : List Int) : PyData.depthAll (ns.map .int) = 0 := by
  induction ns with
  | nil => rfl
  | cons n ns ih => simp [PyData.depthAll, PyData.depth, ih]
theorem eqv_ints : ∀ (a b : List Int), PyData.eqvAll (a.map .int) (b.map .int) = decide (a = b)
  | [], [] => rfl
  | [], _ :: _ => by simp [PyData.eqvAll]
  | _ :: _, [] => by simp [PyData.eqvAll]
  | x :: xs, y :: ys => by
    have h : (x == y) = decide (x = y) := rfl
    simp [PyData.eqvAll, PyData.eqv, eqv_ints xs ys, h]
theorem eqD_ints (a b : List Int) : eqD (.tup (ilst a)) (.tup (ilst b)) = some (decide (a = b)) := by
  rw [eqD_of (p := .tuple (a.map .int)) (q := .tuple (b.map .int)) (by rw [toPy, toPys_ints]; rfl) (by rw [toPy, toPys_ints]; rfl) (by simpa [PyData.canLay0] using canLay_ints a) (by simpa [PyData.canLay0] using canLay_ints b)
    (by simp [PyData.depth, depth_ints]) (by simp [PyData.depth, depth_ints])]
  rw [PyData.eqv, eqv_ints]
@[simp] theorem eqD_fr (p q : Int × Int) : eqD (fr p) (fr q) = some (decide (p = q)) := by
  have := eqD_ints [p.1, p.2] [q.1, q.2]
  rw [show D.tup (ilst [p.1, p.2]) = fr p from rfl, show D.tup (ilst [q.1, q.2]) = fr q from rfl] at this
  rw [this]
  congr 1
  obtain ⟨a, b⟩ := p; obtain ⟨c, d⟩ := q
  simp
theorem eqD_tupE (ns : List Int) : eqD (.tup (ilst ns)) (.tup []) = some (decide (ns = [])) := eqD_ints ns []
theorem eqD_lstE {xs : List D} (h : okDs 63 xs = true) : eqD (.lst xs) (.lst []) = some xs.isEmpty := by
  obtain ⟨ps, h1, h2, h3⟩ := okDs_py xs 63 h
  rw [eqD_of (p := .list ps) (q := .list []) (by rw [toPy, h1]; rfl) rfl (by simpa [PyData.canLay0] using h2) rfl (by simp only [PyData.depth]; omega) (by decide)]
  congr 1
  cases xs with
  | nil => cases ps with
    | nil => rfl
    | cons p ps => simp [toPys] at h1
  | cons x xs => cases ps with
    | nil => unfold toPys at h1; split at h1 <;> simp at h1
    | cons p ps => rw [PyData.eqv, PyData.eqvAll]; rfl
@[simp] theorem okDs_ints (n : Nat) (ns : List Int) : okDs n (ilst ns) = true := by
  rw [okDs_all]; simp [ilst, okD]
theorem eqD_lstI (ns : List Int) : eqD (.lst (ilst ns)) (.lst []) = some (decide (ns = [])) := by
  rw [eqD_lstE (okDs_ints _ _)]; cases ns <;> rfl
/-! data that the law's look at likeness can go through -/
mutual
def alD : Nat → D → Bool
  | _, .non => true
  | _, .bl _ => true
  | _, .int _ => true
  | _, .str x => PyData.strOk x
  | 0, .tup _ => false
  | n + 1, .tup xs => decide (xs.length ≤ sizeLine) && alDs n xs
  | 0, .lst _ => false
  | n + 1, .lst xs => decide (xs.length ≤ sizeLine) && alDs n xs
  | _, .frz _ => false
  | _, .dK _ _ => false
  | _, .dT _ _ => false
  | _, .ref _ => false
  | _, .exc _ _ => false
def alDs : Nat → List D → Bool
  | _, [] => true
  | n, x :: xs => alD n x && alDs n xs
end
theorem alDs_all : ∀ (xs : List D) (n : Nat), alDs n xs = xs.all (alD n)
  | [], n => rfl
  | x :: xs, n => by rw [alDs, List.all_cons, alDs_all xs n]
@[simp] theorem alD_non (n : Nat) : alD n .non = true := by cases n <;> rfl
@[simp] theorem alD_bl (n : Nat) (b : Bool) : alD n (.bl b) = true := by cases n <;> rfl
@[simp] theorem alD_int (n : Nat) (b : Int) : alD n (.int b) = true := by cases n <;> rfl
@[simp] theorem alD_tup (n : Nat) (xs : List D) : alD (n + 1) (.tup xs) = (decide (xs.length ≤ sizeLine) && alDs n xs) := rfl
@[simp] theorem alD_lst (n : Nat) (xs : List D) : alD (n + 1) (.lst xs) = (decide (xs.length ≤ sizeLine) && alDs n xs) := rfl
@[simp] theorem alDs_nil (n : Nat) : alDs n [] = true := rfl
@[simp] theorem alDs_cons (n : Nat) (x : D) (xs : List D) : alDs n (x :: xs) = (alD n x && alDs n xs) := rfl
end WT
end

section
set_option Elab.async false
set_option linter.all false
set_option autoImplicit false
/-! Q1: fractions. Own work. -/
namespace WT
/-- in lowest terms, for b > 0 -/
def low (a b : Int) : Int × Int := (a / (Nat.gcd a.natAbs b.natAbs : Nat), b / (Nat.gcd a.natAbs b.natAbs : Nat))
/-- a fraction in lowest terms -/
def Lw (p : Int × Int) : Prop := 0 < p.2 ∧ Nat.gcd p.1.natAbs p.2.natAbs = 1
theorem gcd_pos_r {a b : Int} (h : 0 < b) : 0 < Nat.gcd a.natAbs b.natAbs := Nat.gcd_pos_of_pos_right _ (by omega)
theorem low_mul {a b : Int} (h : 0 < b) : (low a b).1 * (Nat.gcd a.natAbs b.natAbs : Nat) = a ∧ (low a b).2 * (Nat.gcd a.natAbs b.natAbs : Nat) = b := by
  have h1 : ((Nat.gcd a.natAbs b.natAbs : Nat) : Int) ∣ a := Int.ofNat_dvd_left.mpr (Nat.gcd_dvd_left _ _)
  have h2 : ((Nat.gcd a.natAbs b.natAbs : Nat) : Int) ∣ b := Int.ofNat_dvd_left.mpr (Nat.gcd_dvd_right _ _)
  exact ⟨Int.ediv_mul_cancel h1, Int.ediv_mul_cancel h2⟩
theorem low_lw {a b : Int} (h : 0 < b) : Lw (low a b) := by
  obtain ⟨h1, h2⟩ := low_mul (a := a) h
  have hg := gcd_pos_r (a := a) h
  generalize hgg : Nat.gcd a.natAbs b.natAbs = g at *
  have hp : 0 < (low a b).2 := by
    rcases Int.lt_or_le 0 (low a b).2 with hh | hh
    · exact hh
    · exfalso
      have : (low a b).2 * (g : Int) ≤ 0 * g := Int.mul_le_mul_of_nonneg_right hh (by omega)
      omega
  refine ⟨hp, ?_⟩
  have e1 : a.natAbs = (low a b).1.natAbs * g := by
    have := congrArg Int.natAbs h1
    rw [Int.natAbs_mul, Int.natAbs_natCast] at this
    exact this.symm
  have e2 : b.natAbs = (low a b).2.natAbs * g := by
    have := congrArg Int.natAbs h2
    rw [Int.natAbs_mul, Int.natAbs_natCast] at this
    exact this.symm
  have e3 : Nat.gcd ((low a b).1.natAbs * g) ((low a b).2.natAbs * g) = g := by rw [← e1, ← e2, hgg]
  rw [Nat.gcd_mul_right] at e3
  exact Nat.eq_of_mul_eq_mul_right hg (by omega)
theorem low_self {p : Int × Int} (h : Lw p) : low p.1 p.2 = p := by
  unfold low; rw [h.2]; simp
/-- two fractions in lowest terms with one value are one -/
theorem lw_ext {p q : Int × Int} (hp : Lw p) (hq : Lw q) (h : p.1 * q.2 = q.1 * p.2) : p = q := by
  obtain ⟨a, b⟩ := p; obtain ⟨c, d⟩ := q
  obtain ⟨hb, h1⟩ := hp
  obtain ⟨hd, h2⟩ := hq
  simp only at *
  have d1 : b.natAbs ∣ d.natAbs := by
    have : b.natAbs ∣ a.natAbs * d.natAbs := by
      rw [← Int.natAbs_mul, h, Int.natAbs_mul]; exact Nat.dvd_mul_left _ _
    exact (Nat.Coprime.symm h1).dvd_of_dvd_mul_left this
  have d2 : d.natAbs ∣ b.natAbs := by
    have : d.natAbs ∣ c.natAbs * b.natAbs := by
      rw [← Int.natAbs_mul, ← h, Int.natAbs_mul]; exact Nat.dvd_mul_left _ _
    exact (Nat.Coprime.symm h2).dvd_of_dvd_mul_left this
  have e : b = d := by have := Nat.dvd_antisymm d1 d2; omega
  subst e
  have : a = c := Int.eq_of_mul_eq_mul_right (by omega) h
  rw [this]
/-- the value -/
def val (p : Int × Int) : Rat := (p.1 : Rat) / (p.2 : Rat)
theorem cast_pos {b : Int} (h : 0 < b) : (0 : Rat) < (b : Rat) := Rat.intCast_pos.mpr h
theorem cast_ne {b : Int} (h : 0 < b) : (b : Rat) ≠ 0 := fun e => by have := Rat.intCast_inj.mp (e.trans rfl : (b : Rat) = ((0 : Int) : Rat)); omega
theorem val_eq {p q : Int × Int} (hp : 0 < p.2) (hq : 0 < q.2) : val p = val q ↔ p.1 * q.2 = q.1 * p.2 := by
  have h1 := cast_ne hp
  have h2 := cast_ne hq
  unfold val
  constructor
  · intro h
    have : (p.1 : Rat) * (q.2 : Rat) = (q.1 : Rat) * (p.2 : Rat) := by grind
    rw [← Rat.intCast_mul, ← Rat.intCast_mul] at this
    exact Rat.intCast_inj.mp this
  · intro h
    have : (p.1 : Rat) * (q.2 : Rat) = (q.1 : Rat) * (p.2 : Rat) := by
      rw [← Rat.intCast_mul, ← Rat.intCast_mul, h]
    grind
theorem val_inj {p q : Int × Int} (hp : Lw p) (hq : Lw q) (h : val p = val q) : p = q := lw_ext hp hq ((val_eq hp.1 hq.1).mp h)
theorem val_low {a b : Int} (h : 0 < b) : val (low a b) = (a : Rat) / (b : Rat) := by
  refine (val_eq (q := (a, b)) (low_lw h).1 h).mpr ?_
  obtain ⟨h1, h2⟩ := low_mul (a := a) h
  generalize ((Nat.gcd a.natAbs b.natAbs : Nat) : Int) = g at *
  show (low a b).1 * b = a * (low a b).2
  generalize low a b = q at *
  grind
def plusF (p q : Int × Int) : Int × Int := low (p.1 * q.2 + q.1 * p.2) (p.2 * q.2)
def timesF (p q : Int × Int) : Int × Int := low (p.1 * q.1) (p.2 * q.2)
theorem plusF_lw {p q : Int × Int} (hp : 0 < p.2) (hq : 0 < q.2) : Lw (plusF p q) := low_lw (Int.mul_pos hp hq)
theorem timesF_lw {p q : Int × Int} (hp : 0 < p.2) (hq : 0 < q.2) : Lw (timesF p q) := low_lw (Int.mul_pos hp hq)
theorem val_plusF {p q : Int × Int} (hp : 0 < p.2) (hq : 0 < q.2) : val (plusF p q) = val p + val q := by
  unfold plusF
  rw [val_low (Int.mul_pos hp hq)]
  have h1 := cast_ne hp
  have h2 := cast_ne hq
  unfold val
  rw [Rat.intCast_add, Rat.intCast_mul, Rat.intCast_mul, Rat.intCast_mul]
  grind
theorem val_timesF {p q : Int × Int} (hp : 0 < p.2) (hq : 0 < q.2) : val (timesF p q) = val p * val q := by
  unfold timesF
  rw [val_low (Int.mul_pos hp hq)]
  have h1 := cast_ne hp
  have h2 := cast_ne hq
  unfold val
  rw [Rat.intCast_mul, Rat.intCast_mul]
  grind
/-- the sum of all -/
def vsum : List (Int × Int) → Rat
  | [] => 0
  | p :: ps => val p + vsum ps
theorem vsum_append (a b : List (Int × Int)) : vsum (a ++ b) = vsum a + vsum b := by
  induction a with
  | nil => simp [vsum, Rat.zero_add]
  | cons p a ih => simp only [List.cons_append, vsum, ih]; rw [Rat.add_assoc]
def sumF (ps : List (Int × Int)) : Int × Int := ps.foldl plusF (0, 1)
theorem foldl_plusF : ∀ (ps : List (Int × Int)) (t : Int × Int), Lw t → (∀ p ∈ ps, 0 < p.2) → Lw (ps.foldl plusF t) ∧ val (ps.foldl plusF t) = val t + vsum ps
  | [], t, h, _ => ⟨h, by simp [vsum, Rat.add_zero]⟩
  | p :: ps, t, h, hp => by
    have h1 := hp p (by simp)
    obtain ⟨k1, k2⟩ := foldl_plusF ps (plusF t p) (plusF_lw h.1 h1) fun q hq => hp q (by simp [hq])
    refine ⟨k1, ?_⟩
    rw [List.foldl_cons, k2, val_plusF h.1 h1, vsum, Rat.add_assoc]
theorem sumF_spec {ps : List (Int × Int)} (h : ∀ p ∈ ps, 0 < p.2) : Lw (sumF ps) ∧ val (sumF ps) = vsum ps := by
  have := foldl_plusF ps (0, 1) ⟨by decide, by decide⟩ h
  refine ⟨this.1, this.2.trans ?_⟩
  have : val (0, 1) = 0 := by unfold val; grind
  rw [this, Rat.zero_add]
theorem val_one : val (1, 1) = 1 := by unfold val; grind
theorem sumF_one {ps : List (Int × Int)} (h : ∀ p ∈ ps, 0 < p.2) : sumF ps = (1, 1) ↔ vsum ps = 1 := by
  obtain ⟨h1, h2⟩ := sumF_spec h
  constructor
  · intro e; rw [← h2, e, val_one]
  · intro e; exact val_inj h1 ⟨by decide, by decide⟩ (by rw [h2, e, val_one])
end WT
end

section
set_option Elab.async false
set_option linter.all false
set_option maxRecDepth 100000
set_option autoImplicit false
/-! M2: loops over typed lists. Own work. -/
namespace WT
open PySem
variable {α β : Type}
theorem forD_map {tg : Tg} {b : Env → Sto → RS} {f : α → D} {ps : List α} {env : Env} {st : Sto} (I : List α → Env → Sto → Prop) {P : RS → Prop} (h0 : I [] env st)
    (hs : ∀ pre x post env st, ps = pre ++ x :: post → I pre env st → ∃ env1, bindTg tg (f x) env = some env1 ∧ stepOK (I (pre ++ [x])) P (b env1 st))
    (he : ∀ env st, I ps env st → P (.nx env st)) : P (forD tg b (ps.map f) env st) := by
  have key : ∀ (post pre : List α) (env : Env) (st : Sto), ps = pre ++ post → I pre env st → P (forD tg b (post.map f) env st) := by
    intro post
    induction post with
    | nil => intro pre env st e i; rw [List.append_nil] at e; subst e; exact he _ _ i
    | cons x post ih =>
      intro pre env st e i
      obtain ⟨env1, h1, h2⟩ := hs pre x post env st e i
      have e' : ps = (pre ++ [x]) ++ post := by rw [e]; simp
      have u : forD tg b ((x :: post).map f) env st = match b env1 st with
        | .nx env' st' => forD tg b (post.map f) env' st'
        | .ct env' st' => forD tg b (post.map f) env' st'
        | .bk env' st' => .nx env' st'
        | r => r := by rw [List.map_cons, forD, h1] <;> rfl
      rw [u]
      generalize b env1 st = r at h2
      cases h2 with
      | nx e s h2 => exact ih _ _ _ e' h2
      | ct e s h2 => exact ih _ _ _ e' h2
      | bk e s h2 => exact h2
      | rt d s h2 => exact h2
      | exn c d e s h2 => exact h2
  exact key ps [] env st rfl h0
theorem stepNx {I : Env → Sto → Prop} {P : RS → Prop} {r : RS} {e : Env} {s : Sto} (h : r = .nx e s) (hi : I e s) : stepOK I P r := by rw [h]; exact .nx _ _ hi
theorem stepRt {I : Env → Sto → Prop} {P : RS → Prop} {r : RS} {d : D} {s : Sto} (h : r = .rt d s) (hi : P (.rt d s)) : stepOK I P r := by rw [h]; exact .rt _ _ hi
theorem stepN {I : Env → Sto → Prop} {P : RS → Prop} {g : GE} {l : Ss} {env1 e : Env} {st s : Sto} (env0 : Env) (he : env1 = env0) (h : evSs g l env0 st = .nx e s) (hi : I e s) : stepOK I P (evSs g l env1 st) := by rw [he, h]; exact .nx _ _ hi
theorem stepR {I : Env → Sto → Prop} {P : RS → Prop} {g : GE} {l : Ss} {env1 : Env} {d : D} {st s : Sto} (env0 : Env) (he : env1 = env0) (h : evSs g l env0 st = .rt d s) (hi : P (.rt d s)) : stepOK I P (evSs g l env1 st) := by rw [he, h]; exact .rt _ _ hi
theorem bindTg_fr (i j : Nat) (p : Int × Int) (env : Env) : bindTg (.tup (.cons (.name i) (.cons (.name j) .nil))) (fr p) env = some ((env.set i (some (.int p.1))).set j (some (.int p.2))) := rfl
theorem gmul_r {i j : Int} {z : D} (h1 : -(2 ^ 64) < j) (h2 : j < 2 ^ 64) : guardO (mulOK i j) z = some z := guardO_true (mulOK_r h1 h2)
theorem gdiv {j : Int} {z : D} (h1 : 0 < j) (h2 : j < 2 ^ 64) : guardO (divOK j) z = some z := guardO_true (divOK_small h1 h2)
theorem compLoop_tm {f : D → Sto → R (Option D)} {st : Sto} (q : α → D) (h : α → Option D) : ∀ {ps : List α}, (∀ p ∈ ps, f (q p) st = .ok (h p) st) → compLoop f (ps.map q) st = .ok (ps.filterMap h) st
  | [], _ => rfl
  | x :: xs, hx => by
    rw [List.map_cons]
    unfold compLoop
    rw [hx x (by simp), R.bind_ok, compLoop_tm q h fun y hy => hx y (by simp [hy]), R.bind_ok]
    cases e : h x <;> simp [e]
theorem compLoop_mm {f : D → Sto → R (Option D)} {st : Sto} (q : α → D) (k : α → D) {ps : List α} (h : ∀ p ∈ ps, f (q p) st = .ok (some (k p)) st) : compLoop f (ps.map q) st = .ok (ps.map k) st := by
  rw [compLoop_tm q (fun p => some (k p)) h]
  congr 1
  exact List.filterMap_eq_map (f := k) ▸ rfl
theorem compLoop_mf {f : D → Sto → R (Option D)} {st : Sto} (q : α → D) (k : α → D) (c : α → Bool) {ps : List α} (h : ∀ p ∈ ps, f (q p) st = .ok (if c p then some (k p) else none) st) : compLoop f (ps.map q) st = .ok ((ps.filter c).map k) st := by
  rw [compLoop_tm q (fun p => if c p then some (k p) else none) h]
  congr 1
  clear h
  induction ps with
  | nil => rfl
  | cons p ps ih => by_cases e : c p = true <;> simp [e, ih]
def frs (ps : List (Int × Int)) : List D := ps.map fr
@[simp] theorem frs_length (ps : List (Int × Int)) : (frs ps).length = ps.length := by simp [frs]
def isInt : D → Bool
  | .int _ => true
  | _ => false
def plainD : D → Bool
  | .non | .bl _ | .int _ | .str _ | .tup _ | .lst _ => true
  | _ => false
@[simp] theorem plainD_non : plainD .non = true := (rfl)
@[simp] theorem plainD_bl (b : Bool) : plainD (.bl b) = true := (rfl)
@[simp] theorem plainD_int (b : Int) : plainD (.int b) = true := (rfl)
@[simp] theorem plainD_str (b : Str) : plainD (.str b) = true := (rfl)
@[simp] theorem plainD_tup (b : List D) : plainD (.tup b) = true := (rfl)
@[simp] theorem plainD_lst (b : List D) : plainD (.lst b) = true := (rfl)
@[simp] theorem isInt_int (b : Int) : isInt (.int b) = true := (rfl)
theorem pow60 {a b : Nat} (h : a ≤ b) : (60 : Int) ^ a ≤ 60 ^ b := by
  have : (60 ^ a : Nat) ≤ 60 ^ b := Nat.pow_le_pow_right (by omega) h
  have h2 := Int.ofNat_le.mpr this
  rwa [Int.natCast_pow, Int.natCast_pow] at h2
@[simp] theorem biD_all_map (st : Sto) (c : α → Bool) (ps : List α) : biD st .all [.lst (ps.map fun p => D.bl (c p))] = some (.bl (ps.all c)) := by
  have := biD_all st (ps.map c)
  rw [List.map_map] at this
  rw [show (ps.map fun p => D.bl (c p)) = ps.map (D.bl ∘ c) from rfl, this]
  simp [List.all_map]
@[simp] theorem fr_idx0 (st : Sto) (p : Int × Int) : idxD st (fr p) (.int 0) = some (.int p.1) := ixD_0 _ _
@[simp] theorem fr_idx1 (st : Sto) (p : Int × Int) : idxD st (fr p) (.int 1) = some (.int p.2) := ixD_1 _ _ _
theorem low_le {a b : Int} (h : 0 < b) : (low a b).2 ≤ b := by
  have h1 := low_mul (a := a) h
  have h2 := (low_lw (a := a) h).1
  have hg := gcd_pos_r (a := a) h
  generalize ((Nat.gcd a.natAbs b.natAbs : Nat)) = g at *
  have : (low a b).2 * 1 ≤ (low a b).2 * (g : Int) := Int.mul_le_mul_of_nonneg_left (by omega) (by omega)
  omega
/-! cuts, ranges -/
theorem cutL_from (xs : List α) (k : Nat) : cutL xs (some (k : Int)) none = xs.drop k := by
  unfold cutL
  rw [HT.sIx_nat, HT.sIx_none]
  by_cases h : k ≤ xs.length
  · rw [Nat.min_eq_left h]
    exact List.take_of_length_le (by simp)
  · rw [Nat.min_eq_right (by omega)]
    have e : xs.drop k = [] := List.drop_eq_nil_of_le (by omega)
    rw [e]
    simp
theorem cutL_to (xs : List α) (k : Nat) : cutL xs none (some (k : Int)) = xs.take k := by
  unfold cutL
  rw [HT.sIx_nat, HT.sIx_none]
  simp
theorem cutL_last (xs : List α) : cutL xs (some (-1)) none = xs.drop (xs.length - 1) := by
  unfold cutL
  have h : HT.sIx xs.length 0 (some (-1)) = xs.length - 1 := by
    show (if (-1 : Int) < 0 then ((-1 : Int) + (xs.length : Int)).toNat else min (-1 : Int).toNat xs.length) = _
    rw [if_pos (by decide)]
    omega
  rw [h, HT.sIx_none]
  exact List.take_of_length_le (by simp)
theorem rangeD_n (n : Nat) (h : n < 2 ^ 62) : rangeD 0 n 1 = some ((List.range n).map fun (k : Nat) => D.int (k : Int)) := by
  unfold rangeD
  rw [if_pos (by omega), if_pos rfl]
  congr 1
  rw [show ((n : Int) - 0).toNat = n by omega]
  refine List.map_congr_left fun k _ => ?_
  congr 1
  omega
theorem rangeD_2 (n : Nat) (h : n < 2 ^ 61) : rangeD 2 ((n + 2 : Nat) : Int) 1 = some ((List.range n).map fun (k : Nat) => D.int ((k + 2 : Nat) : Int)) := by
  unfold rangeD
  rw [if_pos (by omega), if_pos rfl]
  congr 1
  rw [show (((n + 2 : Nat) : Int) - 2).toNat = n by omega]
  refine List.map_congr_left fun k _ => ?_
  congr 1
  omega
theorem rangeD_0 (n : Int) (h : n ≤ 0) (h2 : -(2 ^ 62) ≤ n) : rangeD 0 n 1 = some [] := by
  unfold rangeD
  rw [if_pos (by omega), if_pos rfl]
  rw [show (n - 0).toNat = 0 by omega]
  rfl
/-! ascending -/
def ascI : List Int → Bool
  | [] => true
  | [_] => true
  | a :: b :: r => decide (a < b) && ascI (b :: r)
theorem ascI_zip : ∀ ns : List Int, (ns.zip (ns.drop 1)).all (fun p => decide (p.1 < p.2)) = ascI ns
  | [] => rfl
  | [_] => rfl
  | a :: b :: r => by
    have := ascI_zip (b :: r)
    simp only [List.drop_one, List.tail_cons, ascI] at this ⊢
    rw [← this]
    cases r <;> simp
theorem ascI_range : ∀ ns : List Int, ((List.range (ns.length - 1)).filter fun i => decide (ns.getD i 0 ≥ ns.getD (i + 1) 0)).isEmpty = ascI ns
  | [] => rfl
  | [_] => rfl
  | a :: b :: r => by
    have := ascI_range (b :: r)
    rw [show (a :: b :: r).length - 1 = (b :: r).length - 1 + 1 by simp, List.range_succ_eq_map, List.filter_cons]
    simp only [ascI]
    rw [← this, List.filter_map]
    by_cases h : a < b
    · simp [show ¬ b ≤ a by omega, h, Function.comp_def]
    · have : b ≤ a := by omega
      simp [this, h]
def big : D → Bool
  | .int i => decide (1 < i)
  | _ => false
def isDice : D → Bool
  | .tup xs => match intsD xs with
    | some ns => ns.all (fun n => decide (1 < n)) && ascI ns
    | none => false
  | _ => false
theorem big_all : ∀ xs : List D, xs.all big = match intsD xs with
    | some ns => ns.all fun n => decide (1 < n)
    | none => false
  | [] => rfl
  | .int i :: xs => by
    rw [List.all_cons, big_all xs, intsD]
    cases intsD xs <;> simp [big]
  | .non :: _ => by simp [big, intsD]
  | .bl _ :: _ => by simp [big, intsD]
  | .str _ :: _ => by simp [big, intsD]
  | .tup _ :: _ => by simp [big, intsD]
  | .lst _ :: _ => by simp [big, intsD]
  | .frz _ :: _ => by simp [big, intsD]
  | .dK _ _ :: _ => by simp [big, intsD]
  | .dT _ _ :: _ => by simp [big, intsD]
  | .ref _ :: _ => by simp [big, intsD]
  | .exc _ _ :: _ => by simp [big, intsD]
theorem intsD_eq : ∀ {xs : List D} {ns : List Int}, intsD xs = some ns → xs = ilst ns
  | [], ns, h => by cases h; rfl
  | .int i :: xs, ns, h => by
    rw [intsD] at h
    cases e : intsD xs with
    | none => rw [e] at h; cases h
    | some ms => rw [e] at h; cases h; rw [ilst_cons, ← intsD_eq e]
  | .non :: _, _, h => by simp [intsD] at h
  | .bl _ :: _, _, h => by simp [intsD] at h
  | .str _ :: _, _, h => by simp [intsD] at h
  | .tup _ :: _, _, h => by simp [intsD] at h
  | .lst _ :: _, _, h => by simp [intsD] at h
  | .frz _ :: _, _, h => by simp [intsD] at h
  | .dK _ _ :: _, _, h => by simp [intsD] at h
  | .dT _ _ :: _, _, h => by simp [intsD] at h
  | .ref _ :: _, _, h => by simp [intsD] at h
  | .exc _ _ :: _, _, h => by simp [intsD] at h
theorem plainD_of {n : Nat} {d : D} (h : okD n d = true) : plainD d = true := by cases d <;> simp [okD, plainD] at h ⊢
end WT
end

section
set_option Elab.async false
set_option linter.all false
set_option maxRecDepth 100000
set_option autoImplicit false
/-! M3: sorting, places in lists. Own work. -/
namespace WT
open PySem
variable {α : Type}
theorem insI_mem {x y : Int} : ∀ {l : List Int}, y ∈ insI x l ↔ y = x ∨ y ∈ l
  | [] => by simp [insI]
  | z :: l => by
    unfold insI
    split
    · simp
    · rw [List.mem_cons, insI_mem, List.mem_cons]
      constructor
      · rintro (h | h | h)
        · exact .inr (.inl h)
        · exact .inl h
        · exact .inr (.inr h)
      · rintro (h | h | h)
        · exact .inr (.inl h)
        · exact .inl h
        · exact .inr (.inr h)
theorem insI_len {x : Int} : ∀ {l : List Int}, (insI x l).length = l.length + 1
  | [] => rfl
  | z :: l => by
    unfold insI
    split
    · simp
    · simp [insI_len]
theorem insI_asc {x : Int} : ∀ {l : List Int}, l.Pairwise (· < ·) → x ∉ l → (insI x l).Pairwise (· < ·)
  | [], _, _ => by simp [insI]
  | z :: l, h, hx => by
    rw [List.pairwise_cons] at h
    have hz : x ≠ z := fun e => hx (by simp [e])
    have hl : x ∉ l := fun e => hx (by simp [e])
    unfold insI
    split
    · rename_i hle
      rw [List.pairwise_cons, List.pairwise_cons]
      refine ⟨fun y hy => ?_, h⟩
      rcases List.mem_cons.mp hy with rfl | hy
      · omega
      · have := h.1 y hy; omega
    · rename_i hle
      rw [List.pairwise_cons]
      refine ⟨fun y hy => ?_, insI_asc h.2 hl⟩
      rcases insI_mem.mp hy with rfl | hy
      · omega
      · exact h.1 y hy
theorem sortI_mem {y : Int} : ∀ {l : List Int}, y ∈ sortI l ↔ y ∈ l
  | [] => by simp [sortI]
  | x :: l => by
    show y ∈ insI x (sortI l) ↔ _
    rw [insI_mem, sortI_mem, List.mem_cons]
theorem sortI_len : ∀ {l : List Int}, (sortI l).length = l.length
  | [] => rfl
  | x :: l => by
    show (insI x (sortI l)).length = _
    rw [insI_len, sortI_len]; rfl
theorem sortI_asc : ∀ {l : List Int}, l.Nodup → (sortI l).Pairwise (· < ·)
  | [], _ => List.Pairwise.nil
  | x :: l, h => by
    rw [List.nodup_cons] at h
    show (insI x (sortI l)).Pairwise _
    exact insI_asc (sortI_asc h.2) fun e => h.1 (sortI_mem.mp e)
theorem ixD_some {xs : List α} {i : Int} (h : 0 ≤ i) (h2 : i < xs.length) : ∃ x ∈ xs, ixD xs i = some x := by
  obtain ⟨k, rfl⟩ : ∃ k : Nat, i = k := ⟨i.toNat, by omega⟩
  have hk : k < xs.length := by omega
  exact ⟨xs[k], List.getElem_mem hk, ixD_nat (List.getElem?_eq_getElem hk)⟩
theorem cutL_mem {xs : List α} {a b : Option Int} {x : α} (h : x ∈ cutL xs a b) : x ∈ xs := List.mem_of_mem_drop (List.mem_of_mem_take h)
theorem cutL_len (xs : List α) (a b : Option Int) : (cutL xs a b).length ≤ xs.length := by
  unfold cutL
  rw [List.length_take, List.length_drop]
  omega
theorem cutL_to_len (xs : List α) (k : Nat) : (cutL xs none (some (k : Int))).length ≤ xs.length := cutL_len _ _ _
theorem inD_ilst (x : Int) (ns : List Int) : inD (.int x) (ilst ns) = decide (x ∈ ns) := by
  unfold inD ilst
  rw [List.any_map]
  induction ns with
  | nil => rfl
  | cons n ns ih =>
    rw [List.any_cons, ih]
    by_cases h : n = x
    · subst h; simp [eqF]
    · have h2 : ¬ x = n := fun e => h e.symm
      have e1 : ((fun y => eqF y (D.int x)) ∘ D.int) n = false := by
        show (n == x) = false
        simpa using h
      rw [e1]
      simp [h2]
theorem flat_ilst (ns : List Int) : (ilst ns).all flatD = true := by
  unfold ilst; rw [List.all_map, List.all_eq_true]; intro x _; rfl
theorem cmpD_notin (x : Int) (ns : List Int) : cmpD .NotIn (.int x) (.lst (ilst ns)) = some (decide (x ∉ ns)) := by
  show guardO _ _ = _
  rw [guardO_true ⟨rfl, flat_ilst ns⟩, inD_ilst]
  by_cases h : x ∈ ns <;> simp [h]
/-- data for a look at likeness -/
structure NearOK (d : D) : Prop where
  o : okD 64 d = true
  z : ∀ xs, d = .tup xs → xs.length ≤ 1000
theorem okD_up : ∀ (n m : Nat), n ≤ m → ∀ d, okD n d = true → okD m d = true := by
  intro n
  induction n with
  | zero => intro m hm d h; cases d <;> first | (simp [okD] at h; done) | (cases m <;> first | rfl | (simpa [okD] using h))
  | succ n ih =>
    intro m hm d h
    obtain ⟨m, rfl⟩ : ∃ m', m = m' + 1 := ⟨m - 1, by omega⟩
    cases d with
    | tup xs =>
      rw [okD, okDs_all, List.all_eq_true] at h ⊢
      exact fun x hx => ih m (by omega) x (h x hx)
    | lst xs =>
      rw [okD, okDs_all, List.all_eq_true] at h ⊢
      exact fun x hx => ih m (by omega) x (h x hx)
    | str x => simpa [okD] using h
    | _ => first | (simp [okD] at h; done) | rfl
theorem NearOK.tup {xs : List D} (h : ∀ x ∈ xs, okD 63 x = true) (hl : xs.length ≤ 1000) : NearOK (.tup xs) :=
  ⟨by rw [okD, okDs_all, List.all_eq_true]; exact h, fun ys e => by cases e; exact hl⟩
theorem NearOK.lst {xs : List D} (h : ∀ x ∈ xs, okD 63 x = true) : NearOK (.lst xs) :=
  ⟨by rw [okD, okDs_all, List.all_eq_true]; exact h, fun ys e => by cases e⟩
end WT
end

section
set_option Elab.async false
set_option linter.all false
set_option maxRecDepth 100000
set_option autoImplicit false
/-! Q2: primes, bottoms, what is left of a number, rows of dice. Own work. -/
namespace WT
open PySem
def Pr (q : Nat) : Prop := 2 ≤ q ∧ ∀ m, 2 ≤ m → m < q → ¬ m ∣ q
theorem Pr.dvd_mul {q a b : Nat} (h : Pr q) (hd : q ∣ a * b) : q ∣ a ∨ q ∣ b := by
  have hg : Nat.gcd q a ∣ q := Nat.gcd_dvd_left _ _
  have hp : 0 < Nat.gcd q a := Nat.gcd_pos_of_pos_left _ (by have := h.1; omega)
  by_cases h1 : Nat.gcd q a = 1
  · exact .inr (Nat.Coprime.dvd_of_dvd_mul_left h1 hd)
  · by_cases h2 : Nat.gcd q a < q
    · exact absurd hg (h.2 _ (by omega) h2)
    · have : Nat.gcd q a = q := Nat.le_antisymm (Nat.le_of_dvd (by have := h.1; omega) hg) (by omega)
      exact .inl (this ▸ Nat.gcd_dvd_right _ _)
theorem exists_Pr : ∀ n : Nat, 2 ≤ n → ∃ q, Pr q ∧ q ∣ n := by
  intro n
  induction n using Nat.strongRecOn with
  | ind n ih =>
    intro hn
    by_cases h : Pr n
    · exact ⟨n, h, Nat.dvd_refl _⟩
    · have : ∃ m, 2 ≤ m ∧ m < n ∧ m ∣ n := by
        refine Classical.byContradiction fun hc => h ⟨hn, fun m h1 h2 h3 => hc ⟨m, h1, h2, h3⟩⟩
      obtain ⟨m, h1, h2, h3⟩ := this
      obtain ⟨q, hq, hd⟩ := ih m h2 h1
      exact ⟨q, hq, Nat.dvd_trans hd h3⟩
/-- the least number that all bottoms divide -/
def bot (ps : List (Int × Int)) : Nat := ps.foldl (fun n p => Nat.lcm n p.2.toNat) 1
theorem bot_snoc (ps : List (Int × Int)) (p : Int × Int) : bot (ps ++ [p]) = Nat.lcm (bot ps) p.2.toNat := by simp [bot, List.foldl_append]
theorem lcm_div1 (n b : Nat) : n / Nat.gcd n b * b = Nat.lcm n b := by
  unfold Nat.lcm
  rw [Nat.mul_comm n b, Nat.mul_div_assoc b (Nat.gcd_dvd_left n b), Nat.mul_comm]
theorem lcm_div2 (n b : Nat) : n * (b / Nat.gcd n b) = Nat.lcm n b := by
  unfold Nat.lcm
  rw [Nat.mul_div_assoc n (Nat.gcd_dvd_right n b)]
theorem lcm_le (n b : Nat) (hn : 0 < n) (hb : 0 < b) : Nat.lcm n b ≤ n * b := Nat.le_of_dvd (Nat.mul_pos hn hb) (Nat.lcm_dvd_mul n b)
theorem snoc_cases {α : Type} (P : List α → Prop) (h0 : P []) (hs : ∀ l x, P l → P (l ++ [x])) (l : List α) : P l := by
  have key : ∀ (b a : List α), P a → P (a ++ b) := by
    intro b
    induction b with
    | nil => intro a h; simpa using h
    | cons x b ih => intro a h; have := ih (a ++ [x]) (hs a x h); simpa using this
  exact key l [] h0
theorem bot_bd (ps : List (Int × Int)) : (∀ p ∈ ps, 0 < p.2 ∧ p.2 ≤ 60) → 0 < bot ps ∧ bot ps ≤ 60 ^ ps.length := by
  refine snoc_cases (P := fun ps => (∀ p ∈ ps, 0 < p.2 ∧ p.2 ≤ 60) → 0 < bot ps ∧ bot ps ≤ 60 ^ ps.length) (fun _ => ⟨by decide, by decide⟩) ?_ ps
  intro l x ih h
  obtain ⟨a1, a2⟩ := ih fun p hp => h p (by simp [hp])
  obtain ⟨x1, x2⟩ := h x (by simp)
  rw [bot_snoc]
  have hx : 0 < x.2.toNat := by omega
  refine ⟨Nat.lcm_pos a1 hx, Nat.le_trans (lcm_le _ _ a1 hx) ?_⟩
  rw [List.length_append, List.length_singleton, Nat.pow_succ]
  exact Nat.mul_le_mul a2 (by omega)
theorem bot_pr {q : Nat} (hq : Pr q) (ps : List (Int × Int)) : (∀ p ∈ ps, 0 < p.2 ∧ p.2 ≤ 60) → q ∣ bot ps → q < 60 := by
  refine snoc_cases (P := fun ps => (∀ p ∈ ps, 0 < p.2 ∧ p.2 ≤ 60) → q ∣ bot ps → q < 60) (fun _ h => ?_) ?_ ps
  · have := Nat.le_of_dvd (by decide) h
    have h2 := hq.1
    have : bot [] = 1 := rfl
    omega
  · intro l x ih h hd
    rw [bot_snoc] at hd
    obtain ⟨x1, x2⟩ := h x (by simp)
    rcases hq.dvd_mul (Nat.dvd_trans hd (Nat.lcm_dvd_mul _ _)) with h1 | h1
    · exact ih (fun p hp => h p (by simp [hp])) h1
    · have h2 := Nat.le_of_dvd (by omega) h1
      have h3 : q ≤ 60 := by omega
      have h4 : q ≠ 60 := by
        rintro rfl
        exact hq.2 2 (by decide) (by decide) (by decide)
      omega

/-! ### what is left -/
def lfN : Nat → Nat → Nat → Nat
  | 0, n, _ => n
  | k + 1, n, s => if 1 < Nat.gcd n s then lfN k (n / Nat.gcd n s) s else n
def lf (n s : Nat) : Nat := lfN n n s
theorem div_gcd_lt {n s : Nat} (hn : 0 < n) (h : 1 < Nat.gcd n s) : n / Nat.gcd n s < n := Nat.div_lt_self hn h
theorem div_gcd_pos {n s : Nat} (hn : 0 < n) : 0 < n / Nat.gcd n s := Nat.div_pos (Nat.gcd_le_left _ hn) (Nat.gcd_pos_of_pos_left _ hn)
theorem lfN_fix {s : Nat} : ∀ (k n : Nat), 0 < n → n ≤ k → lfN (k + 1) n s = lfN k n s
  | 0, n, h, h2 => by omega
  | k + 1, n, h, h2 => by
    rw [lfN]
    conv => rhs; rw [lfN]
    split
    · rename_i hg
      have := div_gcd_lt h hg
      exact lfN_fix k _ (div_gcd_pos h) (by omega)
    · rfl
theorem lfN_le {s : Nat} : ∀ (j n k : Nat), 0 < n → n ≤ k → lfN (k + j) n s = lfN k n s
  | 0, _, _, _, _ => rfl
  | j + 1, n, k, h, h2 => by rw [show k + (j + 1) = (k + j) + 1 by omega, lfN_fix _ _ h (by omega), lfN_le j n k h h2]
theorem lf_eq {n s : Nat} (hn : 0 < n) : lf n s = if 1 < Nat.gcd n s then lf (n / Nat.gcd n s) s else n := by
  unfold lf
  obtain ⟨k, rfl⟩ : ∃ k, n = k + 1 := ⟨n - 1, by omega⟩
  conv => lhs; rw [lfN]
  split
  · rename_i hg
    have h1 := div_gcd_lt hn hg
    have h2 := div_gcd_pos (s := s) hn
    generalize (k + 1) / Nat.gcd (k + 1) s = m at *
    obtain ⟨j, rfl⟩ : ∃ j, k = m + j := ⟨k - m, by omega⟩
    exact lfN_le j _ _ h2 (Nat.le_refl _)
  · rfl
theorem lf_ind {s : Nat} (Q : Nat → Nat → Prop) (h1 : ∀ n, 0 < n → ¬ 1 < Nat.gcd n s → Q n n) (h2 : ∀ n r, 0 < n → 1 < Nat.gcd n s → Q (n / Nat.gcd n s) r → Q n r) : ∀ n, 0 < n → Q n (lf n s) := by
  intro n
  induction n using Nat.strongRecOn with
  | ind n ih =>
    intro hn
    rw [lf_eq hn]
    split
    · rename_i hg
      exact h2 n _ hn hg (ih _ (div_gcd_lt hn hg) (div_gcd_pos hn))
    · rename_i hg
      exact h1 n hn hg
theorem lf_pos {n s : Nat} (hn : 0 < n) : 0 < lf n s := lf_ind (fun _ r => 0 < r) (fun _ h _ => h) (fun _ _ _ _ h => h) n hn
theorem lf_dvd {n s : Nat} (hn : 0 < n) : lf n s ∣ n :=
  lf_ind (fun n r => r ∣ n) (fun n _ _ => Nat.dvd_refl n) (fun n r h hg hr => Nat.dvd_trans hr (Nat.div_dvd_of_dvd (Nat.gcd_dvd_left _ _))) n hn
theorem lf_cop {n s : Nat} (hn : 0 < n) : Nat.gcd (lf n s) s = 1 :=
  lf_ind (fun n r => Nat.gcd r s = 1) (fun n h hg => by have := Nat.gcd_pos_of_pos_left s h; omega) (fun n r h hg hr => hr) n hn
theorem lf_pr {q n s : Nat} (hq : Pr q) (hs : ¬ q ∣ s) (hn : 0 < n) (hd : q ∣ n) : q ∣ lf n s := by
  refine lf_ind (s := s) (fun n r => q ∣ n → q ∣ r) (fun n _ _ h => h) (fun n r h hg hr hd => hr ?_) n hn hd
  have e : n / Nat.gcd n s * Nat.gcd n s = n := Nat.div_mul_cancel (Nat.gcd_dvd_left _ _)
  rw [← e] at hd
  rcases hq.dvd_mul hd with h1 | h1
  · exact h1
  · exact absurd (Nat.dvd_trans h1 (Nat.gcd_dvd_right _ _)) hs
def LF (n : Nat) (ds : List Nat) : Nat := ds.foldl lf n
theorem LF_pos : ∀ (ds : List Nat) (n : Nat), 0 < n → 0 < LF n ds
  | [], n, h => h
  | s :: ds, n, h => LF_pos ds (lf n s) (lf_pos h)
theorem LF_dvd : ∀ (ds : List Nat) (n : Nat), 0 < n → LF n ds ∣ n
  | [], n, h => Nat.dvd_refl n
  | s :: ds, n, h => Nat.dvd_trans (LF_dvd ds (lf n s) (lf_pos h)) (lf_dvd h)
theorem LF_cop : ∀ (ds : List Nat) (n : Nat), 0 < n → ∀ s ∈ ds, Nat.gcd (LF n ds) s = 1
  | [], n, h, s, hs => by simp at hs
  | s :: ds, n, h, t, ht => by
    rcases List.mem_cons.mp ht with rfl | ht
    · exact Nat.Coprime.coprime_dvd_left (LF_dvd ds (lf n t) (lf_pos h)) (lf_cop h)
    · exact LF_cop ds (lf n s) (lf_pos h) t ht
theorem LF_pr {q : Nat} (hq : Pr q) : ∀ (ds : List Nat) (n : Nat), 0 < n → (∀ s ∈ ds, ¬ q ∣ s) → q ∣ n → q ∣ LF n ds
  | [], n, h, _, hd => hd
  | s :: ds, n, h, hs, hd => LF_pr hq ds (lf n s) (lf_pos h) (fun t ht => hs t (by simp [ht])) (lf_pr hq (hs s (by simp)) h hd)
/-- every prime of n divides a die, as the law asks it -/
def bdB (n : Nat) (ds : List Nat) : Bool := (List.range 58).all fun i =>
  !(((List.range i).filter fun j => decide ((i + 2) % (j + 2) = 0)).isEmpty && decide (n % (i + 2) = 0)) || !(ds.filter fun s => decide (s % (i + 2) = 0)).isEmpty
theorem Pr_iff (i : Nat) : Pr (i + 2) ↔ ((List.range i).filter fun j => decide ((i + 2) % (j + 2) = 0)) = [] := by
  rw [List.filter_eq_nil_iff]
  constructor
  · intro h j hj
    have hj := List.mem_range.mp hj
    have := h.2 (j + 2) (by omega) (by omega)
    simpa [Nat.dvd_iff_mod_eq_zero] using this
  · intro h
    refine ⟨by omega, fun m h1 h2 hd => ?_⟩
    obtain ⟨j, rfl⟩ : ∃ j, m = j + 2 := ⟨m - 2, by omega⟩
    have := h j (List.mem_range.mpr (by omega))
    exact this (by simpa using Nat.mod_eq_zero_of_dvd hd)
theorem bdB_iff (n : Nat) (ds : List Nat) : bdB n ds = true ↔ ∀ q, q < 60 → Pr q → q ∣ n → ∃ s ∈ ds, q ∣ s := by
  unfold bdB
  rw [List.all_eq_true]
  constructor
  · intro h q hq hp hd
    obtain ⟨i, rfl⟩ : ∃ i, q = i + 2 := ⟨q - 2, by have := hp.1; omega⟩
    have := h i (List.mem_range.mpr (by omega))
    rw [(Pr_iff i).mp hp] at this
    simp [Nat.mod_eq_zero_of_dvd hd] at this
    obtain ⟨s, hs, h2⟩ := this
    exact ⟨s, hs, Nat.dvd_of_mod_eq_zero h2⟩
  · intro h i hi
    have hi := List.mem_range.mp hi
    by_cases hp : Pr (i + 2)
    · by_cases hd : (i + 2) ∣ n
      · obtain ⟨s, hs, h2⟩ := h (i + 2) (by omega) hp hd
        have : (ds.filter fun s => decide (s % (i + 2) = 0)) ≠ [] := by
          intro e
          rw [List.filter_eq_nil_iff] at e
          exact e s hs (by simpa using Nat.mod_eq_zero_of_dvd h2)
        simp [this]
      · have : ¬ n % (i + 2) = 0 := fun e => hd (Nat.dvd_of_mod_eq_zero e)
        simp [this]
    · have : ((List.range i).filter fun j => decide ((i + 2) % (j + 2) = 0)) ≠ [] := fun e => hp ((Pr_iff i).mpr e)
      have h2 : ((List.range i).filter fun j => decide ((i + 2) % (j + 2) = 0)).isEmpty = false := by
        cases e : ((List.range i).filter fun j => decide ((i + 2) % (j + 2) = 0)) with
        | nil => exact absurd e this
        | cons _ _ => rfl
      rw [h2]; rfl
theorem LF_one_iff {n : Nat} (hn : 0 < n) (hb : ∀ q, Pr q → q ∣ n → q < 60) (ds : List Nat) : LF n ds = 1 ↔ bdB n ds = true := by
  rw [bdB_iff]
  constructor
  · intro h q _ hq hd
    refine Classical.byContradiction fun hc => ?_
    have := LF_pr hq ds n hn (fun s hs hd => hc ⟨s, hs, hd⟩) hd
    rw [h] at this
    have := Nat.le_of_dvd (by decide) this
    have := hq.1
    omega
  · intro h
    refine Classical.byContradiction fun hc => ?_
    have h0 := LF_pos ds n hn
    obtain ⟨q, hq, hd⟩ := exists_Pr (LF n ds) (by omega)
    have hqn := Nat.dvd_trans hd (LF_dvd ds n hn)
    obtain ⟨s, hs, hs2⟩ := h q (hb q hq hqn) hq hqn
    have := Nat.dvd_gcd hd hs2
    rw [LF_cop ds n hn s hs] at this
    have := Nat.le_of_dvd (by decide) this
    have := hq.1
    omega
end WT
end

section
set_option Elab.async false
set_option linter.all false
set_option maxRecDepth 100000
set_option autoImplicit false
/-! Q4: great numbers; figures of a number in a base. Own work. -/
namespace WT
open PySem
/-! ### great divisors and factors -/
def BIG : Int := ((2 ^ 8999 : Nat) : Int)
theorem BIG_pos : 0 < BIG := Int.natCast_pos.mpr (Nat.pow_pos (by omega))
theorem log_big {j : Int} (h1 : -BIG < j) (h2 : j < BIG) : j.natAbs.log2 < 9000 := by
  have hj : j.natAbs < 2 ^ 8999 := by unfold BIG at h1 h2; omega
  by_cases h0 : j.natAbs = 0
  · rw [h0]; decide
  · have := (Nat.log2_lt h0).mpr hj
    omega
theorem divB {j : Int} {z : D} (h : 0 < j) (h2 : j < BIG) : guardO (divOK j) z = some z := guardO_true ⟨by omega, log_big (by have := BIG_pos; omega) h2⟩
theorem divOK_B {j : Int} (h : 0 < j) (h2 : j < BIG) : divOK j := ⟨by omega, log_big (by have := BIG_pos; omega) h2⟩
theorem mulB {i j : Int} {z : D} (h1 : -BIG < i) (h2 : i < BIG) (h3 : -BIG < j) (h4 : j < BIG) : guardO (mulOK i j) z = some z := guardO_true (.inr (by have := log_big h1 h2; have := log_big h3 h4; omega))
theorem small_BIG {i : Int} (h : i < 2 ^ 64) : i < BIG := by
  have : ((2 ^ 64 : Nat) : Int) ≤ BIG := by unfold BIG; exact Int.ofNat_le.mpr (Nat.pow_le_pow_right (by omega) (by omega))
  omega
theorem pow20_BIG {m i k : Nat} (hm : m ≤ 20) (hi : i + k ≤ 500) : ((m ^ i * m ^ k : Nat) : Int) < BIG := by
  unfold BIG
  refine Int.ofNat_lt.mpr ?_
  rw [← Nat.pow_add]
  have h1 : m ^ (i + k) ≤ 20 ^ (i + k) := Nat.pow_le_pow_left hm _
  have h2 : 20 ^ (i + k) ≤ 20 ^ 500 := Nat.pow_le_pow_right (by omega) hi
  have h3 : (20 : Nat) ^ 500 ≤ (2 ^ 5) ^ 500 := Nat.pow_le_pow_left (by omega) _
  have h4 : ((2 : Nat) ^ 5) ^ 500 = 2 ^ 2500 := by rw [← Nat.pow_mul]
  have h5 : (2 : Nat) ^ 2500 < 2 ^ 8999 := Nat.pow_lt_pow_right (by omega) (by omega)
  omega
/-! ### the rests, one behind the other -/
def orb (b m t : Nat) : Nat → Nat
  | 0 => t
  | i + 1 => orb b m t i % b * m
def orbL (b m t N : Nat) : List Nat := (List.range N).map (orb b m t)
def dig (b m t i : Nat) : Nat := orb b m t i / b
theorem orbL_succ (b m t N : Nat) : orbL b m t (N + 1) = orbL b m t N ++ [orb b m t N] := by simp [orbL, List.range_succ]
theorem nodup_le : ∀ {l S : List Nat}, l.Nodup → (∀ x ∈ l, x ∈ S) → l.length ≤ S.length
  | [], _, _, _ => Nat.zero_le _
  | x :: l, S, h, hs => by
    rw [List.nodup_cons] at h
    have hx := hs x (by simp)
    have h1 := nodup_le (S := S.erase x) h.2 fun y hy => (List.mem_erase_of_ne (fun (e : y = x) => h.1 (by rw [← e]; exact hy))).mpr (hs y (by simp [hy]))
    rw [List.length_erase_of_mem hx] at h1
    have : 0 < S.length := List.length_pos_of_mem hx
    simp only [List.length_cons]
    omega
theorem orb_in {b m t : Nat} (hb : 0 < b) (i : Nat) : orb b m t i ∈ t :: (List.range b).map (· * m) := by
  cases i with
  | zero => simp [orb]
  | succ i =>
    refine List.mem_cons_of_mem _ (List.mem_map.mpr ⟨orb b m t i % b, List.mem_range.mpr (Nat.mod_lt _ hb), rfl⟩)
theorem orb_end {b m t : Nat} (hb : 0 < b) : ∃ N, N ≤ b + 1 ∧ (orbL b m t N).Nodup ∧ orb b m t N ∈ orbL b m t N := by
  have key : ∀ n, (orbL b m t n).Nodup ∨ ∃ N, N < n ∧ (orbL b m t N).Nodup ∧ orb b m t N ∈ orbL b m t N := by
    intro n
    induction n with
    | zero => exact .inl (by simp [orbL])
    | succ n ih =>
      rcases ih with ih | ⟨N, h1, h2⟩
      · by_cases hm : orb b m t n ∈ orbL b m t n
        · exact .inr ⟨n, by omega, ih, hm⟩
        · refine .inl ?_
          rw [orbL_succ, List.nodup_append]
          refine ⟨ih, by simp, fun x hx y hy => ?_⟩
          simp at hy
          subst hy
          exact fun e => hm (e ▸ hx)
      · exact .inr ⟨N, by omega, h2⟩
  rcases key (b + 2) with h | ⟨N, h1, h2⟩
  · have := nodup_le h (S := t :: (List.range b).map (· * m)) fun x hx => by
      obtain ⟨i, _, rfl⟩ := List.mem_map.mp hx
      exact orb_in hb i
    simp [orbL] at this
  · exact ⟨N, by omega, h2⟩
/-- what a search for the round finds -/
structure Orb (b m t N j : Nat) : Prop where
  hb : 0 < b
  hN : N ≤ b + 1
  nd : ∀ i k, i < k → k < N → orb b m t i ≠ orb b m t k
  hj : j < N
  eq : orb b m t j = orb b m t N
theorem orb_exists {b m t : Nat} (hb : 0 < b) : ∃ N j, Orb b m t N j := by
  obtain ⟨N, h1, h2, h3⟩ := orb_end (b := b) (m := m) (t := t) hb
  obtain ⟨j, hj, e⟩ := List.mem_map.mp h3
  refine ⟨N, j, hb, h1, fun i k hi hk => ?_, List.mem_range.mp hj, e⟩
  have h4 := List.pairwise_iff_getElem.mp h2 i k (by simp [orbL]; omega) (by simp [orbL]; omega) hi
  simpa [orbL] using h4
/-- tops of the sums ahead: K i / m ^ i -/
def Kt (b m t : Nat) : Nat → Nat
  | 0 => 0
  | i + 1 => (Kt b m t i + dig b m t i) * m
theorem Kt_eq {b m t : Nat} (i : Nat) : t * m ^ i = b * Kt b m t i + orb b m t i := by
  induction i with
  | zero => simp [Kt, orb]
  | succ i ih =>
    have h := Nat.div_add_mod (orb b m t i) b
    rw [Nat.pow_succ, ← Nat.mul_assoc, ih]
    show _ = b * ((Kt b m t i + orb b m t i / b) * m) + orb b m t i % b * m
    generalize orb b m t i / b = q at *
    generalize orb b m t i % b = r at *
    rw [← h]
    grind
/-- the round's figures as one number -/
def Ft (b m t j : Nat) : Nat → Nat
  | 0 => 0
  | s + 1 => Ft b m t j s * m + dig b m t (j + s)
theorem Ft_eq {b m t j : Nat} (s : Nat) : orb b m t j * m ^ s = b * m * Ft b m t j s + orb b m t (j + s) := by
  induction s with
  | zero => simp [Ft]
  | succ s ih =>
    have h := Nat.div_add_mod (orb b m t (j + s)) b
    rw [Nat.pow_succ, ← Nat.mul_assoc, ih]
    show _ = b * m * (Ft b m t j s * m + orb b m t (j + s) / b) + orb b m t (j + s) % b * m
    generalize orb b m t (j + s) / b = q at *
    generalize orb b m t (j + s) % b = r at *
    rw [← h]
    grind
theorem orb_lt {b m t : Nat} (hb : 0 < b) (hm : 2 ≤ m) (ht : t ≤ b) (i : Nat) : orb b m t i < b * m := by
  cases i with
  | zero =>
    have : b * 2 ≤ b * m := Nat.mul_le_mul_left _ hm
    show t < b * m
    omega
  | succ i =>
    have h := Nat.mod_lt (orb b m t i) hb
    exact Nat.mul_lt_mul_of_pos_right h (by omega)
theorem Orb.not_all {b m t N j : Nat} (o : Orb b m t N j) (hm : 2 ≤ m) (ht : t ≤ b) : ∃ s, s < N - j ∧ dig b m t (j + s) ≠ m - 1 := by
  refine Classical.byContradiction fun hc => ?_
  have all : ∀ s, s < N - j → dig b m t (j + s) = m - 1 := fun s hs => Classical.byContradiction fun h => hc ⟨s, hs, h⟩
  have hF : ∀ s, s ≤ N - j → Ft b m t j s + 1 = m ^ s := by
    intro s
    induction s with
    | zero => intro _; rfl
    | succ s ih =>
      intro hs
      have h1 := ih (by omega)
      have h2 := all s (by omega)
      show Ft b m t j s * m + dig b m t (j + s) + 1 = m ^ (s + 1)
      rw [h2, Nat.pow_succ, ← h1, Nat.add_mul]
      omega
  have hj := o.hj
  have e := Ft_eq (b := b) (m := m) (t := t) (j := j) (N - j)
  rw [show j + (N - j) = N by omega, ← o.eq] at e
  have h1 := hF (N - j) (Nat.le_refl _)
  rw [← h1] at e
  have h2 : Ft b m t j (N - j) ≠ 0 := by
    intro h
    rw [h] at h1
    have : 2 ^ 1 ≤ m ^ (N - j) := Nat.le_trans (Nat.pow_le_pow_left hm 1) (Nat.pow_le_pow_right (by omega) (by omega))
    omega
  have h3 : orb b m t j * Ft b m t j (N - j) = b * m * Ft b m t j (N - j) := by
    rw [Nat.mul_add, Nat.mul_one] at e
    omega
  have h4 := Nat.eq_of_mul_eq_mul_right (by omega) h3
  have h5 := orb_lt o.hb hm ht j
  omega
/-! ### the sums -/
theorem low_val_eq {a b c d : Int} (hb : 0 < b) (hd : 0 < d) (h : (a : Rat) / (b : Rat) = (c : Rat) / (d : Rat)) : low a b = low c d := val_inj (low_lw hb) (low_lw hd) (by rw [val_low hb, val_low hd, h])
theorem tot_step {b m t : Nat} (hm : 0 < m) (i : Nat) : plusF (low (Kt b m t i) ((m ^ i : Nat) : Int)) (low (dig b m t i) ((m ^ i : Nat) : Int)) = low (Kt b m t (i + 1)) ((m ^ (i + 1) : Nat) : Int) := by
  have hp : (0 : Int) < ((m ^ i : Nat) : Int) := Int.natCast_pos.mpr (Nat.pow_pos hm)
  have hp2 : (0 : Int) < ((m ^ (i + 1) : Nat) : Int) := Int.natCast_pos.mpr (Nat.pow_pos hm)
  refine val_inj (plusF_lw (low_lw hp).1 (low_lw hp).1) (low_lw hp2) ?_
  rw [val_plusF (low_lw hp).1 (low_lw hp).1, val_low hp, val_low hp, val_low hp2]
  have e1 : ((m ^ (i + 1) : Nat) : Int) = ((m ^ i : Nat) : Int) * (m : Int) := by rw [Nat.pow_succ]; exact Int.natCast_mul _ _
  have e2 : ((Kt b m t (i + 1) : Nat) : Int) = ((Kt b m t i : Nat) : Int) * (m : Int) + ((dig b m t i : Nat) : Int) * (m : Int) := by
    show (((Kt b m t i + dig b m t i) * m : Nat) : Int) = _
    rw [Int.natCast_mul, Int.natCast_add, Int.add_mul]
  rw [e1, e2]
  have h1 := cast_ne hp
  have h2 : ((m : Int) : Rat) ≠ 0 := cast_ne (by omega)
  rw [Rat.intCast_mul, Rat.intCast_add, Rat.intCast_mul, Rat.intCast_mul]
  generalize (((m ^ i : Nat) : Int) : Rat) = M at *
  generalize ((m : Int) : Rat) = mm at *
  grind
theorem tot_end {b m t N j : Nat} (o : Orb b m t N j) (hm : 2 ≤ m) : plusF (low (Kt b m t j) ((m ^ j : Nat) : Int)) (low ((Ft b m t j (N - j) : Int) * m) (((m ^ j : Nat) : Int) * (((m ^ (N - j) : Nat) : Int) - 1))) = low t b := by
  have hj := o.hj
  have hW : 2 ^ 1 ≤ m ^ (N - j) := Nat.le_trans (Nat.pow_le_pow_left hm 1) (Nat.pow_le_pow_right (by omega) (by omega))
  have hM : (0 : Int) < ((m ^ j : Nat) : Int) := Int.natCast_pos.mpr (Nat.pow_pos (by omega))
  have hW1 : (0 : Int) < ((m ^ (N - j) : Nat) : Int) - 1 := by omega
  have hb : (0 : Int) < (b : Int) := by have := o.hb; omega
  have hMW := Int.mul_pos hM hW1
  refine val_inj (plusF_lw (low_lw hM).1 (low_lw hMW).1) (low_lw hb) ?_
  rw [val_plusF (low_lw hM).1 (low_lw hMW).1, val_low hM, val_low hMW, val_low hb]
  have e1 := congrArg (fun n : Nat => ((n : Int) : Rat)) (Kt_eq (b := b) (m := m) (t := t) j)
  have e2 := congrArg (fun n : Nat => ((n : Int) : Rat)) (Ft_eq (b := b) (m := m) (t := t) (j := j) (N - j))
  rw [show j + (N - j) = N by omega, ← o.eq] at e2
  simp only [Int.natCast_mul, Int.natCast_add, Rat.intCast_mul, Rat.intCast_add] at e1 e2
  rw [Rat.intCast_mul, Rat.intCast_mul, Rat.intCast_sub]
  have h1 := cast_ne hM
  have h2 := cast_ne hb
  have h3 := cast_ne hW1
  rw [Rat.intCast_sub] at h3
  generalize (((m ^ j : Nat) : Int) : Rat) = M at *
  generalize (((m ^ (N - j) : Nat) : Int) : Rat) = W at *
  generalize ((m : Int) : Rat) = mm at *
  generalize ((b : Int) : Rat) = bb at *
  generalize ((t : Int) : Rat) = tt at *
  generalize ((orb b m t j : Int) : Rat) = X at *
  generalize ((Kt b m t j : Int) : Rat) = K at *
  generalize ((Ft b m t j (N - j) : Int) : Rat) = F at *
  have h4 : X * (W - ((1 : Int) : Rat)) = bb * mm * F := by grind
  grind
end WT
end

section
set_option Elab.async false
set_option linter.all false
set_option maxRecDepth 100000
set_option autoImplicit false
/-! Q5: lists of natural numbers, figures, rests in base two. Own work. -/
namespace WT
open PySem
def vI (n : Nat) : D := .int (n : Int)
def nl (ns : List Nat) : List D := ns.map vI
theorem nl_length (ns : List Nat) : (nl ns).length = ns.length := by simp [nl]
theorem nl_snoc (ns : List Nat) (n : Nat) : nl (ns ++ [n]) = nl ns ++ [.int (n : Int)] := by simp [nl, vI]
theorem nl_append (ns ms : List Nat) : nl (ns ++ ms) = nl ns ++ nl ms := by simp [nl]
theorem nl_ilst (ns : List Nat) : nl ns = ilst (ns.map fun (n : Nat) => (n : Int)) := by simp [nl, vI, ilst, Function.comp_def]
theorem nl_get {ns : List Nat} {k : Nat} (h : k < ns.length) : (nl ns)[k]? = some (.int ((ns[k] : Nat) : Int)) := by
  unfold nl; rw [List.getElem?_map, List.getElem?_eq_getElem h]; rfl
theorem nl_inj {a b : List Nat} : (a.map fun (n : Nat) => (n : Int)) = (b.map fun (n : Nat) => (n : Int)) ↔ a = b := by
  constructor
  · intro h
    exact List.map_inj_right (fun x y e => Int.ofNat.inj e) |>.mp h
  · rintro rfl; rfl
theorem eqD_nlt (a b : List Nat) : eqD (.tup (nl a)) (.tup (nl b)) = some (decide (a = b)) := by
  rw [nl_ilst, nl_ilst, eqD_ints]
  congr 1
  simp only [nl_inj]
theorem okDs_nl (n : Nat) (ns : List Nat) : okDs n (nl ns) = true := by rw [nl_ilst]; exact okDs_ints _ _
theorem eqD_nll (a : List Nat) : eqD (.lst (nl a)) (.lst (nl a)) = some true := eqD_refl (by show okDs 63 (nl a) = true; exact okDs_nl _ _)
theorem valP_none {κ : Type} [DecidableEq κ] {k : κ} : ∀ {ks : List κ} {vs : List D}, k ∉ ks → valP ks vs k = none
  | [], _, _ => by unfold valP; rfl
  | k' :: ks, [], _ => by unfold valP; rfl
  | k' :: ks, v :: vs, h => by
    unfold valP
    rw [if_neg (fun e => h (by simp [e]))]
    exact valP_none fun e => h (by simp [e])
theorem valP_at {κ : Type} [DecidableEq κ] {k : κ} : ∀ {ks : List κ} {vs : List D} {j : Nat} {v : D}, ks[j]? = some k → (∀ i < j, ks[i]? ≠ some k) → vs[j]? = some v → valP ks vs k = some v
  | [], _, _, _, h, _, _ => by simp at h
  | _ :: _, [], _, _, _, _, h => by simp at h
  | k' :: ks, w :: vs, 0, v, h, _, h2 => by
    simp at h h2
    unfold valP
    rw [if_pos h, h2]
  | k' :: ks, w :: vs, j + 1, v, h, hn, h2 => by
    have h0 := hn 0 (by omega)
    simp at h0
    unfold valP
    rw [if_neg h0]
    exact valP_at (j := j) (by simpa using h) (fun i hi => by have := hn (i + 1) (by omega); simpa using this) (by simpa using h2)
theorem cmpD_in_nl (x : Nat) (xs : List Nat) : cmpD .In (.int (x : Int)) (.lst (nl xs)) = some (decide (x ∈ xs)) := by
  have e : cmpD .In (.int (x : Int)) (.lst (nl xs)) = (cmpD .NotIn (.int (x : Int)) (.lst (nl xs))).map (!·) := by
    show guardO _ _ = (guardO _ _).map _
    unfold guardO
    split <;> simp
  rw [e, nl_ilst, cmpD_notin]
  have : ((x : Int) ∈ xs.map fun (n : Nat) => (n : Int)) ↔ x ∈ xs := by
    rw [List.mem_map]
    constructor
    · rintro ⟨y, hy, e⟩; have : y = x := by omega
      exact this ▸ hy
    · intro h; exact ⟨x, h, rfl⟩
  simp [this]
theorem midx_nl {xs : List Nat} {x j : Nat} (h : xs[j]? = some x) (hn : ∀ i < j, xs[i]? ≠ some x) : midxD (.lst (nl xs)) (.int (x : Int)) = some (.int (j : Nat)) := by
  have e1 : toPy (.lst (nl xs)) = some (.list (xs.map fun (n : Nat) => PyData.int (n : Int))) := by
    rw [toPy, nl_ilst, toPys_ints, List.map_map]; rfl
  have e2 : SeqAt.shaped (.list (xs.map fun (n : Nat) => PyData.int (n : Int))) = true := by
    have h1 := canLay_ints (xs.map fun (n : Nat) => (n : Int))
    have h2 := depth_ints (xs.map fun (n : Nat) => (n : Int))
    rw [List.map_map] at h1 h2
    exact shaped_of (by simpa [PyData.canLay0, Function.comp_def] using h1) (by simp only [PyData.depth]; rw [show (xs.map fun (n : Nat) => PyData.int (n : Int)) = xs.map (PyData.int ∘ fun (n : Nat) => (n : Int)) from rfl, h2]; omega)
  have e3 : (xs.map fun (n : Nat) => PyData.int (n : Int)).findIdx? (fun z => PyData.eqv z (.int (x : Int))) = some j := by
    obtain ⟨hj, hx⟩ := List.getElem?_eq_some_iff.mp h
    rw [List.findIdx?_eq_some_iff_getElem]
    refine ⟨by simpa using hj, by simp [hx, PyData.eqv], fun i hi => ?_⟩
    have := hn i hi
    rw [List.getElem?_eq_getElem (by omega)] at this
    have hne : xs[i] ≠ x := fun e => this (by rw [e])
    simp [PyData.eqv]
    omega
  unfold midxD
  rw [e1]
  show (if SeqAt.shaped (.list (xs.map fun (n : Nat) => PyData.int (n : Int))) = true ∧ SeqAt.shaped (PyData.int (x : Int)) = true then _ else none) = _
  rw [if_pos ⟨e2, rfl⟩]
  show Option.map _ _ = _
  rw [e3]; rfl
theorem low_top {a b : Int} (ha : 0 ≤ a) (hb : 0 < b) : 0 ≤ (low a b).1 ∧ (low a b).1 ≤ a := by
  obtain ⟨h1, _⟩ := low_mul (a := a) hb
  have hg := gcd_pos_r (a := a) hb
  generalize Nat.gcd a.natAbs b.natAbs = g at *
  have h0 : 0 ≤ (low a b).1 := by
    rcases Int.lt_or_le (low a b).1 0 with hh | hh
    · exfalso
      have : (low a b).1 * (g : Int) < 0 := Int.mul_neg_of_neg_of_pos hh (by omega)
      omega
    · exact hh
  refine ⟨h0, ?_⟩
  have : (low a b).1 * 1 ≤ (low a b).1 * (g : Int) := Int.mul_le_mul_of_nonneg_left (by omega) h0
  omega
theorem Kt_le {b m t : Nat} (hb : 0 < b) (ht : t ≤ b) (i : Nat) : Kt b m t i ≤ m ^ i := by
  have h := Kt_eq (b := b) (m := m) (t := t) i
  have h2 : t * m ^ i ≤ b * m ^ i := Nat.mul_le_mul_right _ ht
  exact Nat.le_of_mul_le_mul_left (by omega) hb
theorem dig_lt {b m t : Nat} (hb : 0 < b) (hm : 2 ≤ m) (ht : t ≤ b) (i : Nat) : dig b m t i < m := by
  unfold dig
  exact Nat.div_lt_of_lt_mul (orb_lt hb hm ht i)
theorem Ft_le {b m t j : Nat} (hb : 0 < b) (hm : 2 ≤ m) (ht : t ≤ b) (s : Nat) : Ft b m t j s ≤ m ^ s := by
  have h := Ft_eq (b := b) (m := m) (t := t) (j := j) s
  have h1 := orb_lt hb hm ht j
  have h2 : orb b m t j * m ^ s ≤ b * m * m ^ s := Nat.mul_le_mul_right _ (by omega)
  exact Nat.le_of_mul_le_mul_left (show b * m * Ft b m t j s ≤ b * m * m ^ s by omega) (Nat.mul_pos hb (by omega))
/-- figures -/
def digL (b m t j n : Nat) : List Nat := (List.range' j n).map (dig b m t)
theorem digL_len (b m t j n : Nat) : (digL b m t j n).length = n := by simp [digL]
theorem digL_snoc (b m t j n : Nat) : digL b m t j (n + 1) = digL b m t j n ++ [dig b m t (j + n)] := by simp [digL, List.range'_concat]
theorem digL_app (b m t j n k : Nat) : digL b m t j (n + k) = digL b m t j n ++ digL b m t (j + n) k := by
  unfold digL
  rw [← List.map_append]
  congr 1
  rw [List.range'_append_1]
theorem digL_get {b m t j n i : Nat} (h : i < n) : (digL b m t j n)[i]? = some (dig b m t (j + i)) := by
  unfold digL
  rw [List.getElem?_map, List.getElem?_range' h]
  simp
theorem digL_take {b m t j n k : Nat} (h : k ≤ n) : (digL b m t j n).take k = digL b m t j k := by
  obtain ⟨d, rfl⟩ := Nat.exists_eq_add_of_le h
  rw [digL_app, List.take_append_of_le_length (by rw [digL_len]; omega), List.take_of_length_le (by rw [digL_len]; omega)]
theorem digL_drop {b m t j n k : Nat} (h : k ≤ n) : (digL b m t j n).drop k = digL b m t (j + k) (n - k) := by
  obtain ⟨d, rfl⟩ := Nat.exists_eq_add_of_le h
  rw [digL_app, List.drop_append_of_le_length (by rw [digL_len]; omega), List.drop_of_length_le (by rw [digL_len]; omega)]
  simp
/-- the figures, ahead and round -/
def figD (b m t N j : Nat) : D := .tup [.tup (nl (digL b m t 0 j)), .tup (nl (digL b m t j (N - j)))]
/-! ### the rests -/
def rst (b t i : Nat) : Nat := orb b 2 t i % b
theorem orb_s (b t i : Nat) : orb b 2 t (i + 1) = 2 * rst b t i := Nat.mul_comm _ _
theorem rst_s (b t i : Nat) : rst b t (i + 1) = 2 * rst b t i % b := by
  show orb b 2 t (i + 1) % b = _
  rw [orb_s]
theorem dig_s (b t i : Nat) : dig b 2 t (i + 1) = 2 * rst b t i / b := by
  show orb b 2 t (i + 1) / b = _
  rw [orb_s]
theorem rst_lt {b : Nat} (hb : 0 < b) (t i : Nat) : rst b t i < b := Nat.mod_lt _ hb
theorem orb_split (b t i : Nat) : orb b 2 t i = b * dig b 2 t i + rst b t i := (Nat.div_add_mod _ _).symm
def rstL (b t N : Nat) : List Nat := (List.range N).map (rst b t)
theorem rstL_succ (b t N : Nat) : rstL b t (N + 1) = rstL b t N ++ [rst b t N] := by simp [rstL, List.range_succ]
theorem rstL_len (b t N : Nat) : (rstL b t N).length = N := by simp [rstL]
theorem rstL_get {b t N i : Nat} (h : i < N) : (rstL b t N)[i]? = some (rst b t i) := by
  unfold rstL; rw [List.getElem?_map, List.getElem?_range h]; rfl
/-- what a search for the first rest that comes again finds -/
structure Ro (b t N j : Nat) : Prop where
  hb : 0 < b
  hN : N ≤ b
  nd : ∀ i k, i < k → k < N → rst b t i ≠ rst b t k
  hj : j < N
  eq : rst b t j = rst b t N
theorem ro_exists {b : Nat} (t : Nat) (hb : 0 < b) : ∃ N j, Ro b t N j := by
  have key : ∀ n, (rstL b t n).Nodup ∨ ∃ N, N < n ∧ (rstL b t N).Nodup ∧ rst b t N ∈ rstL b t N := by
    intro n
    induction n with
    | zero => exact .inl (by simp [rstL])
    | succ n ih =>
      rcases ih with ih | ⟨N, h1, h2⟩
      · by_cases hm : rst b t n ∈ rstL b t n
        · exact .inr ⟨n, by omega, ih, hm⟩
        · refine .inl ?_
          rw [rstL_succ, List.nodup_append]
          refine ⟨ih, by simp, fun x hx y hy => ?_⟩
          simp at hy
          subst hy
          exact fun e => hm (e ▸ hx)
      · exact .inr ⟨N, by omega, h2⟩
  rcases key (b + 1) with h | ⟨N, h1, h2, h3⟩
  · have := nodup_le h (S := List.range b) fun x hx => by
      obtain ⟨i, _, rfl⟩ := List.mem_map.mp hx
      exact List.mem_range.mpr (rst_lt hb t i)
    simp [rstL] at this
    omega
  · obtain ⟨j, hj, e⟩ := List.mem_map.mp h3
    refine ⟨N, j, hb, by omega, fun i k hi hk => ?_, List.mem_range.mp hj, e⟩
    have h4 := List.pairwise_iff_getElem.mp h2 i k (by simp [rstL]; omega) (by simp [rstL]; omega) hi
    simpa [rstL] using h4
theorem Ro.first {b t N j : Nat} (o : Ro b t N j) : (rstL b t N)[j]? = some (rst b t N) ∧ ∀ i < j, (rstL b t N)[i]? ≠ some (rst b t N) := by
  refine ⟨by rw [rstL_get o.hj, o.eq], fun i hi h => ?_⟩
  rw [rstL_get (by have := o.hj; omega), ← o.eq] at h
  exact o.nd i j hi o.hj (Option.some.inj h)
theorem Ro.notin {b t N j : Nat} (o : Ro b t N j) {i : Nat} (hi : i < N) : rst b t i ∉ rstL b t i := by
  intro h
  obtain ⟨k, hk, e⟩ := List.mem_map.mp h
  exact o.nd k i (List.mem_range.mp hk) hi e
theorem Ro.isin {b t N j : Nat} (o : Ro b t N j) : rst b t N ∈ rstL b t N := List.mem_of_getElem? o.first.1
theorem Ro.s0 {b t N j : Nat} (o : Ro b t N j) (h : dig b 2 t j = dig b 2 t N) : j = 0 := by
  have e : orb b 2 t j = orb b 2 t N := by rw [orb_split, orb_split, h, o.eq]
  have hj := o.hj
  cases j with
  | zero => rfl
  | succ j =>
    exfalso
    obtain ⟨M, rfl⟩ : ∃ M, N = M + 1 := ⟨N - 1, by omega⟩
    rw [orb_s, orb_s] at e
    exact o.nd j M (by omega) (by omega) (by omega)
theorem Ro.orbB {b t N j : Nat} (o : Ro b t N j) (h : dig b 2 t j = dig b 2 t N) : Orb b 2 t N 0 := by
  have hj := o.hj
  obtain rfl := o.s0 h
  refine ⟨o.hb, by have := o.hN; omega, fun i k hi hk e => ?_, hj, by rw [orb_split b t N, orb_split, h, o.eq]⟩
  cases i with
  | zero =>
    refine o.nd 0 k hi hk ?_
    unfold rst; rw [e]
  | succ i =>
    obtain ⟨l, rfl⟩ : ∃ l, k = l + 1 := ⟨k - 1, by omega⟩
    rw [orb_s, orb_s] at e
    exact o.nd i l (by omega) (by omega) (by omega)
theorem Ro.orbA {b t N j : Nat} (o : Ro b t N j) (h : dig b 2 t j ≠ dig b 2 t N) : Orb b 2 t (N + 1) (j + 1) := by
  have hj := o.hj
  refine ⟨o.hb, by have := o.hN; omega, fun i k hi hk e => ?_, by omega, by rw [orb_s, orb_s, o.eq]⟩
  cases i with
  | zero =>
    have e0 : rst b t 0 = rst b t k := by unfold rst; rw [e]
    by_cases hkN : k < N
    · exact o.nd 0 k hi hkN e0
    · obtain rfl : k = N := by omega
      have hj0 : j = 0 := by
        refine Classical.byContradiction fun hc => ?_
        exact o.nd 0 j (by omega) hj (by rw [e0, o.eq])
      subst hj0
      exact h (by unfold dig; rw [e])
  | succ i =>
    obtain ⟨l, rfl⟩ : ∃ l, k = l + 1 := ⟨k - 1, by omega⟩
    rw [orb_s, orb_s] at e
    exact o.nd i l (by omega) (by omega) (by omega)
/-! ### figures tell the rest -/
theorem orb_per {b m t N j : Nat} (o : Orb b m t N j) (s : Nat) : orb b m t (j + s) = orb b m t (N + s) := by
  induction s with
  | zero => exact o.eq
  | succ s ih =>
    show orb b m t (j + s) % b * m = orb b m t (N + s) % b * m
    rw [ih]
theorem dig_per {b m t N j : Nat} (o : Orb b m t N j) {i : Nat} (h : j ≤ i) : dig b m t (i + (N - j)) = dig b m t i := by
  have hj := o.hj
  obtain ⟨s, rfl⟩ := Nat.exists_eq_add_of_le h
  unfold dig
  rw [show j + s + (N - j) = N + s by omega, orb_per o]
theorem orb_of_digs {b m t i k : Nat} (hb : 0 < b) (hm : 2 ≤ m) (ht : t ≤ b) (h : ∀ s, dig b m t (i + s) = dig b m t (k + s)) : orb b m t i = orb b m t k := by
  have hF : ∀ s, Ft b m t i s = Ft b m t k s := by
    intro s
    induction s with
    | zero => rfl
    | succ s ih =>
      show Ft b m t i s * m + dig b m t (i + s) = Ft b m t k s * m + dig b m t (k + s)
      rw [ih, h]
  have e1 := Ft_eq (b := b) (m := m) (t := t) (j := i) (b * m)
  have e2 := Ft_eq (b := b) (m := m) (t := t) (j := k) (b * m)
  rw [hF] at e1
  have l1 := orb_lt hb hm ht (i + b * m)
  have l2 := orb_lt hb hm ht (k + b * m)
  have hp : b * m < m ^ (b * m) := Nat.lt_of_lt_of_le Nat.lt_two_pow_self (Nat.pow_le_pow_left hm _)
  generalize m ^ (b * m) = M at *
  generalize b * m * Ft b m t k (b * m) = Z at *
  rcases Nat.lt_trichotomy (orb b m t i) (orb b m t k) with hh | hh | hh
  · exfalso
    have : (orb b m t i + 1) * M ≤ orb b m t k * M := Nat.mul_le_mul_right _ hh
    rw [Nat.add_mul] at this
    omega
  · exact hh
  · exfalso
    have : (orb b m t k + 1) * M ≤ orb b m t i * M := Nat.mul_le_mul_right _ hh
    rw [Nat.add_mul] at this
    omega
/-- the figure ahead is not the round's last one -/
theorem Orb.ahead {b t N j : Nat} (o : Orb b 2 t N (j + 1)) : dig b 2 t j ≠ dig b 2 t (N - 1) := by
  intro h
  have hj := o.hj
  obtain ⟨M, rfl⟩ : ∃ M, N = M + 1 := ⟨N - 1, by omega⟩
  have e := o.eq
  rw [orb_s, orb_s] at e
  refine o.nd j M (by omega) (by omega) ?_
  rw [orb_split, orb_split b t M, h, show M + 1 - 1 = M by omega]
  omega
/-- no shorter round -/
theorem Orb.shorter {b m t N j : Nat} (o : Orb b m t N j) (hm : 2 ≤ m) (ht : t ≤ b) {l : Nat} (h0 : 0 < l) (h1 : l < N - j) (hd : (N - j) % l = 0) : digL b m t j (N - j) ≠ (List.replicate ((N - j) / l) (digL b m t j l)).flatten := by
  intro e
  have hj := o.hj
  have hb := o.hb
  -- figures of the round by the first ones
  have hrep : ∀ (q x : Nat), x < q * l → ((List.replicate q (digL b m t j l)).flatten)[x]? = some (dig b m t (j + x % l)) := by
    intro q
    induction q with
    | zero => intro x hx; omega
    | succ q ih =>
      intro x hx
      rw [List.replicate_succ, List.flatten_cons]
      by_cases hxl : x < l
      · rw [List.getElem?_append_left (by rw [digL_len]; exact hxl), digL_get hxl, Nat.mod_eq_of_lt hxl]
      · rw [List.getElem?_append_right (by rw [digL_len]; omega), digL_len, ih (x - l) (by rw [Nat.add_mul] at hx; omega)]
        rw [← Nat.mod_eq_sub_mod (a := x) (b := l) (by omega)]
  have hq : (N - j) / l * l = N - j := Nat.div_mul_cancel (Nat.dvd_of_mod_eq_zero hd)
  have hx : ∀ x, x < N - j → dig b m t (j + x) = dig b m t (j + x % l) := by
    intro x hx
    have h := hrep ((N - j) / l) x (by rw [hq]; exact hx)
    rw [← e, digL_get hx] at h
    exact Option.some.inj h
  have hp : ∀ s, dig b m t (j + s) = dig b m t (j + s % (N - j)) := by
    intro s
    induction s using Nat.strongRecOn with
    | ind s ih =>
      by_cases hs : s < N - j
      · rw [Nat.mod_eq_of_lt hs]
      · have h2 := ih (s - (N - j)) (by omega)
        rw [Nat.mod_eq_sub_mod (by omega), ← h2]
        have h3 := dig_per o (i := j + (s - (N - j))) (by omega)
        rw [← h3]
        congr 1
        omega
  have hall : ∀ s, dig b m t (j + s) = dig b m t (j + s % l) := by
    intro s
    rw [hp s, hx _ (Nat.mod_lt _ (by omega)), Nat.mod_mod_of_dvd _ (Nat.dvd_of_mod_eq_zero hd)]
  have := orb_of_digs (i := j) (k := j + l) hb hm ht fun s => by
    rw [hall s, show j + l + s = j + (s + l) by omega, hall (s + l), Nat.add_mod_right]
  exact o.nd j (j + l) (by omega) (by omega) this
/-! ### loops -/
theorem stepB {I : Env → Sto → Prop} {P : RS → Prop} {g : GE} {l : Ss} {env1 e : Env} {st s : Sto} (env0 : Env) (he : env1 = env0) (h : evSs g l env0 st = .bk e s) (hi : P (.nx e s)) : stepOK I P (evSs g l env1 st) := by rw [he, h]; exact .bk _ _ hi
theorem forD_bk {tg : Tg} {b : Env → Sto → RS} {x : D} {xs : List D} {env env1 e : Env} {st s : Sto} (h1 : bindTg tg x env = some env1) (h2 : b env1 st = .bk e s) : forD tg b (x :: xs) env st = .nx e s := by rw [forD, h1]; show (match b env1 st with | .nx env' st' => forD tg b xs env' st' | .ct env' st' => forD tg b xs env' st' | .bk env' st' => .nx env' st' | r => r) = _; rw [h2] <;> rfl
theorem forD_nx {tg : Tg} {b : Env → Sto → RS} {x : D} {xs : List D} {env env1 e : Env} {st s : Sto} (h1 : bindTg tg x env = some env1) (h2 : b env1 st = .nx e s) : forD tg b (x :: xs) env st = forD tg b xs e s := by rw [forD, h1]; show (match b env1 st with | .nx env' st' => forD tg b xs env' st' | .ct env' st' => forD tg b xs env' st' | .bk env' st' => .nx env' st' | r => r) = _; rw [h2] <;> rfl
theorem forD_nil {tg : Tg} {b : Env → Sto → RS} {env : Env} {st : Sto} : forD tg b [] env st = .nx env st := rfl
theorem cutL_mid {α : Type} (xs : List α) (a c : Nat) (h : a ≤ c) (hc : c ≤ xs.length) : cutL xs (some (a : Int)) (some (c : Int)) = (xs.drop a).take (c - a) := by
  unfold cutL HT.sIx
  simp only
  rw [if_neg (by omega), if_neg (by omega)]
  simp only [Int.toNat_natCast]
  rw [Nat.min_eq_left (by omega), Nat.min_eq_left (by omega)]
theorem mulT (xs : List D) (k : Nat) (hk : 1 ≤ k) (hk2 : k ≤ 1000) (hx : xs.length ≤ 1000) : binD .Mult (.tup xs) (.int (k : Int)) = some (.tup (List.replicate k xs).flatten) := by
  show mulD (.tup xs) (.int (k : Int)) = _
  show (if (k : Int) = 1 ∨ xs.isEmpty = true then guardO (-(2 ^ 63) ≤ (k : Int) ∧ (k : Int) < 2 ^ 63) (D.tup xs) else if (k : Int) ≤ 0 then guardO (-1000 ≤ (k : Int)) (.tup []) else guardO (repTOK xs.length (k : Int)) (.tup (List.replicate (k : Int).toNat xs).flatten)) = _
  by_cases h1 : (k : Int) = 1 ∨ xs.isEmpty = true
  · simp only [if_pos h1]
    rw [guardO_true ⟨by omega, by omega⟩]
    rcases h1 with h1 | h1
    · have : k = 1 := by omega
      subst this
      simp
    · have : xs = [] := List.isEmpty_iff.mp h1
      subst this
      simp
  · have h2 : ¬ (k : Int) ≤ 0 := by omega
    have h3 : (k : Int) ≠ 1 ∧ ¬ xs.isEmpty = true := ⟨fun e => h1 (.inl e), fun e => h1 (.inr e)⟩
    simp only [if_neg h1, if_neg h2]
    rw [guardO_true ⟨fun e => h3.2 (by simpa using e), by omega, by omega, hx⟩]
    simp
theorem digs_in (b m t j n : Nat) (hb : 0 < b) (hm : 2 ≤ m) (ht : t ≤ b) : ∀ x ∈ digL b m t j n, x < m := by
  intro x hx
  obtain ⟨i, _, rfl⟩ := List.mem_map.mp hx
  exact dig_lt hb hm ht i
end WT
end

section
set_option Elab.async false
set_option linter.all false
set_option maxRecDepth 100000
set_option autoImplicit false
/-! Q6: rational numbers as pairs in lowest terms, with bounds. Own work. -/
namespace WT
open PySem
def pr (x : Rat) : Int × Int := (x.num, (x.den : Int))
theorem pr_lw (x : Rat) : Lw (pr x) := ⟨Int.natCast_pos.mpr x.den_pos, by show Nat.gcd x.num.natAbs (x.den : Int).natAbs = 1; exact x.reduced⟩
theorem val_pr (x : Rat) : val (pr x) = x := by
  show (x.num : Rat) / ((x.den : Int) : Rat) = x
  rw [← Rat.divInt_eq_div]; exact Rat.num_divInt_den x
theorem pr_val {q : Int × Int} (h : Lw q) : pr (val q) = q := val_inj (pr_lw _) h (val_pr _)
theorem pr_inj {x y : Rat} (h : pr x = pr y) : x = y := by rw [← val_pr x, ← val_pr y, h]
theorem low_pr {a b : Int} (h : 0 < b) : low a b = pr ((a : Rat) / (b : Rat)) := val_inj (low_lw h) (pr_lw _) (by rw [val_low h, val_pr])
theorem pr_of {q : Int × Int} (h : Lw q) : q = pr ((q.1 : Rat) / (q.2 : Rat)) := (pr_val h).symm
theorem plusF_pr (x y : Rat) : plusF (pr x) (pr y) = pr (x + y) := val_inj (plusF_lw (pr_lw x).1 (pr_lw y).1) (pr_lw _) (by rw [val_plusF (pr_lw x).1 (pr_lw y).1, val_pr, val_pr, val_pr])
theorem timesF_pr (x y : Rat) : timesF (pr x) (pr y) = pr (x * y) := val_inj (timesF_lw (pr_lw x).1 (pr_lw y).1) (pr_lw _) (by rw [val_timesF (pr_lw x).1 (pr_lw y).1, val_pr, val_pr, val_pr])
theorem pr_cast (a : Int) : pr (a : Rat) = (a, 1) := val_inj (pr_lw _) ⟨Int.one_pos, by simp⟩ (by rw [val_pr]; unfold val; grind)
theorem pr_0 : pr 0 = (0, 1) := rfl
theorem pr_1 : pr 1 = (1, 1) := rfl
/-- not too great -/
def MID : Int := ((2 ^ 4400 : Nat) : Int)
theorem MID_pos : 0 < MID := Int.natCast_pos.mpr (Nat.pow_pos (by omega))
theorem MID_mul {a b : Int} (h1 : 0 ≤ a) (h2 : a ≤ MID) (h3 : 0 ≤ b) (h4 : b ≤ MID) : a * b < BIG := by
  have h := Int.mul_le_mul h2 h4 h3 (Int.le_of_lt MID_pos)
  have : MID * MID < BIG := by
    unfold MID BIG
    rw [← Int.natCast_mul, ← Nat.pow_add]
    exact Int.ofNat_lt.mpr (Nat.pow_lt_pow_right (by omega) (by omega))
  omega
theorem MID_BIG : MID < BIG := by
  unfold MID BIG
  exact Int.ofNat_lt.mpr (Nat.pow_lt_pow_right (by omega) (by omega))
structure Bd (x : Rat) : Prop where
  n1 : -MID < x.num
  n2 : x.num < MID
  d : (x.den : Int) < MID
theorem Bd.p {x : Rat} (h : Bd x) : -BIG < (pr x).1 ∧ (pr x).1 < BIG ∧ 0 < (pr x).2 ∧ (pr x).2 < BIG := by
  have := MID_BIG
  have h1 := h.n1
  have h2 := h.n2
  have h3 := h.d
  have h4 : (0 : Int) < (x.den : Int) := Int.natCast_pos.mpr x.den_pos
  refine ⟨?_, ?_, ?_, ?_⟩ <;> simp only [pr] <;> omega
theorem Bd.m12 {x y : Rat} (h : Bd x) (k : Bd y) (z : D) : guardO (mulOK (pr x).1 (pr y).2) z = some z := by
  have a := h.p; have b := k.p; have := BIG_pos
  exact mulB a.1 a.2.1 (by omega) b.2.2.2
theorem Bd.m21 {x y : Rat} (h : Bd x) (k : Bd y) (z : D) : guardO (mulOK (pr x).2 (pr y).1) z = some z := by
  have a := h.p; have b := k.p; have := BIG_pos
  exact mulB (by omega) a.2.2.2 b.1 b.2.1
theorem Bd.m11 {x y : Rat} (h : Bd x) (k : Bd y) (z : D) : guardO (mulOK (pr x).1 (pr y).1) z = some z := by
  have a := h.p; have b := k.p; have := BIG_pos
  exact mulB a.1 a.2.1 b.1 b.2.1
theorem Bd.m22 {x y : Rat} (h : Bd x) (k : Bd y) (z : D) : guardO (mulOK (pr x).2 (pr y).2) z = some z := by
  have a := h.p; have b := k.p; have := BIG_pos
  exact mulB (by omega) a.2.2.2 (by omega) b.2.2.2
theorem Bd.d22 {x y : Rat} (h : Bd x) (k : Bd y) : (pr x).2 * (pr y).2 < BIG := by
  have h1 := h.d; have h2 := k.d
  exact MID_mul (by simp only [pr]; omega) (by simp only [pr]; omega) (by simp only [pr]; omega) (by simp only [pr]; omega)
theorem Bd.d21 {x y : Rat} (h : Bd x) (k : Bd y) (hy : 0 ≤ y.num) : (pr x).2 * (pr y).1 < BIG := by
  have h1 := h.d; have h2 := k.n2
  exact MID_mul (by simp only [pr]; omega) (by simp only [pr]; omega) (by simp only [pr]; omega) (by simp only [pr]; omega)
/-- whole when multiplied by `d` -/
def InD (d : Int) (x : Rat) : Prop := ∃ X : Int, x * (d : Rat) = (X : Rat)
theorem InD.add {d : Int} {x y : Rat} (h : InD d x) (k : InD d y) : InD d (x + y) := by
  obtain ⟨X, hX⟩ := h; obtain ⟨Y, hY⟩ := k
  exact ⟨X + Y, by rw [Rat.intCast_add, Rat.add_mul, hX, hY]⟩
theorem InD.zero (d : Int) : InD d 0 := ⟨0, by grind⟩
theorem InD.mulI {d : Int} {x : Rat} (h : InD d x) (k : Int) : InD d ((k : Rat) * x) := by
  obtain ⟨X, hX⟩ := h
  exact ⟨k * X, by rw [Rat.intCast_mul, ← hX, Rat.mul_assoc]⟩
theorem InD.of {d e : Int} {x : Rat} (h : InD e x) (hd : e ∣ d) : InD d x := by
  obtain ⟨X, hX⟩ := h; obtain ⟨c, rfl⟩ := hd
  exact ⟨X * c, by rw [Rat.intCast_mul, Rat.intCast_mul, ← hX, Rat.mul_assoc]⟩
theorem InD.div {d : Int} (a : Int) (hd : d ≠ 0) : InD d ((a : Rat) / (d : Rat)) := ⟨a, by
  have : (d : Rat) ≠ 0 := fun e => hd (by have := Rat.intCast_inj.mp (e.trans rfl : (d : Rat) = ((0 : Int) : Rat)); omega)
  grind⟩
theorem InD.mul {d e : Int} {x y : Rat} (h : InD d x) (k : InD e y) : InD (d * e) (x * y) := by
  obtain ⟨X, hX⟩ := h; obtain ⟨Y, hY⟩ := k
  exact ⟨X * Y, by rw [Rat.intCast_mul, Rat.intCast_mul, ← hX, ← hY]; grind⟩
theorem InD.bd {d M : Int} {x : Rat} (h : InD d x) (hd : 0 < d) (h0 : 0 ≤ x) (h1 : x ≤ (M : Rat)) (hM : 1 ≤ M) (hb : M * d < MID) : Bd x := by
  obtain ⟨X, hX⟩ := h
  have hd' := cast_pos hd
  have e : x = (X : Rat) / (d : Rat) := by
    have := cast_ne hd
    grind
  have hX0 : 0 ≤ X := by
    have : (0 : Rat) ≤ (X : Rat) := by rw [← hX]; exact Rat.mul_nonneg h0 (Rat.le_of_lt hd')
    exact Rat.intCast_le_intCast.mp (by simpa using this)
  have hX1 : X ≤ M * d := by
    refine Rat.intCast_le_intCast.mp ?_
    rw [← hX, Rat.intCast_mul]
    exact Rat.mul_le_mul_of_nonneg_right h1 (Rat.le_of_lt hd')
  have hl := low_pr (a := X) hd
  rw [← e] at hl
  have t := low_top hX0 hd
  have l := low_le (a := X) hd
  rw [hl] at t l
  have hdM : 1 * d ≤ M * d := Int.mul_le_mul_of_nonneg_right hM (by omega)
  simp only [pr] at t l
  have := MID_pos
  exact ⟨by omega, by omega, by omega⟩
theorem num_nonneg {x : Rat} (h : 0 ≤ x) : 0 ≤ x.num := Rat.num_nonneg.mpr h
theorem num_pos {x : Rat} (h : 0 < x) : 0 < x.num := by
  have h1 := num_nonneg (Rat.le_of_lt h)
  have h2 : x.num ≠ 0 := fun e => by rw [Rat.num_eq_zero.mp e] at h; exact absurd h (by decide)
  omega
/-- quotients -/
theorem quot_pr {x y : Rat} (hy : 0 < y) : low ((pr x).1 * (pr y).2) ((pr x).2 * (pr y).1) = pr (x / y) := by
  have hn := num_pos hy
  have hp : (0 : Int) < (pr x).2 * (pr y).1 := Int.mul_pos (pr_lw x).1 hn
  refine val_inj (low_lw hp) (pr_lw _) ?_
  rw [val_low hp, val_pr]
  have e1 : (pr x).1 = (pr x).1 := rfl
  have v1 := val_pr x
  have v2 := val_pr y
  unfold val at v1 v2
  have n1 := cast_ne (pr_lw x).1
  have n2 := cast_ne (pr_lw y).1
  have n3 : (((pr y).1 : Int) : Rat) ≠ 0 := cast_ne hn
  rw [Rat.intCast_mul, Rat.intCast_mul]
  generalize (((pr x).1 : Int) : Rat) = a at *
  generalize (((pr x).2 : Int) : Rat) = b at *
  generalize (((pr y).1 : Int) : Rat) = c at *
  generalize (((pr y).2 : Int) : Rat) = d at *
  rw [← v1, ← v2]
  grind
theorem lt_pr (x y : Rat) : (pr x).1 * (pr y).2 < (pr y).1 * (pr x).2 ↔ x < y := (Rat.lt_iff x y).symm
end WT
end

section
set_option Elab.async false
set_option linter.all false
set_option maxRecDepth 100000
set_option autoImplicit false
/-! Q7: sums over figures and rests of a number in base two, as rational numbers. Own work. -/
namespace WT
open PySem
def cR (n : Nat) : Rat := ((n : Int) : Rat)
theorem cR_add (a b : Nat) : cR (a + b) = cR a + cR b := by unfold cR; rw [Int.natCast_add, Rat.intCast_add]
theorem cR_mul (a b : Nat) : cR (a * b) = cR a * cR b := by unfold cR; rw [Int.natCast_mul, Rat.intCast_mul]
theorem cR_0 : cR 0 = 0 := rfl
theorem cR_1 : cR 1 = 1 := rfl
theorem cR_2 : cR 2 = 2 := rfl
theorem cR_le {a b : Nat} (h : a ≤ b) : cR a ≤ cR b := Rat.intCast_le_intCast.mpr (by omega)
theorem cR_lt {a b : Nat} (h : a < b) : cR a < cR b := Rat.intCast_lt_intCast.mpr (by omega)
theorem cR_nn (a : Nat) : 0 ≤ cR a := cR_le (Nat.zero_le a)
theorem cR_pos {a : Nat} (h : 0 < a) : 0 < cR a := cR_lt h
theorem cR_ne {a : Nat} (h : 0 < a) : cR a ≠ 0 := Rat.ne_of_gt (cR_pos h)
def pw (n : Nat) : Rat := cR (2 ^ n)
theorem pw_succ (n : Nat) : pw (n + 1) = 2 * pw n := by unfold pw; rw [Nat.pow_succ, cR_mul, cR_2, Rat.mul_comm]
theorem pw_add (n m : Nat) : pw (n + m) = pw n * pw m := by unfold pw; rw [Nat.pow_add, cR_mul]
theorem pw_pos (n : Nat) : 0 < pw n := cR_pos (Nat.pow_pos (by omega))
theorem pw_ne (n : Nat) : pw n ≠ 0 := Rat.ne_of_gt (pw_pos n)
theorem pw_ge (n : Nat) : 1 ≤ pw n := by
  have := cR_le (show 1 ≤ 2 ^ n from Nat.pow_pos (by omega))
  exact this
def vv (b t i : Nat) : Rat := cR (rst b t i) / cR b
def dd (b t i : Nat) : Rat := cR (dig b 2 t i)
variable {b t : Nat}
theorem le_div {a b c : Rat} (hc : 0 < c) (h : a * c ≤ b) : a ≤ b / c := by
  refine Rat.le_of_mul_le_mul_right ?_ hc
  rw [Rat.div_mul_cancel (Rat.ne_of_gt hc)]; exact h
theorem div_le {a b c : Rat} (hc : 0 < c) (h : a ≤ b * c) : a / c ≤ b := by
  refine Rat.le_of_mul_le_mul_right ?_ hc
  rw [Rat.div_mul_cancel (Rat.ne_of_gt hc)]; exact h
theorem vv_nn (hb : 0 < b) (i : Nat) : 0 ≤ vv b t i := by
  unfold vv
  have h1 := cR_nn (rst b t i)
  have h2 := cR_pos hb
  exact le_div h2 (by rw [Rat.zero_mul]; exact h1)
theorem vv_le (hb : 0 < b) (i : Nat) : vv b t i ≤ 1 := by
  unfold vv
  have h1 := cR_le (Nat.le_of_lt (rst_lt hb t i))
  exact div_le (cR_pos hb) (by rw [Rat.one_mul]; exact h1)
theorem vv_step (hb : 0 < b) (i : Nat) : 2 * vv b t i = dd b t (i + 1) + vv b t (i + 1) := by
  have h : 2 * rst b t i = b * dig b 2 t (i + 1) + rst b t (i + 1) := by rw [← orb_s, orb_split]
  have h2 := congrArg cR h
  rw [cR_add, cR_mul, cR_mul, cR_2] at h2
  have hb' := cR_ne hb
  unfold vv dd
  grind
theorem vv_0 (hb : 0 < b) : cR t / cR b = dd b t 0 + vv b t 0 := by
  have h : t = b * dig b 2 t 0 + rst b t 0 := orb_split b t 0
  have h2 := congrArg cR h
  rw [cR_add, cR_mul] at h2
  have hb' := cR_ne hb
  unfold vv dd
  grind
def sS (b t : Nat) : Nat → Rat
  | 0 => 0
  | n + 1 => sS b t n + vv b t n / pw n
def sA (b t : Nat) : Nat → Rat
  | 0 => 0
  | n + 1 => sA b t n + cR n * dd b t n / pw n
def sB (b t : Nat) : Nat → Rat
  | 0 => 0
  | n + 1 => sB b t n + dd b t n / pw n
theorem sS_succ (n : Nat) : sS b t (n + 1) = sS b t n + vv b t n / pw n := rfl
theorem sA_succ (n : Nat) : sA b t (n + 1) = sA b t n + cR n * dd b t n / pw n := rfl
theorem sB_succ (n : Nat) : sB b t (n + 1) = sB b t n + dd b t n / pw n := rfl
theorem sS_eq (hb : 0 < b) (n : Nat) : sS b t n = sA b t (n + 1) + cR n * vv b t n / pw n := by
  induction n with
  | zero => rw [sA_succ, cR_0]; show (0 : Rat) = 0 + 0 * dd b t 0 / pw 0 + 0 * vv b t 0 / pw 0; grind
  | succ n ih =>
    rw [sS_succ, ih, sA_succ (n + 1), cR_add, cR_1, pw_succ]
    have h := vv_step (t := t) hb n
    have := pw_ne n
    generalize vv b t (n + 1) = v' at *
    generalize dd b t (n + 1) = d' at *
    generalize pw n = P at *
    grind
theorem sB_eq (hb : 0 < b) (n : Nat) : cR t / cR b = sB b t (n + 1) + vv b t n / pw n := by
  induction n with
  | zero => rw [vv_0 hb, sB_succ]; show _ = 0 + dd b t 0 / pw 0 + vv b t 0 / pw 0; rw [show pw 0 = 1 from rfl]; grind
  | succ n ih =>
    rw [ih, sB_succ (n + 1), pw_succ]
    have h := vv_step (t := t) hb n
    have := pw_ne n
    generalize vv b t (n + 1) = v' at *
    generalize dd b t (n + 1) = d' at *
    generalize pw n = P at *
    grind
/-- the cost -/
def c0 (b t N j : Nat) : Rat := sS b t j + (sS b t N - sS b t j) * pw (N - j) / (pw (N - j) - 1)
theorem pw_gt {n : Nat} (h : 0 < n) : 1 < pw n := by
  have := cR_lt (show 1 < 2 ^ n from Nat.one_lt_two_pow (by omega))
  exact this
theorem vv_eq {N j : Nat} (h : rst b t j = rst b t N) : vv b t j = vv b t N := by unfold vv; rw [h]
/-- the cost by the figures, when they differ -/
theorem cost_A (hb : 0 < b) {N j : Nat} (hj : j < N) (h : rst b t j = rst b t N) : c0 b t N j = sA b t (j + 1) + (sA b t (N + 1) - sA b t (j + 1)) * pw (N - j) / (pw (N - j) - 1) + cR (N - j) * (vv b t j / pw j) / (pw (N - j) - 1) := by
  have e1 := sS_eq (t := t) hb j
  have e2 := sS_eq (t := t) hb N
  have e3 := vv_eq h
  obtain ⟨p, rfl⟩ : ∃ p, N = j + p := ⟨N - j, by omega⟩
  rw [show j + p - j = p by omega]
  have hp := pw_gt (n := p) (by omega)
  have h1 : pw p - 1 ≠ 0 := fun e => by have : pw p = 1 := by grind
                                        rw [this] at hp; exact absurd hp (by decide)
  have h2 := pw_ne j
  have h3 := pw_ne p
  unfold c0
  rw [e1, e2, ← e3, pw_add, cR_add, show j + p - j = p by omega]
  generalize sA b t (j + 1) = A1
  generalize sA b t (j + p + 1) = A2
  generalize vv b t j = v
  generalize pw j = J at *
  generalize pw p = P at *
  generalize cR j = cj
  generalize cR p = cp
  grind
theorem worth_A (hb : 0 < b) {N j : Nat} (hj : j < N) (h : rst b t j = rst b t N) : (sB b t (N + 1) - sB b t (j + 1)) * pw (N - j) / (pw (N - j) - 1) = vv b t j / pw j := by
  have e1 := sB_eq (t := t) hb j
  have e2 := sB_eq (t := t) hb N
  have e3 := vv_eq h
  obtain ⟨p, rfl⟩ : ∃ p, N = j + p := ⟨N - j, by omega⟩
  rw [show j + p - j = p by omega]
  have hp := pw_gt (n := p) (by omega)
  have h1 : pw p - 1 ≠ 0 := fun e => by have : pw p = 1 := by grind
                                        rw [this] at hp; exact absurd hp (by decide)
  have h2 := pw_ne j
  have h3 := pw_ne p
  rw [← e3, pw_add] at e2
  generalize sB b t (j + 1) = A1 at *
  generalize sB b t (j + p + 1) = A2 at *
  generalize vv b t j = v at *
  generalize pw j = J at *
  generalize pw p = P at *
  generalize cR t / cR b = x at *
  have e4 : (A2 - A1) * P = v / J * (P - 1) := by
    have : A2 - A1 = v / J - v / (J * P) := by grind
    rw [this]
    grind
  rw [e4]
  grind
/-- and when they are the same -/
theorem cost_B (hb : 0 < b) {N : Nat} (hN : 0 < N) (h : rst b t 0 = rst b t N) (hd : dig b 2 t 0 = dig b 2 t N) : c0 b t N 0 = sA b t 0 + (sA b t N - sA b t 0) * pw N / (pw N - 1) + cR N * (cR t / cR b) / (pw N - 1) := by
  have e2 := sS_eq (t := t) hb N
  have e3 := vv_eq h
  have e4 : dd b t 0 = dd b t N := by unfold dd; rw [hd]
  have e5 := vv_0 (t := t) hb
  have hp := pw_gt hN
  have h1 : pw N - 1 ≠ 0 := fun e => by have : pw N = 1 := by grind
                                        rw [this] at hp; exact absurd hp (by decide)
  have h3 := pw_ne N
  unfold c0
  rw [e2, Nat.sub_zero, e5, e4, e3, sA_succ]
  show (0 : Rat) + (_ - 0) * _ / _ = 0 + (_ - 0) * _ / _ + _
  generalize sA b t N = A2
  generalize vv b t N = v
  generalize dd b t N = d
  generalize pw N = P at *
  generalize cR N = cp
  grind
theorem worth_B (hb : 0 < b) {N : Nat} (hN : 0 < N) (h : rst b t 0 = rst b t N) (hd : dig b 2 t 0 = dig b 2 t N) : (sB b t N - sB b t 0) * pw N / (pw N - 1) = cR t / cR b := by
  have e2 := sB_eq (t := t) hb N
  have e3 := vv_eq h
  have e4 : dd b t 0 = dd b t N := by unfold dd; rw [hd]
  have e5 := vv_0 (t := t) hb
  have hp := pw_gt hN
  have h1 : pw N - 1 ≠ 0 := fun e => by have : pw N = 1 := by grind
                                        rw [this] at hp; exact absurd hp (by decide)
  have h3 := pw_ne N
  rw [sB_succ] at e2
  rw [e4, e3] at e5
  show (sB b t N - 0) * pw N / (pw N - 1) = _
  generalize sB b t N = A2 at *
  generalize vv b t N = v at *
  generalize dd b t N = d at *
  generalize pw N = P at *
  generalize cR t / cR b = x at *
  have e6 : A2 * P = x * (P - 1) := by
    have : A2 = x - x / P := by grind
    rw [this]; grind
  rw [show A2 - 0 = A2 by grind, e6]
  grind
/-! ### what is over -/
def tT (b t N j n : Nat) : Rat := (c0 b t N j - sS b t n) * pw n
theorem tT_step (N j n : Nat) : tT b t N j n = vv b t n + tT b t N j (n + 1) / 2 := by
  unfold tT
  rw [sS_succ, pw_succ]
  have := pw_ne n
  grind
theorem tT_j {N j : Nat} (hj : j < N) : tT b t N j j = (sS b t N - sS b t j) * pw j * pw (N - j) / (pw (N - j) - 1) := by
  unfold tT c0
  grind
theorem tT_N {N j : Nat} (hj : j < N) : tT b t N j N = tT b t N j j := by
  rw [tT_j hj]
  unfold tT c0
  have e : pw N = pw j * pw (N - j) := by rw [← pw_add]; congr 1; omega
  have hp := pw_gt (n := N - j) (by omega)
  have h1 : pw (N - j) - 1 ≠ 0 := fun e => by have : pw (N - j) = 1 := by grind
                                              rw [this] at hp; exact absurd hp (by decide)
  rw [e]
  generalize pw (N - j) = P at *
  generalize pw j = J at *
  generalize sS b t N = X
  generalize sS b t j = Y
  have h2 : (Y + (X - Y) * P / (P - 1) - X) = (X - Y) / (P - 1) := by grind
  rw [h2]
  grind
end WT
end

section
set_option Elab.async false
set_option linter.all false
set_option maxRecDepth 100000
set_option autoImplicit false
/-! Q8: bounds for Q7's sums. Own work. -/
namespace WT
open PySem
variable {b t : Nat}
theorem rst_per {N j : Nat} (hj : j < N) (h : rst b t j = rst b t N) (s : Nat) : rst b t (j + s + (N - j)) = rst b t (j + s) := by
  induction s with
  | zero => rw [show j + 0 + (N - j) = N by omega]; exact h.symm
  | succ s ih => rw [show j + (s + 1) + (N - j) = (j + s + (N - j)) + 1 by omega, rst_s, ih, ← rst_s]; rfl
theorem tT_next (N j n : Nat) : tT b t N j (n + 1) = 2 * (tT b t N j n - vv b t n) := by
  have := tT_step (b := b) (t := t) N j n
  grind
theorem tT_per {N j : Nat} (hj : j < N) (h : rst b t j = rst b t N) (s : Nat) : tT b t N j (j + s + (N - j)) = tT b t N j (j + s) := by
  induction s with
  | zero => rw [show j + 0 + (N - j) = N by omega]; exact tT_N hj
  | succ s ih =>
    have e : vv b t (j + s + (N - j)) = vv b t (j + s) := by unfold vv; rw [rst_per hj h]
    rw [show j + (s + 1) + (N - j) = (j + s + (N - j)) + 1 by omega, tT_next, ih, e, ← tT_next]; rfl
theorem sS_diff (hb : 0 < b) (j n : Nat) : 0 ≤ sS b t (j + n) - sS b t j ∧ (sS b t (j + n) - sS b t j) * pw j * pw n ≤ 2 * (pw n - 1) := by
  induction n with
  | zero => rw [Nat.add_zero, show pw 0 = 1 from rfl]; constructor <;> grind
  | succ n ih =>
    obtain ⟨h1, h2⟩ := ih
    have v0 := vv_nn (t := t) hb (j + n)
    have v1 := vv_le (t := t) hb (j + n)
    have p1 := pw_pos (j + n)
    have n1 := pw_ne j
    have n2 := pw_ne n
    rw [← Nat.add_assoc, sS_succ]
    constructor
    · have : 0 ≤ vv b t (j + n) / pw (j + n) := le_div p1 (by rw [Rat.zero_mul]; exact v0)
      grind
    · rw [pw_succ, pw_add]
      have e : (sS b t (j + n) + vv b t (j + n) / (pw j * pw n) - sS b t j) * pw j * (2 * pw n) = 2 * ((sS b t (j + n) - sS b t j) * pw j * pw n) + 2 * vv b t (j + n) := by
        generalize sS b t (j + n) = X
        generalize sS b t j = Y
        generalize vv b t (j + n) = v
        generalize pw j = J at *
        generalize pw n = P at *
        grind
      rw [e]
      generalize (sS b t (j + n) - sS b t j) * pw j * pw n = Z at *
      generalize vv b t (j + n) = v at *
      generalize pw n = P at *
      grind
theorem pw1_pos {n : Nat} (h : 0 < n) : 0 < pw n - 1 := by
  have := pw_gt h
  grind
theorem tT_j_in (hb : 0 < b) {N j : Nat} (hj : j < N) : 0 ≤ tT b t N j j ∧ tT b t N j j ≤ 2 := by
  rw [tT_j hj]
  obtain ⟨h1, h2⟩ := sS_diff (t := t) hb j (N - j)
  rw [show j + (N - j) = N by omega] at h1 h2
  have hp := pw1_pos (n := N - j) (by omega)
  refine ⟨le_div hp ?_, div_le hp h2⟩
  rw [Rat.zero_mul]
  exact Rat.mul_nonneg (Rat.mul_nonneg h1 (Rat.le_of_lt (pw_pos j))) (Rat.le_of_lt (pw_pos _))
theorem tT_in (hb : 0 < b) {N j : Nat} (hj : j < N) (h : rst b t j = rst b t N) (n : Nat) : 0 ≤ tT b t N j n ∧ tT b t N j n ≤ 2 := by
  have far : ∀ q, tT b t N j (j + q * (N - j)) = tT b t N j j := by
    intro q
    induction q with
    | zero => rw [Nat.zero_mul, Nat.add_zero]
    | succ q ih =>
      have := tT_per hj h (q * (N - j))
      rw [ih] at this
      rw [← this]; congr 1; rw [Nat.add_mul, Nat.one_mul, Nat.add_assoc]
  have back : ∀ s m, 0 ≤ tT b t N j (m + s) ∧ tT b t N j (m + s) ≤ 2 → 0 ≤ tT b t N j m ∧ tT b t N j m ≤ 2 := by
    intro s
    induction s with
    | zero => intro m h; exact h
    | succ s ih =>
      intro m h
      have h2 := ih (m + 1) (by rw [show m + 1 + s = m + (s + 1) by omega]; exact h)
      have e := tT_step (b := b) (t := t) N j m
      have v0 := vv_nn (t := t) hb m
      have v1 := vv_le (t := t) hb m
      grind
  have hle : n ≤ j + n * (N - j) := by
    have : n * 1 ≤ n * (N - j) := Nat.mul_le_mul_left _ (by omega)
    omega
  refine back (j + n * (N - j) - n) n ?_
  rw [show n + (j + n * (N - j) - n) = j + n * (N - j) by omega, far]
  exact tT_j_in hb hj
theorem c0_T (N j : Nat) : tT b t N j 0 = c0 b t N j := by
  unfold tT
  rw [show pw 0 = 1 from rfl]
  show (c0 b t N j - 0) * 1 = _
  grind
theorem c0_split (N j n : Nat) : c0 b t N j = sS b t n + tT b t N j n / pw n := by
  unfold tT
  have := pw_ne n
  grind
/-- the first figures bound the cost -/
theorem c0_bd (hb : 0 < b) {N j : Nat} (hj : j < N) (h : rst b t j = rst b t N) : sA b t 40 ≤ c0 b t N j ∧ c0 b t N j ≤ sA b t 40 + cR 41 / pw 39 := by
  have e1 := c0_split (b := b) (t := t) N j 39
  have e2 := sS_eq (t := t) hb 39
  obtain ⟨h1, h2⟩ := tT_in (t := t) hb hj h 39
  have v0 := vv_nn (t := t) hb 39
  have v1 := vv_le (t := t) hb 39
  have p := pw_pos 39
  have e3 : c0 b t N j = sA b t 40 + (cR 39 * vv b t 39 + tT b t N j 39) / pw 39 := by
    rw [e1, e2]
    have := pw_ne 39
    grind
  have c39 : cR 39 = 39 := rfl
  have c41 : cR 41 = 41 := rfl
  rw [c39] at e3
  rw [c41]
  have l1 : 0 ≤ (39 * vv b t 39 + tT b t N j 39) / pw 39 := le_div p (by grind)
  have l2 : (39 * vv b t 39 + tT b t N j 39) / pw 39 ≤ 41 / pw 39 := div_le p (by rw [Rat.div_mul_cancel (pw_ne 39)]; grind)
  constructor <;> grind
/-! ### whole when multiplied -/
theorem inD_frac (a : Nat) {e d : Nat} (he : 0 < e) (h : e ∣ d) : InD (d : Int) (cR a / cR e) := (InD.div (a : Int) (by omega)).of (Int.natCast_dvd_natCast.mpr h)
theorem vv_pw (hb : 0 < b) (i k : Nat) : vv b t i / pw k = cR (rst b t i) / cR (b * 2 ^ k) := by
  unfold vv pw
  rw [cR_mul]
  have h1 := cR_ne hb
  have h2 := cR_ne (show 0 < 2 ^ k from Nat.pow_pos (by omega))
  grind
theorem inD_vv (hb : 0 < b) {K k : Nat} (hk : k ≤ K) (i : Nat) : InD ((b * 2 ^ K : Nat) : Int) (vv b t i / pw k) := by
  rw [vv_pw hb]
  exact inD_frac _ (Nat.mul_pos hb (Nat.pow_pos (by omega))) (Nat.mul_dvd_mul_left _ (Nat.pow_dvd_pow _ hk))
theorem inD_sS (hb : 0 < b) {K : Nat} : ∀ n, n ≤ K → InD ((b * 2 ^ K : Nat) : Int) (sS b t n)
  | 0, _ => InD.zero _
  | n + 1, h => (inD_sS hb n (by omega)).add (inD_vv hb (by omega) n)
theorem InD.sub {d : Int} {x y : Rat} (h : InD d x) (k : InD d y) : InD d (x - y) := by
  obtain ⟨X, hX⟩ := h; obtain ⟨Y, hY⟩ := k
  exact ⟨X - Y, by rw [Rat.intCast_sub, ← hX, ← hY]; grind⟩
theorem InD.mulN {d : Int} {x : Rat} (h : InD d x) (k : Nat) : InD d (x * cR k) := by
  have := h.mulI (k : Int)
  rw [Rat.mul_comm] at this
  exact this
theorem inD_ag {d : Int} {x : Rat} (h : InD d x) {p : Nat} (hp : 0 < p) : InD (d * ((2 ^ p - 1 : Nat) : Int)) (x * pw p / (pw p - 1)) := by
  have e : pw p - 1 = cR (2 ^ p - 1) := by
    have h1 : 2 ^ p = (2 ^ p - 1) + 1 := by have : 0 < 2 ^ p := Nat.pow_pos (by omega); omega
    have h2 := congrArg cR h1
    rw [cR_add, cR_1] at h2
    unfold pw
    rw [h2]; grind
  have hn : 0 < 2 ^ p - 1 := by have := Nat.one_lt_two_pow (n := p) (by omega); omega
  have h2 := h.mul (inD_frac (2 ^ p) hn (Nat.dvd_refl _))
  rw [e]
  have : x * (cR (2 ^ p) / cR (2 ^ p - 1)) = x * pw p / cR (2 ^ p - 1) := by unfold pw; rw [Rat.div_def, Rat.div_def, Rat.mul_assoc]
  rw [this] at h2
  exact h2
theorem inD_dd (k i : Nat) {K : Nat} (hk : i ≤ K) (a : Nat) : InD ((2 ^ K : Nat) : Int) (cR a / pw i) := inD_frac a (Nat.pow_pos (by omega)) (Nat.pow_dvd_pow _ hk)
theorem inD_sA {K : Nat} : ∀ n, n ≤ K → InD ((2 ^ K : Nat) : Int) (sA b t n)
  | 0, _ => InD.zero _
  | n + 1, h => by
    have h2 := inD_dd 0 n (K := K) (by omega) (n * dig b 2 t n)
    rw [cR_mul] at h2
    exact (inD_sA n (by omega)).add h2
theorem inD_sB {K : Nat} : ∀ n, n ≤ K → InD ((2 ^ K : Nat) : Int) (sB b t n)
  | 0, _ => InD.zero _
  | n + 1, h => (inD_sB n (by omega)).add (inD_dd 0 n (by omega) _)
theorem inD_c0 (hb : 0 < b) {N j K : Nat} (hj : j < N) (hN : N ≤ K) : InD ((b * 2 ^ K : Nat) * ((2 ^ (N - j) - 1 : Nat) : Int)) (c0 b t N j) := by
  unfold c0
  exact ((inD_sS hb j (by omega)).of ⟨_, rfl⟩).add (inD_ag ((inD_sS hb N hN).sub (inD_sS hb j (by omega))) (by omega))
theorem inD_tT (hb : 0 < b) {N j K : Nat} (hj : j < N) (hN : N ≤ K) (n : Nat) (hn : n ≤ K) : InD ((b * 2 ^ K : Nat) * ((2 ^ (N - j) - 1 : Nat) : Int)) (tT b t N j n) := by
  unfold tT
  exact (((inD_c0 hb hj hN).sub ((inD_sS hb n hn).of ⟨_, rfl⟩))).mulN _
/-- bounds of what is met -/
theorem two_MID {n : Nat} (h : n < 4400) : ((2 ^ n : Nat) : Int) < MID := Int.ofNat_lt.mpr (Nat.pow_lt_pow_right (by omega) h)
theorem InD.bdN {d : Int} {M : Nat} {x : Rat} (h : InD d x) (hd : 0 < d) (h0 : 0 ≤ x) (h1 : x ≤ cR M) (hM : 1 ≤ M) {e f : Nat} (h2 : d ≤ ((2 ^ e : Nat) : Int)) (h3 : M ≤ 2 ^ f) (hf : e + f < 4400) : Bd x := by
  refine h.bd hd h0 (M := (M : Int)) h1 (by omega) ?_
  have h4 : (M : Int) * d ≤ ((2 ^ f : Nat) : Int) * ((2 ^ e : Nat) : Int) := Int.mul_le_mul (by omega) h2 (by omega) (by omega)
  rw [← Int.natCast_mul, ← Nat.pow_add] at h4
  have := two_MID (n := f + e) (by omega)
  omega
end WT
end

section
set_option Elab.async false
set_option linter.all false
set_option maxRecDepth 100000
set_option autoImplicit false
namespace Lk18
open PySem WT
theorem sem_is_integer (st : Sto) {d : D} (h : plainD d = true) : F_is_integer.sem [d] st = .ok (.bl (isInt d)) st := by
  rw [ev_is_integer]
  cases d <;> first | (simp [plainD] at h; done) | simp [b_is_integer, isInt]
theorem sem_is_integer_int (st : Sto) (i : Int) : F_is_integer.sem [.int i] st = .ok (.bl true) st := sem_is_integer st rfl
theorem sem_is_pair_tup (st : Sto) (xs : List D) : F_is_pair.sem [.tup xs] st = .ok (.bl (decide (xs.length = 2))) st := by
  rw [ev_is_pair]
  simp [b_is_pair]
  omega
theorem sem_lowest {a b : Int} (st : Sto) (h : 0 < b) (h2 : b < BIG) : F_lowest.sem [.int a, .int b] st = .ok (fr (low a b)) st := by
  have hg := gcd_pos_r (a := a) h
  have hle : Nat.gcd a.natAbs b.natAbs ≤ b.natAbs := Nat.gcd_le_right _ (by omega)
  have hd : divOK ((Nat.gcd a.natAbs b.natAbs : Nat) : Int) := divOK_B (by omega) (by omega)
  have h0 : ¬ b < 0 := by omega
  rw [ev_lowest]
  simp [b_lowest, h0, hd, fdiv_nn, low, sizeLine]
theorem sem_is_number_of (st : Sto) {p : Int × Int} (h : Lw p) (h2 : p.2 < BIG) : F_is_number_of.sem [fr p] st = .ok (.bl true) st := by
  have hp : F_is_pair.sem [fr p] st = .ok (.bl true) st := sem_is_pair_tup st [.int p.1, .int p.2]
  have h0 := h.1
  rw [ev_is_number_of]
  simp [b_is_number_of, hp, sem_is_integer_int, sem_lowest st h.1 h2, low_self h, h0]
theorem getI (ns : List Int) (k : Nat) (h : k < ns.length) : ixD (ilst ns) (k : Int) = some (.int (ns.getD k 0)) := by
  refine ixD_nat ?_
  unfold ilst
  rw [List.getElem?_map, List.getElem?_eq_getElem h]
  simp [List.getD, List.getElem?_eq_getElem h]
theorem pre_range {n : Nat} {pre post : List Nat} {i : Nat} (e : List.range n = pre ++ i :: post) : i = pre.length ∧ pre.length < n := by
  have h1 := congrArg (fun l => l[pre.length]?) e
  have h2 := congrArg List.length e
  rw [List.length_range, List.length_append, List.length_cons] at h2
  simp only [List.getElem?_append_right (Nat.le_refl _), Nat.sub_self, List.getElem?_cons_zero] at h1
  rw [List.getElem?_range (by omega)] at h1
  exact ⟨(Option.some.inj h1).symm, by omega⟩
theorem seq_nx' {g : GE} {s : S} {ss : Ss} {env env' : WT.Env} {st st' : Sto} (h : evS g s env st = .nx env' st') : evSs g (.cons s ss) env st = evSs g ss env' st' := by rw [evSs_cons, h]; rfl
theorem sem_product (st : Sto) (p q : Int × Int) (h1 : 0 < p.2) (h2 : 0 < q.2) (g1 : ∀ z : D, guardO (mulOK p.1 q.1) z = some z) (g2 : ∀ z : D, guardO (mulOK p.2 q.2) z = some z) (hB : p.2 * q.2 < BIG) : F_product.sem [fr p, fr q] st = .ok (fr (timesF p q)) st := by
  have hl := sem_lowest (a := p.1 * q.1) (b := p.2 * q.2) st (Int.mul_pos h1 h2) hB
  rw [ev_product]
  simp [b_product, g1, g2, hl, timesF]
theorem sem_sum_of_two (st : Sto) (p q : Int × Int) (h1 : 0 < p.2) (h2 : 0 < q.2) (g1 : ∀ z : D, guardO (mulOK p.1 q.2) z = some z) (g2 : ∀ z : D, guardO (mulOK q.1 p.2) z = some z) (g3 : ∀ z : D, guardO (mulOK p.2 q.2) z = some z) (hB : p.2 * q.2 < BIG) : F_sum_of_two.sem [fr p, fr q] st = .ok (fr (plusF p q)) st := by
  have hl := sem_lowest (a := p.1 * q.2 + q.1 * p.2) (b := p.2 * q.2) st (Int.mul_pos h1 h2) hB
  rw [ev_sum_of_two]
  simp [b_sum_of_two, g1, g2, g3, hl, plusF]
theorem st_sall (a : Option D) (p q r : Int × Int) (st : Sto) (h : F_sum_of_two.sem [fr p, fr q] st = .ok (fr r) st) : evSs g_sum_of_all l_sum_of_all1 [a, some (fr p), some (fr q)] st = .nx [a, some (fr r), some (fr q)] st := by
  simp [l_sum_of_all1, h]
theorem sall_core (st : Sto) (xs : List D) (r : D) (y : Option D) (hw : forD (.name 2) (evSs g_sum_of_all l_sum_of_all1) xs [some (.lst xs), some (fr (0, 1)), none] st = .nx [some (.lst xs), some r, y] st) : F_sum_of_all.sem [.lst xs] st = .ok r st := by
  have e1 : (g_sum_of_all.cons[0]?).map (·.2) = some (fr (0, 1)) := rfl
  rw [ev_sum_of_all]
  simp [b_sum_of_all, e1, hw]
theorem sem_sum_of_all (st : Sto) (n : Nat) (f T : Nat → Int × Int) (h0 : T 0 = (0, 1)) (hs : ∀ i < n, F_sum_of_two.sem [fr (T i), fr (f i)] st = .ok (fr (T (i + 1))) st) : F_sum_of_all.sem [.lst ((List.range n).map fun i => fr (f i))] st = .ok (fr (T n)) st := by
  obtain ⟨y, hw⟩ : ∃ y, forD (.name 2) (evSs g_sum_of_all l_sum_of_all1) ((List.range n).map fun i => fr (f i)) [some (.lst ((List.range n).map fun i => fr (f i))), some (fr (0, 1)), none] st = .nx [some (.lst ((List.range n).map fun i => fr (f i))), some (fr (T n)), y] st := by
    generalize D.lst ((List.range n).map fun i => fr (f i)) = a
    refine forD_map (P := fun z => ∃ y, z = .nx [some a, some (fr (T n)), y] st) (fun pre env st' => st' = st ∧ ∃ y, env = [some a, some (fr (T pre.length)), y]) ⟨rfl, none, by rw [List.length_nil, h0]⟩ ?_ ?_
    · rintro pre i post env st' e ⟨rfl, y, rfl⟩
      obtain ⟨rfl, hpre⟩ := pre_range e
      rw [List.length_append, List.length_singleton]
      exact ⟨_, bindTg_name _ _ _, stepN _ rfl (st_sall (some a) _ _ _ st' (hs _ hpre)) ⟨rfl, _, rfl⟩⟩
    · rintro env st' ⟨rfl, y, rfl⟩
      rw [List.length_range]; exact ⟨y, rfl⟩
  exact sall_core st _ _ y hw
theorem sum2 (st : Sto) {x y : Rat} (hx : Bd x) (hy : Bd y) : F_sum_of_two.sem [fr (pr x), fr (pr y)] st = .ok (fr (pr (x + y))) st := by
  rw [← plusF_pr]
  exact sem_sum_of_two st _ _ (pr_lw x).1 (pr_lw y).1 (hx.m12 hy) (hy.m12 hx) (hx.m22 hy) (hx.d22 hy)
theorem prod2 (st : Sto) {x y : Rat} (hx : Bd x) (hy : Bd y) : F_product.sem [fr (pr x), fr (pr y)] st = .ok (fr (pr (x * y))) st := by
  rw [← timesF_pr]
  exact sem_product st _ _ (pr_lw x).1 (pr_lw y).1 (hx.m11 hy) (hx.m22 hy) (hx.d22 hy)
theorem lowest2 (st : Sto) {a b : Int} (hb : 0 < b) (hB : b < BIG) : F_lowest.sem [.int a, .int b] st = .ok (fr (pr ((a : Rat) / (b : Rat)))) st := by
  rw [← low_pr hb]
  exact sem_lowest st hb hB
theorem seq_nx2 {g : GE} {s : S} {ss : Ss} {env env' : WT.Env} {st st' : Sto} {r : RS} (h : evS g s env st = .nx env' st') (h2 : evSs g ss env' st' = r) : evSs g (.cons s ss) env st = r := by rw [evSs_cons, h]; exact h2
theorem ret_fin {g : GE} {e : E} {env : WT.Env} {st st' : Sto} {d : D} (h : evE g e env st = .ok d st') : (evSs g (.cons (.ret e) .nil) env st).fin = .ok d st' := by
  rw [evSs_cons, evS_ret, h]; rfl
def rsum (xs : List Rat) : Rat := xs.foldl (· + ·) 0
theorem rsum_snoc (xs : List Rat) (x : Rat) : rsum (xs ++ [x]) = rsum xs + x := by simp [rsum, List.foldl_append]
theorem rsum_nil : rsum [] = 0 := rfl
theorem rsum_in {xs : List Rat} {d : Int} {M : Nat} (h : ∀ x ∈ xs, InD d x ∧ 0 ≤ x ∧ x ≤ cR M) : InD d (rsum xs) ∧ 0 ≤ rsum xs ∧ rsum xs ≤ cR (M * xs.length) := by
  revert h
  refine snoc_cases (fun xs => (∀ x ∈ xs, InD d x ∧ 0 ≤ x ∧ x ≤ cR M) → InD d (rsum xs) ∧ 0 ≤ rsum xs ∧ rsum xs ≤ cR (M * xs.length)) ?_ ?_ xs
  · intro _
    rw [rsum_nil]
    exact ⟨InD.zero _, by decide, cR_nn _⟩
  · intro l x ih h
    obtain ⟨h1, h2, h3⟩ := ih fun y hy => h y (by simp [hy])
    obtain ⟨k1, k2, k3⟩ := h x (by simp)
    rw [rsum_snoc, List.length_append, List.length_singleton, Nat.mul_add, Nat.mul_one, cR_add]
    exact ⟨h1.add k1, by grind, by grind⟩
theorem rsum_range (f T : Nat → Rat) (h0 : T 0 = 0) (hs : ∀ i, T (i + 1) = T i + f i) : ∀ n, rsum ((List.range n).map f) = T n
  | 0 => h0.symm
  | n + 1 => by rw [List.range_succ, List.map_append, List.map_cons, List.map_nil, rsum_snoc, rsum_range f T h0 hs n, hs]
theorem getDg {xs : List Rat} {i : Nat} (h : i < xs.length) : xs.getD i 0 = xs[i] := by simp [List.getD, List.getElem?_eq_getElem h]
theorem sum_list (st : Sto) (xs : List Rat) {d : Int} {M e f : Nat} (hd : 0 < d) (h : ∀ x ∈ xs, InD d x ∧ 0 ≤ x ∧ x ≤ cR M) (h2 : d ≤ ((2 ^ e : Nat) : Int)) (h3 : M * xs.length + M + 1 ≤ 2 ^ f) (hf : e + f < 4400) : F_sum_of_all.sem [.lst (xs.map fun x => fr (pr x))] st = .ok (fr (pr (rsum xs))) st := by
  have key := sem_sum_of_all st xs.length (fun i => pr (xs.getD i 0)) (fun i => pr (rsum (xs.take i))) (by show pr (rsum (xs.take 0)) = (0, 1); rw [List.take_zero]; rfl) fun i hi => by
    have hx : xs.getD i 0 ∈ xs := by rw [getDg hi]; exact List.getElem_mem hi
    obtain ⟨a1, a2, a3⟩ := rsum_in (xs := xs.take i) (d := d) (M := M) fun x hx => h x (List.mem_of_mem_take hx)
    obtain ⟨b1, b2, b3⟩ := h _ hx
    have hlen : (xs.take i).length ≤ xs.length := by rw [List.length_take]; omega
    have hM : M * (xs.take i).length ≤ M * xs.length := Nat.mul_le_mul_left _ hlen
    have e1 : rsum (xs.take (i + 1)) = rsum (xs.take i) + xs.getD i 0 := by
      rw [List.take_succ_eq_append_getElem hi, rsum_snoc, getDg hi]
    have := sum2 st (a1.bdN (M := M * xs.length + M + 1) hd a2 (Rat.le_trans a3 (cR_le (by omega))) (by omega) h2 h3 hf) (b1.bdN (M := M * xs.length + M + 1) hd b2 (Rat.le_trans b3 (cR_le (by omega))) (by omega) h2 h3 hf)
    rw [← e1] at this
    exact this
  have e2 : ((List.range xs.length).map fun i => fr (pr (xs.getD i 0))) = xs.map fun x => fr (pr x) := by
    refine List.ext_getElem? fun i => ?_
    rw [List.getElem?_map, List.getElem?_map]
    by_cases hi : i < xs.length
    · rw [List.getElem?_range hi, List.getElem?_eq_getElem hi]
      show some (fr (pr (xs.getD i 0))) = _
      rw [getDg hi]; rfl
    · rw [List.getElem?_eq_none (by simp; omega), List.getElem?_eq_none (by omega)]; rfl
  rw [e2, List.take_length] at key
  exact key
theorem sall_coreT (st : Sto) (xs : List D) (r : D) (y : Option D) (hw : forD (.name 2) (evSs g_sum_of_all l_sum_of_all1) xs [some (.tup xs), some (fr (0, 1)), none] st = .nx [some (.tup xs), some r, y] st) : F_sum_of_all.sem [.tup xs] st = .ok r st := by
  have e1 : (g_sum_of_all.cons[0]?).map (·.2) = some (fr (0, 1)) := rfl
  rw [ev_sum_of_all]
  simp [b_sum_of_all, e1, hw]
theorem sem_sum_of_allT (st : Sto) (n : Nat) (f T : Nat → Int × Int) (h0 : T 0 = (0, 1)) (hs : ∀ i < n, F_sum_of_two.sem [fr (T i), fr (f i)] st = .ok (fr (T (i + 1))) st) : F_sum_of_all.sem [.tup ((List.range n).map fun i => fr (f i))] st = .ok (fr (T n)) st := by
  obtain ⟨y, hw⟩ : ∃ y, forD (.name 2) (evSs g_sum_of_all l_sum_of_all1) ((List.range n).map fun i => fr (f i)) [some (.tup ((List.range n).map fun i => fr (f i))), some (fr (0, 1)), none] st = .nx [some (.tup ((List.range n).map fun i => fr (f i))), some (fr (T n)), y] st := by
    generalize D.tup ((List.range n).map fun i => fr (f i)) = a
    refine forD_map (P := fun z => ∃ y, z = .nx [some a, some (fr (T n)), y] st) (fun pre env st' => st' = st ∧ ∃ y, env = [some a, some (fr (T pre.length)), y]) ⟨rfl, none, by rw [List.length_nil, h0]⟩ ?_ ?_
    · rintro pre i post env st' e ⟨rfl, y, rfl⟩
      obtain ⟨rfl, hpre⟩ := pre_range e
      rw [List.length_append, List.length_singleton]
      exact ⟨_, bindTg_name _ _ _, stepN _ rfl (st_sall (some a) _ _ _ st' (hs _ hpre)) ⟨rfl, _, rfl⟩⟩
    · rintro env st' ⟨rfl, y, rfl⟩
      rw [List.length_range]; exact ⟨y, rfl⟩
  exact sall_coreT st _ _ y hw
theorem sum_listT (st : Sto) (xs : List Rat) {d : Int} {M e f : Nat} (hd : 0 < d) (h : ∀ x ∈ xs, InD d x ∧ 0 ≤ x ∧ x ≤ cR M) (h2 : d ≤ ((2 ^ e : Nat) : Int)) (h3 : M * xs.length + M + 1 ≤ 2 ^ f) (hf : e + f < 4400) : F_sum_of_all.sem [.tup (xs.map fun x => fr (pr x))] st = .ok (fr (pr (rsum xs))) st := by
  have key := sem_sum_of_allT st xs.length (fun i => pr (xs.getD i 0)) (fun i => pr (rsum (xs.take i))) (by show pr (rsum (xs.take 0)) = (0, 1); rw [List.take_zero]; rfl) fun i hi => by
    have hx : xs.getD i 0 ∈ xs := by rw [getDg hi]; exact List.getElem_mem hi
    obtain ⟨a1, a2, a3⟩ := rsum_in (xs := xs.take i) (d := d) (M := M) fun x hx => h x (List.mem_of_mem_take hx)
    obtain ⟨b1, b2, b3⟩ := h _ hx
    have hlen : (xs.take i).length ≤ xs.length := by rw [List.length_take]; omega
    have hM : M * (xs.take i).length ≤ M * xs.length := Nat.mul_le_mul_left _ hlen
    have e1 : rsum (xs.take (i + 1)) = rsum (xs.take i) + xs.getD i 0 := by
      rw [List.take_succ_eq_append_getElem hi, rsum_snoc, getDg hi]
    have := sum2 st (a1.bdN (M := M * xs.length + M + 1) hd a2 (Rat.le_trans a3 (cR_le (by omega))) (by omega) h2 h3 hf) (b1.bdN (M := M * xs.length + M + 1) hd b2 (Rat.le_trans b3 (cR_le (by omega))) (by omega) h2 h3 hf)
    rw [← e1] at this
    exact this
  have e2 : ((List.range xs.length).map fun i => fr (pr (xs.getD i 0))) = xs.map fun x => fr (pr x) := by
    refine List.ext_getElem? fun i => ?_
    rw [List.getElem?_map, List.getElem?_map]
    by_cases hi : i < xs.length
    · rw [List.getElem?_range hi, List.getElem?_eq_getElem hi]
      show some (fr (pr (xs.getD i 0))) = _
      rw [getDg hi]; rfl
    · rw [List.getElem?_eq_none (by simp; omega), List.getElem?_eq_none (by omega)]; rfl
  rw [e2, List.take_length] at key
  exact key
/-! ### shares as lists of rational numbers -/
def shL (xs : List Rat) : List D := xs.map fun x => fr (pr x)
theorem shL_len (xs : List Rat) : (shL xs).length = xs.length := by simp [shL]
theorem shL_app (xs ys : List Rat) : shL (xs ++ ys) = shL xs ++ shL ys := by simp [shL]
theorem shL_get {xs : List Rat} {i : Nat} (h : i < xs.length) : ixD (shL xs) (i : Int) = some (fr (pr (xs.getD i 0))) := by
  refine ixD_nat ?_
  unfold shL
  rw [List.getElem?_map, List.getElem?_eq_getElem h, getDg h]; rfl
/-- a list of positive numbers that add up to one, all of them whole times d -/
structure Sx (d : Nat) (xs : List Rat) : Prop where
  d0 : 0 < d
  d1 : d ≤ 2 ^ 70
  h : ∀ x ∈ xs, InD (d : Int) x ∧ 0 < x
  s : rsum xs = 1
  l : xs.length ≤ 60
  n : xs ≠ []
theorem Sx.dI {d : Nat} {xs : List Rat} (s : Sx d xs) : (0 : Int) < (d : Int) ∧ (d : Int) ≤ ((2 ^ 70 : Nat) : Int) := ⟨by have := s.d0; omega, Int.ofNat_le.mpr s.d1⟩
theorem rsum_cons (x : Rat) (xs : List Rat) : rsum (x :: xs) = x + rsum xs := by
  unfold rsum
  rw [List.foldl_cons]
  have : ∀ (ys : List Rat) (a b : Rat), ys.foldl (· + ·) (a + b) = a + ys.foldl (· + ·) b := by
    intro ys
    induction ys with
    | nil => intro a b; rfl
    | cons y ys ih => intro a b; rw [List.foldl_cons, List.foldl_cons, Rat.add_assoc, ih]
  have h2 := this xs x 0
  rw [Rat.add_zero] at h2
  rw [Rat.zero_add, h2]
theorem rsum_app (xs ys : List Rat) : rsum (xs ++ ys) = rsum xs + rsum ys := by
  induction xs with
  | nil => rw [List.nil_append, rsum_nil, Rat.zero_add]
  | cons x xs ih => rw [List.cons_append, rsum_cons, rsum_cons, ih, Rat.add_assoc]
theorem rsum_pos {xs : List Rat} (h : ∀ x ∈ xs, 0 < x) : 0 ≤ rsum xs ∧ ∀ x ∈ xs, x ≤ rsum xs := by
  induction xs with
  | nil => exact ⟨by rw [rsum_nil]; decide, by simp⟩
  | cons x xs ih =>
    obtain ⟨h1, h2⟩ := ih fun y hy => h y (by simp [hy])
    have hx := h x (by simp)
    rw [rsum_cons]
    refine ⟨by grind, fun y hy => ?_⟩
    rcases List.mem_cons.mp hy with rfl | hy
    · grind
    · have := h2 y hy
      grind
theorem Sx.le {d : Nat} {xs : List Rat} (s : Sx d xs) : ∀ x ∈ xs, x ≤ 1 := by
  have := (rsum_pos fun x hx => (s.h x hx).2).2
  rw [s.s] at this
  exact this
theorem Sx.bd {d : Nat} {xs : List Rat} (s : Sx d xs) {x : Rat} (hx : x ∈ xs) : Bd x := by
  obtain ⟨h1, h2⟩ := s.h x hx
  obtain ⟨d0, d1⟩ := s.dI
  exact h1.bdN (M := 1) d0 (Rat.le_of_lt h2) (by rw [cR_1]; exact s.le x hx) (by omega) d1 (f := 1) (by decide) (by omega)
theorem Sx.get {d : Nat} {xs : List Rat} (s : Sx d xs) {i : Nat} (h : i < xs.length) : xs.getD i 0 ∈ xs := by rw [getDg h]; exact List.getElem_mem h
/-- sums of some of them -/
theorem sum_some (st : Sto) {d : Nat} {xs ys : List Rat} (s : Sx d xs) (h : ∀ y ∈ ys, y ∈ xs) (hl : ys.length ≤ 100) : F_sum_of_all.sem [.lst (shL ys)] st = .ok (fr (pr (rsum ys))) st := by
  obtain ⟨d0, d1⟩ := s.dI
  exact sum_list st ys (M := 1) (f := 20) d0 (fun y hy => ⟨(s.h y (h y hy)).1, Rat.le_of_lt (s.h y (h y hy)).2, by rw [cR_1]; exact s.le y (h y hy)⟩) d1 (by omega) (by omega)
theorem sum_tup (st : Sto) {d : Nat} {xs : List Rat} (s : Sx d xs) : F_sum_of_all.sem [.tup (shL xs)] st = .ok (fr (1, 1)) st := by
  obtain ⟨d0, d1⟩ := s.dI
  have hl := s.l
  have h := sum_listT st xs (M := 1) (f := 20) d0 (fun y hy => ⟨(s.h y hy).1, Rat.le_of_lt (s.h y hy).2, by rw [cR_1]; exact s.le y hy⟩) d1 (by omega) (by omega)
  rw [s.s, pr_1] at h
  exact h
/-! ### looks at shares -/
theorem iso_c1 (st : Sto) (p : Int × Int) (x0 x1 : Option D) (h : F_is_number_of.sem [fr p] st = .ok (.bl true) st) : kCb g_is_shares_of (.name 1) false .non e_is_shares_of1 [x0, x1] (fr p) st = .ok (some (.bl true)) st := by
  simp [e_is_shares_of1, h]
theorem iso_c2 (st : Sto) (p : Int × Int) (x0 x1 : Option D) (h : 0 < p.1) : kCb g_is_shares_of (.name 1) false .non e_is_shares_of2 [x0, x1] (fr p) st = .ok (some (.bl true)) st := by
  simp [e_is_shares_of2, h]
theorem iso_core (st : Sto) (xs ys : List D) (len : Int) (hlen : ∀ st, biD st .len [.tup xs] = some (.int len)) (h0 : len ≠ 0) (c1 : compLoop (kCb g_is_shares_of (.name 1) false .non e_is_shares_of1 [some (.tup xs), none]) xs st = .ok ys st) (c2 : compLoop (kCb g_is_shares_of (.name 1) false .non e_is_shares_of2 [some (.tup xs), none]) xs st = .ok ys st) (hl : ys.length ≤ sizeLine) (ha : ∀ st, biD st .all [.lst ys] = some (.bl true)) (hs : F_sum_of_all.sem [.tup xs] st = .ok (fr (1, 1)) st) : F_is_shares_of.sem [.tup xs] st = .ok (.bl true) st := by
  rw [ev_is_shares_of]
  simp [b_is_shares_of, -biD_lent, hlen, h0, c1, c2, hl, ha, hs]
theorem sem_is_shares_of (st : Sto) {d : Nat} {xs : List Rat} (s : Sx d xs) : F_is_shares_of.sem [.tup (shL xs)] st = .ok (.bl true) st := by
  have hl := s.l
  have hn := List.length_pos_iff.mpr s.n
  refine iso_core st _ (xs.map fun _ => D.bl true) xs.length (fun st => by rw [biD_lent, shL_len]) (by omega) (compLoop_mm (fun x => fr (pr x)) (fun _ => D.bl true) fun x hx => ?_) (compLoop_mm (fun x => fr (pr x)) (fun _ => D.bl true) fun x hx => ?_) (by simp; unfold sizeLine; omega) (fun st => ?_) (sum_tup st s)
  · exact iso_c1 st _ _ _ (sem_is_number_of st (pr_lw x) (s.bd hx).p.2.2.2)
  · exact iso_c2 st _ _ _ (num_pos (s.h x hx).2)
  · rw [biD_all_map st (fun _ => true) xs]
    congr 2
    simp
theorem ck_core (st : Sto) (x : D) (h : F_is_shares_of.sem [x] st = .ok (.bl true) st) : F_check_shares.sem [x] st = .ok .non st := by
  rw [ev_check_shares]
  simp [b_check_shares, h]
theorem sem_check_shares (st : Sto) {d : Nat} {xs : List Rat} (s : Sx d xs) : F_check_shares.sem [.tup (shL xs)] st = .ok .non st := ck_core st _ (sem_is_shares_of st s)
/-! ### sums -/
theorem rsum_one (x : Rat) : rsum [x] = x := by rw [rsum_cons, rsum_nil, Rat.add_zero]
theorem rsum_perm {xs ys : List Rat} (h : xs.Perm ys) : rsum xs = rsum ys := by
  induction h with
  | nil => rfl
  | cons x _ ih => rw [rsum_cons, rsum_cons, ih]
  | swap x y l => rw [rsum_cons, rsum_cons, rsum_cons, rsum_cons]; grind
  | trans _ _ h1 h2 => rw [h1, h2]
theorem rsum_mul (u : Rat) (xs : List Rat) : rsum (xs.map fun x => u * x) = u * rsum xs := by
  induction xs with
  | nil => rw [List.map_nil, rsum_nil, Rat.mul_zero]
  | cons x xs ih => rw [List.map_cons, rsum_cons, rsum_cons, ih, Rat.mul_add]
theorem rsum_mulr (u : Rat) (xs : List Rat) : rsum (xs.map fun x => x * u) = rsum xs * u := by
  induction xs with
  | nil => rw [List.map_nil, rsum_nil, Rat.zero_mul]
  | cons x xs ih => rw [List.map_cons, rsum_cons, rsum_cons, ih, Rat.add_mul]
/-- products of pairs -/
def prods (xs ys : List Rat) : List Rat := xs.flatMap fun u => ys.map fun v => u * v
theorem rsum_prods (xs ys : List Rat) : rsum (prods xs ys) = rsum xs * rsum ys := by
  unfold prods
  induction xs with
  | nil => rw [List.flatMap_nil, rsum_nil, Rat.zero_mul]
  | cons x xs ih => rw [List.flatMap_cons, rsum_app, ih, rsum_mul, rsum_cons, Rat.add_mul]
theorem prods_len (xs ys : List Rat) : (prods xs ys).length = xs.length * ys.length := by
  unfold prods
  induction xs with
  | nil => simp
  | cons x xs ih => rw [List.flatMap_cons, List.length_append, ih, List.length_map, List.length_cons, Nat.add_mul, Nat.one_mul, Nat.add_comm]
theorem fm_congr {α β : Type} {f g : α → List β} {l : List α} (h : ∀ x ∈ l, f x = g x) : l.flatMap f = l.flatMap g := by
  induction l with
  | nil => rfl
  | cons x l ih => rw [List.flatMap_cons, List.flatMap_cons, h x (by simp), ih fun y hy => h y (by simp [hy])]
theorem fm_one {α β : Type} (f : α → β) (l : List α) : (l.flatMap fun x => [f x]) = l.map f := by
  induction l with
  | nil => rfl
  | cons x l ih => rw [List.flatMap_cons, ih]; rfl
theorem fm_nil {α β : Type} (l : List α) : (l.flatMap fun _ => ([] : List β)) = [] := by
  induction l with
  | nil => rfl
  | cons x l ih => rw [List.flatMap_cons, ih]; rfl
/-! ### shares put together from others -/
theorem Sx.one : Sx 1 [(1 : Rat)] := ⟨by decide, by decide, fun x hx => by rw [List.mem_singleton.mp hx]; exact ⟨⟨1, by grind⟩, by decide⟩, rsum_one 1, by decide, by decide⟩
theorem ind_mul {d e : Nat} {x y : Rat} (h : InD (d : Int) x) (k : InD (e : Int) y) : InD ((d * e : Nat) : Int) (x * y) := by
  rw [Int.natCast_mul]; exact h.mul k
theorem Sx.prods {d e : Nat} {xs ys : List Rat} (s : Sx d xs) (t : Sx e ys) (h : d * e ≤ 2 ^ 70) (hl : xs.length * ys.length ≤ 60) : Sx (d * e) (prods xs ys) := by
  refine ⟨Nat.mul_pos s.d0 t.d0, h, fun x hx => ?_, by rw [rsum_prods, s.s, t.s, Rat.mul_one], by rw [prods_len]; exact hl, fun e => ?_⟩
  · obtain ⟨u, hu, hx⟩ := List.mem_flatMap.mp hx
    obtain ⟨v, hv, rfl⟩ := List.mem_map.mp hx
    exact ⟨ind_mul (s.h u hu).1 (t.h v hv).1, Rat.mul_pos (s.h u hu).2 (t.h v hv).2⟩
  · have := congrArg List.length e
    rw [prods_len, List.length_nil] at this
    have := Nat.mul_pos (List.length_pos_iff.mpr s.n) (List.length_pos_iff.mpr t.n)
    omega
/-- a thing parted -/
def part (xs : List Rat) (k : Nat) (ys : List Rat) : List Rat := xs.take k ++ (ys.map fun v => xs.getD k 0 * v) ++ xs.drop (k + 1)
theorem split_at {xs : List Rat} {k : Nat} (h : k < xs.length) : xs = xs.take k ++ [xs.getD k 0] ++ xs.drop (k + 1) := by
  rw [getDg h, ← List.take_succ_eq_append_getElem h, List.take_append_drop]
theorem Sx.part {d e : Nat} {xs ys : List Rat} (s : Sx d xs) (t : Sx e ys) {k : Nat} (hk : k < xs.length) (h : d * e ≤ 2 ^ 70) (hl : xs.length + ys.length ≤ 60) : Sx (d * e) (part xs k ys) := by
  refine ⟨Nat.mul_pos s.d0 t.d0, h, fun x hx => ?_, ?_, ?_, fun e => ?_⟩
  · have key : ∀ y ∈ xs, InD ((d * e : Nat) : Int) y ∧ 0 < y := fun y hy => ⟨(s.h y hy).1.of ⟨(e : Int), by rw [Int.natCast_mul]⟩, (s.h y hy).2⟩
    unfold Lk18.part at hx
    rcases List.mem_append.mp hx with hx | hx
    · rcases List.mem_append.mp hx with hx | hx
      · exact key x (List.mem_of_mem_take hx)
      · obtain ⟨v, hv, rfl⟩ := List.mem_map.mp hx
        have hu := s.h _ (s.get hk)
        exact ⟨ind_mul hu.1 (t.h v hv).1, Rat.mul_pos hu.2 (t.h v hv).2⟩
    · exact key x (List.mem_of_mem_drop hx)
  · unfold Lk18.part
    rw [rsum_app, rsum_app, rsum_mul, t.s, Rat.mul_one]
    have := s.s
    rw [split_at hk, rsum_app, rsum_app, rsum_one] at this
    exact this
  · unfold Lk18.part
    simp
    omega
  · unfold Lk18.part at e
    have h2 := List.append_eq_nil_iff.mp (List.append_eq_nil_iff.mp e).1
    exact t.n (List.map_eq_nil_iff.mp h2.2)
theorem alD_fr (n : Nat) (q : Int × Int) : alD (n + 1) (fr q) = true := by
  show alD (n + 1) (.tup [.int q.1, .int q.2]) = true
  rw [alD_tup, alDs_cons, alDs_cons, alDs_nil, alD_int, alD_int]
  rw [decide_eq_true (show [D.int q.1, D.int q.2].length ≤ sizeLine from (by decide : (2 : Nat) ≤ sizeLine))]
  rfl
theorem alD_sh (n : Nat) (xs : List Rat) (h : xs.length ≤ 1000) : alD (n + 2) (.tup (shL xs)) = true := by
  rw [alD_tup, alDs_all, Bool.and_eq_true]
  refine ⟨by rw [shL_len]; simp; unfold sizeLine; omega, ?_⟩
  rw [List.all_eq_true]
  intro x hx
  obtain ⟨u, hu, rfl⟩ := List.mem_map.mp hx
  exact alD_fr n _
theorem alD_2 {n : Nat} {a b : D} (ha : alD n a = true) (hb : alD n b = true) : alD (n + 1) (.lst [a, b]) = true := by
  rw [alD_lst, alDs_cons, alDs_cons, alDs_nil, ha, hb]; rfl
theorem alD_3 {n : Nat} {a b c : D} (ha : alD n a = true) (hb : alD n b = true) (hc : alD n c = true) : alD (n + 1) (.lst [a, b, c]) = true := by
  rw [alD_lst, alDs_cons, alDs_cons, alDs_cons, alDs_nil, ha, hb, hc]; rfl
theorem alD_5 {n : Nat} {a b c d e : D} (ha : alD n a = true) (hb : alD n b = true) (hc : alD n c = true) (hd : alD n d = true) (he : alD n e = true) : alD (n + 1) (.lst [a, b, c, d, e]) = true := by
  rw [alD_lst, alDs_cons, alDs_cons, alDs_cons, alDs_cons, alDs_cons, alDs_nil, ha, hb, hc, hd, he]; rfl
theorem cutL_to {α : Type} (xs : List α) (k : Nat) (h : k ≤ xs.length) : cutL xs none (some (k : Int)) = xs.take k := by
  unfold cutL HT.sIx
  simp [h]
  split <;> first | omega | (congr 1; omega)
theorem cutL_from {α : Type} (xs : List α) (k : Nat) (h : k ≤ xs.length) : cutL xs (some (k : Int)) none = xs.drop k := by
  unfold cutL HT.sIx
  simp [h]
  split
  · omega
  · refine List.take_of_length_le ?_
    rw [List.length_drop]
    omega
theorem shL_take (xs : List Rat) (k : Nat) : (shL xs).take k = shL (xs.take k) := by unfold shL; rw [List.map_take]
theorem shL_drop (xs : List Rat) (k : Nat) : (shL xs).drop k = shL (xs.drop k) := by unfold shL; rw [List.map_drop]
theorem compCat_mm {α : Type} {f : D → Sto → R (List D)} {st : Sto} (q : α → D) (k : α → List D) : ∀ {ps : List α}, (∀ p ∈ ps, f (q p) st = .ok (k p) st) → compCat f (ps.map q) st = .ok (ps.flatMap k) st
  | [], _ => rfl
  | x :: xs, hx => by
    rw [List.map_cons]
    unfold compCat
    rw [hx x (by simp), R.bind_ok, compCat_mm q k fun y hy => hx y (by simp [hy]), R.bind_ok, List.flatMap_cons]
theorem shL_fm (us : List Rat) (f : Rat → List Rat) : shL (us.flatMap f) = us.flatMap fun u => shL (f u) := by
  unfold shL
  rw [List.map_flatMap]
end Lk18
end

section
set_option Elab.async false
set_option linter.all false
set_option maxRecDepth 100000
set_option autoImplicit false
namespace Lk18
open PySem WT
/-! ### the same -/
theorem same_comp (k : Nat) (xs : List D) (h : ∀ x ∈ xs, ∀ st, s_law_same k [x, x] st = .ok (.bl true) st) (a b : Option D) (st : Sto) : compLoop (kCb (g_law_same k) (.tup (.cons (.name 2) (.cons (.name 3) .nil))) false .non e_law_same1 [a, b, none, none]) (zipD xs xs) st = .ok (xs.map fun _ => D.bl true) st := by
  have e : zipD xs xs = xs.map fun x => D.tup [x, x] := by
    unfold zipD
    induction xs with
    | nil => rfl
    | cons x xs ih => simp [ih fun y hy => h y (by simp [hy])]
  rw [e]
  refine compLoop_mm (fun x => D.tup [x, x]) (fun _ => D.bl true) fun p hp => ?_
  simp [e_law_same1, h p hp]
theorem sem_same : ∀ (n : Nat) (d : D), n ≤ 60 → alD n d = true → ∀ st, s_law_same (n + 1) [d, d] st = .ok (.bl true) st := by
  intro n
  induction n with
  | zero =>
    intro d hn h st
    have h64 : ∀ x, d = .str x → eqD (.str x) (.str x) = some true := fun x e => eqD_refl (by subst e; simpa [alD, okD] using h)
    rw [ev_law_same]
    cases d with
    | str x => simp [b_law_same, h64 x rfl]
    | _ => first | (simp [alD] at h; done) | simp [b_law_same]
  | succ n ih =>
    intro d hn h st
    have h64 : ∀ x, d = .str x → eqD (.str x) (.str x) = some true := fun x e => eqD_refl (by subst e; simpa [alD, okD] using h)
    have key : ∀ xs, alDs n xs = true → ∀ x ∈ xs, ∀ st, s_law_same (n + 1) [x, x] st = .ok (.bl true) st := by
      intro xs hx x hxm
      rw [alDs_all, List.all_eq_true] at hx
      exact ih x (by omega) (hx x hxm)
    have e1 : ∀ xs : List D, biD st .all [.lst (xs.map fun _ => D.bl true)] = some (.bl true) := fun xs => by rw [biD_all_map st (fun _ => true)]; simp
    rw [ev_law_same]
    cases d with
    | str x => simp [b_law_same, h64 x rfl]
    | tup xs =>
      simp at h
      have c := same_comp (n + 1) xs (key xs h.2) (some (.tup xs)) (some (.tup xs)) st
      simp [b_law_same, c, h.1, e1]
    | lst xs =>
      simp at h
      have c := same_comp (n + 1) xs (key xs h.2) (some (.lst xs)) (some (.lst xs)) st
      simp [b_law_same, c, h.1, e1]
    | _ => first | (simp [alD] at h; done) | simp [b_law_same]
theorem sem_law_same {d : D} (h : alD 11 d = true) (st : Sto) : F_law_same.sem [d, d] st = .ok (.bl true) st := sem_same 11 d (by decide) h st
/-! ### the deck -/
structure Dk (st : Sto) (k n : Nat) : Prop where
  e : ∃ a b c : Int, st[k]? = some [.int a, .int b, .int c] ∧ 0 ≤ a ∧ 0 ≤ b ∧ b < 10 ^ 41 ∧ 0 ≤ c ∧ c ≤ n
theorem Dk.mono {st : Sto} {k n m : Nat} (h : Dk st k n) (hm : n ≤ m) : Dk st k m := by
  obtain ⟨a, b, c, h1, h2, h3, h4, h5, h6⟩ := h.e
  exact ⟨a, b, c, h1, h2, h3, h4, h5, by omega⟩
theorem pw3 {x : Int} (h0 : 0 ≤ x) (h : x < 2 ^ 160) {j : Int} (hj : 0 ≤ j) (hj2 : j ≤ 3) {z : D} : guardO (pwOK x j) z = some z := by
  refine guardO_true (.inr ⟨hj, ?_⟩)
  have hl : x.natAbs.log2 < 160 := by
    by_cases h1 : x = 0
    · subst h1; decide
    · exact (Nat.log2_lt (by omega)).mpr (by omega)
  have : ((x.natAbs.log2 + 1 : Nat) : Int) * j ≤ 160 * 3 := Int.mul_le_mul (by omega) hj2 hj (by decide)
  omega
theorem take_a (st : Sto) (k : Nat) (a b c many : Int) (h : st[k]? = some [.int a, .int b, .int c]) (ha : 0 < a) (hm : 0 < many) (hm2 : many < 2 ^ 64) :
    F_law_take.sem [.ref k, .int many] st = .ok (.int (a % many)) (st.set k [.int (a / many), .int b, .int c]) := by
  have gd := gdiv (j := many) (z := D.int (a / many)) hm hm2
  have hm0 : many ≠ 0 := by omega
  have e1 : ∀ x y z w : D, setIxL [x, y, z] (.int 0) w = some [w, y, z] := fun _ _ _ _ => rfl
  rw [ev_law_take]
  simp [b_law_take, h, ha, hm0, fmod_nn (a := a) (b := many) (by omega), fdiv_nn (a := a) (b := many) (by omega), gd, chg, noL, e1]
theorem take_b (st : Sto) (k : Nat) (a b c many : Int) (hk : k < st.length) (h : st[k]? = some [.int a, .int b, .int c]) (ha : ¬ 0 < a) (hb : 0 ≤ b) (hb2 : b < 10 ^ 41) (hc : 0 ≤ c) (hc2 : c < 10 ^ 7) (hm : 0 < many) (hm2 : many < 2 ^ 64) :
    ∃ r, F_law_take.sem [.ref k, .int many] st = .ok (.int (r % many)) (st.set k [.int a, .int b, .int (c + 1)]) := by
  have e2 : ∀ x y z w : D, setIxL [x, y, z] (.int 2) w = some [x, y, w] := fun _ _ _ _ => rfl
  have h2 : (st.set k [.int a, .int b, .int (c + 1)])[k]? = some [.int a, .int b, .int (c + 1)] := by rw [List.getElem?_set_self hk]
  rw [ev_law_take]
  have hm0 : many ≠ 0 := by omega
  have g1 : ∀ z : D, guardO (mulOK 7919 (c + 1)) z = some z := fun z => guardO_true (mulOK_l (by decide) (by decide))
  have g2 : ∀ z : D, guardO (pwOK (b + 7919 * (c + 1)) 3) z = some z := fun z => pw3 (by omega) (by omega) (by decide) (by decide)
  have g4 : ∀ z : D, guardO (mulOK 31 (c + 1)) z = some z := fun z => guardO_true (mulOK_l (by decide) (by decide))
  have g6 : ∀ z : D, guardO (divOK 64) z = some z := fun z => gdiv (by decide) (by decide)
  have f1 : ∀ x : Int, x.fmod many = x % many := fun x => fmod_nn (by omega)
  have hM : ∀ x : Int, 0 ≤ x.fmod 2305843009213693951 ∧ x.fmod 2305843009213693951 < 2305843009213693951 := fun x => by
    rw [fmod_nn (by decide)]
    exact ⟨Int.emod_nonneg _ (by decide), Int.emod_lt_of_pos _ (by decide)⟩
  have g7 : ∀ z : D, guardO (pwOK (((b + 7919 * (c + 1)) ^ 3).fmod 2305843009213693951 + 31 * (c + 1)) 2) z = some z := fun z => by
    have h1 := hM ((b + 7919 * (c + 1)) ^ 3)
    generalize ((b + 7919 * (c + 1)) ^ 3).fmod 2305843009213693951 = m at *
    exact pw3 (by omega) (by omega) (by decide) (by decide)
  simp [b_law_take, h, ha, chg, noL, e2, h2, hm0, g1, g2, g4, g6, f1, g7]
  exact ⟨_, rfl⟩
theorem sem_take (st : Sto) (k n : Nat) (many : Int) (h : Dk st k n) (hn : n < 10 ^ 6) (hm : 0 < many) (hm2 : many < 2 ^ 64) :
    ∃ (r : Nat) (st' : Sto), F_law_take.sem [.ref k, .int many] st = .ok (.int (r : Int)) st' ∧ (r : Int) < many ∧ Dk st' k (n + 1) := by
  obtain ⟨a, b, c, h1, h2, h3, h4, h5, h6⟩ := h.e
  have hk : k < st.length := (List.getElem?_eq_some_iff.mp h1).1
  have key : ∀ x : Int, ((x % many).toNat : Int) = x % many := fun x => Int.toNat_of_nonneg (Int.emod_nonneg _ (by omega))
  by_cases ha : 0 < a
  · refine ⟨(a % many).toNat, st.set k [.int (a / many), .int b, .int c], ?_, ?_, ⟨a / many, b, c, ?_, Int.ediv_nonneg h2 (by omega), h3, h4, h5, by omega⟩⟩
    · rw [key]; exact take_a st k a b c many h1 ha hm hm2
    · rw [key]; exact Int.emod_lt_of_pos _ hm
    · rw [List.getElem?_set_self hk]
  · obtain ⟨r, hr⟩ := take_b st k a b c many hk h1 ha h3 h4 h5 (by omega) hm hm2
    refine ⟨(r % many).toNat, st.set k [.int a, .int b, .int (c + 1)], ?_, ?_, ⟨a, b, c + 1, ?_, h2, h3, h4, by omega, by omega⟩⟩
    · rw [key]; exact hr
    · rw [key]; exact Int.emod_lt_of_pos _ hm
    · rw [List.getElem?_set_self hk]
theorem deck_core (st : Sto) (ns : List Int) (len at_ cell m : Int) (hlen : (ns.length : Int) = len) (hi : (if at_ < len then ixD (ns.map D.int) at_ = some (.int cell) else cell = 1009 * at_ + 977)) (h0 : 0 ≤ at_) (h1 : at_ < 1000)
    (hm : cell.fmod 10000000000000000000000000000000000000000 = m) (b0 : 0 ≤ m) (b1 : m < 10000000000000000000000000000000000000000) :
    F_law_deck.sem [.frz ns, .int at_] st = .ok (.lst [.int (if 1000000000000000000 ≤ cell then cell - 1000000000000000000 else 0), .int (m + 65537 * at_ + 11), .int 0]) st := by
  have z3 : (3 : Nat) ≤ sizeLine := by decide
  have g1 : ∀ z : D, guardO (mulOK 1009 at_) z = some z := fun z => guardO_true (mulOK_l (by decide) (by decide))
  have g2 : ∀ z : D, guardO (mulOK 65537 at_) z = some z := fun z => guardO_true (mulOK_l (by decide) (by decide))
  have g5 : ∀ z : D, guardO (pwOK 10 18) z = some z := fun z => guardO_true (.inl (by decide))
  have g6 : ∀ z : D, guardO (pwOK 10 40) z = some z := fun z => guardO_true (.inl (by decide))
  have hlen' : ∀ st, biD st .len [.frz ns] = some (.int len) := fun st => by rw [biD_lenf, hlen]
  rw [ev_law_deck]
  by_cases hl : at_ < len
  · rw [if_pos hl] at hi
    by_cases hc : (1000000000000000000 : Int) ≤ cell <;> simp [b_law_deck, -biD_lenf, hlen', hl, hi, g1, g2, g5, g6, z3, hc, hm]
  · rw [if_neg hl] at hi
    subst hi
    have hc : ¬ (1000000000000000000 : Int) ≤ 1009 * at_ + 977 := by omega
    simp [b_law_deck, -biD_lenf, hlen', hl, g1, g2, g5, g6, z3, hc, hm]
theorem sem_law_deck (st : Sto) (ns : List Int) (k : Nat) (hk : k < 1000) : ∃ a b : Int, F_law_deck.sem [.frz ns, .int k] st = .ok (.lst [.int a, .int b, .int 0]) st ∧ 0 ≤ a ∧ 0 ≤ b ∧ b < 10 ^ 41 := by
  have m : ∀ x : Int, 0 ≤ x.fmod 10000000000000000000000000000000000000000 ∧ x.fmod 10000000000000000000000000000000000000000 < 10000000000000000000000000000000000000000 := fun x => by
    rw [fmod_nn (by decide)]
    exact ⟨Int.emod_nonneg _ (by decide), Int.emod_lt_of_pos _ (by decide)⟩
  have key : ∀ cell : Int, (if (k : Int) < ns.length then ixD (ns.map D.int) (k : Int) = some (.int cell) else cell = 1009 * (k : Int) + 977) → ∃ a b : Int, F_law_deck.sem [.frz ns, .int k] st = .ok (.lst [.int a, .int b, .int 0]) st ∧ 0 ≤ a ∧ 0 ≤ b ∧ b < 10 ^ 41 := fun cell hi => by
    have := m cell
    refine ⟨_, _, deck_core st ns ns.length k cell _ rfl hi (by omega) (by omega) rfl this.1 this.2, by split <;> omega, by omega, by omega⟩
  by_cases hl : k < ns.length
  · exact key (ns.getD k 0) (by rw [if_pos (by omega)]; exact getI ns k hl)
  · exact key _ (by rw [if_neg (by omega)])
/-! ### numbers in lowest terms -/
theorem nu_1 (st : Sto) (a b : Int) (x y : Int) (hx : (if a < 0 then -a else a) = x) (hy : (if b < 0 then -b else b) = y) (x2 x3 x4 x5 : Option D) : evS g_law_number t_law_number1 [some (.int a), some (.int b), x2, x3, x4, x5] st = .nx [some (.int a), some (.int b), x2, x3, some (.int x), some (.int y)] st := by
  simp [t_law_number1, hx, hy]
theorem nu_lb (st : Sto) (x0 x1 x2 x3 x4 : Option D) (z : Int) (hz : z = 0) : evSs g_law_number l_law_number1 [x0, x1, x2, x3, x4, some (.int z)] st = .bk [x0, x1, x2, x3, x4, some (.int z)] st := by
  simp [l_law_number1, hz]
theorem nu_l (st : Sto) (x0 x1 x2 x3 : Option D) (x y r : Int) (hy : y ≠ 0) (hr : x.fmod y = r) : evSs g_law_number l_law_number1 [x0, x1, x2, x3, some (.int x), some (.int y)] st = .nx [x0, x1, x2, x3, some (.int y), some (.int r)] st := by
  simp [l_law_number1, hy, hr]
theorem nu_2 (st : Sto) (R : List D) (n : Int) (r : RS) (x0 x1 x2 x3 x4 x5 : Option D) (hn : n = 100000) (hr : rangeD 0 n 1 = some R) (hw : forD (.name 2) (evSs g_law_number l_law_number1) R [x0, x1, x2, x3, x4, x5] st = r) : evS g_law_number t_law_number2 [x0, x1, x2, x3, x4, x5] st = r := by
  have h : evIt g_law_number (.range1 (.int 100000)) [x0, x1, x2, x3, x4, x5] st = .ok R st := by rw [← hn]; simp [hr]
  rw [t_law_number2, evS_for, h]
  exact hw
theorem nu_3 (st : Sto) (a b : Int) (x2 x3 x4 x5 : Option D) (hb : ¬ b < 0) : evS g_law_number t_law_number3 [some (.int a), some (.int b), x2, x3, x4, x5] st = .nx [some (.int a), some (.int b), x2, some (.int 1), x4, x5] st := by
  simp [t_law_number3, hb]
theorem nu_4 (st : Sto) (a b o g : Int) (x2 x5 : Option D) (ho : o = 1) (hg : 0 ≤ g) (hd : divOK g) : (evSs g_law_number (.cons t_law_number4 .nil) [some (.int a), some (.int b), x2, some (.int o), some (.int g), x5] st).fin = .ok (.tup [.int (a / g), .int (b / g)]) st := by
  have z2 : (2 : Nat) ≤ sizeLine := by decide
  have g1 : ∀ (i : Int) (z : D), guardO (mulOK 1 i) z = some z := fun i z => guardO_true (mulOK_l (by decide) (by decide))
  subst ho
  rw [t_law_number4]
  refine ret_fin ?_
  simp [g1, hd, fdiv_nn (b := g) hg, z2]
theorem nu_call (st : Sto) (a b : D) : F_law_number.sem [a, b] st = (evSs g_law_number b_law_number [some a, some b, none, none, none, none] st).fin := by
  rw [ev_law_number]; rfl
/-- the loop of the common divisor ends -/
theorem gcd_step {x y P i : Nat} (hy : y ≠ 0) (h : i = 0 ∨ (y < x ∧ x * y * 2 ^ (i - 1) ≤ P)) (hP : y * y ≤ P) : x % y < y ∧ y * (x % y) * 2 ^ (i + 1 - 1) ≤ P := by
  have hr := Nat.mod_lt x (show 0 < y by omega)
  refine ⟨hr, ?_⟩
  rw [Nat.add_sub_cancel]
  rcases h with rfl | ⟨h1, h2⟩
  · rw [Nat.pow_zero, Nat.mul_one]
    exact Nat.le_trans (Nat.mul_le_mul_left _ (by omega)) hP
  · cases i with
    | zero => 
      rw [Nat.pow_zero, Nat.mul_one]
      exact Nat.le_trans (Nat.mul_le_mul_left _ (by omega)) hP
    | succ i =>
      rw [Nat.add_sub_cancel] at h2
      have h3 : 2 * (x % y) ≤ x := by
        have := Nat.div_add_mod x y
        have hq : 1 ≤ x / y := (Nat.le_div_iff_mul_le (by omega)).mpr (by omega)
        have := Nat.mul_le_mul_left y hq
        omega
      rw [Nat.pow_succ]
      have h4 : y * (x % y) * (2 ^ i * 2) = y * (2 * (x % y)) * 2 ^ i := by
        rw [Nat.mul_comm (2 ^ i) 2, ← Nat.mul_assoc, Nat.mul_assoc y (x % y) 2, Nat.mul_comm (x % y) 2]
      rw [h4]
      refine Nat.le_trans (Nat.mul_le_mul_right _ (Nat.mul_le_mul_left y h3)) ?_
      rw [Nat.mul_comm y x]
      exact h2
theorem sem_law_number {a b : Int} (st : Sto) (hb : 0 < b) (hB : b < BIG) : F_law_number.sem [.int a, .int b] st = .ok (fr (pr ((a : Rat) / (b : Rat)))) st := by
  have hg := gcd_pos_r (a := a) hb
  have hle : Nat.gcd a.natAbs b.natAbs ≤ b.natAbs := Nat.gcd_le_right _ (by omega)
  have hd : divOK ((Nat.gcd a.natAbs b.natAbs : Nat) : Int) := divOK_B (by omega) (by omega)
  have hbn : b.natAbs < 2 ^ 8999 := by unfold BIG at hB; omega
  obtain ⟨y2, z5, hw⟩ : ∃ y2 z5, forD (.name 2) (evSs g_law_number l_law_number1) ((List.range 100000).map fun (i : Nat) => D.int (i : Int)) [some (.int a), some (.int b), none, none, some (.int (a.natAbs : Nat)), some (.int (b.natAbs : Nat))] st
      = .nx [some (.int a), some (.int b), y2, none, some (.int (Nat.gcd a.natAbs b.natAbs : Nat)), z5] st := by
    refine forD_map (P := fun z => ∃ y2 z5, z = .nx [some (.int a), some (.int b), y2, none, some (.int (Nat.gcd a.natAbs b.natAbs : Nat)), z5] st)
      (fun pre env st' => st' = st ∧ ∃ (x y : Nat) (y2 : Option D), env = [some (.int a), some (.int b), y2, none, some (.int (x : Nat)), some (.int (y : Nat))] ∧ Nat.gcd x y = Nat.gcd a.natAbs b.natAbs ∧ y ≤ b.natAbs ∧ (pre.length = 0 ∨ (y < x ∧ x * y * 2 ^ (pre.length - 1) ≤ b.natAbs * b.natAbs)))
      ⟨rfl, a.natAbs, b.natAbs, none, rfl, rfl, Nat.le_refl _, .inl rfl⟩ ?_ ?_
    · rintro pre i post env st' e ⟨rfl, x, y, y2, rfl, hxy, hyb, hI⟩
      obtain ⟨rfl, hpre⟩ := pre_range e
      by_cases hy : y = 0
      · subst hy
        refine ⟨_, bindTg_name _ _ _, stepB _ rfl (nu_lb st' _ _ _ _ _ _ rfl) ⟨some (.int (pre.length : Nat)), some (.int ((0 : Nat) : Int)), ?_⟩⟩
        rw [← hxy, Nat.gcd_zero_right]
      · have hs := gcd_step hy hI (Nat.mul_le_mul hyb hyb)
        refine ⟨_, bindTg_name _ _ _, stepN _ rfl (nu_l st' _ _ _ _ x y ((x % y : Nat) : Int) (by omega) (by rw [fmod_nn (by omega), Int.natCast_emod])) ⟨rfl, y, x % y, some (.int (pre.length : Nat)), rfl, ?_, by omega, .inr ?_⟩⟩
        · rw [← hxy, Nat.gcd_comm x y, Nat.gcd_comm y (x % y), ← Nat.gcd_rec]
        · rw [List.length_append, List.length_singleton]
          exact hs
    · rintro env st' ⟨rfl, x, y, y2, rfl, hxy, hyb, hI⟩
      rw [List.length_range] at hI
      rcases hI with h | ⟨h1, h2⟩
      · exact absurd h (by decide)
      · have hy : y = 0 := by
          rcases Nat.eq_zero_or_pos y with h | h
          · exact h
          · exfalso
            have h3 : 1 ≤ x * y := Nat.mul_pos (by omega) h
            have h4 : 2 ^ 17998 ≤ 2 ^ (100000 - 1) := Nat.pow_le_pow_right (by omega) (by omega)
            have h5 : b.natAbs * b.natAbs < 2 ^ 17998 := by
              have h6 : 2 ^ 17998 = 2 ^ 8999 * 2 ^ 8999 := by rw [← Nat.pow_add]
              rw [h6]
              exact Nat.mul_lt_mul'' hbn hbn
            have h6 := Nat.mul_le_mul h3 h4
            rw [Nat.one_mul] at h6
            exact absurd (Nat.lt_of_le_of_lt (Nat.le_trans h6 h2) h5) (Nat.lt_irrefl _)
        subst hy
        rw [← hxy, Nat.gcd_zero_right]
        exact ⟨_, _, rfl⟩
  have hn : ¬ b < 0 := by omega
  rw [nu_call, bt_law_number, seq_nx2 (nu_1 st a b _ _ (show _ = (a.natAbs : Int) by split <;> omega) (show _ = (b.natAbs : Int) by split <;> omega) _ _ _ _) (seq_nx2 (nu_2 st _ ((100000 : Nat) : Int) _ _ _ _ _ _ _ rfl (rangeD_n 100000 (by decide)) hw) (seq_nx2 (nu_3 st a b _ _ _ _ hn) rfl)), nu_4 st a b 1 _ _ _ rfl (by omega) hd, ← low_pr hb]
  rfl
end Lk18
end

section
set_option Elab.async false
set_option linter.all false
set_option maxRecDepth 100000
set_option autoImplicit false
namespace Lk18
open PySem WT
theorem st_pow (x : Int) (k : D) (y : Option D) (st : Sto) : evSs g_power l_power1 [some (.int 2), some k, some (.int x), y] st = .nx [some (.int 2), some k, some (.int (x * 2)), y] st := by
  have g1 : ∀ z : D, guardO (mulOK x 2) z = some z := fun z => guardO_true (mulOK_r (by decide) (by decide))
  simp [l_power1, g1]
theorem pow_loop (st : Sto) (n : Nat) (k : D) (y1 : Option D) : ∃ y, forD (.name 3) (evSs g_power l_power1) ((List.range n).map fun (k : Nat) => D.int (k : Int)) [some (.int 2), some k, some (.int 1), y1] st = .nx [some (.int 2), some k, some (.int ((2 ^ n : Nat) : Int)), y] st := by
  refine forD_map (P := fun z => ∃ y, z = .nx [some (.int 2), some k, some (.int ((2 ^ n : Nat) : Int)), y] st) (fun pre env st' => st' = st ∧ ∃ y, env = [some (.int 2), some k, some (.int ((2 ^ pre.length : Nat) : Int)), y]) ⟨rfl, y1, rfl⟩ ?_ ?_
  · rintro pre i post env st' e ⟨rfl, y, rfl⟩
    rw [List.length_append, List.length_singleton]
    refine ⟨_, bindTg_name _ _ _, stepN _ rfl (st_pow ((2 ^ pre.length : Nat) : Int) k (some (.int i)) st') ⟨rfl, some (.int i), ?_⟩⟩
    rw [Nat.pow_succ, Int.natCast_mul]; rfl
  · rintro env st' ⟨rfl, y, rfl⟩
    rw [List.length_range]; exact ⟨y, rfl⟩
theorem pow_core (st : Sto) (k p : Int) (R : List D) (y : Option D) (hr : rangeD 0 k 1 = some R) (hw : forD (.name 3) (evSs g_power l_power1) R [some (.int 2), some (.int k), some (.int 1), none] st = .nx [some (.int 2), some (.int k), some (.int p), y] st) : F_power.sem [.int 2, .int k] st = .ok (.int p) st := by
  rw [ev_power]
  simp [b_power, hr, hw]
theorem sem_power (st : Sto) (n : Nat) (hn : n < 2 ^ 60) : F_power.sem [.int 2, .int n] st = .ok (.int ((2 ^ n : Nat) : Int)) st := by
  obtain ⟨y, hw⟩ := pow_loop st n (.int n) none
  exact pow_core st n _ _ y (rangeD_n n (by omega)) hw
theorem st_lpow (x : Int) (k : D) (y : Option D) (st : Sto) : evSs g_law_power l_law_power1 [some k, some (.int x), y] st = .nx [some k, some (.int (2 * x)), y] st := by
  have g1 : ∀ z : D, guardO (mulOK 2 x) z = some z := fun z => guardO_true (mulOK_l (by decide) (by decide))
  simp [l_law_power1, g1]
theorem lpow_loop (st : Sto) (n : Nat) (k : D) (y1 : Option D) : ∃ y, forD (.name 2) (evSs g_law_power l_law_power1) ((List.range n).map fun (k : Nat) => D.int (k : Int)) [some k, some (.int 1), y1] st = .nx [some k, some (.int ((2 ^ n : Nat) : Int)), y] st := by
  refine forD_map (P := fun z => ∃ y, z = .nx [some k, some (.int ((2 ^ n : Nat) : Int)), y] st) (fun pre env st' => st' = st ∧ ∃ y, env = [some k, some (.int ((2 ^ pre.length : Nat) : Int)), y]) ⟨rfl, y1, rfl⟩ ?_ ?_
  · rintro pre i post env st' e ⟨rfl, y, rfl⟩
    rw [List.length_append, List.length_singleton]
    refine ⟨_, bindTg_name _ _ _, stepN _ rfl (st_lpow ((2 ^ pre.length : Nat) : Int) k (some (.int i)) st') ⟨rfl, some (.int i), ?_⟩⟩
    rw [Nat.pow_succ, Nat.mul_comm, Int.natCast_mul]; rfl
  · rintro env st' ⟨rfl, y, rfl⟩
    rw [List.length_range]; exact ⟨y, rfl⟩
theorem lpow_core (st : Sto) (k p : Int) (R : List D) (y : Option D) (hr : rangeD 0 k 1 = some R) (hw : forD (.name 2) (evSs g_law_power l_law_power1) R [some (.int k), some (.int 1), none] st = .nx [some (.int k), some (.int p), y] st) : F_law_power.sem [.int k] st = .ok (.int p) st := by
  rw [ev_law_power]
  simp [b_law_power, hr, hw]
theorem sem_law_power (st : Sto) (n : Nat) (hn : n < 2 ^ 60) : F_law_power.sem [.int n] st = .ok (.int ((2 ^ n : Nat) : Int)) st := by
  obtain ⟨y, hw⟩ := lpow_loop st n (.int n) none
  exact lpow_core st n _ _ y (rangeD_n n (by omega)) hw
theorem restof_core (st : Sto) (t b k p x : Int) (q : Int × Int) (hp : F_power.sem [.int 2, .int k] st = .ok (.int p) st) (hb : 0 < b) (g1 : ∀ z : D, guardO (mulOK t p) z = some z) (hx : t * p % b = x) (hl : F_lowest.sem [.int x, .int b] st = .ok (fr q) st) : F_rest_of.sem [fr (t, b), .int k] st = .ok (fr q) st := by
  have hb0 : b ≠ 0 := by omega
  rw [ev_rest_of]
  simp [b_rest_of, bindTg_fr, hp, g1, fmod_nn (a := t * p) (b := b) (by omega), hx, hl, hb0]
end Lk18
end

section
set_option Elab.async false
set_option linter.all false
set_option maxRecDepth 100000
set_option autoImplicit false
namespace Lk18
open PySem WT
/-! ### the law's sums -/
theorem lnumber2 (st : Sto) {a b : Int} (hb : 0 < b) (hB : b < BIG) : F_law_number.sem [.int a, .int b] st = .ok (fr (low a b)) st := by
  rw [low_pr hb]; exact sem_law_number st hb hB
theorem lplus_core (st : Sto) (p q : Int × Int) (d : D) (g1 : ∀ z : D, guardO (mulOK p.1 q.2) z = some z) (g2 : ∀ z : D, guardO (mulOK q.1 p.2) z = some z) (g3 : ∀ z : D, guardO (mulOK p.2 q.2) z = some z) (hl : F_law_number.sem [.int (p.1 * q.2 + q.1 * p.2), .int (p.2 * q.2)] st = .ok d st) : F_law_plus.sem [fr p, fr q] st = .ok d st := by
  rw [ev_law_plus]
  simp [b_law_plus, g1, g2, g3, hl]
theorem lplus2 (st : Sto) {x y : Rat} (hx : Bd x) (hy : Bd y) : F_law_plus.sem [fr (pr x), fr (pr y)] st = .ok (fr (pr (x + y))) st := by
  rw [← plusF_pr]
  exact lplus_core st _ _ _ (hx.m12 hy) (hy.m12 hx) (hx.m22 hy) (lnumber2 st (Int.mul_pos (pr_lw x).1 (pr_lw y).1) (hx.d22 hy))
theorem ltimes_core (st : Sto) (p q : Int × Int) (d : D) (g1 : ∀ z : D, guardO (mulOK p.1 q.1) z = some z) (g3 : ∀ z : D, guardO (mulOK p.2 q.2) z = some z) (hl : F_law_number.sem [.int (p.1 * q.1), .int (p.2 * q.2)] st = .ok d st) : F_law_times.sem [fr p, fr q] st = .ok d st := by
  rw [ev_law_times]
  simp [b_law_times, g1, g3, hl]
theorem ltimes2 (st : Sto) {x y : Rat} (hx : Bd x) (hy : Bd y) : F_law_times.sem [fr (pr x), fr (pr y)] st = .ok (fr (pr (x * y))) st := by
  rw [← timesF_pr]
  exact ltimes_core st _ _ _ (hx.m11 hy) (hx.m22 hy) (lnumber2 st (Int.mul_pos (pr_lw x).1 (pr_lw y).1) (hx.d22 hy))
theorem ls_l (st : Sto) (x0 : Option D) (T u T' : D) (h : F_law_plus.sem [T, u] st = .ok T' st) : evSs g_law_sum l_law_sum1 [x0, some T, some u] st = .nx [x0, some T', some u] st := by
  simp [l_law_sum1, h]
theorem ls_core (st : Sto) (x r : D) (xs : List D) (y : Option D) (hs : seqOf x = some xs) (hw : forD (.name 2) (evSs g_law_sum l_law_sum1) xs [some x, some (fr (0, 1)), none] st = .nx [some x, some r, y] st) : F_law_sum.sem [x] st = .ok r st := by
  have z2 : (2 : Nat) ≤ sizeLine := by decide
  rw [ev_law_sum]
  simp [b_law_sum, z2, hs, hw]
theorem law_sum2 (st : Sto) (x : D) (ys : List Rat) (hs : seqOf x = some (shL ys)) {d : Int} {M e f : Nat} (hd : 0 < d) (h : ∀ y ∈ ys, InD d y ∧ 0 ≤ y ∧ y ≤ cR M) (h2 : d ≤ ((2 ^ e : Nat) : Int)) (h3 : M * ys.length + M + 1 ≤ 2 ^ f) (hf : e + f < 4400) : F_law_sum.sem [x] st = .ok (fr (pr (rsum ys))) st := by
  obtain ⟨y, hw⟩ : ∃ y, forD (.name 2) (evSs g_law_sum l_law_sum1) (shL ys) [some x, some (fr (0, 1)), none] st = .nx [some x, some (fr (pr (rsum ys))), y] st := by
    unfold shL
    refine forD_map (P := fun z => ∃ y, z = .nx [some x, some (fr (pr (rsum ys))), y] st) (fun pre env st' => st' = st ∧ ∃ y, env = [some x, some (fr (pr (rsum pre))), y]) ⟨rfl, none, rfl⟩ ?_ ?_
    · rintro pre u post env st' e1 ⟨rfl, y, rfl⟩
      obtain ⟨a1, a2, a3⟩ := rsum_in (xs := pre) (d := d) (M := M) fun z hz => h z (by rw [e1]; simp [hz])
      obtain ⟨b1, b2, b3⟩ := h u (by rw [e1]; simp)
      have hlen : pre.length ≤ ys.length := by rw [e1, List.length_append]; omega
      have hM : M * pre.length ≤ M * ys.length := Nat.mul_le_mul_left _ hlen
      have hp := lplus2 st' (a1.bdN (M := M * ys.length + M + 1) hd a2 (Rat.le_trans a3 (cR_le (by omega))) (by omega) h2 h3 hf) (b1.bdN (M := M * ys.length + M + 1) hd b2 (Rat.le_trans b3 (cR_le (by omega))) (by omega) h2 h3 hf)
      rw [← rsum_snoc] at hp
      exact ⟨_, bindTg_name _ _ _, stepN _ rfl (ls_l st' _ _ _ _ hp) ⟨rfl, some (fr (pr u)), rfl⟩⟩
    · rintro env st' ⟨rfl, y, rfl⟩
      exact ⟨y, rfl⟩
  exact ls_core st x _ _ y hs hw
/-! ### what is left behind k figures -/
def fR (x : Rat) (k : Nat) : Rat := (((x.num * ((2 ^ k : Nat) : Int)) % (x.den : Int) : Int) : Rat) / (((x.den : Nat) : Int) : Rat)
theorem rat_nd (x : Rat) : x = (x.num : Rat) / (((x.den : Nat) : Int) : Rat) := (val_pr x).symm
theorem fR_eq (x : Rat) (k : Nat) : ∃ q : Int, fR x k = x * pw k - (q : Rat) ∧ q = (x.num * ((2 ^ k : Nat) : Int)) / (x.den : Int) := by
  refine ⟨_, ?_, rfl⟩
  have hd := cR_ne x.den_pos
  have e : (x.num * ((2 ^ k : Nat) : Int)) % (x.den : Int) = x.num * ((2 ^ k : Nat) : Int) - (x.den : Int) * ((x.num * ((2 ^ k : Nat) : Int)) / (x.den : Int)) := Int.emod_def _ _
  generalize (x.num * ((2 ^ k : Nat) : Int)) / (x.den : Int) = q at *
  unfold fR
  rw [e, Rat.intCast_sub, Rat.intCast_mul, Rat.intCast_mul]
  have hx := rat_nd x
  unfold cR at hd
  unfold pw cR
  generalize (((x.den : Nat) : Int) : Rat) = D at *
  generalize (x.num : Rat) = N at *
  rw [hx]
  grind
theorem fR_in {d : Int} {x : Rat} (h : InD d x) (k : Nat) : InD d (fR x k) := by
  obtain ⟨q, e, _⟩ := fR_eq x k
  rw [e]
  refine InD.sub ?_ ⟨q * d, by rw [Rat.intCast_mul]⟩
  rw [Rat.mul_comm]
  exact h.mulI ((2 ^ k : Nat) : Int)
theorem fR_01 (x : Rat) (k : Nat) : 0 ≤ fR x k ∧ fR x k < 1 := by
  have hd : (0 : Rat) < (((x.den : Nat) : Int) : Rat) := cR_pos x.den_pos
  have h1 := Int.emod_nonneg (x.num * ((2 ^ k : Nat) : Int)) (show (x.den : Int) ≠ 0 by have := x.den_pos; omega)
  have h2 := Int.emod_lt_of_pos (x.num * ((2 ^ k : Nat) : Int)) (show (0 : Int) < (x.den : Int) by have := x.den_pos; omega)
  have h3 : (0 : Rat) ≤ (((x.num * ((2 ^ k : Nat) : Int)) % (x.den : Int) : Int) : Rat) := Rat.intCast_le_intCast.mpr h1
  have h4 : (((x.num * ((2 ^ k : Nat) : Int)) % (x.den : Int) : Int) : Rat) < (((x.den : Nat) : Int) : Rat) := Rat.intCast_lt_intCast.mpr h2
  unfold fR
  generalize (((x.num * ((2 ^ k : Nat) : Int)) % (x.den : Int) : Int) : Rat) = N at *
  generalize (((x.den : Nat) : Int) : Rat) = D at *
  rw [Rat.div_def]
  have hi := Rat.inv_pos.mpr hd
  refine ⟨Rat.mul_nonneg h3 (Rat.le_of_lt hi), ?_⟩
  have := Rat.mul_lt_mul_of_pos_right h4 hi
  rwa [Rat.mul_inv_cancel _ (Rat.ne_of_gt hd)] at this
def tailR (xs : List Rat) (k : Nat) : Rat := rsum (xs.map fun x => fR x k) / pw k
/-- list of numbers that are whole times d, within -/
structure Ld (d : Nat) (xs : List Rat) : Prop where
  d0 : 0 < d
  d1 : d ≤ 2 ^ 70
  h : ∀ x ∈ xs, InD (d : Int) x ∧ 0 ≤ x ∧ x ≤ 1
  l : xs.length ≤ 60
theorem Sx.ld {d : Nat} {xs : List Rat} (s : Sx d xs) : Ld d xs := ⟨s.d0, s.d1, fun x hx => ⟨(s.h x hx).1, Rat.le_of_lt (s.h x hx).2, s.le x hx⟩, s.l⟩
theorem Ld.dI {d : Nat} {xs : List Rat} (s : Ld d xs) : (0 : Int) < (d : Int) ∧ (d : Int) ≤ ((2 ^ 70 : Nat) : Int) := ⟨by have := s.d0; omega, Int.ofNat_le.mpr s.d1⟩
theorem Ld.bd {d : Nat} {xs : List Rat} (s : Ld d xs) {x : Rat} (hx : x ∈ xs) : Bd x := by
  obtain ⟨h1, h2, h3⟩ := s.h x hx
  obtain ⟨d0, d1⟩ := s.dI
  exact h1.bdN (M := 1) d0 h2 (by rw [cR_1]; exact h3) (by omega) d1 (f := 1) (by decide) (by omega)
theorem Ld.rests {d : Nat} {xs : List Rat} (s : Ld d xs) (k : Nat) : Ld d (xs.map fun x => fR x k) := ⟨s.d0, s.d1, fun y hy => by
  obtain ⟨x, hx, rfl⟩ := List.mem_map.mp hy
  have := fR_01 x k
  exact ⟨fR_in (s.h x hx).1 k, this.1, Rat.le_of_lt this.2⟩, by rw [List.length_map]; exact s.l⟩
theorem Ld.sum {d : Nat} {xs : List Rat} (s : Ld d xs) : InD (d : Int) (rsum xs) ∧ 0 ≤ rsum xs ∧ rsum xs ≤ cR 60 := by
  obtain ⟨a1, a2, a3⟩ := rsum_in (xs := xs) (d := (d : Int)) (M := 1) fun x hx => ⟨(s.h x hx).1, (s.h x hx).2.1, by rw [cR_1]; exact (s.h x hx).2.2⟩
  have := s.l
  exact ⟨a1, a2, Rat.le_trans a3 (cR_le (by omega))⟩
theorem pow2_BIG {n : Nat} (h : n ≤ 8000) : ((2 ^ n : Nat) : Int) < BIG := by
  unfold BIG
  exact Int.ofNat_lt.mpr (Nat.pow_lt_pow_right (by omega) (by omega))
theorem pow2_MID {n : Nat} (h : n ≤ 4400) : ((2 ^ n : Nat) : Int) ≤ MID := Int.ofNat_le.mpr (Nat.pow_le_pow_right (by omega) h)
theorem pow2_nn (n : Nat) : (0 : Int) ≤ ((2 ^ n : Nat) : Int) := Int.natCast_nonneg _
theorem bd_mp {x : Rat} (h : Bd x) {k : Nat} (hk : k ≤ 4400) (z : D) : guardO (mulOK (pr x).1 ((2 ^ k : Nat) : Int)) z = some z :=
  mulB h.p.1 h.p.2.1 (by have := BIG_pos; have := pow2_nn k; omega) (pow2_BIG (by omega))
theorem bd_mp2 {x : Rat} (h : Bd x) {k : Nat} (hk : k ≤ 4400) (z : D) : guardO (mulOK (pr x).2 ((2 ^ k : Nat) : Int)) z = some z :=
  mulB (by have := BIG_pos; have := h.p.2.2.1; omega) h.p.2.2.2 (by have := BIG_pos; have := pow2_nn k; omega) (pow2_BIG (by omega))
theorem bd_lt2 {x : Rat} (h : Bd x) {k : Nat} (hk : k ≤ 4400) : (pr x).2 * ((2 ^ k : Nat) : Int) < BIG := MID_mul (by have := h.p.2.2.1; omega) (Int.le_of_lt h.d) (pow2_nn k) (pow2_MID hk)
theorem rest2 (st : Sto) {x : Rat} (hx : Bd x) (k : Nat) (hk : k ≤ 4400) : F_rest_of.sem [fr (pr x), .int (k : Int)] st = .ok (fr (pr (fR x k))) st :=
  restof_core st (pr x).1 (pr x).2 k _ _ _ (sem_power st k (by omega)) (pr_lw x).1 (bd_mp hx hk) rfl (lowest2 st (pr_lw x).1 hx.p.2.2.2)
theorem byh_core (st : Sto) (q : Int × Int) (k p : Int) (d : D) (hp : F_power.sem [.int 2, .int k] st = .ok (.int p) st) (g1 : ∀ z : D, guardO (mulOK q.2 p) z = some z) (hl : F_lowest.sem [.int q.1, .int (q.2 * p)] st = .ok d st) : F_by_halves.sem [fr q, .int k] st = .ok d st := by
  rw [ev_by_halves]
  simp [b_by_halves, hp, g1, hl]
theorem div_nd (x : Rat) (k : Nat) : (((pr x).1 : Int) : Rat) / (((pr x).2 * ((2 ^ k : Nat) : Int) : Int) : Rat) = x / pw k := by
  have hd := cR_ne x.den_pos
  have hp := pw_ne k
  have hx := rat_nd x
  unfold cR at hd
  unfold pw cR at hp ⊢
  show (x.num : Rat) / ((((x.den : Nat) : Int) * ((2 ^ k : Nat) : Int) : Int) : Rat) = _
  rw [Rat.intCast_mul]
  generalize (((x.den : Nat) : Int) : Rat) = D at *
  generalize (((2 ^ k : Nat) : Int) : Rat) = P at *
  generalize (x.num : Rat) = N at *
  rw [hx]
  grind
theorem pow2_pos (k : Nat) : (0 : Int) < ((2 ^ k : Nat) : Int) := Int.natCast_pos.mpr (Nat.pow_pos (by omega))
theorem byh2 (st : Sto) {x : Rat} (hx : Bd x) (k : Nat) (hk : k ≤ 4400) : F_by_halves.sem [fr (pr x), .int (k : Int)] st = .ok (fr (pr (x / pw k))) st := by
  have h := lowest2 (a := (pr x).1) (b := (pr x).2 * ((2 ^ k : Nat) : Int)) st (Int.mul_pos (pr_lw x).1 (pow2_pos k)) (bd_lt2 hx hk)
  rw [div_nd] at h
  exact byh_core st _ _ _ _ (sem_power st k (by omega)) (bd_mp2 hx hk) h
theorem sum_Ld (st : Sto) {d : Nat} {ys : List Rat} (s : Ld d ys) : F_sum_of_all.sem [.lst (shL ys)] st = .ok (fr (pr (rsum ys))) st := by
  obtain ⟨d0, d1⟩ := s.dI
  have hl := s.l
  exact sum_list st ys (M := 1) (f := 20) d0 (fun y hy => ⟨(s.h y hy).1, (s.h y hy).2.1, by rw [cR_1]; exact (s.h y hy).2.2⟩) d1 (by omega) (by omega)
theorem Ld.sbd {d : Nat} {xs : List Rat} (s : Ld d xs) : Bd (rsum xs) := by
  obtain ⟨a1, a2, a3⟩ := s.sum
  obtain ⟨d0, d1⟩ := s.dI
  exact a1.bdN (M := 60) d0 a2 a3 (by omega) d1 (f := 20) (by decide) (by omega)
theorem inD_half {d : Nat} {x : Rat} (h : InD (d : Int) x) (k : Nat) : InD ((d * 2 ^ k : Nat) : Int) (x / pw k) := by
  have h1 : InD ((2 ^ k : Nat) : Int) (((1 : Int) : Rat) / (((2 ^ k : Nat) : Int) : Rat)) := InD.div 1 (by have := pow2_pos k; omega)
  have h2 := ind_mul h h1
  have e : x / pw k = x * (((1 : Int) : Rat) / (((2 ^ k : Nat) : Int) : Rat)) := by
    have := pw_ne k
    unfold pw cR at *
    generalize (((2 ^ k : Nat) : Int) : Rat) = P at *
    show x / P = x * (1 / P)
    grind
  rw [e]
  exact h2
theorem half_le {x : Rat} (h : 0 ≤ x) (k : Nat) : 0 ≤ x / pw k ∧ x / pw k ≤ x := by
  have h1 := pw_ge k
  have h2 := pw_pos k
  have hi := Rat.inv_pos.mpr h2
  rw [Rat.div_def]
  refine ⟨Rat.mul_nonneg h (Rat.le_of_lt hi), ?_⟩
  have h3 : (pw k)⁻¹ ≤ 1 := by
    have := Rat.mul_le_mul_of_nonneg_right h1 (Rat.le_of_lt hi)
    rwa [Rat.one_mul, Rat.mul_inv_cancel _ (Rat.ne_of_gt h2)] at this
  have := Rat.mul_le_mul_of_nonneg_left h3 h
  rwa [Rat.mul_one] at this
theorem ltl_c (st : Sto) (p : Int × Int) (P r b2 : Int) (d : D) (x0 x1 : Option D) (hp : 0 < p.2) (g1 : ∀ z : D, guardO (mulOK p.1 P) z = some z) (g2 : ∀ z : D, guardO (mulOK p.2 P) z = some z) (hr : (p.1 * P) % p.2 = r) (hb : p.2 * P = b2) (h : F_law_number.sem [.int r, .int b2] st = .ok d st) :
    kCb g_law_tail (.tup (.cons (.name 3) (.cons (.name 4) .nil))) false .non e_law_tail1 [x0, x1, some (.int P), none, none] (fr p) st = .ok (some d) st := by
  have hb0 : p.2 ≠ 0 := by omega
  simp [bindTg_fr, e_law_tail1, g1, g2, hb0, fmod_nn (a := p.1 * P) (b := p.2) (by omega), hr, hb, h]
theorem ltl_core (st : Sto) (xs ys : List D) (k P : Int) (d : D) (hp : F_law_power.sem [.int k] st = .ok (.int P) st) (c : compLoop (kCb g_law_tail (.tup (.cons (.name 3) (.cons (.name 4) .nil))) false .non e_law_tail1 [some (.tup xs), some (.int k), some (.int P), none, none]) xs st = .ok ys st) (hl : ys.length ≤ sizeLine) (hs : F_law_sum.sem [.lst ys] st = .ok d st) : F_law_tail.sem [.tup xs, .int k] st = .ok d st := by
  rw [ev_law_tail]
  simp [b_law_tail, hp, c, hl, hs]
theorem tail_sum (xs : List Rat) (k : Nat) : rsum (xs.map fun x => fR x k / pw k) = tailR xs k := by
  unfold tailR
  have : (fun x => fR x k / pw k) = (fun y => y * (pw k)⁻¹) ∘ fun x => fR x k := by funext x; rw [Rat.div_def]; rfl
  rw [this, ← List.map_map, rsum_mulr, Rat.div_def]
theorem sem_law_tail (st : Sto) {d : Nat} {xs : List Rat} (s : Ld d xs) (k : Nat) (hk : k ≤ 4000) : F_law_tail.sem [.tup (shL xs), .int (k : Int)] st = .ok (fr (pr (tailR xs k))) st := by
  have hl := s.l
  obtain ⟨d0, d1⟩ := s.dI
  have hs := law_sum2 st (.lst (shL (xs.map fun x => fR x k / pw k))) (xs.map fun x => fR x k / pw k) rfl (d := ((d * 2 ^ k : Nat) : Int)) (M := 1) (e := 4070) (f := 20) (Int.natCast_pos.mpr (Nat.mul_pos s.d0 (Nat.pow_pos (by omega)))) (fun y hy => by
    obtain ⟨x, hx, rfl⟩ := List.mem_map.mp hy
    have h1 := fR_01 x k
    have h2 := half_le h1.1 k
    exact ⟨inD_half (fR_in (s.h x hx).1 k) k, h2.1, by rw [cR_1]; exact Rat.le_trans h2.2 (Rat.le_of_lt h1.2)⟩)
    (Int.ofNat_le.mpr (by
      have : 2 ^ 4070 = 2 ^ 70 * 2 ^ 4000 := by rw [← Nat.pow_add]
      rw [this]
      exact Nat.mul_le_mul s.d1 (Nat.pow_le_pow_right (by omega) hk))) (by rw [List.length_map]; omega) (by omega)
  rw [tail_sum] at hs
  refine ltl_core st (shL xs) _ k _ _ (sem_law_power st k (by omega)) ?_ (by rw [shL_len, List.length_map]; unfold sizeLine; omega) hs
  have e : shL (xs.map fun x => fR x k / pw k) = xs.map fun x => fr (pr (fR x k / pw k)) := by unfold shL; rw [List.map_map]; rfl
  rw [e]
  refine compLoop_mm (fun x => fr (pr x)) (fun x => fr (pr (fR x k / pw k))) fun x hx => ?_
  have hb := s.bd hx
  have hn := sem_law_number (a := (pr x).1 * ((2 ^ k : Nat) : Int) % (pr x).2) (b := (pr x).2 * ((2 ^ k : Nat) : Int)) st (Int.mul_pos (pr_lw x).1 (pow2_pos k)) (bd_lt2 hb (by omega))
  have e2 : (((pr x).1 * ((2 ^ k : Nat) : Int) % (pr x).2 : Int) : Rat) / (((pr x).2 * ((2 ^ k : Nat) : Int) : Int) : Rat) = fR x k / pw k := by
    have hd := cR_ne x.den_pos
    have hp := pw_ne k
    unfold fR
    unfold cR at hd
    unfold pw cR at hp ⊢
    show (((x.num * ((2 ^ k : Nat) : Int)) % (x.den : Int) : Int) : Rat) / ((((x.den : Nat) : Int) * ((2 ^ k : Nat) : Int) : Int) : Rat) = _
    rw [Rat.intCast_mul]
    generalize (((x.num * ((2 ^ k : Nat) : Int)) % (x.den : Int) : Int) : Rat) = N at *
    generalize (((x.den : Nat) : Int) : Rat) = D at *
    generalize (((2 ^ k : Nat) : Int) : Rat) = P at *
    grind
  rw [e2] at hn
  exact ltl_c st (pr x) _ _ _ _ _ _ (pr_lw x).1 (bd_mp hb (by omega)) (bd_mp2 hb (by omega)) rfl rfl hn
end Lk18
end

section
set_option Elab.async false
set_option linter.all false
set_option maxRecDepth 100000
set_option autoImplicit false
namespace Lk18
open PySem WT
theorem sem_is_less (st : Sto) (p q : Int × Int) (g1 : ∀ z : D, guardO (mulOK p.1 q.2) z = some z) (g2 : ∀ z : D, guardO (mulOK q.1 p.2) z = some z) : F_is_less.sem [fr p, fr q] st = .ok (.bl (decide (p.1 * q.2 < q.1 * p.2))) st := by
  rw [ev_is_less]
  simp [b_is_less, g1, g2]
theorem less2 (st : Sto) {x y : Rat} (hx : Bd x) (hy : Bd y) : F_is_less.sem [fr (pr x), fr (pr y)] st = .ok (.bl (decide (x < y))) st := by
  rw [sem_is_less st _ _ (hx.m12 hy) (hy.m12 hx)]
  simp only [lt_pr]
theorem least_ex (p : Nat → Prop) [DecidablePred p] : ∀ n, p n → ∃ K, K ≤ n ∧ p K ∧ ∀ i, i < K → ¬ p i := by
  intro n
  induction n using Nat.strongRecOn with
  | ind n ih =>
    intro h
    by_cases hx : ∃ m, m < n ∧ p m
    · obtain ⟨m, hm, hp⟩ := hx
      obtain ⟨K, h1, h2, h3⟩ := ih m hm hp
      exact ⟨K, by omega, h2, h3⟩
    · exact ⟨n, Nat.le_refl _, h, fun i hi hp => hx ⟨i, hi, hp⟩⟩
theorem tail_in {d : Nat} {xs : List Rat} (s : Ld d xs) (k : Nat) : InD ((d * 2 ^ k : Nat) : Int) (tailR xs k) ∧ 0 ≤ tailR xs k ∧ tailR xs k ≤ cR 60 / pw k := by
  obtain ⟨a1, a2, a3⟩ := (s.rests k).sum
  refine ⟨inD_half a1 k, (half_le a2 k).1, ?_⟩
  unfold tailR
  rw [Rat.div_def, Rat.div_def]
  exact Rat.mul_le_mul_of_nonneg_right a3 (Rat.le_of_lt (Rat.inv_pos.mpr (pw_pos k)))
theorem pow_4070 {d k : Nat} (hd : d ≤ 2 ^ 70) (hk : k ≤ 4000) : ((d * 2 ^ k : Nat) : Int) ≤ ((2 ^ 4070 : Nat) : Int) := Int.ofNat_le.mpr (by
  have : 2 ^ 4070 = 2 ^ 70 * 2 ^ 4000 := by rw [← Nat.pow_add]
  rw [this]
  exact Nat.mul_le_mul hd (Nat.pow_le_pow_right (by omega) hk))
theorem tail_bd {d : Nat} {xs : List Rat} (s : Ld d xs) (k : Nat) (hk : k ≤ 4000) : Bd (tailR xs k) := by
  obtain ⟨a1, a2, a3⟩ := tail_in s k
  exact a1.bdN (M := 60) (Int.natCast_pos.mpr (Nat.mul_pos s.d0 (Nat.pow_pos (by omega)))) a2 (Rat.le_trans a3 (half_le (cR_nn 60) k).2) (by omega) (pow_4070 s.d1 hk) (f := 20) (by decide) (by omega)
end Lk18
end

section
set_option Elab.async false
set_option linter.all false
set_option maxRecDepth 100000
set_option autoImplicit false
namespace Lk18
open PySem WT
structure Wt (ws : List Nat) : Prop where
  n : ws ≠ []
  l : ws.length ≤ 6
  p : ∀ w ∈ ws, 1 ≤ w
  s : ws.sum ≤ 2 ^ 60
def shr (ws : List Nat) : List Rat := ws.map fun (w : Nat) => (((w : Nat) : Int) : Rat) / (((ws.sum : Nat) : Int) : Rat)
theorem sum_mem : ∀ {ws : List Nat} {w : Nat}, w ∈ ws → w ≤ ws.sum
  | [], w, h => absurd h List.not_mem_nil
  | x :: xs, w, h => by
    rw [List.sum_cons]
    rcases List.mem_cons.mp h with rfl | h
    · omega
    · have := sum_mem h; omega
theorem Wt.pos {ws : List Nat} (h : Wt ws) : 0 < ws.sum := by
  cases ws with
  | nil => exact absurd rfl h.n
  | cons w ws =>
    have := h.p w (by simp)
    rw [List.sum_cons]
    omega
theorem rsum_shr (T : Rat) : ∀ ws : List Nat, rsum (ws.map fun (w : Nat) => (((w : Nat) : Int) : Rat) / T) = (((ws.sum : Nat) : Int) : Rat) / T
  | [] => by
    rw [List.map_nil, rsum_nil, List.sum_nil]
    simp [Rat.div_def, Rat.zero_mul]
  | w :: ws => by
    rw [List.map_cons, rsum_cons, rsum_shr T ws, List.sum_cons, Int.natCast_add, Rat.intCast_add, Rat.div_def, Rat.div_def, Rat.div_def, Rat.add_mul]
theorem Sx.shr {ws : List Nat} (h : Wt ws) : Sx ws.sum (shr ws) := by
  have hp := h.pos
  have hq : (0 : Rat) < (((ws.sum : Nat) : Int) : Rat) := Rat.intCast_lt_intCast.mpr (by omega : (0 : Int) < ((ws.sum : Nat) : Int))
  refine ⟨hp, by have := h.s; omega, fun x hx => ?_, ?_, ?_, fun e => ?_⟩
  · obtain ⟨w, hw, rfl⟩ := List.mem_map.mp hx
    refine ⟨InD.div _ (by omega), ?_⟩
    have h1 := h.p w hw
    have : (0 : Rat) < (((w : Nat) : Int) : Rat) := Rat.intCast_lt_intCast.mpr (by omega : (0 : Int) < ((w : Nat) : Int))
    rw [Rat.div_def]
    exact Rat.mul_pos this (Rat.inv_pos.mpr hq)
  · unfold Lk18.shr
    rw [rsum_shr, Rat.div_def, Rat.mul_inv_cancel _ (Rat.ne_of_gt hq)]
  · unfold Lk18.shr
    rw [List.length_map]
    have := h.l
    omega
  · exact h.n (List.map_eq_nil_iff.mp e)
theorem sum_nl (ws : List Nat) (st : Sto) : biD st .sum [.lst (nl ws)] = some (.int ((ws.sum : Nat) : Int)) := by
  show ((seqOf (.lst (nl ws))).bind intsD).map (fun ns => D.int ns.sum) = _
  show (intsD (nl ws)).map (fun ns => D.int ns.sum) = _
  rw [nl_ilst, intsD_ints]
  have : ∀ ws : List Nat, (ws.map fun (n : Nat) => (n : Int)).sum = ((ws.sum : Nat) : Int) := fun ws => by
    induction ws with
    | nil => rfl
    | cons w ws ih => rw [List.map_cons, List.sum_cons, List.sum_cons, ih, Int.natCast_add]
  show some (D.int (ws.map fun (n : Nat) => (n : Int)).sum) = _
  rw [this]
theorem forD_nil' (tg : Tg) (b : WT.Env → Sto → RS) (env : WT.Env) (st : Sto) : forD tg b [] env st = .nx env st := rfl
theorem forD_cons' {tg : Tg} {b : WT.Env → Sto → RS} {x : D} {xs : List D} {env env1 e : WT.Env} {st s : Sto} {r : RS} (h1 : bindTg tg x env = some env1) (h2 : b env1 st = .nx e s) (h3 : forD tg b xs e s = r) : forD tg b (x :: xs) env st = r := by
  have u : forD tg b (x :: xs) env st = match b env1 st with
    | .nx env' st' => forD tg b xs env' st'
    | .ct env' st' => forD tg b xs env' st'
    | .bk env' st' => .nx env' st'
    | r => r := by rw [forD, h1] <;> rfl
  rw [u, h2]
  exact h3
/-! ### drawn weights -/
theorem rep_lst (o : D) (n : Nat) (hn : n ≤ 100) : binD .Mult (.lst [o]) (.int (n : Int)) = some (.lst (List.replicate n o)) := by
  show guardO (repOK 1 (n : Int)) (D.lst (List.replicate (n : Int).toNat [o]).flatten) = _
  have h : repOK 1 (n : Int) := by unfold repOK sizeLine; omega
  rw [guardO_true h, Int.toNat_natCast, List.flatten_replicate_singleton]
theorem nl_rep (n v : Nat) : nl (List.replicate n v) = List.replicate n (.int (v : Int)) := by
  unfold nl
  rw [List.map_replicate]
  rfl
theorem we_1 (st : Sto) (n : Int) (fs : List D) (h : binD .Mult (.lst [.int 1]) (.int n) = some (.lst fs)) (x0 x2 x3 x4 : Option D) : evS g_law_weights (.set 3 .own (.bin .Mult (.lst (.cons (.int 1) .nil)) (.var 1))) [x0, some (.int n), x2, x3, x4] st = .nx [x0, some (.int n), x2, some (.lst fs), x4] st := by
  have z1 : (1 : Nat) ≤ sizeLine := by decide
  simp [z1, h]
theorem we_l (st st1 : Sto) (k : Nat) (n i v v1 : Int) (fs fs' : List D) (x2 x4 : Option D) (p : F_law_take.sem [.ref k, .int n] st = .ok (.int i) st1) (hi : ixD fs i = some (.int v)) (hv : v + 1 = v1) (hs : setIxL fs (.int i) (.int v1) = some fs') :
    evSs g_law_weights l_law_weights1 [some (.ref k), some (.int n), x2, some (.lst fs), x4] st = .nx [some (.ref k), some (.int n), x2, some (.lst fs'), x4] st1 := by
  simp [l_law_weights1, p, hi, hv, isLs, chg, hs]
theorem we_2 (st : Sto) (n t m : Int) (R : List D) (r : RS) (x0 x3 x4 : Option D) (hm : t - n = m) (hr : rangeD 0 m 1 = some R) (hw : forD (.name 4) (evSs g_law_weights l_law_weights1) R [x0, some (.int n), some (.int t), x3, x4] st = r) : evS g_law_weights (.for_ (.name 4) (.range1 (.bin .Sub (.var 2) (.var 1))) l_law_weights1) [x0, some (.int n), some (.int t), x3, x4] st = r := by
  have h : evIt g_law_weights (.range1 (.bin .Sub (.var 2) (.var 1))) [x0, some (.int n), some (.int t), x3, x4] st = .ok R st := by simp [hm, hr]
  rw [evS_for, h]
  exact hw
theorem we_call (st : Sto) (a b c : D) : F_law_weights.sem [a, b, c] st = (evSs g_law_weights b_law_weights [some a, some b, some c, none, none] st).fin := by
  rw [ev_law_weights]; rfl
theorem nl_set (ws : List Nat) (i v : Nat) : (nl ws).set i (.int (v : Int)) = nl (ws.set i v) := by
  unfold nl
  rw [List.map_set]; rfl
theorem sum_set : ∀ (ws : List Nat) (i : Nat) (h : i < ws.length), (ws.set i (ws[i] + 1)).sum = ws.sum + 1
  | [], i, h => absurd h (by simp)
  | w :: ws, 0, _ => by
    show ((w + 1) :: ws).sum = _
    rw [List.sum_cons, List.sum_cons]; omega
  | w :: ws, i + 1, h => by
    have hi : i < ws.length := by simpa using h
    have := sum_set ws i hi
    show (w :: ws.set i (ws[i] + 1)).sum = _
    rw [List.sum_cons, List.sum_cons, this]; omega
theorem sem_law_weights (st : Sto) (k N n t : Nat) (S : Dk st k N) (hN : N < 10 ^ 5) (hn : 0 < n) (hn2 : n ≤ 100) (ht : n ≤ t) (ht2 : t ≤ 200) :
    ∃ ws st', F_law_weights.sem [.ref k, .int (n : Int), .int (t : Int)] st = .ok (.lst (nl ws)) st' ∧ ws.length = n ∧ (∀ w ∈ ws, 1 ≤ w) ∧ ws.sum = t ∧ Dk st' k (N + 200) := by
  obtain ⟨st1, ws, y4, hw, h1, h2, h3, S1⟩ : ∃ st1 ws y4, forD (.name 4) (evSs g_law_weights l_law_weights1) ((List.range (t - n)).map fun (i : Nat) => D.int (i : Int)) [some (.ref k), some (.int (n : Int)), some (.int (t : Int)), some (.lst (nl (List.replicate n 1))), none] st = .nx [some (.ref k), some (.int (n : Int)), some (.int (t : Int)), some (.lst (nl ws)), y4] st1 ∧ ws.length = n ∧ (∀ w ∈ ws, 1 ≤ w) ∧ ws.sum = n + (t - n) ∧ Dk st1 k (N + (t - n)) := by
    refine forD_map (P := fun z => ∃ st1 ws y4, z = .nx [some (.ref k), some (.int (n : Int)), some (.int (t : Int)), some (.lst (nl ws)), y4] st1 ∧ ws.length = n ∧ (∀ w ∈ ws, 1 ≤ w) ∧ ws.sum = n + (t - n) ∧ Dk st1 k (N + (t - n)))
      (fun pre env st' => ∃ ws y4, env = [some (.ref k), some (.int (n : Int)), some (.int (t : Int)), some (.lst (nl ws)), y4] ∧ ws.length = n ∧ (∀ w ∈ ws, 1 ≤ w) ∧ ws.sum = n + pre.length ∧ Dk st' k (N + pre.length)) ⟨List.replicate n 1, none, rfl, by simp, fun w hw => by have := (List.mem_replicate.mp hw).2; omega, by simp, S⟩ ?_ ?_
    · rintro pre i post env st' e ⟨ws, y4, rfl, h1, h2, h3, S'⟩
      obtain ⟨rfl, hpre⟩ := pre_range e
      obtain ⟨r, st2, p, hr, S2⟩ := sem_take st' k (N + pre.length) n S' (by omega) (by omega) (by omega)
      have hrl : r < ws.length := by omega
      have core := we_l st' st2 k n r (ws[r] : Nat) ((ws[r] + 1 : Nat) : Int) (nl ws) (nl (ws.set r (ws[r] + 1))) (some (.int (t : Int))) (some (.int (pre.length : Nat))) p (ixD_nat (by unfold nl; rw [List.getElem?_map, List.getElem?_eq_getElem hrl]; rfl)) (by omega) (by
        rw [← nl_set]
        unfold setIxL L2.ixN
        simp [nl_length, hrl])
      refine ⟨_, bindTg_name _ _ _, stepN _ rfl core ⟨ws.set r (ws[r] + 1), _, rfl, by simp [h1], fun w hw => ?_, ?_, ?_⟩⟩
      · rcases List.mem_or_eq_of_mem_set hw with h | h
        · exact h2 w h
        · omega
      · rw [sum_set ws r hrl, h3, List.length_append, List.length_singleton]; omega
      · rw [List.length_append, List.length_singleton]; exact S2
    · rintro env st' ⟨ws, y4, rfl, h1, h2, h3, S'⟩
      rw [List.length_range] at h3 S'
      exact ⟨st', ws, y4, rfl, h1, h2, h3, S'⟩
  refine ⟨ws, st1, ?_, h1, h2, by omega, S1.mono (by omega)⟩
  rw [we_call, b_law_weights, seq_nx2 (we_1 st n (nl (List.replicate n 1)) (by rw [rep_lst _ n hn2, nl_rep]; rfl) _ _ _ _) (seq_nx2 (we_2 st n t ((t - n : Nat) : Int) _ _ _ _ _ (by omega) (rangeD_n (t - n) (by omega)) hw) rfl)]
  exact ret_fin (by simp)
/-! ### drawn shares -/
theorem ds_1 (st st1 st2 : Sto) (k : Nat) (most r1 r2 n : Int) (x2 x3 x4 x5 x6 x7 x8 x9 : Option D) (p1 : F_law_take.sem [.ref k, .int most] st = .ok (.int r1) st1) (p2 : F_law_take.sem [.ref k, .int 6] st1 = .ok (.int r2) st2) (hn : 1 + r1 = n) :
    evS g_law_shares t_law_shares1 [some (.ref k), some (.int most), x2, x3, x4, x5, x6, x7, x8, x9] st = .nx [some (.ref k), some (.int most), some (.int n), some (.int r2), x4, x5, x6, x7, x8, x9] st2 := by
  simp [t_law_shares1, p1, p2, hn]
theorem ds_2 (st : Sto) (n w : Int) (d : D) (x0 x1 x4 x5 x6 x7 x8 x9 : Option D) (hw : w = 0) (h : binD .Mult (.tup [fr (1, n)]) (.int n) = some d) :
    evS g_law_shares t_law_shares2 [x0, x1, some (.int n), some (.int w), x4, x5, x6, x7, x8, x9] st = .rt d st := by
  have z1 : (1 : Nat) ≤ sizeLine := by decide
  have z2 : (2 : Nat) ≤ sizeLine := by decide
  simp [t_law_shares2, hw, h, z1, z2]
theorem ds_2n (st : Sto) (w : Int) (x0 x1 x2 x4 x5 x6 x7 x8 x9 : Option D) (hw : w ≠ 0) :
    evS g_law_shares t_law_shares2 [x0, x1, x2, some (.int w), x4, x5, x6, x7, x8, x9] st = .nx [x0, x1, x2, some (.int w), x4, x5, x6, x7, x8, x9] st := by
  simp [t_law_shares2, hw]
theorem ds_3a (st st1 : Sto) (k : Nat) (r q w t : Int) (x1 x2 x4 x5 x6 x7 x8 x9 : Option D) (hw : w = 1) (p : F_law_take.sem [.ref k, .int 3] st = .ok (.int r) st1) (hq : 3 + r = q) (p2 : F_law_power.sem [.int q] st1 = .ok (.int t) st1) :
    evS g_law_shares t_law_shares3 [some (.ref k), x1, x2, some (.int w), x4, x5, x6, x7, x8, x9] st = .nx [some (.ref k), x1, x2, some (.int w), some (.int t), x5, x6, x7, x8, x9] st1 := by
  simp [t_law_shares3, hw, p, hq, p2]
theorem ds_3c (st st1 : Sto) (k : Nat) (n m w r t : Int) (x1 x4 x5 x6 x7 x8 x9 : Option D) (hw : w ≠ 1) (hw2 : ¬ (w = 2 ∧ 1 < n)) (hm : 61 - n = m) (p : F_law_take.sem [.ref k, .int m] st = .ok (.int r) st1) (ht : n + r = t) :
    evS g_law_shares t_law_shares3 [some (.ref k), x1, some (.int n), some (.int w), x4, x5, x6, x7, x8, x9] st = .nx [some (.ref k), x1, some (.int n), some (.int w), some (.int t), x5, x6, x7, x8, x9] st1 := by
  by_cases h : w = 2
  · have h2 : ¬ 1 < n := fun z => hw2 ⟨h, z⟩
    subst h
    simp [t_law_shares3, h2, hm, p, ht]
  · simp [t_law_shares3, hw, h, hm, p, ht]
theorem ds_4c (st : Sto) (w t : Int) (d : D) (x0 x1 x2 x3 x5 x6 x7 x8 x9 : Option D) (h : F_law_number.sem [.int w, .int t] st = .ok d st) : kCb g_law_shares (.name 9) false .non e_law_shares2 [x0, x1, x2, x3, some (.int t), x5, x6, x7, x8, x9] (.int w) st = .ok (some d) st := by
  simp [e_law_shares2, h]
theorem ds_4 (st st1 : Sto) (k : Nat) (n t : Int) (ws ys : List D) (x1 x3 x5 x6 x7 x8 x9 : Option D) (p : F_law_weights.sem [.ref k, .int n, .int t] st = .ok (.lst ws) st1) (c : compLoop (kCb g_law_shares (.name 9) false .non e_law_shares2 [some (.ref k), x1, some (.int n), x3, some (.int t), x5, x6, x7, x8, x9]) ws st1 = .ok ys st1) (hl : ys.length ≤ sizeLine) :
    (evSs g_law_shares (.cons t_law_shares4 .nil) [some (.ref k), x1, some (.int n), x3, some (.int t), x5, x6, x7, x8, x9] st).fin = .ok (.tup ys) st1 := by
  rw [t_law_shares4]
  refine ret_fin ?_
  simp [p, c, hl]
theorem ds_lc (st : Sto) (w b b2 : Int) (d : D) (x0 x1 x2 x3 x4 x5 x6 x7 x9 : Option D) (hb : 2 * b = b2) (h : F_law_number.sem [.int w, .int b2] st = .ok d st) : kCb g_law_shares (.name 9) false .non e_law_shares1 [x0, x1, x2, x3, x4, x5, x6, x7, some (.int b), x9] (.int w) st = .ok (some d) st := by
  have g1 : ∀ z : D, guardO (mulOK 2 b) z = some z := fun z => guardO_true (mulOK_l (by decide) (by decide))
  simp [e_law_shares1, g1, hb, h]
theorem ds_l (st st1 st2 : Sto) (k : Nat) (m q r b : Int) (fs ws ys : List D) (x1 x2 x3 x4 x6 x8 x9 : Option D) (hq : 31 - m = q) (p : F_law_take.sem [.ref k, .int q] st = .ok (.int r) st1) (hb : m + r = b) (p2 : F_law_weights.sem [.ref k, .int m, .int b] st1 = .ok (.lst ws) st2)
    (c : compLoop (kCb g_law_shares (.name 9) false .non e_law_shares1 [some (.ref k), x1, x2, x3, x4, some (.int m), x6, some (.lst fs), some (.int b), x9]) ws st2 = .ok ys st2) (l1 : ys.length ≤ sizeLine) (l2 : fs.length + ys.length ≤ sizeLine) :
    evSs g_law_shares l_law_shares1 [some (.ref k), x1, x2, x3, x4, some (.int m), x6, some (.lst fs), x8, x9] st = .nx [some (.ref k), x1, x2, x3, x4, some (.int m), x6, some (.lst (fs ++ ys)), some (.int b), x9] st2 := by
  simp [l_law_shares1, hq, p, hb, p2, c, l1, l2]
theorem ds_3b (st st1 st2 : Sto) (k : Nat) (n n1 r f g w : Int) (fs : List D) (x1 x4 x5 x6 x7 x8 x9 y5 y8 : Option D) (hw : w = 2) (hn : 1 < n) (hn1 : n - 1 = n1) (p : F_law_take.sem [.ref k, .int n1] st = .ok (.int r) st1) (hf : 1 + r = f) (hg : n - f = g)
    (hl : forD (.name 5) (evSs g_law_shares l_law_shares1) [.int f, .int g] [some (.ref k), x1, some (.int n), some (.int w), x4, x5, some (.int f), some (.lst []), x8, x9] st1 = .nx [some (.ref k), x1, some (.int n), some (.int w), x4, y5, some (.int f), some (.lst fs), y8, x9] st2) :
    evS g_law_shares t_law_shares3 [some (.ref k), x1, some (.int n), some (.int w), x4, x5, x6, x7, x8, x9] st = .rt (.tup fs) st2 := by
  have z0 : (0 : Nat) ≤ sizeLine := by decide
  have z2 : (2 : Nat) ≤ sizeLine := by decide
  subst hw
  have hs : seqOf (fr (f, g)) = some [.int f, .int g] := rfl
  simp [t_law_shares3, hn, hn1, p, hf, hg, z0, z2, hs, hl]
theorem ds_call (st : Sto) (a b : D) : F_law_shares.sem [a, b] st = (evSs g_law_shares b_law_shares [some a, some b, none, none, none, none, none, none, none, none] st).fin := by
  rw [ev_law_shares]; rfl
theorem seq_rt {g : GE} {s : S} {ss : Ss} {env : WT.Env} {st st' : Sto} {d : D} (h : evS g s env st = .rt d st') : evSs g (.cons s ss) env st = .rt d st' := by rw [evSs_cons, h]; rfl
/-- half of the shares of weights -/
def hshr (ws : List Nat) : List Rat := ws.map fun (w : Nat) => (((w : Nat) : Int) : Rat) / ((((2 * ws.sum : Nat) : Nat) : Int) : Rat)
theorem half_sum {ws : List Nat} (h : 0 < ws.sum) : rsum (hshr ws) = 1 / 2 := by
  unfold hshr
  rw [rsum_shr]
  have hq : (0 : Rat) < (((ws.sum : Nat) : Int) : Rat) := Rat.intCast_lt_intCast.mpr (by omega : (0 : Int) < ((ws.sum : Nat) : Int))
  have e : (((2 * ws.sum : Nat) : Int) : Rat) = 2 * (((ws.sum : Nat) : Int) : Rat) := by rw [Int.natCast_mul, Rat.intCast_mul]; rfl
  rw [e]
  generalize (((ws.sum : Nat) : Int) : Rat) = T at *
  grind
theorem den_le {d : Nat} {x : Rat} (hd : 0 < d) (h : InD (d : Int) x) : x.den ∣ d := by
  obtain ⟨X, hX⟩ := h
  have hc : Nat.Coprime x.den x.num.natAbs := by rw [Nat.coprime_comm]; exact x.reduced
  have h1 : x.num * (d : Int) = X * (x.den : Int) := by
    refine Rat.intCast_inj.mp ?_
    rw [Rat.intCast_mul, Rat.intCast_mul, ← hX]
    have hx := rat_nd x
    have hn := cR_ne x.den_pos
    unfold cR at hn
    generalize (((x.den : Nat) : Int) : Rat) = D at *
    generalize (x.num : Rat) = N at *
    rw [hx]
    grind
  have h2 : (x.den : Int) ∣ x.num * (d : Int) := ⟨X, by rw [h1, Int.mul_comm]⟩
  have h3 := Int.natAbs_dvd_natAbs.mpr h2
  rw [Int.natAbs_mul] at h3
  exact hc.dvd_of_dvd_mul_left h3
structure Drawn (m q B d : Nat) (xs : List Rat) : Prop where
  s : Sx d xs
  d : d ≤ q
  l : xs.length ≤ m
  b : ∀ x ∈ xs, x.den ≤ B
theorem drawn_shr {ws : List Nat} {m : Nat} (h : Wt ws) (hs : ws.sum ≤ 60) (hm : ws.length ≤ m) : Drawn m 2000 62 ws.sum (shr ws) := ⟨Sx.shr h, by omega, by unfold shr; rw [List.length_map]; exact hm, fun x hx => by
  have := Nat.le_of_dvd h.pos (den_le h.pos ((Sx.shr h).h x hx).1)
  omega⟩
theorem drawn_two {ws us : List Nat} (h : Wt ws) (h2 : Wt us) (hs : ws.sum ≤ 31) (hs2 : us.sum ≤ 31) {m : Nat} (hl : ws.length + us.length ≤ m) (hm : m ≤ 6) : Drawn m 2000 62 (2 * ws.sum * us.sum) (hshr ws ++ hshr us) := by
  have p1 := h.pos
  have p2 := h2.pos
  have pp : 0 < 2 * ws.sum * us.sum := Nat.mul_pos (by omega) p2
  have hb : 2 * ws.sum * us.sum ≤ 62 * 31 := Nat.mul_le_mul (by omega) hs2
  have key : ∀ (vs : List Nat), (∀ w ∈ vs, 1 ≤ w) → 0 < vs.sum → vs.sum ≤ 31 → (2 * vs.sum ∣ 2 * ws.sum * us.sum) → ∀ x ∈ hshr vs, InD ((2 * ws.sum * us.sum : Nat) : Int) x ∧ 0 < x ∧ x.den ≤ 62 := by
    intro vs hv hp hle hdv x hx
    obtain ⟨w, hw, rfl⟩ := List.mem_map.mp hx
    have hI : InD ((2 * vs.sum : Nat) : Int) ((((w : Nat) : Int) : Rat) / (((2 * vs.sum : Nat) : Int) : Rat)) := InD.div _ (by omega)
    refine ⟨hI.of (Int.natCast_dvd_natCast.mpr hdv), ?_, ?_⟩
    · have h1 := hv w hw
      have h2 : (0 : Rat) < (((w : Nat) : Int) : Rat) := Rat.intCast_lt_intCast.mpr (by omega : (0 : Int) < ((w : Nat) : Int))
      have h3 : (0 : Rat) < (((2 * vs.sum : Nat) : Int) : Rat) := Rat.intCast_lt_intCast.mpr (by omega : (0 : Int) < ((2 * vs.sum : Nat) : Int))
      rw [Rat.div_def]
      exact Rat.mul_pos h2 (Rat.inv_pos.mpr h3)
    · have := Nat.le_of_dvd (by omega) (den_le (by omega) hI)
      omega
  have kk : ∀ x ∈ hshr ws ++ hshr us, InD ((2 * ws.sum * us.sum : Nat) : Int) x ∧ 0 < x ∧ x.den ≤ 62 := fun x hx => by
    rcases List.mem_append.mp hx with hx | hx
    · exact key ws h.p p1 hs ⟨us.sum, rfl⟩ x hx
    · exact key us h2.p p2 hs2 ⟨ws.sum, by rw [Nat.mul_assoc, Nat.mul_assoc, Nat.mul_comm us.sum]⟩ x hx
  have hlen : (hshr ws ++ hshr us).length = ws.length + us.length := by unfold hshr; simp
  refine ⟨⟨pp, by omega, fun x hx => ⟨(kk x hx).1, (kk x hx).2.1⟩, ?_, by omega, fun e => ?_⟩, by omega, by omega, fun x hx => (kk x hx).2.2⟩
  · rw [rsum_app, half_sum p1, half_sum p2]
    grind
  · have h3 := List.append_eq_nil_iff.mp e
    exact h.n (List.map_eq_nil_iff.mp h3.1)
theorem comp_num (st : Sto) {f : D → Sto → R (Option D)} (ws : List Nat) (T : Nat) (hf : ∀ w ∈ ws, f (.int ((w : Nat) : Int)) st = .ok (some (fr (pr ((((w : Nat) : Int) : Rat) / (((T : Nat) : Int) : Rat))))) st) : compLoop f (nl ws) st = .ok (shL (ws.map fun (w : Nat) => (((w : Nat) : Int) : Rat) / (((T : Nat) : Int) : Rat))) st := by
  have e : shL (ws.map fun (w : Nat) => (((w : Nat) : Int) : Rat) / (((T : Nat) : Int) : Rat)) = ws.map fun (w : Nat) => fr (pr ((((w : Nat) : Int) : Rat) / (((T : Nat) : Int) : Rat))) := by unfold shL; rw [List.map_map]; rfl
  rw [e]
  exact compLoop_mm vI _ fun w hw => hf w hw
theorem wt_of {ws : List Nat} {n t : Nat} (h1 : ws.length = n) (h2 : ∀ w ∈ ws, 1 ≤ w) (h3 : ws.sum = t) (hn : 0 < n) (hn2 : n ≤ 6) (ht : t ≤ 200) : Wt ws := ⟨fun e => by rw [e] at h1; simp at h1; omega, by omega, h2, by omega⟩
theorem half_step (st : Sto) (k N m : Nat) (S : Dk st k N) (hN : N < 10 ^ 4) (hm : 0 < m) (hm2 : m ≤ 6) (fs : List Rat) (hfs : fs.length ≤ 100) (x1 x2 x3 x4 x6 x8 : Option D) : ∃ ws st' y8, evSs g_law_shares l_law_shares1 [some (.ref k), x1, x2, x3, x4, some (.int (m : Int)), x6, some (.lst (shL fs)), x8, none] st = .nx [some (.ref k), x1, x2, x3, x4, some (.int (m : Int)), x6, some (.lst (shL (fs ++ hshr ws))), y8, none] st' ∧ Wt ws ∧ ws.sum ≤ 31 ∧ ws.length = m ∧ Dk st' k (N + 201) := by
  obtain ⟨r, st1, p1, hr, S1⟩ := sem_take st k N ((31 - m : Nat) : Int) S (by omega) (by omega) (by omega)
  obtain ⟨ws, st2, p2, h1, h2, h3, S2⟩ := sem_law_weights st1 k (N + 1) m (m + r) S1 (by omega) hm (by omega) (by omega) (by omega)
  have w := wt_of h1 h2 h3 hm hm2 (by omega)
  have hp := w.pos
  have c := comp_num st2 (f := kCb g_law_shares (.name 9) false .non e_law_shares1 [some (.ref k), x1, x2, x3, x4, some (.int (m : Int)), x6, some (.lst (shL fs)), some (.int ((m + r : Nat) : Int)), none]) ws (2 * ws.sum) fun v hv =>
    ds_lc st2 v ((m + r : Nat) : Int) ((2 * ws.sum : Nat) : Int) _ _ _ _ _ _ _ _ _ _ (by rw [h3]; omega) (sem_law_number st2 (by omega) (small_BIG (by omega)))
  have core := ds_l st st1 st2 k m ((31 - m : Nat) : Int) r ((m + r : Nat) : Int) (shL fs) (nl ws) _ x1 x2 x3 x4 x6 x8 none (by omega) p1 (by omega) p2 c (by rw [shL_len, List.length_map]; unfold sizeLine; omega) (by rw [shL_len, shL_len, List.length_map]; unfold sizeLine; omega)
  rw [← shL_app] at core
  exact ⟨ws, st2, _, core, w, by omega, h1, S2⟩
theorem sem_law_shares (st : Sto) (k N most : Nat) (S : Dk st k N) (hN : N < 5000) (h0 : 0 < most) (h6 : most ≤ 6) : ∃ d xs st', F_law_shares.sem [.ref k, .int (most : Int)] st = .ok (.tup (shL xs)) st' ∧ Drawn most 2000 62 d xs ∧ Dk st' k (N + 500) := by
  obtain ⟨r1, st1, p1, hr1, S1⟩ := sem_take st k N most S (by omega) (by omega) (by omega)
  obtain ⟨w, st2, p2, hr2, S2⟩ := sem_take st1 k (N + 1) 6 S1 (by omega) (by omega) (by omega)
  have f1 := ds_1 st st1 st2 k most r1 w ((1 + r1 : Nat) : Int) none none none none none none none none p1 p2 (by omega)
  generalize hn : 1 + r1 = n at *
  have hn0 : 0 < n := by omega
  have hn6 : n ≤ 6 := by omega
  rw [ds_call, bt_law_shares, seq_nx2 f1 rfl]
  by_cases hw0 : w = 0
  · subst hw0
    have wt : Wt (List.replicate n 1) := ⟨fun e => by have := congrArg List.length e; simp at this; omega, by simp; omega, fun w hw => by have := (List.mem_replicate.mp hw).2; omega, by simp; omega⟩
    have hs : (List.replicate n 1).sum = n := by simp
    refine ⟨_, _, st2, ?_, drawn_shr wt (by rw [hs]; omega) (by simp; omega), S2.mono (by omega)⟩
    have e : shL (shr (List.replicate n 1)) = List.replicate n (fr (1, (n : Int))) := by
      unfold shr shL
      rw [hs, List.map_replicate, List.map_replicate]
      refine congrArg _ ?_
      have := low_pr (a := 1) (b := (n : Int)) (by omega)
      show fr (pr (((1 : Int) : Rat) / (((n : Nat) : Int) : Rat))) = _
      rw [← this]
      unfold low
      simp
    rw [e, seq_rt (ds_2 st2 n ((0 : Nat) : Int) (.tup (List.replicate n (fr (1, (n : Int))))) _ _ _ _ _ _ _ _ rfl (by rw [mulT _ n (by omega) (by omega) (by simp), List.flatten_replicate_singleton]))]
    rfl
  rw [seq_nx2 (ds_2n st2 w _ _ _ _ _ _ _ _ _ (by omega)) rfl]
  have fin : ∀ (st3 : Sto) (t : Nat) (N' : Nat), Dk st3 k N' → N' < 10 ^ 4 → n ≤ t → t ≤ 60 → ∃ d xs st', (evSs g_law_shares (.cons t_law_shares4 .nil) [some (.ref k), some (.int (most : Int)), some (.int (n : Int)), some (.int (w : Int)), some (.int (t : Int)), none, none, none, none, none] st3).fin = .ok (.tup (shL xs)) st' ∧ Drawn most 2000 62 d xs ∧ Dk st' k (N' + 200) := by
    intro st3 t N' S3 hN' ht ht2
    obtain ⟨ws, st4, p4, h1, h2, h3, S4⟩ := sem_law_weights st3 k N' n t S3 (by omega) hn0 (by omega) ht (by omega)
    have wt := wt_of h1 h2 h3 hn0 hn6 (by omega)
    have hp := wt.pos
    have c := comp_num st4 (f := kCb g_law_shares (.name 9) false .non e_law_shares2 [some (.ref k), some (.int (most : Int)), some (.int (n : Int)), some (.int (w : Int)), some (.int (t : Int)), none, none, none, none, none]) ws ws.sum fun v hv =>
      ds_4c st4 v (t : Int) _ _ _ _ _ _ _ _ _ _ (by rw [← h3]; exact sem_law_number st4 (by omega) (small_BIG (by omega)))
    exact ⟨_, _, st4, ds_4 st3 st4 k n t (nl ws) _ _ _ _ _ _ _ _ p4 c (by rw [shL_len, List.length_map]; unfold sizeLine; omega), drawn_shr wt (by omega) (by omega), S4⟩
  by_cases hw1 : w = 1
  · obtain ⟨r3, st3, p3, hr3, S3⟩ := sem_take st2 k (N + 2) 3 S2 (by omega) (by omega) (by omega)
    have ht : 8 ≤ 2 ^ (3 + r3) ∧ 2 ^ (3 + r3) ≤ 32 := ⟨Nat.pow_le_pow_right (n := 2) (i := 3) (by omega) (by omega), Nat.pow_le_pow_right (n := 2) (j := 5) (by omega) (by omega)⟩
    have f3 := ds_3a st2 st3 k r3 ((3 + r3 : Nat) : Int) w _ (some (.int (most : Int))) (some (.int (n : Int))) none none none none none none (by omega) p3 (by omega) (sem_law_power st3 (3 + r3) (by omega))
    obtain ⟨d, xs, st', e, dr, S'⟩ := fin st3 (2 ^ (3 + r3)) (N + 3) S3 (by omega) (by omega) (by omega)
    exact ⟨d, xs, st', by rw [seq_nx2 f3 rfl]; exact e, dr, S'.mono (by omega)⟩
  by_cases hw2 : (w : Int) = 2 ∧ 1 < (n : Int)
  · obtain ⟨r3, st3, p3, hr3, S3⟩ := sem_take st2 k (N + 2) ((n - 1 : Nat) : Int) S2 (by omega) (by omega) (by omega)
    obtain ⟨ws, st4, y8, e1, wt1, hs1, hl1, S4⟩ := half_step st3 k (N + 3) (1 + r3) S3 (by omega) (by omega) (by omega) [] (by simp) (some (.int (most : Int))) (some (.int (n : Int))) (some (.int (w : Int))) none (some (.int ((1 + r3 : Nat) : Int))) none
    obtain ⟨us, st5, z8, e2, wt2, hs2, hl2, S5⟩ := half_step st4 k (N + 204) (n - (1 + r3)) (S4.mono (by omega)) (by omega) (by omega) (by omega) ([] ++ hshr ws) (by unfold hshr; simp; omega) (some (.int (most : Int))) (some (.int (n : Int))) (some (.int (w : Int))) none (some (.int ((1 + r3 : Nat) : Int))) y8
    have hf := forD_cons' (tg := .name 5) (b := evSs g_law_shares l_law_shares1) (x := .int ((1 + r3 : Nat) : Int)) (xs := [.int ((n - (1 + r3) : Nat) : Int)]) (env := [some (.ref k), some (.int (most : Int)), some (.int (n : Int)), some (.int (w : Int)), none, none, some (.int ((1 + r3 : Nat) : Int)), some (.lst (shL [])), none, none]) rfl e1 (forD_cons' (tg := .name 5) rfl e2 (forD_nil' _ _ _ _))
    refine ⟨_, _, st5, ?_, drawn_two wt1 wt2 hs1 hs2 (by omega) h6, S5.mono (by omega)⟩
    rw [seq_rt (ds_3b st2 st3 st5 k n ((n - 1 : Nat) : Int) r3 ((1 + r3 : Nat) : Int) ((n - (1 + r3) : Nat) : Int) w _ _ _ _ _ _ _ _ _ _ hw2.1 hw2.2 (by omega) p3 (by omega) (by omega) hf)]
    rfl
  · obtain ⟨r3, st3, p3, hr3, S3⟩ := sem_take st2 k (N + 2) ((61 - n : Nat) : Int) S2 (by omega) (by omega) (by omega)
    have f3 := ds_3c st2 st3 k n ((61 - n : Nat) : Int) w r3 ((n + r3 : Nat) : Int) (some (.int (most : Int))) none none none none none none (by omega) hw2 (by omega) p3 (by omega)
    obtain ⟨d, xs, st', e, dr, S'⟩ := fin st3 (n + r3) (N + 3) S3 (by omega) (by omega) (by omega)
    exact ⟨d, xs, st', by rw [seq_nx2 f3 rfl]; exact e, dr, S'.mono (by omega)⟩
theorem den_in (x : Rat) : InD (x.den : Int) x := ⟨x.num, by
  have hx := rat_nd x
  have hn := cR_ne x.den_pos
  unfold cR at hn
  generalize (((x.den : Nat) : Int) : Rat) = D at *
  generalize (x.num : Rat) = N at *
  rw [hx]
  grind⟩
theorem inv_le {x : Rat} (h : 0 < x) : 1 / cR x.den ≤ x := by
  have h1 := num_pos h
  have h2 : (1 : Rat) ≤ (x.num : Rat) := Rat.intCast_le_intCast.mpr (by omega : (1 : Int) ≤ x.num)
  have := Rat.mul_le_mul_of_nonneg_right h2 (Rat.le_of_lt (Rat.inv_pos.mpr (cR_pos x.den_pos)))
  rw [← Rat.div_def, ← Rat.div_def] at this
  have hx := rat_nd x
  unfold cR at this ⊢
  rw [← hx] at this
  exact this
end Lk18
end

section
set_option Elab.async false
set_option linter.all false
set_option maxRecDepth 100000
set_option autoImplicit false
namespace Lk18.B
open PySem WT
theorem sem_lowest {a b : Int} (st : Sto) (h : 0 < b) (h2 : b < BIG) : F_lowest.sem [.int a, .int b] st = .ok (fr (low a b)) st := by
  have hg := gcd_pos_r (a := a) h
  have hle : Nat.gcd a.natAbs b.natAbs ≤ b.natAbs := Nat.gcd_le_right _ (by omega)
  have hd : divOK ((Nat.gcd a.natAbs b.natAbs : Nat) : Int) := divOK_B (by omega) (by omega)
  have h0 : ¬ b < 0 := by omega
  rw [ev_lowest]
  simp [b_lowest, h0, hd, fdiv_nn, low, sizeLine]
structure Dn (b t : Nat) : Prop where
  b0 : 0 < b
  b1 : b ≤ 200
  t1 : t ≤ b
  l : Lw ((t : Int), (b : Int))
theorem pre_range {n : Nat} {pre post : List Nat} {i : Nat} (e : List.range n = pre ++ i :: post) : i = pre.length ∧ pre.length < n := by
  have h1 := congrArg (fun l => l[pre.length]?) e
  have h2 := congrArg List.length e
  rw [List.length_range, List.length_append, List.length_cons] at h2
  simp only [List.getElem?_append_right (Nat.le_refl _), Nat.sub_self, List.getElem?_cons_zero] at h1
  rw [List.getElem?_range (by omega)] at h1
  exact ⟨(Option.some.inj h1).symm, by omega⟩
theorem nl_take (xs : List Nat) (k : Nat) : (nl xs).take k = nl (xs.take k) := by simp [nl, List.map_take]
theorem nl_drop (xs : List Nat) (k : Nat) : (nl xs).drop k = nl (xs.drop k) := by simp [nl, List.map_drop]
theorem range_head (n : Nat) : ∃ R, (List.range (n + 1)).map (fun (k : Nat) => D.int (k : Int)) = D.int 0 :: R := ⟨_, by rw [List.range_succ_eq_map, List.map_cons]; rfl⟩
theorem seq_nx' {g : GE} {s : S} {ss : Ss} {env env' : WT.Env} {st st' : Sto} (h : evS g s env st = .nx env' st') : evSs g (.cons s ss) env st = evSs g ss env' st' := by rw [evSs_cons, h]; rfl
/-! ### powers, figures, rests -/
theorem st_pow (x : Int) (k : D) (y : Option D) (st : Sto) : evSs g_power l_power1 [some (.int 2), some k, some (.int x), y] st = .nx [some (.int 2), some k, some (.int (x * 2)), y] st := by
  have g1 : ∀ z : D, guardO (mulOK x 2) z = some z := fun z => guardO_true (mulOK_r (by decide) (by decide))
  simp [l_power1, g1]
theorem pow_loop (st : Sto) (n : Nat) (k : D) (y1 : Option D) : ∃ y, forD (.name 3) (evSs g_power l_power1) ((List.range n).map fun (k : Nat) => D.int (k : Int)) [some (.int 2), some k, some (.int 1), y1] st = .nx [some (.int 2), some k, some (.int ((2 ^ n : Nat) : Int)), y] st := by
  refine forD_map (P := fun z => ∃ y, z = .nx [some (.int 2), some k, some (.int ((2 ^ n : Nat) : Int)), y] st) (fun pre env st' => st' = st ∧ ∃ y, env = [some (.int 2), some k, some (.int ((2 ^ pre.length : Nat) : Int)), y]) ⟨rfl, y1, rfl⟩ ?_ ?_
  · rintro pre i post env st' e ⟨rfl, y, rfl⟩
    rw [List.length_append, List.length_singleton]
    refine ⟨_, bindTg_name _ _ _, stepN _ rfl (st_pow ((2 ^ pre.length : Nat) : Int) k (some (.int i)) st') ⟨rfl, some (.int i), ?_⟩⟩
    rw [Nat.pow_succ, Int.natCast_mul]; rfl
  · rintro env st' ⟨rfl, y, rfl⟩
    rw [List.length_range]; exact ⟨y, rfl⟩
theorem pow_core (st : Sto) (k p : Int) (R : List D) (y : Option D) (hr : rangeD 0 k 1 = some R) (hw : forD (.name 3) (evSs g_power l_power1) R [some (.int 2), some (.int k), some (.int 1), none] st = .nx [some (.int 2), some (.int k), some (.int p), y] st) : F_power.sem [.int 2, .int k] st = .ok (.int p) st := by
  rw [ev_power]
  simp [b_power, hr, hw]
theorem sem_power (st : Sto) (n : Nat) (hn : n < 2 ^ 60) : F_power.sem [.int 2, .int n] st = .ok (.int ((2 ^ n : Nat) : Int)) st := by
  obtain ⟨y, hw⟩ := pow_loop st n (.int n) none
  exact pow_core st n _ _ y (rangeD_n n (by omega)) hw
theorem figof_core (st : Sto) (t b k p d : Int) (hp : F_power.sem [.int 2, .int k] st = .ok (.int p) st) (hb : 0 < b) (hb2 : b < 2 ^ 60) (g1 : ∀ z : D, guardO (mulOK t p) z = some z) (hd : (t * p / b) % 2 = d) : F_figure_of.sem [fr (t, b), .int k] st = .ok (.int d) st := by
  have gd : ∀ z : D, guardO (divOK b) z = some z := fun z => gdiv hb (by omega)
  rw [ev_figure_of]
  simp [b_figure_of, bindTg_fr, hp, g1, gd, fdiv_nn (a := t * p) (b := b) (by omega), fmod_nn (a := t * p / b) (b := 2) (by decide), hd]
theorem restof_core (st : Sto) (t b k p x : Int) (q : Int × Int) (hp : F_power.sem [.int 2, .int k] st = .ok (.int p) st) (hb : 0 < b) (g1 : ∀ z : D, guardO (mulOK t p) z = some z) (hx : t * p % b = x) (hl : F_lowest.sem [.int x, .int b] st = .ok (fr q) st) : F_rest_of.sem [fr (t, b), .int k] st = .ok (fr q) st := by
  have hb0 : b ≠ 0 := by omega
  rw [ev_rest_of]
  simp [b_rest_of, bindTg_fr, hp, g1, fmod_nn (a := t * p) (b := b) (by omega), hx, hl, hb0]
theorem Kt_even (b t k : Nat) : Kt b 2 t k % 2 = 0 := by
  cases k with
  | zero => rfl
  | succ k => show ((Kt b 2 t k + dig b 2 t k) * 2) % 2 = 0; omega
theorem tp_split (b t k : Nat) : t * 2 ^ k = b * (Kt b 2 t k + dig b 2 t k) + rst b t k := by
  have h1 := Kt_eq (b := b) (m := 2) (t := t) k
  have h2 := orb_split b t k
  rw [h1, Nat.mul_add, h2, Nat.add_assoc]
theorem tp_div {b : Nat} (hb : 0 < b) (t k : Nat) : t * 2 ^ k / b = Kt b 2 t k + dig b 2 t k := by
  rw [tp_split, Nat.mul_add_div hb, Nat.div_eq_of_lt (rst_lt hb t k)]; rfl
theorem tp_mod {b : Nat} (hb : 0 < b) (t k : Nat) : t * 2 ^ k % b = rst b t k := by
  rw [tp_split, Nat.mul_add_mod, Nat.mod_eq_of_lt (rst_lt hb t k)]
theorem sem_figure_of (st : Sto) {b t : Nat} (hb : 0 < b) (hb2 : b ≤ 200) (ht : t ≤ b) (k : Nat) (hk : k < 2 ^ 60) : F_figure_of.sem [fr ((t : Int), (b : Int)), .int k] st = .ok (.int (dig b 2 t k : Nat)) st := by
  refine figof_core st t b k _ _ (sem_power st k hk) (by omega) (by omega) (fun z => guardO_true (mulOK_l (by omega) (by omega))) ?_
  rw [← Int.natCast_mul, ← Int.natCast_ediv, tp_div hb]
  have h1 := Kt_even b t k
  have h2 := dig_lt hb (Nat.le_refl 2) ht k
  omega
theorem sem_rest_of (st : Sto) {b : Nat} (hb : 0 < b) (hb2 : b ≤ 200) (t : Nat) (ht : t ≤ 200) (k : Nat) (hk : k < 2 ^ 60) : F_rest_of.sem [fr ((t : Int), (b : Int)), .int k] st = .ok (fr (low (rst b t k : Nat) b)) st := by
  refine restof_core st t b k _ (rst b t k : Nat) _ (sem_power st k hk) (by omega) (fun z => guardO_true (mulOK_l (by omega) (by omega))) ?_ (sem_lowest st (by omega) (small_BIG (by omega)))
  rw [← Int.natCast_mul, ← Int.natCast_emod, tp_mod hb]
theorem sem_product (st : Sto) (p q : Int × Int) (h1 : 0 < p.2) (h2 : 0 < q.2) (g1 : ∀ z : D, guardO (mulOK p.1 q.1) z = some z) (g2 : ∀ z : D, guardO (mulOK p.2 q.2) z = some z) (hB : p.2 * q.2 < BIG) : F_product.sem [fr p, fr q] st = .ok (fr (timesF p q)) st := by
  have hl := sem_lowest (a := p.1 * q.1) (b := p.2 * q.2) st (Int.mul_pos h1 h2) hB
  rw [ev_product]
  simp [b_product, g1, g2, hl, timesF]
theorem sem_whole (st : Sto) (i : Int) : F_whole.sem [.int i] st = .ok (fr (i, 1)) st := by
  have z2 : (2 : Nat) ≤ sizeLine := by decide
  rw [ev_whole]
  simp [b_whole, z2]
theorem sem_is_less (st : Sto) (p q : Int × Int) (g1 : ∀ z : D, guardO (mulOK p.1 q.2) z = some z) (g2 : ∀ z : D, guardO (mulOK q.1 p.2) z = some z) : F_is_less.sem [fr p, fr q] st = .ok (.bl (decide (p.1 * q.2 < q.1 * p.2))) st := by
  rw [ev_is_less]
  simp [b_is_less, g1, g2]
/-! ### rests as numbers -/
theorem low_scale {a b g : Int} (hb : 0 < b) (hg : 0 < g) : low (a * g) (b * g) = low a b := by
  refine low_val_eq (Int.mul_pos hb hg) hb ?_
  have h1 := cast_ne hb
  have h2 := cast_ne hg
  rw [Rat.intCast_mul, Rat.intCast_mul]
  grind
theorem low_inj {a c b : Nat} (hb : 0 < b) (h : low (a : Int) (b : Int) = low (c : Int) (b : Int)) : a = c := by
  obtain ⟨e1, e2⟩ := low_mul (a := (a : Int)) (b := (b : Int)) (by omega)
  obtain ⟨e3, e4⟩ := low_mul (a := (c : Int)) (b := (b : Int)) (by omega)
  have hp := (low_lw (a := (c : Int)) (b := (b : Int)) (by omega)).1
  rw [h] at e1 e2
  have : ((Nat.gcd (a : Int).natAbs (b : Int).natAbs : Nat) : Int) = ((Nat.gcd (c : Int).natAbs (b : Int).natAbs : Nat) : Int) := Int.eq_of_mul_eq_mul_left (by omega) (e2.trans e4.symm)
  rw [this] at e1
  have := e1.symm.trans e3
  omega
def kR (b r : Nat) : NestedKey := kPr (low (r : Int) (b : Int)).1 (low (r : Int) (b : Int)).2
theorem kR_inj {b r s : Nat} (hb : 0 < b) (h : kR b r = kR b s) : r = s := by
  obtain ⟨h1, h2⟩ := kPr_inj.mp h
  exact low_inj hb (Prod.ext h1 h2)
/-- what the loop makes of a rest -/
theorem rest_step {b r : Nat} (hb : 0 < b) (hb2 : b ≤ 200) (hr : r < b) (st : Sto) : ∃ tw : Int × Int,
    F_product.sem [fr (low r b), fr (2, 1)] st = .ok (fr tw) st ∧ F_is_less.sem [fr tw, fr (1, 1)] st = .ok (.bl (decide (2 * r < b))) st ∧ F_rest_of.sem [fr (low r b), .int 1] st = .ok (fr (low (2 * r % b : Nat) b)) st := by
  have hb' : (0 : Int) < (b : Int) := by omega
  obtain ⟨e1, e2⟩ := low_mul (a := (r : Int)) (b := (b : Int)) hb'
  have l0 := low_lw (a := (r : Int)) (b := (b : Int)) hb'
  have l1 := low_le (a := (r : Int)) (b := (b : Int)) hb'
  have l2 := low_top (a := (r : Int)) (b := (b : Int)) (by omega) hb'
  have hg := gcd_pos_r (a := (r : Int)) (b := (b : Int)) hb'
  generalize hq : low (r : Int) (b : Int) = q at *
  generalize Nat.gcd (r : Int).natAbs (b : Int).natAbs = g at *
  obtain ⟨q1, q2⟩ := q
  simp only at *
  obtain ⟨t', rfl⟩ : ∃ t' : Nat, q1 = (t' : Int) := ⟨q1.toNat, by omega⟩
  obtain ⟨b', rfl⟩ : ∃ b' : Nat, q2 = (b' : Int) := ⟨q2.toNat, by have := l0.1; simp only at this; omega⟩
  have hb'' : 0 < b' := by have := l0.1; simp only at this; omega
  have e1 : t' * g = r := by have := e1; rw [← Int.natCast_mul] at this; omega
  have e2 : b' * g = b := by have := e2; rw [← Int.natCast_mul] at this; omega
  have hlt : 2 * t' < b' ↔ 2 * r < b := by
    rw [← e1, ← e2, ← Nat.mul_assoc]
    exact (Nat.mul_lt_mul_right hg).symm
  have hpr := sem_product st ((t' : Int), (b' : Int)) (2, 1) (by simp only; omega) (by decide) (fun z => guardO_true (mulOK_r (by decide) (by decide))) (fun z => guardO_true (mulOK_r (by decide) (by decide))) (by simp only; exact small_BIG (by omega))
  have htw : (0 : Int) < (b' : Int) * 1 := by omega
  obtain ⟨f1, f2⟩ := low_mul (a := (t' : Int) * 2) (b := (b' : Int) * 1) htw
  have m0 := low_lw (a := (t' : Int) * 2) (b := (b' : Int) * 1) htw
  have m1 := low_le (a := (t' : Int) * 2) (b := (b' : Int) * 1) htw
  have m2 := low_top (a := (t' : Int) * 2) (b := (b' : Int) * 1) (by omega) htw
  have hg2 := gcd_pos_r (a := (t' : Int) * 2) (b := (b' : Int) * 1) htw
  refine ⟨_, hpr, ?_, ?_⟩
  · show F_is_less.sem [fr (low ((t' : Int) * 2) ((b' : Int) * 1)), fr (1, 1)] st = _
    generalize low ((t' : Int) * 2) ((b' : Int) * 1) = u at *
    generalize Nat.gcd ((t' : Int) * 2).natAbs ((b' : Int) * 1).natAbs = g2 at *
    have hl := sem_is_less st u (1, 1) (fun z => guardO_true (mulOK_r (by decide) (by decide))) (fun z => guardO_true (mulOK_l (by decide) (by decide)))
    refine hl.trans (congrArg (fun z => R.ok (D.bl z) st) (decide_eq_decide.mpr ?_))
    rw [← hlt]
    simp only [Int.mul_one, Int.one_mul]
    constructor
    · intro h
      have := Int.mul_lt_mul_of_pos_right h (show (0 : Int) < (g2 : Int) by omega)
      omega
    · intro h
      refine Int.lt_of_mul_lt_mul_right (a := (g2 : Int)) ?_ (by omega)
      omega
  · have h := sem_rest_of st hb'' (by omega) t' (by omega) 1 (by decide)
    refine h.trans (congrArg (fun z => R.ok (fr z) st) ?_)
    have e3 : rst b' t' 1 * g = 2 * r % b := by
      rw [rst_s, ← e1, ← e2]
      show 2 * (t' % b') % b' * g = _
      rw [← Nat.mul_assoc, Nat.mul_mod_mul_right, Nat.mod_eq_of_lt (show t' < b' from ?_)]
      refine Nat.lt_of_mul_lt_mul_right (a := g) ?_
      omega
    rw [← e3, ← e2, Int.natCast_mul, Int.natCast_mul, low_scale (by omega) (by omega)]
/-! ### the shortest -/
theorem cutL_init {α : Type} (xs : List α) : cutL xs none (some (-1)) = xs.take (xs.length - 1) := by
  unfold cutL HT.sIx
  simp only
  rw [if_pos (by omega)]
  rw [List.drop_zero]
  by_cases h : xs.length = 0
  · have : xs = [] := List.length_eq_zero_iff.mp h
    subst this
    simp
  · congr 1
    omega
theorem st_shA (A B : List D) (y : Option D) (d1 d2 : Int) (st : Sto) (h1 : ixD A (-1) = some (.int d1)) (h2 : ixD B (-1) = some (.int d2)) (h : d1 ≠ d2) : evSs g_shortest l_shortest1 [some (.tup A), some (.tup B), y] st = .bk [some (.tup A), some (.tup B), y] st := by
  simp [l_shortest1, h1, h2, h]
theorem st_shB (A B A' B1 B2 B' : List D) (y : Option D) (d1 : Int) (st : Sto) (h1 : ixD A (-1) = some (.int d1)) (h2 : ixD B (-1) = some (.int d1)) (c1 : cutL A none (some (-1)) = A') (c2 : cutL B (some (-1)) none = B1) (c3 : cutL B none (some (-1)) = B2) (hb : binD .Add (.tup B1) (.tup B2) = some (.tup B')) : evSs g_shortest l_shortest1 [some (.tup A), some (.tup B), y] st = .nx [some (.tup A'), some (.tup B'), y] st := by
  simp [l_shortest1, h1, h2, c1, c2, c3, hb, -binD_addt]
theorem short_core (st : Sto) (A B A' B' R : List D) (len : Int) (y : Option D) (hl : (A.length : Int) = len) (hr : rangeD 0 len 1 = some R) (hw : forD (.name 2) (evSs g_shortest l_shortest1) R [some (.tup A), some (.tup B), none] st = .nx [some (.tup A'), some (.tup B'), y] st) : F_shortest.sem [.tup A, .tup B] st = .ok (.tup [.tup A', .tup B']) st := by
  have z2 : (2 : Nat) ≤ sizeLine := by decide
  have hlen' : ∀ st, biD st .len [.tup A] = some (.int len) := fun st => by rw [biD_lent, hl]
  rw [ev_shortest]
  simp [b_shortest, -biD_lent, hlen', hr, hw, z2]
theorem sem_shortA (st : Sto) {b t N j : Nat} (o : Ro b t N j) (hb2 : b ≤ 200) (h : dig b 2 t j ≠ dig b 2 t N) : F_shortest.sem [.tup (nl (digL b 2 t 0 (j + 1))), .tup (nl (digL b 2 t (j + 1) (N - j)))] st = .ok (figD b 2 t (N + 1) (j + 1)) st := by
  have hj := o.hj
  have hN := o.hN
  obtain ⟨R, hR⟩ := range_head j
  obtain ⟨p, rfl⟩ : ∃ p, N = j + (p + 1) := ⟨N - j - 1, by omega⟩
  have i1 : ixD (nl (digL b 2 t 0 (j + 1))) (-1) = some (.int (dig b 2 t j : Nat)) := by rw [digL_snoc, nl_snoc, Nat.zero_add]; exact ixD_last _ _
  have i2 : ixD (nl (digL b 2 t (j + 1) (j + (p + 1) - j))) (-1) = some (.int (dig b 2 t (j + (p + 1)) : Nat)) := by
    rw [show j + (p + 1) - j = p + 1 by omega, digL_snoc, nl_snoc, show j + 1 + p = j + (p + 1) by omega]; exact ixD_last _ _
  have hw := forD_bk (tg := .name 2) (xs := R) (bindTg_name 2 (D.int 0) [some (.tup (nl (digL b 2 t 0 (j + 1)))), some (.tup (nl (digL b 2 t (j + 1) (j + (p + 1) - j)))), none]) (st_shA _ _ (some (.int 0)) _ _ st i1 i2 (by omega))
  have := short_core st _ _ _ _ _ ((j + 1 : Nat) : Int) _ (by rw [nl_length, digL_len]) (by rw [rangeD_n (j + 1) (by omega), hR]) hw
  rw [this]
  unfold figD
  rw [show j + (p + 1) + 1 - (j + 1) = j + (p + 1) - j by omega]
theorem sem_shortB (st : Sto) {b t N : Nat} (o : Ro b t N 0) (hb2 : b ≤ 200) (h : dig b 2 t 0 = dig b 2 t N) : F_shortest.sem [.tup (nl (digL b 2 t 0 1)), .tup (nl (digL b 2 t 1 N))] st = .ok (figD b 2 t N 0) st := by
  have hj := o.hj
  have hN := o.hN
  obtain ⟨p, rfl⟩ : ∃ p, N = p + 1 := ⟨N - 1, by omega⟩
  have i1 : ixD (nl (digL b 2 t 0 1)) (-1) = some (.int (dig b 2 t 0 : Nat)) := by rw [show (1 : Nat) = 0 + 1 from rfl, digL_snoc, nl_snoc]; exact ixD_last _ _
  have i2 : ixD (nl (digL b 2 t 1 (p + 1))) (-1) = some (.int (dig b 2 t 0 : Nat)) := by
    rw [digL_snoc, nl_snoc, h, show 1 + p = p + 1 by omega]; exact ixD_last _ _
  have hd1 : digL b 2 t 0 (p + 1) = [dig b 2 t 0] ++ digL b 2 t 1 p := by rw [Nat.add_comm p 1, digL_app]; rfl
  have hw := forD_nx (tg := .name 2) (xs := []) (bindTg_name 2 (D.int 0) [some (.tup (nl (digL b 2 t 0 1))), some (.tup (nl (digL b 2 t 1 (p + 1)))), none])
    (st_shB _ _ [] (nl [dig b 2 t 0]) (nl (digL b 2 t 1 p)) (nl (digL b 2 t 0 (p + 1))) (some (.int 0)) _ st i1 i2
      (by rw [cutL_init]; rfl)
      (by rw [cutL_last, nl_length, digL_len, nl_drop, digL_drop (by omega), show p + 1 - (p + 1 - 1) = 1 by omega, show 1 + (p + 1 - 1) = p + 1 by omega]; unfold digL; rw [h]; rfl)
      (by rw [cutL_init, nl_length, digL_len, nl_take, digL_take (by omega)]; rfl)
      (by rw [binD_addt, guardO_true (by simp [nl_length, digL_len]; unfold sizeLine; omega), ← nl_append, hd1]))
  rw [forD_nil] at hw
  have := short_core st _ _ _ _ _ ((1 : Nat) : Int) _ (by rw [nl_length, digL_len]) (by rw [rangeD_n 1 (by decide)]; rfl) hw
  exact this
/-! ### the figures -/
theorem keyTO_fr (q : Int × Int) : keyTO (fr q) = some (kPr q.1 q.2) := rfl
theorem st_fig (a tn c e : Option D) (fs vs : List D) (ks : List NestedKey) (q q' tw : Int × Int) (fl d : Int) (bb : Bool) (st : Sto) (hv : valP ks vs (kPr q.1 q.2) = none) (hfl : ∀ st, biD st .len [.lst fs] = some (.int fl)) (hk : ks.length < sizeLine) (hf : fs.length < sizeLine)
    (p1 : F_product.sem [fr q, fr (2, 1)] st = .ok (fr tw) st) (p2 : F_is_less.sem [fr tw, fr (1, 1)] st = .ok (.bl bb) st) (hd : ∀ st, biD st .int [.bl (!bb)] = some (.int d)) (p3 : F_rest_of.sem [fr q, .int 1] st = .ok (fr q') st) :
    evSs g_figures_of l_figures_of1 [a, tn, c, some (.lst fs), some (.dT ks vs), some (fr q), e] st = .nx [a, tn, c, some (.lst (fs ++ [.int d])), some (.dT (ks ++ [kPr q.1 q.2]) (vs ++ [.int fl])), some (fr q'), some (fr tw)] st := by
  have e1 : (g_figures_of.cons[1]?).map (·.2) = some (fr (1, 1)) := rfl
  simp [l_figures_of1, keyTO_fr, hv, -biD_lenl, -biD_intb, hfl, hk, hf, p1, p2, hd, p3, e1, sem_whole, isLs, chg, noL]
theorem st_figB (a tn c e : Option D) (fs vs : List D) (ks : List NestedKey) (q : Int × Int) (v : D) (st : Sto) (hv : valP ks vs (kPr q.1 q.2) = some v) :
    evSs g_figures_of l_figures_of1 [a, tn, c, some (.lst fs), some (.dT ks vs), some (fr q), e] st = .bk [a, tn, c, some (.lst fs), some (.dT ks vs), some (fr q), e] st := by
  simp [l_figures_of1, keyTO_fr, hv]
theorem met_none {b t N j i : Nat} (o : Ro b t N j) (hi : i < N) : valP ((rstL b t i).map (kR b)) (nl (List.range' 1 i)) (kR b (rst b t i)) = none := valP_none fun z => by
  obtain ⟨y, hy, e⟩ := List.mem_map.mp z
  exact o.notin hi (kR_inj o.hb e ▸ hy)
theorem met_some {b t N j : Nat} (o : Ro b t N j) : valP ((rstL b t N).map (kR b)) (nl (List.range' 1 N)) (kR b (rst b t N)) = some (.int ((j + 1 : Nat) : Int)) := by
  refine valP_at (j := j) (by rw [List.getElem?_map, o.first.1]; rfl) (fun i hi h => ?_) ?_
  · rw [List.getElem?_map] at h
    obtain ⟨y, hy, e⟩ := Option.map_eq_some_iff.mp h
    exact o.first.2 i hi (by rw [hy, kR_inj o.hb e])
  · unfold nl
    rw [List.getElem?_map, List.getElem?_range' o.hj]
    show some (vI (1 + 1 * j)) = _
    rw [show 1 + 1 * j = j + 1 by omega]; rfl
theorem fig_loop (st : Sto) {b t N j : Nat} (o : Ro b t N j) (hb2 : b ≤ 200) (a y1 c e1 : Option D) :
    ∃ y e, forD (.name 1) (evSs g_figures_of l_figures_of1) ((List.range (b + 1)).map fun (k : Nat) => D.int (k : Int)) [a, y1, c, some (.lst (nl (digL b 2 t 0 1))), some (.dT [] []), some (fr (low (rst b t 0 : Nat) b)), e1] st
      = .nx [a, y, c, some (.lst (nl (digL b 2 t 0 (N + 1)))), some (.dT ((rstL b t N).map (kR b)) (nl (List.range' 1 N))), some (fr (low (rst b t N : Nat) b)), e] st := by
  have hb0 := o.hb
  have hN := o.hN
  refine forD_map (P := fun z => ∃ y e, z = .nx [a, y, c, some (.lst (nl (digL b 2 t 0 (N + 1)))), some (.dT ((rstL b t N).map (kR b)) (nl (List.range' 1 N))), some (fr (low (rst b t N : Nat) b)), e] st)
    (fun pre env st' => st' = st ∧ pre.length ≤ N ∧ ∃ y e, env = [a, y, c, some (.lst (nl (digL b 2 t 0 (pre.length + 1)))), some (.dT ((rstL b t pre.length).map (kR b)) (nl (List.range' 1 pre.length))), some (fr (low (rst b t pre.length : Nat) b)), e]) ⟨rfl, Nat.zero_le _, y1, e1, rfl⟩ ?_ ?_
  · rintro pre i post env st' e ⟨rfl, hp, y, z, rfl⟩
    obtain ⟨rfl, hpre⟩ := pre_range e
    rw [List.length_append, List.length_singleton]
    generalize pre.length = i at *
    by_cases h : i < N
    · obtain ⟨tw, p1, p2, p3⟩ := rest_step hb0 hb2 (rst_lt hb0 t i) st'
      have hdig : (if !decide (2 * rst b t i < b) then (1 : Int) else 0) = (dig b 2 t (i + 1) : Nat) := by
        rw [dig_s]
        have hr := rst_lt hb0 t i
        by_cases h2 : 2 * rst b t i < b
        · rw [Nat.div_eq_of_lt h2]; simp [h2]
        · have : 2 * rst b t i / b = 1 := by
            rw [Nat.div_eq_iff hb0]; omega
          rw [this]; simp [h2]
      have core := st_fig a (some (.int i)) c z (nl (digL b 2 t 0 (i + 1))) (nl (List.range' 1 i)) ((rstL b t i).map (kR b)) (low (rst b t i : Nat) b) _ tw ((i + 1 : Nat) : Int) (dig b 2 t (i + 1) : Nat) _ st' (met_none o h) (fun st => by rw [biD_lenl, nl_length, digL_len]) (by rw [List.length_map, rstL_len]; unfold sizeLine; omega) (by rw [nl_length, digL_len]; unfold sizeLine; omega) p1 p2 (fun st => by rw [biD_intb, hdig]) p3
      refine ⟨_, bindTg_name _ _ _, stepN _ rfl core ⟨rfl, by omega, some (.int i), some (fr tw), ?_⟩⟩
      rw [digL_snoc b 2 t 0 (i + 1), nl_snoc, Nat.zero_add, rstL_succ, List.map_append, rst_s, List.range'_concat, nl_snoc, show 1 + 1 * i = i + 1 by omega]
      rfl
    · obtain rfl : i = N := by omega
      exact ⟨_, bindTg_name _ _ _, stepB _ rfl (st_figB a (some (.int i)) c z _ _ _ _ _ st' (met_some o)) ⟨_, _, rfl⟩⟩
  · rintro env st' ⟨rfl, hp, y, z, rfl⟩
    rw [List.length_range] at hp
    omega
theorem figs_1 (st : Sto) (d0 : Int) (p q0 : Int × Int) (p1 : F_figure_of.sem [fr p, .int 0] st = .ok (.int d0) st) (p2 : F_rest_of.sem [fr p, .int 0] st = .ok (fr q0) st) :
    evS g_figures_of (.par3 3 4 5 .own .own .pln (.lst (.cons (.call 25 (.cons (.var 0) (.cons (.int 0) .nil)) .nil []) .nil)) (.dnew true) (.call 23 (.cons (.var 0) (.cons (.int 0) .nil)) .nil [])) [some (fr p), none, none, none, none, none, none] st = .nx [some (fr p), none, none, some (.lst [.int d0]), some (.dT [] []), some (fr q0), none] st := by
  have z1 : (1 : Nat) ≤ sizeLine := by decide
  simp [p1, p2, z1]
theorem figs_2 (st : Sto) (p : Int × Int) (b one : Int) (R : List D) (x1 x2 x3 x4 x5 x6 : Option D) (hp : p.2 = b) (hr : rangeD 0 (b + one) 1 = some R) : evIt g_figures_of (.range1 (.bin .Add (.idx (.var 0) (.int 1)) (.int one))) [some (fr p), x1, x2, x3, x4, x5, x6] st = .ok R st := by
  simp [hp, hr]
theorem figs_3 (st : Sto) (q : Int × Int) (ks : List NestedKey) (vs : List D) (at_ : Int) (x0 x1 x2 x3 x6 : Option D) (hv : valP ks vs (kPr q.1 q.2) = some (.int at_)) : evS g_figures_of (.set 2 .pln (.idx (.var 4) (.var 5))) [x0, x1, x2, x3, some (.dT ks vs), some (fr q), x6] st = .nx [x0, x1, some (.int at_), x3, some (.dT ks vs), some (fr q), x6] st := by
  simp [keyTO_fr, hv]
theorem figs_4a (st : Sto) (fs A : List D) (at_ : Int) (x0 x1 x4 x5 x6 : Option D) (c1 : cutL fs none (some at_) = A) :
   evE g_figures_of (.bi .tuple (.cons (.slice (.var 3) .no (.yes (.var 2))) .nil)) [x0, x1, some (.int at_), some (.lst fs), x4, x5, x6] st = .ok (.tup A) st := by
  simp [c1]
theorem figs_4b (st : Sto) (fs A : List D) (at_ : Int) (x0 x1 x4 x5 x6 : Option D) (c1 : cutL fs (some at_) none = A) :
   evE g_figures_of (.bi .tuple (.cons (.slice (.var 3) (.yes (.var 2)) .no) .nil)) [x0, x1, some (.int at_), some (.lst fs), x4, x5, x6] st = .ok (.tup A) st := by
  simp [c1]
theorem figs_4c (st : Sto) (A B : D) (e1 e2 : E) (env : WT.Env) (d : D) (h1 : evE g_figures_of e1 env st = .ok A st) (h2 : evE g_figures_of e2 env st = .ok B st) (hs : F_shortest.sem [A, B] st = .ok d st) :
   evE g_figures_of (.call 21 (.cons e1 (.cons e2 .nil)) .nil []) env st = .ok d st := by
  simp [h1, h2, hs]
theorem ret_fin {g : GE} {e : E} {env : WT.Env} {st st' : Sto} {d : D} (h : evE g e env st = .ok d st') : (evSs g (.cons (.ret e) .nil) env st).fin = .ok d st' := by
  rw [evSs_cons, evS_ret, h]; rfl
def figs_t2 : S := (.for_ (.name 1) (.range1 (.bin .Add (.idx (.var 0) (.int 1)) (.int 1))) l_figures_of1)
def figs_t1 : S := (.par3 3 4 5 .own .own .pln (.lst (.cons (.call 25 (.cons (.var 0) (.cons (.int 0) .nil)) .nil []) .nil)) (.dnew true) (.call 23 (.cons (.var 0) (.cons (.int 0) .nil)) .nil []))
def figs_t3 : S := (.set 2 .pln (.idx (.var 4) (.var 5)))
def figs_t4 : Ss := (.cons (.ret (.call 21 (.cons (.bi .tuple (.cons (.slice (.var 3) .no (.yes (.var 2))) .nil)) (.cons (.bi .tuple (.cons (.slice (.var 3) (.yes (.var 2)) .no) .nil)) .nil)) .nil [])) .nil)
theorem figs_text : b_figures_of = .cons figs_t1 (.cons figs_t2 (.cons figs_t3 figs_t4)) := rfl
theorem figs_22 (st : Sto) (p : Int × Int) (b : Int) (R : List D) (e : WT.Env) (x1 x2 x3 x4 x5 x6 : Option D) (hp : p.2 = b) (hr : rangeD 0 (b + 1) 1 = some R)
    (hw : forD (.name 1) (evSs g_figures_of l_figures_of1) R [some (fr p), x1, x2, x3, x4, x5, x6] st = .nx e st) : evS g_figures_of figs_t2 [some (fr p), x1, x2, x3, x4, x5, x6] st = .nx e st := by
  rw [figs_t2, evS_for, figs_2 st p b 1 R x1 x2 x3 x4 x5 x6 hp hr]
  exact hw
theorem figs_all (st : Sto) (p : Int × Int) (e1 e2 e3 : WT.Env) (d : D) (h1 : evS g_figures_of figs_t1 [some (fr p), none, none, none, none, none, none] st = .nx e1 st) (h2 : evS g_figures_of figs_t2 e1 st = .nx e2 st) (h3 : evS g_figures_of figs_t3 e2 st = .nx e3 st) (h4 : (evSs g_figures_of figs_t4 e3 st).fin = .ok d st) : F_figures_of.sem [fr p] st = .ok d st := by
  rw [ev_figures_of, figs_text]
  show (evSs g_figures_of (.cons figs_t1 (.cons figs_t2 (.cons figs_t3 figs_t4))) [some (fr p), none, none, none, none, none, none] st).fin = _
  rw [seq_nx' h1, seq_nx' h2, seq_nx' h3]
  exact h4
theorem figs_core (st : Sto) (t b d0 at_ : Int) (q0 q : Int × Int) (R fs vs A B : List D) (ks : List NestedKey) (y y2 : Option D) (d : D) (p1 : F_figure_of.sem [fr (t, b), .int 0] st = .ok (.int d0) st) (p2 : F_rest_of.sem [fr (t, b), .int 0] st = .ok (fr q0) st) (hr : rangeD 0 (b + 1) 1 = some R)
    (hw : forD (.name 1) (evSs g_figures_of l_figures_of1) R [some (fr (t, b)), none, none, some (.lst [.int d0]), some (.dT [] []), some (fr q0), none] st = .nx [some (fr (t, b)), y, none, some (.lst fs), some (.dT ks vs), some (fr q), y2] st)
    (hv : valP ks vs (kPr q.1 q.2) = some (.int at_)) (c1 : cutL fs none (some at_) = A) (c2 : cutL fs (some at_) none = B) (hs : F_shortest.sem [.tup A, .tup B] st = .ok d st) : F_figures_of.sem [fr (t, b)] st = .ok d st :=
  figs_all st (t, b) _ _ _ d (figs_1 st d0 (t, b) q0 p1 p2) (figs_22 st (t, b) b R _ _ _ _ _ _ _ rfl hr hw) (figs_3 st q ks vs at_ _ _ _ _ _ hv) (ret_fin (figs_4c st (.tup A) (.tup B) _ _ _ d (figs_4a st fs A at_ _ _ _ _ _ c1) (figs_4b st fs B at_ _ _ _ _ _ c2) hs))
theorem figs_of (st : Sto) {b t N j : Nat} (o : Ro b t N j) (hb2 : b ≤ 200) (ht : t ≤ b) (d : D) (hs : F_shortest.sem [.tup (nl (digL b 2 t 0 (j + 1))), .tup (nl (digL b 2 t (j + 1) (N - j)))] st = .ok d st) : F_figures_of.sem [fr ((t : Int), (b : Int))] st = .ok d st := by
  have hb := o.hb
  have hj := o.hj
  obtain ⟨y, e, hw⟩ := fig_loop st o hb2 (some (fr ((t : Int), (b : Int)))) none none none
  refine figs_core st t b (dig b 2 t 0 : Nat) ((j + 1 : Nat) : Int) _ _ _ _ _ _ _ _ y e d (sem_figure_of st hb hb2 ht 0 (by decide)) (sem_rest_of st hb hb2 t (by omega) 0 (by decide)) (rangeD_n (b + 1) (by omega)) hw (met_some o) ?_ ?_ hs
  · rw [WT.cutL_to, nl_take, digL_take (by omega)]
  · rw [WT.cutL_from, nl_drop, digL_drop (by omega), Nat.zero_add, show N + 1 - (j + 1) = N - j by omega]
/-! ### sums -/
theorem pow2_BIG {n : Nat} (h : n ≤ 8000) : ((2 ^ n : Nat) : Int) < BIG := by
  unfold BIG
  exact Int.ofNat_lt.mpr (Nat.pow_lt_pow_right (by omega) (by omega))
theorem pow2_pos (n : Nat) : (0 : Int) < ((2 ^ n : Nat) : Int) := Int.natCast_pos.mpr (Nat.pow_pos (by omega))
theorem sem_sum_of_two (st : Sto) (p q : Int × Int) (h1 : 0 < p.2) (h2 : 0 < q.2) (g1 : ∀ z : D, guardO (mulOK p.1 q.2) z = some z) (g2 : ∀ z : D, guardO (mulOK q.1 p.2) z = some z) (g3 : ∀ z : D, guardO (mulOK p.2 q.2) z = some z) (hB : p.2 * q.2 < BIG) : F_sum_of_two.sem [fr p, fr q] st = .ok (fr (plusF p q)) st := by
  have hl := sem_lowest (a := p.1 * q.2 + q.1 * p.2) (b := p.2 * q.2) st (Int.mul_pos h1 h2) hB
  rw [ev_sum_of_two]
  simp [b_sum_of_two, g1, g2, g3, hl, plusF]
theorem st_sall (a : Option D) (p q r : Int × Int) (st : Sto) (h : F_sum_of_two.sem [fr p, fr q] st = .ok (fr r) st) : evSs g_sum_of_all l_sum_of_all1 [a, some (fr p), some (fr q)] st = .nx [a, some (fr r), some (fr q)] st := by
  simp [l_sum_of_all1, h]
theorem sall_core (st : Sto) (xs : List D) (r : D) (y : Option D) (hw : forD (.name 2) (evSs g_sum_of_all l_sum_of_all1) xs [some (.lst xs), some (fr (0, 1)), none] st = .nx [some (.lst xs), some r, y] st) : F_sum_of_all.sem [.lst xs] st = .ok r st := by
  have e1 : (g_sum_of_all.cons[0]?).map (·.2) = some (fr (0, 1)) := rfl
  rw [ev_sum_of_all]
  simp [b_sum_of_all, e1, hw]
theorem sem_sum_of_all (st : Sto) (n : Nat) (f T : Nat → Int × Int) (h0 : T 0 = (0, 1)) (hs : ∀ i < n, F_sum_of_two.sem [fr (T i), fr (f i)] st = .ok (fr (T (i + 1))) st) : F_sum_of_all.sem [.lst ((List.range n).map fun i => fr (f i))] st = .ok (fr (T n)) st := by
  obtain ⟨y, hw⟩ : ∃ y, forD (.name 2) (evSs g_sum_of_all l_sum_of_all1) ((List.range n).map fun i => fr (f i)) [some (.lst ((List.range n).map fun i => fr (f i))), some (fr (0, 1)), none] st = .nx [some (.lst ((List.range n).map fun i => fr (f i))), some (fr (T n)), y] st := by
    generalize D.lst ((List.range n).map fun i => fr (f i)) = a
    refine forD_map (P := fun z => ∃ y, z = .nx [some a, some (fr (T n)), y] st) (fun pre env st' => st' = st ∧ ∃ y, env = [some a, some (fr (T pre.length)), y]) ⟨rfl, none, by rw [List.length_nil, h0]⟩ ?_ ?_
    · rintro pre i post env st' e ⟨rfl, y, rfl⟩
      obtain ⟨rfl, hpre⟩ := pre_range e
      rw [List.length_append, List.length_singleton]
      exact ⟨_, bindTg_name _ _ _, stepN _ rfl (st_sall (some a) _ _ _ st' (hs _ hpre)) ⟨rfl, _, rfl⟩⟩
    · rintro env st' ⟨rfl, y, rfl⟩
      rw [List.length_range]; exact ⟨y, rfl⟩
  exact sall_core st _ _ y hw
theorem byh_core (st : Sto) (a k p : Int) (q : Int × Int) (hp : F_power.sem [.int 2, .int k] st = .ok (.int p) st) (hl : F_lowest.sem [.int a, .int p] st = .ok (fr q) st) : F_by_halves.sem [fr (a, 1), .int k] st = .ok (fr q) st := by
  have g1 : ∀ z : D, guardO (mulOK 1 p) z = some z := fun z => guardO_true (mulOK_l (by decide) (by decide))
  rw [ev_by_halves]
  simp [b_by_halves, hp, g1, hl]
theorem sem_by_halves (st : Sto) (a : Int) (k : Nat) (hk : k ≤ 8000) : F_by_halves.sem [fr (a, 1), .int k] st = .ok (fr (low a ((2 ^ k : Nat) : Int))) st := byh_core st a k _ _ (sem_power st k (by omega)) (sem_lowest st (pow2_pos k) (pow2_BIG hk))
theorem sof_step (st : Sto) (x : Option D) (begin i d k : Int) (q : Int × Int) (hk : begin + i = k) (h : F_by_halves.sem [fr (d, 1), .int k] st = .ok (fr q) st) : kCb g_sum_of_figures (.tup (.cons (.name 2) (.cons (.name 3) .nil))) false .non e_sum_of_figures1 [x, some (.int begin), none, none] (fr (i, d)) st = .ok (some (fr q)) st := by
  simp [bindTg_fr, e_sum_of_figures1, sem_whole, hk, h]
theorem sof_core (st : Sto) (xs ys zs : List D) (begin : Int) (r : D) (he : enumD xs = zs) (c : compLoop (kCb g_sum_of_figures (.tup (.cons (.name 2) (.cons (.name 3) .nil))) false .non e_sum_of_figures1 [some (.tup xs), some (.int begin), none, none]) zs st = .ok ys st) (hl : ys.length ≤ sizeLine) (hs : F_sum_of_all.sem [.lst ys] st = .ok r st) : F_sum_of_figures.sem [.tup xs, .int begin] st = .ok r st := by
  rw [ev_sum_of_figures]
  simp [b_sum_of_figures, he, c, hl, hs]
theorem enum_digL (b m t j n : Nat) : enumD (nl (digL b m t j n)) = (List.range n).map fun (i : Nat) => fr ((i : Int), ((dig b m t (j + i) : Nat) : Int)) := by
  unfold enumD
  refine List.ext_getElem? fun i => ?_
  rw [List.getElem?_mapIdx, List.getElem?_map]
  by_cases hi : i < n
  · unfold nl
    rw [List.getElem?_map, digL_get hi, List.getElem?_range hi]; rfl
  · rw [List.getElem?_eq_none (by rw [nl_length, digL_len]; omega), List.getElem?_eq_none (by simp; omega)]; rfl
theorem sem_quotient (st : Sto) (p q : Int × Int) (h1 : 0 < p.2) (h2 : 0 < q.1) (g1 : ∀ z : D, guardO (mulOK p.1 q.2) z = some z) (g2 : ∀ z : D, guardO (mulOK p.2 q.1) z = some z) (hB : p.2 * q.1 < BIG) : F_quotient.sem [fr p, fr q] st = .ok (fr (low (p.1 * q.2) (p.2 * q.1))) st := by
  have hl := sem_lowest (a := p.1 * q.2) (b := p.2 * q.1) st (Int.mul_pos h1 h2) hB
  rw [ev_quotient]
  simp [b_quotient, g1, g2, hl]
theorem again_core (st : Sto) (p : Int × Int) (k P : Int) (q r : Int × Int) (hp : F_power.sem [.int 2, .int k] st = .ok (.int P) st) (hl : F_lowest.sem [.int (P - 1), .int P] st = .ok (fr q) st) (hq : F_quotient.sem [fr p, fr q] st = .ok (fr r) st) : F_again_and_again.sem [fr p, .int k] st = .ok (fr r) st := by
  rw [ev_again_and_again]
  simp [b_again_and_again, hp, hl, hq]
/-! ### fractions as rational numbers -/
theorem sum2 (st : Sto) {x y : Rat} (hx : Bd x) (hy : Bd y) : F_sum_of_two.sem [fr (pr x), fr (pr y)] st = .ok (fr (pr (x + y))) st := by
  rw [← plusF_pr]
  exact sem_sum_of_two st _ _ (pr_lw x).1 (pr_lw y).1 (hx.m12 hy) (hy.m12 hx) (hx.m22 hy) (hx.d22 hy)
theorem prod2 (st : Sto) {x y : Rat} (hx : Bd x) (hy : Bd y) : F_product.sem [fr (pr x), fr (pr y)] st = .ok (fr (pr (x * y))) st := by
  rw [← timesF_pr]
  exact sem_product st _ _ (pr_lw x).1 (pr_lw y).1 (hx.m11 hy) (hx.m22 hy) (hx.d22 hy)
theorem quot2 (st : Sto) {x y : Rat} (hx : Bd x) (hy : Bd y) (h : 0 < y) : F_quotient.sem [fr (pr x), fr (pr y)] st = .ok (fr (pr (x / y))) st := by
  rw [← quot_pr h]
  exact sem_quotient st _ _ (pr_lw x).1 (num_pos h) (hx.m12 hy) (hx.m21 hy) (hx.d21 hy (Int.le_of_lt (num_pos h)))
theorem lowest2 (st : Sto) {a b : Int} (hb : 0 < b) (hB : b < BIG) : F_lowest.sem [.int a, .int b] st = .ok (fr (pr ((a : Rat) / (b : Rat)))) st := by
  rw [← low_pr hb]
  exact sem_lowest st hb hB
theorem byh2 (st : Sto) (a k : Nat) (hk : k ≤ 8000) : F_by_halves.sem [fr ((a : Int), 1), .int k] st = .ok (fr (pr (cR a / pw k))) st := by
  rw [sem_by_halves st a k hk, low_pr (pow2_pos k)]; rfl
theorem P1 {p : Nat} : pw p - 1 = cR (2 ^ p - 1) := by
  have h1 : 2 ^ p = (2 ^ p - 1) + 1 := by have : 0 < 2 ^ p := Nat.pow_pos (by omega); omega
  have h2 := congrArg cR h1
  rw [cR_add, cR_1] at h2
  unfold pw
  rw [h2]; grind
theorem again2 (st : Sto) {x : Rat} (hx : Bd x) (p : Nat) (hp : 0 < p) (hp2 : p ≤ 1000) : F_again_and_again.sem [fr (pr x), .int p] st = .ok (fr (pr (x * pw p / (pw p - 1)))) st := by
  have h1 := pw1_pos hp
  have h2 := pw_pos p
  have hl := lowest2 (a := ((2 ^ p : Nat) : Int) - 1) st (pow2_pos p) (pow2_BIG (by omega))
  have e : ((((2 ^ p : Nat) : Int) - 1 : Int) : Rat) = pw p - 1 := by rw [Rat.intCast_sub]; rfl
  rw [e] at hl
  have hy : Bd ((pw p - 1) / pw p) := by
    rw [P1]
    refine (inD_frac (2 ^ p - 1) (e := 2 ^ p) (d := 2 ^ p) (Nat.pow_pos (by omega)) (Nat.dvd_refl _)).bdN (M := 1) (pow2_pos p) ?_ ?_ (by omega) (e := p) (f := 1) (Int.le_refl _) (by decide) (by omega)
    · exact le_div h2 (by rw [Rat.zero_mul]; exact cR_nn _)
    · exact div_le h2 (by rw [cR_1, Rat.one_mul]; exact cR_le (Nat.sub_le _ _))
  have hpos : 0 < (pw p - 1) / pw p := (Rat.lt_div_iff h2).mpr (by rw [Rat.zero_mul]; exact h1)
  have hq := quot2 st hx hy hpos
  have ee : x / ((pw p - 1) / pw p) = x * pw p / (pw p - 1) := by
    have n1 := Rat.ne_of_gt h1
    have n2 := pw_ne p
    generalize pw p - 1 = a at *
    generalize pw p = c at *
    grind
  rw [ee] at hq
  exact again_core st _ p _ _ _ (sem_power st p (by omega)) hl hq
/-! ### bounds of terms -/
theorem dd_in {b t : Nat} (hb : 0 < b) (ht : t ≤ b) (i : Nat) : 0 ≤ dd b t i ∧ dd b t i ≤ 1 := ⟨cR_nn _, by have := dig_lt hb (Nat.le_refl 2) ht i; exact cR_le (show dig b 2 t i ≤ 1 by omega)⟩
theorem term_in {b t : Nat} (hb : 0 < b) (ht : t ≤ b) (m i k : Nat) : 0 ≤ cR m * dd b t i / pw k ∧ cR m * dd b t i / pw k ≤ cR m := by
  obtain ⟨h1, h2⟩ := dd_in hb ht i
  have h3 := pw_pos k
  have h4 := pw_ge k
  have h5 := cR_nn m
  have h6 : 0 ≤ cR m * dd b t i := Rat.mul_nonneg h5 h1
  have h7 : cR m * dd b t i ≤ cR m * 1 := Rat.mul_le_mul_of_nonneg_left h2 h5
  have h8 : cR m * 1 ≤ cR m * pw k := Rat.mul_le_mul_of_nonneg_left h4 h5
  exact ⟨le_div h3 (by rw [Rat.zero_mul]; exact h6), div_le h3 (Rat.le_trans h7 h8)⟩
theorem sA_in {b t : Nat} (hb : 0 < b) (ht : t ≤ b) (j n : Nat) (h : j + n ≤ 300) : 0 ≤ sA b t (j + n) - sA b t j ∧ sA b t (j + n) - sA b t j ≤ cR (n * 300) := by
  induction n with
  | zero => rw [Nat.add_zero, Nat.zero_mul, cR_0]; constructor <;> grind
  | succ n ih =>
    obtain ⟨h1, h2⟩ := ih (by omega)
    obtain ⟨h3, h4⟩ := term_in hb ht (j + n) (j + n) (j + n)
    have h5 := cR_le (show j + n ≤ 300 by omega)
    rw [← Nat.add_assoc, sA_succ, show (n + 1) * 300 = n * 300 + 300 by omega, cR_add (n * 300) 300]
    generalize cR (j + n) * dd b t (j + n) / pw (j + n) = x at *
    constructor <;> grind
theorem sB_in {b t : Nat} (hb : 0 < b) (ht : t ≤ b) (j n : Nat) : 0 ≤ sB b t (j + n) - sB b t j ∧ sB b t (j + n) - sB b t j ≤ cR n := by
  induction n with
  | zero => rw [Nat.add_zero, cR_0]; constructor <;> grind
  | succ n ih =>
    obtain ⟨h1, h2⟩ := ih
    obtain ⟨h3, h4⟩ := term_in hb ht 1 (j + n) (j + n)
    rw [cR_1, Rat.one_mul] at h3 h4
    rw [← Nat.add_assoc, sB_succ, cR_add n 1, cR_1]
    generalize dd b t (j + n) / pw (j + n) = x at *
    constructor <;> grind
theorem d300 : (0 : Int) < ((2 ^ 300 : Nat) : Int) := pow2_pos 300
theorem bd_sA {b t : Nat} (hb : 0 < b) (ht : t ≤ b) (j n : Nat) (h : j + n ≤ 300) : Bd (sA b t (j + n) - sA b t j) := by
  obtain ⟨h1, h2⟩ := sA_in hb ht j n h
  exact ((inD_sA (K := 300) (j + n) h).sub (inD_sA j (by omega))).bdN (M := 300 * 300) d300 h1 (Rat.le_trans h2 (cR_le (Nat.mul_le_mul_right _ (by omega)))) (by omega) (e := 300) (f := 20) (Int.le_refl _) (by decide) (by omega)
theorem bd_sB {b t : Nat} (hb : 0 < b) (ht : t ≤ b) (j n : Nat) (h : j + n ≤ 300) : Bd (sB b t (j + n) - sB b t j) := by
  obtain ⟨h1, h2⟩ := sB_in hb ht j n
  exact ((inD_sB (K := 300) (j + n) h).sub (inD_sB j (by omega))).bdN (M := 300) d300 h1 (Rat.le_trans h2 (cR_le (by omega))) (by omega) (e := 300) (f := 20) (Int.le_refl _) (by decide) (by omega)
theorem bd_term {b t : Nat} (hb : 0 < b) (ht : t ≤ b) (m i k : Nat) (hm : m ≤ 300) (hk : k ≤ 300) : Bd (cR m * dd b t i / pw k) := by
  obtain ⟨h1, h2⟩ := term_in hb ht m i k
  have h3 := inD_dd 0 k hk (m * dig b 2 t i)
  rw [cR_mul] at h3
  exact InD.bdN h3 (M := 300) d300 h1 (Rat.le_trans h2 (cR_le hm)) (by omega) (e := 300) (f := 20) (Int.le_refl _) (by decide) (by omega)
/-! ### the sum of figures -/
theorem sof2 (st : Sto) {b t : Nat} (hb : 0 < b) (ht : t ≤ b) (j n : Nat) (hn : j + n ≤ 300) : F_sum_of_figures.sem [.tup (nl (digL b 2 t j n)), .int j] st = .ok (fr (pr (sB b t (j + n) - sB b t j))) st := by
  refine sof_core st _ _ _ _ _ (enum_digL b 2 t j n) (compLoop_mm (fun (i : Nat) => fr ((i : Int), ((dig b 2 t (j + i) : Nat) : Int))) (fun (i : Nat) => fr (pr (dd b t (j + i) / pw (j + i)))) fun i hi => ?_) (by simp; unfold sizeLine; omega) (sem_sum_of_all st n (fun i => pr (dd b t (j + i) / pw (j + i))) (fun i => pr (sB b t (j + i) - sB b t j)) ?_ fun i hi => ?_)
  · have hi := List.mem_range.mp hi
    exact sof_step st _ j i (dig b 2 t (j + i) : Nat) ((j + i : Nat) : Int) _ (by omega) (byh2 st _ _ (by omega))
  · show pr (sB b t (j + 0) - sB b t j) = (0, 1)
    rw [Nat.add_zero, show sB b t j - sB b t j = 0 by grind]; rfl
  · have hx := bd_sB hb ht j i (by omega)
    have hy := bd_term hb ht 1 (j + i) (j + i) (by omega) (by omega)
    rw [cR_1, Rat.one_mul] at hy
    rw [sum2 st hx hy]
    congr 3
    rw [← Nat.add_assoc, sB_succ]
    grind
/-! ### the cost -/
theorem cost_all (st : Sto) (u : D) (e1 e2 e3 e4 e5 e6 e7 : WT.Env) (d : D) (h1 : evS g_cost_of t_cost_of1 [some u, none, none, none, none, none, none, none, none, none, none] st = .nx e1 st) (h2 : evS g_cost_of t_cost_of2 e1 st = .nx e2 st) (h3 : evS g_cost_of t_cost_of3 e2 st = .nx e3 st) (h4 : evS g_cost_of t_cost_of4 e3 st = .nx e4 st) (h5 : evS g_cost_of t_cost_of5 e4 st = .nx e5 st) (h6 : evS g_cost_of t_cost_of6 e5 st = .nx e6 st) (h7 : evS g_cost_of t_cost_of7 e6 st = .nx e7 st) (h8 : (evSs g_cost_of (.cons t_cost_of8 .nil) e7 st).fin = .ok d st) : F_cost_of.sem [u] st = .ok d st := by
  rw [ev_cost_of, bt_cost_of]
  show (evSs g_cost_of _ [some u, none, none, none, none, none, none, none, none, none, none] st).fin = _
  rw [seq_nx' h1, seq_nx' h2, seq_nx' h3, seq_nx' h4, seq_nx' h5, seq_nx' h6, seq_nx' h7]
  exact h8
theorem cost_1 (st : Sto) (u : D) (A B : List D) (h : F_figures_of.sem [u] st = .ok (.tup [.tup A, .tup B]) st) : evS g_cost_of t_cost_of1 [some u, none, none, none, none, none, none, none, none, none, none] st = .nx [some u, none, none, none, none, none, some (.tup A), some (.tup B), none, none, none] st := by
  simp [t_cost_of1, h]
theorem cost_2 (st : Sto) (u r : D) (A zs ys : List D) (x1 x2 x3 x4 x5 x7 x8 x9 x10 : Option D) (he : enumD A = zs) (c : compLoop (kCb g_cost_of (.tup (.cons (.name 10) (.cons (.name 9) .nil))) false .non e_cost_of1 [some u, x1, x2, x3, x4, x5, some (.tup A), x7, x8, x9, x10]) zs st = .ok ys st) (hl : ys.length ≤ sizeLine) (hs : F_sum_of_all.sem [.lst ys] st = .ok r st) :
    evS g_cost_of t_cost_of2 [some u, x1, x2, x3, x4, x5, some (.tup A), x7, x8, x9, x10] st = .nx [some u, some r, x2, x3, x4, x5, some (.tup A), x7, x8, x9, x10] st := by
  simp [t_cost_of2, he, c, hl, hs]
theorem cost_c (st : Sto) (k a ka : Int) (q : Int × Int) (x0 x1 x2 x3 x4 x5 x6 x7 x8 x9 x10 : Option D) (g : ∀ z : D, guardO (mulOK k a) z = some z) (hka : k * a = ka) (h : F_by_halves.sem [fr (ka, 1), .int k] st = .ok (fr q) st) : kCb g_cost_of (.tup (.cons (.name 10) (.cons (.name 9) .nil))) false .non e_cost_of1 [x0, x1, x2, x3, x4, x5, x6, x7, x8, x9, x10] (fr (k, a)) st = .ok (some (fr q)) st := by
  simp [bindTg_fr, e_cost_of1, sem_whole, g, hka, h]
theorem cost_3 (st : Sto) (B : List D) (m : Int) (x0 x1 x2 x3 x4 x5 x6 x8 x9 x10 : Option D) (hB : ∀ st, biD st .len [.tup B] = some (.int m)) : evS g_cost_of t_cost_of3 [x0, x1, x2, x3, x4, x5, x6, some (.tup B), x8, x9, x10] st = .nx [x0, x1, some (.int m), x3, x4, x5, x6, some (.tup B), x8, x9, x10] st := by
  simp [t_cost_of3, -biD_lent, hB]
theorem cost_4 (st : Sto) (x0 x1 x2 x3 x4 x5 x6 x7 x8 x9 x10 : Option D) : evS g_cost_of t_cost_of4 [x0, x1, x2, x3, x4, x5, x6, x7, x8, x9, x10] st = .nx [x0, x1, x2, some (fr (0, 1)), x4, x5, x6, x7, x8, x9, x10] st := by
  simp [t_cost_of4]
theorem cost_l (st : Sto) (A : List D) (la at_ a k ka : Int) (p q r : Int × Int) (x0 x1 x2 x4 x5 x7 x10 : Option D) (hA : ∀ st, biD st .len [.tup A] = some (.int la)) (hk : la + at_ = k) (g : ∀ z : D, guardO (mulOK k a) z = some z) (hka : k * a = ka) (h1 : F_by_halves.sem [fr (ka, 1), .int k] st = .ok (fr q) st) (h2 : F_sum_of_two.sem [fr p, fr q] st = .ok (fr r) st) :
    evSs g_cost_of l_cost_of1 [x0, x1, x2, some (fr p), x4, x5, some (.tup A), x7, some (.int at_), some (.int a), x10] st = .nx [x0, x1, x2, some (fr r), x4, x5, some (.tup A), x7, some (.int at_), some (.int a), some (.int k)] st := by
  simp [l_cost_of1, -biD_lent, hA, hk, g, hka, sem_whole, h1, h2]
theorem cost_5 (st : Sto) (B zs : List D) (e : WT.Env) (x0 x1 x2 x3 x4 x5 x6 x8 x9 x10 : Option D) (he : enumD B = zs) (hw : forD (.tup (.cons (.name 8) (.cons (.name 9) .nil))) (evSs g_cost_of l_cost_of1) zs [x0, x1, x2, x3, x4, x5, x6, some (.tup B), x8, x9, x10] st = .nx e st) : evS g_cost_of t_cost_of5 [x0, x1, x2, x3, x4, x5, x6, some (.tup B), x8, x9, x10] st = .nx e st := by
  have h : evIt g_cost_of (.enum (.var 7)) [x0, x1, x2, x3, x4, x5, x6, some (.tup B), x8, x9, x10] st = .ok zs st := by simp [he]
  rw [t_cost_of5, evS_for, h]
  exact hw
theorem cost_6 (st : Sto) (A B : List D) (la m : Int) (q w : D) (x0 x1 x3 x4 x5 x8 x9 x10 : Option D) (hA : ∀ st, biD st .len [.tup A] = some (.int la)) (h1 : F_sum_of_figures.sem [.tup B, .int la] st = .ok q st) (h2 : F_again_and_again.sem [q, .int m] st = .ok w st) : evS g_cost_of t_cost_of6 [x0, x1, some (.int m), x3, x4, x5, some (.tup A), some (.tup B), x8, x9, x10] st = .nx [x0, x1, some (.int m), x3, some w, x5, some (.tup A), some (.tup B), x8, x9, x10] st := by
  simp [t_cost_of6, -biD_lent, hA, h1, h2]
theorem cost_7 (st : Sto) (m P : Int) (w q r : D) (x0 x1 x3 x5 x6 x7 x8 x9 x10 : Option D) (h1 : F_product.sem [fr (m, 1), w] st = .ok q st) (h2 : F_power.sem [.int 2, .int m] st = .ok (.int P) st) (h3 : F_quotient.sem [q, fr (P - 1, 1)] st = .ok r st) : evS g_cost_of t_cost_of7 [x0, x1, some (.int m), x3, some w, x5, x6, x7, x8, x9, x10] st = .nx [x0, x1, some (.int m), x3, some w, some r, x6, x7, x8, x9, x10] st := by
  simp [t_cost_of7, sem_whole, h1, h2, h3]
theorem cost_8 (st : Sto) (m : Int) (a l x r d : D) (x0 x4 x6 x7 x8 x9 x10 : Option D) (h1 : F_again_and_again.sem [l, .int m] st = .ok x st) (h2 : F_sum_of_all.sem [.lst [a, x, r]] st = .ok d st) : (evSs g_cost_of (.cons t_cost_of8 .nil) [x0, some a, some (.int m), some l, x4, some r, x6, x7, x8, x9, x10] st).fin = .ok d st := by
  have z3 : (3 : Nat) ≤ sizeLine := by decide
  rw [t_cost_of8]
  refine ret_fin ?_
  simp [h1, h2, z3]
theorem cost_loop (st : Sto) {b t : Nat} (hb : 0 < b) (ht : t ≤ b) (j n : Nat) (hn : j + n ≤ 300) (A : List D) (hA : ∀ st, biD st .len [.tup A] = some (.int j)) (x0 x1 x2 x4 x5 x7 x8 x9 x10 : Option D) :
    ∃ y8 y9 y10, forD (.tup (.cons (.name 8) (.cons (.name 9) .nil))) (evSs g_cost_of l_cost_of1) ((List.range n).map fun (i : Nat) => fr ((i : Int), ((dig b 2 t (j + i) : Nat) : Int))) [x0, x1, x2, some (fr (0, 1)), x4, x5, some (.tup A), x7, x8, x9, x10] st
      = .nx [x0, x1, x2, some (fr (pr (sA b t (j + n) - sA b t j))), x4, x5, some (.tup A), x7, y8, y9, y10] st := by
  refine forD_map (P := fun z => ∃ y8 y9 y10, z = .nx [x0, x1, x2, some (fr (pr (sA b t (j + n) - sA b t j))), x4, x5, some (.tup A), x7, y8, y9, y10] st)
    (fun pre env st' => st' = st ∧ ∃ y8 y9 y10, env = [x0, x1, x2, some (fr (pr (sA b t (j + pre.length) - sA b t j))), x4, x5, some (.tup A), x7, y8, y9, y10]) ⟨rfl, x8, x9, x10, ?_⟩ ?_ ?_
  · rw [List.length_nil, Nat.add_zero, show sA b t j - sA b t j = 0 by grind]; rfl
  · rintro pre i post env st' e ⟨rfl, y8, y9, y10, rfl⟩
    obtain ⟨rfl, hpre⟩ := pre_range e
    rw [List.length_append, List.length_singleton]
    generalize pre.length = i at *
    have hx := bd_sA hb ht j i (by omega)
    have hy := bd_term hb ht (j + i) (j + i) (j + i) (by omega) (by omega)
    have hd := dig_lt hb (Nat.le_refl 2) ht (j + i)
    have h1 := byh2 st' ((j + i) * dig b 2 t (j + i)) (j + i) (by omega)
    rw [cR_mul] at h1
    have h2 := sum2 st' hx hy
    have e3 : sA b t (j + i) - sA b t j + cR (j + i) * dd b t (j + i) / pw (j + i) = sA b t (j + (i + 1)) - sA b t j := by
      rw [← Nat.add_assoc, sA_succ]; grind
    rw [e3] at h2
    have core := cost_l st' A j i (dig b 2 t (j + i) : Nat) ((j + i : Nat) : Int) (((j + i) * dig b 2 t (j + i) : Nat) : Int) _ _ _ x0 x1 x2 x4 x5 x7 y10 hA (by omega) (fun z => guardO_true (mulOK_r (by omega) (by omega))) (by rw [Int.natCast_mul]) h1 h2
    exact ⟨_, bindTg_fr 8 9 _ _, stepN _ rfl core ⟨rfl, _, _, _, rfl⟩⟩
  · rintro env st' ⟨rfl, y8, y9, y10, rfl⟩
    rw [List.length_range]
    exact ⟨y8, y9, y10, rfl⟩
theorem sA_0 (b t : Nat) : sA b t 0 = 0 := rfl
theorem sem_cost_of (st : Sto) {b t N j : Nat} (hb : 0 < b) (ht : t ≤ b) (hj : j < N) (hN : N ≤ 201) (h : F_figures_of.sem [fr ((t : Int), (b : Int))] st = .ok (figD b 2 t N j) st) (W : Rat) (hW : (sB b t N - sB b t j) * pw (N - j) / (pw (N - j) - 1) = W) (bW : Bd W) (bpW : Bd (cR (N - j) * W)) (bA : Bd ((sA b t N - sA b t j) * pw (N - j) / (pw (N - j) - 1))) (bM : Bd (cR (N - j) * W / (pw (N - j) - 1)))
    (bS : Bd (sA b t j + (sA b t N - sA b t j) * pw (N - j) / (pw (N - j) - 1))) : F_cost_of.sem [fr ((t : Int), (b : Int))] st = .ok (fr (pr (sA b t j + (sA b t N - sA b t j) * pw (N - j) / (pw (N - j) - 1) + cR (N - j) * W / (pw (N - j) - 1)))) st := by
  obtain ⟨p, rfl⟩ : ∃ p, N = j + p := ⟨N - j, by omega⟩
  unfold figD at h
  rw [show j + p - j = p by omega] at *
  have hp : 0 < p := by omega
  have hA : ∀ st, biD st .len [.tup (nl (digL b 2 t 0 j))] = some (.int j) := fun st => by rw [biD_lent, nl_length, digL_len]
  have hB : ∀ st, biD st .len [.tup (nl (digL b 2 t j p))] = some (.int p) := fun st => by rw [biD_lent, nl_length, digL_len]
  obtain ⟨y8, y9, y10, hw⟩ := cost_loop st hb ht j p (by omega) (nl (digL b 2 t 0 j)) hA (some (fr ((t : Int), (b : Int)))) (some (fr (pr (sA b t j)))) (some (.int p)) none none (some (.tup (nl (digL b 2 t j p)))) none none none
  have bsA : Bd (sA b t j) := by
    have := bd_sA hb ht 0 j (by omega)
    rw [Nat.zero_add, sA_0, show sA b t j - 0 = sA b t j by grind] at this
    exact this
  have hsA := sem_sum_of_all st j (fun i => pr (cR i * dd b t i / pw i)) (fun i => pr (sA b t i)) rfl fun i hi => by
    have hx := bd_sA hb ht 0 i (by omega)
    rw [Nat.zero_add, sA_0, show sA b t i - 0 = sA b t i by grind] at hx
    exact sum2 st hx (bd_term hb ht i i i (by omega) (by omega))
  have h6a := sof2 st hb ht j p (by omega)
  have h6b := again2 st (bd_sB hb ht j p (by omega)) p hp (by omega)
  rw [hW] at h6b
  have bp : Bd (cR p) := by
    refine InD.bdN (d := 1) (M := 300) ⟨(p : Int), by unfold cR; grind⟩ (by decide) (cR_nn p) (cR_le (by omega)) (by omega) (e := 1) (f := 20) (by decide) (by decide) (by omega)
  have h7a := prod2 st bp bW
  have bP1 : Bd (pw p - 1) := by
    rw [P1]
    refine InD.bdN (d := 1) (M := 2 ^ p) ⟨((2 ^ p - 1 : Nat) : Int), by unfold cR; grind⟩ (by decide) (cR_nn _) (cR_le (Nat.sub_le _ _)) (Nat.pow_pos (by omega)) (e := 1) (f := p) (by decide) (Nat.le_refl _) (by omega)
  have h7b := quot2 st bpW bP1 (pw1_pos hp)
  have h8a := again2 st (bd_sA hb ht j p (by omega)) p hp (by omega)
  have h8b := sem_sum_of_all st 3 (fun i => match i with | 0 => pr (sA b t j) | 1 => pr ((sA b t (j + p) - sA b t j) * pw p / (pw p - 1)) | _ => pr (cR p * W / (pw p - 1)))
    (fun i => match i with | 0 => pr 0 | 1 => pr (sA b t j) | 2 => pr (sA b t j + (sA b t (j + p) - sA b t j) * pw p / (pw p - 1)) | _ => pr (sA b t j + (sA b t (j + p) - sA b t j) * pw p / (pw p - 1) + cR p * W / (pw p - 1))) rfl fun i hi => by
      rcases (show i = 0 ∨ i = 1 ∨ i = 2 by omega) with rfl | rfl | rfl
      · have h0 : Bd 0 := by
          refine InD.bdN (d := 1) (M := 1) (InD.zero _) (by decide) (by decide) (by decide) (by omega) (e := 1) (f := 20) (by decide) (by decide) (by omega)
        have := sum2 st h0 bsA
        rw [Rat.zero_add] at this
        exact this
      · exact sum2 st bsA bA
      · exact sum2 st bS bM
  have e0 : ((2 ^ p : Nat) : Int) - 1 = ((2 ^ p - 1 : Nat) : Int) := by
    have : 0 < 2 ^ p := Nat.pow_pos (by omega)
    omega
  have e1 : fr (((2 ^ p : Nat) : Int) - 1, 1) = fr (pr (pw p - 1)) := by
    rw [P1, e0]
    unfold cR
    rw [pr_cast]
  have e2 : fr ((p : Int), 1) = fr (pr (cR p)) := by unfold cR; rw [pr_cast]
  refine cost_all st _ _ _ _ _ _ _ _ _ (cost_1 st _ _ _ h) (cost_2 st _ (fr (pr (sA b t j))) _ _ ((List.range j).map fun (i : Nat) => fr (pr (cR i * dd b t i / pw i))) _ _ _ _ _ _ _ _ _ (enum_digL b 2 t 0 j) ?_ (by simp; unfold sizeLine; omega) hsA) (cost_3 st _ p _ _ _ _ _ _ _ _ _ _ hB) (cost_4 st _ _ _ _ _ _ _ _ _ _ _) (cost_5 st _ _ _ _ _ _ _ _ _ _ _ _ _ (enum_digL b 2 t j p) hw) (cost_6 st _ _ j p _ _ _ _ _ _ _ _ _ _ hA h6a h6b) (cost_7 st p _ _ _ _ _ _ _ _ _ _ _ _ _ (by rw [e2]; exact h7a) (sem_power st p (by omega)) (by rw [e1]; exact h7b)) (cost_8 st p _ _ _ _ _ _ _ _ _ _ _ _ h8a h8b)
  refine compLoop_mm (fun (i : Nat) => fr ((i : Int), ((dig b 2 t (0 + i) : Nat) : Int))) (fun (i : Nat) => fr (pr (cR i * dd b t i / pw i))) fun i hi => ?_
  have hi := List.mem_range.mp hi
  have hd := dig_lt hb (Nat.le_refl 2) ht (0 + i)
  have h1 := byh2 st (i * dig b 2 t i) i (by omega)
  rw [cR_mul] at h1
  exact cost_c st i _ _ _ _ _ _ _ _ _ _ _ _ _ _ (fun z => guardO_true (mulOK_r (by omega) (by omega))) (by rw [Nat.zero_add, Int.natCast_mul]) h1
/-! ### the program's cost -/
theorem inD_dv {d : Int} {x : Rat} (h : InD d x) {p : Nat} (hp : 0 < p) : InD (d * ((2 ^ p - 1 : Nat) : Int)) (x / (pw p - 1)) := by
  have hn : 0 < 2 ^ p - 1 := by have := Nat.one_lt_two_pow (n := p) (by omega); omega
  have h2 := h.mul (inD_frac 1 hn (Nat.dvd_refl _))
  rw [P1]
  have : x * (cR 1 / cR (2 ^ p - 1)) = x / cR (2 ^ p - 1) := by rw [cR_1, Rat.div_def, Rat.div_def, Rat.one_mul]
  rw [this] at h2
  exact h2
theorem ag_in {x : Rat} {M p : Nat} (h0 : 0 ≤ x) (h1 : x ≤ cR M) (hp : 0 < p) : 0 ≤ x * pw p / (pw p - 1) ∧ x * pw p / (pw p - 1) ≤ cR (2 * M) := by
  have h2 := pw1_pos hp
  have h3 := pw_pos p
  have h4 : pw p ≤ 2 * (pw p - 1) := by
    have := pw_ge (p - 1)
    rw [show p = (p - 1) + 1 by omega, pw_succ]
    grind
  have h5 := Rat.mul_nonneg h0 (Rat.le_of_lt h3)
  have h6 : x * pw p ≤ x * (2 * (pw p - 1)) := Rat.mul_le_mul_of_nonneg_left h4 h0
  have h7 : x * (2 * (pw p - 1)) ≤ cR M * (2 * (pw p - 1)) := Rat.mul_le_mul_of_nonneg_right h1 (by grind)
  refine ⟨le_div h2 (by rw [Rat.zero_mul]; exact h5), div_le h2 ?_⟩
  rw [cR_mul, cR_2]
  have e : 2 * cR M * (pw p - 1) = cR M * (2 * (pw p - 1)) := by grind
  rw [e]
  exact Rat.le_trans h6 h7
theorem dv_in {x : Rat} {M p : Nat} (h0 : 0 ≤ x) (h1 : x ≤ cR M) (hp : 0 < p) : 0 ≤ x / (pw p - 1) ∧ x / (pw p - 1) ≤ cR M := by
  have h2 := pw1_pos hp
  have h4 : 1 ≤ pw p - 1 := by
    have := pw_ge (p - 1)
    rw [show p = (p - 1) + 1 by omega, pw_succ]
    grind
  have h5 := cR_nn M
  have h6 : cR M * 1 ≤ cR M * (pw p - 1) := Rat.mul_le_mul_of_nonneg_left h4 h5
  rw [Rat.mul_one] at h6
  exact ⟨le_div h2 (by rw [Rat.zero_mul]; exact h0), div_le h2 (Rat.le_trans h1 h6)⟩
theorem d_ag {b p : Nat} (hb : 0 < b) (hb2 : b ≤ 200) (hp : 0 < p) (hp2 : p ≤ 300) (K : Nat) (hK : K ≤ 400) : (0 : Int) < ((b * 2 ^ K : Nat) : Int) * ((2 ^ p - 1 : Nat) : Int) ∧ ((b * 2 ^ K : Nat) : Int) * ((2 ^ p - 1 : Nat) : Int) ≤ ((2 ^ 800 : Nat) : Int) := by
  have hn : 0 < 2 ^ p - 1 := by have := Nat.one_lt_two_pow (n := p) (by omega); omega
  refine ⟨Int.mul_pos (Int.natCast_pos.mpr (Nat.mul_pos hb (Nat.pow_pos (by omega)))) (Int.natCast_pos.mpr hn), ?_⟩
  rw [← Int.natCast_mul]
  refine Int.ofNat_le.mpr ?_
  have h1 : b * 2 ^ K ≤ 2 ^ 8 * 2 ^ 400 := Nat.mul_le_mul (by omega) (Nat.pow_le_pow_right (by omega) hK)
  have h2 : 2 ^ p - 1 ≤ 2 ^ 300 := Nat.le_trans (Nat.sub_le _ _) (Nat.pow_le_pow_right (by omega) hp2)
  refine Nat.le_trans (Nat.mul_le_mul h1 h2) ?_
  rw [← Nat.pow_add, ← Nat.pow_add]
  exact Nat.pow_le_pow_right (by omega) (by omega)
theorem bdAg {b p K : Nat} {x : Rat} {M : Nat} (h : InD (((b * 2 ^ K : Nat) : Int) * ((2 ^ p - 1 : Nat) : Int)) x) (hb : 0 < b) (hb2 : b ≤ 200) (hp : 0 < p) (hp2 : p ≤ 300) (hK : K ≤ 400) (h0 : 0 ≤ x) (h1 : x ≤ cR M) (hM : M ≤ 2 ^ 40) : Bd x := by
  obtain ⟨d1, d2⟩ := d_ag hb hb2 hp hp2 K hK
  exact h.bdN (M := M + 1) d1 h0 (Rat.le_trans h1 (cR_le (by omega))) (by omega) d2 (f := 41) (by omega) (by omega)
theorem cost_gen (st : Sto) {b t N j : Nat} (hb : 0 < b) (hb2 : b ≤ 200) (ht : t ≤ b) (hj : j < N) (hN : N ≤ 201) (h : F_figures_of.sem [fr ((t : Int), (b : Int))] st = .ok (figD b 2 t N j) st) (W c : Rat) (hW : (sB b t N - sB b t j) * pw (N - j) / (pw (N - j) - 1) = W) (iW : InD ((b * 2 ^ 300 : Nat) : Int) W) (W0 : 0 ≤ W) (W1 : W ≤ 1)
    (hc : c = sA b t j + (sA b t N - sA b t j) * pw (N - j) / (pw (N - j) - 1) + cR (N - j) * W / (pw (N - j) - 1)) : F_cost_of.sem [fr ((t : Int), (b : Int))] st = .ok (fr (pr c)) st := by
  have hp : 0 < N - j := by omega
  have d0 : (0 : Int) < ((b * 2 ^ 300 : Nat) : Int) := Int.natCast_pos.mpr (Nat.mul_pos hb (Nat.pow_pos (by omega)))
  have d1 : ((b * 2 ^ 300 : Nat) : Int) ≤ ((2 ^ 308 : Nat) : Int) := by
    refine Int.ofNat_le.mpr (Nat.le_trans (Nat.mul_le_mul_right _ (show b ≤ 2 ^ 8 by omega)) ?_)
    rw [← Nat.pow_add]
    exact Nat.pow_le_pow_right (by omega) (by omega)
  have iA : InD ((b * 2 ^ 300 : Nat) : Int) (sA b t N - sA b t j) := ((inD_sA (K := 300) N (by omega)).sub (inD_sA j (by omega))).of (Int.natCast_dvd_natCast.mpr ⟨b, Nat.mul_comm _ _⟩)
  have iA0 : InD ((b * 2 ^ 300 : Nat) : Int) (sA b t j) := (inD_sA (K := 300) j (by omega)).of (Int.natCast_dvd_natCast.mpr ⟨b, Nat.mul_comm _ _⟩)
  obtain ⟨A0, A1⟩ := sA_in hb ht j (N - j) (by omega)
  rw [show j + (N - j) = N by omega] at A0 A1
  obtain ⟨B0, B1⟩ := sA_in hb ht 0 j (by omega)
  rw [Nat.zero_add, sA_0, show sA b t j - 0 = sA b t j by grind] at B0 B1
  obtain ⟨g0, g1⟩ := ag_in A0 A1 hp
  have c1 := cR_nn (N - j)
  have pW0 : 0 ≤ cR (N - j) * W := Rat.mul_nonneg c1 W0
  have pW1 : cR (N - j) * W ≤ cR (N - j) := by
    have := Rat.mul_le_mul_of_nonneg_left W1 c1
    rw [Rat.mul_one] at this; exact this
  obtain ⟨m0, m1⟩ := dv_in pW0 pW1 hp
  have ipW : InD ((b * 2 ^ 300 : Nat) : Int) (cR (N - j) * W) := iW.mulI _
  have hle : (N - j) * 300 ≤ 2 ^ 20 := by omega
  rw [hc]
  refine sem_cost_of st hb ht hj hN h W hW (iW.bdN (M := 1) d0 W0 W1 (by omega) d1 (f := 1) (by decide) (by omega)) (ipW.bdN (M := 300) d0 pW0 (Rat.le_trans pW1 (cR_le (by omega))) (by omega) d1 (f := 20) (by decide) (by omega)) (bdAg (inD_ag iA hp) hb hb2 hp (by omega) (by omega) g0 g1 (by omega)) (bdAg (inD_dv ipW hp) hb hb2 hp (by omega) (by omega) m0 m1 (by omega)) ?_
  refine bdAg ((iA0.of ⟨_, rfl⟩).add (inD_ag iA hp)) hb hb2 hp (by omega) (by omega) (M := j * 300 + 2 * ((N - j) * 300)) ?_ ?_ (by omega)
  · grind
  · rw [cR_add]; grind
theorem prog_cost {b t N j : Nat} (dn : Dn b t) (o : Ro b t N j) (st : Sto) : F_cost_of.sem [fr ((t : Int), (b : Int))] st = .ok (fr (pr (c0 b t N j))) st := by
  have hb := dn.b0
  have hb2 := dn.b1
  have ht := dn.t1
  have hj := o.hj
  have hN := o.hN
  by_cases h : dig b 2 t j = dig b 2 t N
  · obtain rfl := o.s0 h
    have e : cR t / cR b = cR t / cR b / pw 0 := by rw [show pw 0 = 1 from rfl]; grind
    have i1 : InD ((b * 2 ^ 300 : Nat) : Int) (cR t / cR b) := inD_frac t hb ⟨2 ^ 300, rfl⟩
    refine cost_gen st hb hb2 ht hj (by omega) (figs_of st o hb2 ht _ (sem_shortB st o hb2 h)) (cR t / cR b) _ ?_ i1 (le_div (cR_pos hb) (by rw [Rat.zero_mul]; exact cR_nn _)) (div_le (cR_pos hb) (by rw [Rat.one_mul]; exact cR_le ht)) ?_
    · exact worth_B hb hj o.eq h
    · exact cost_B hb hj o.eq h
  · have e : N + 1 - (j + 1) = N - j := by omega
    have i1 := inD_vv (t := t) hb (K := 300) (k := j) (by omega) j
    have v0 := vv_nn (t := t) hb j
    have v1 := vv_le (t := t) hb j
    have p0 := pw_pos j
    refine cost_gen st hb hb2 ht (by omega) (by omega) (figs_of st o hb2 ht _ (sem_shortA st o hb2 h)) (vv b t j / pw j) _ ?_ i1 (le_div p0 (by rw [Rat.zero_mul]; exact v0)) (div_le p0 (by rw [Rat.one_mul]; exact Rat.le_trans v1 (pw_ge j))) ?_
    · rw [e]; exact worth_A hb hj o.eq
    · rw [e]; exact cost_A hb hj o.eq
end Lk18.B
end

section
set_option Elab.async false
set_option linter.all false
set_option maxRecDepth 100000
set_option autoImplicit false
namespace Lk18
open PySem WT
/-! ### one cost for each number -/
theorem arch {A B : Rat} (h : ∀ n, A ≤ B + 2 / pw n) : A ≤ B := by
  by_cases hc : A ≤ B
  · exact hc
  · exfalso
    have hx : 0 < A - B := by grind
    have h1 := inv_le hx
    have hD := (A - B).den_pos
    have h2 := h (2 * (A - B).den)
    have h3 : 1 / cR (A - B).den ≤ 2 / pw (2 * (A - B).den) := by
      generalize 1 / cR (A - B).den = u at *
      generalize 2 / pw (2 * (A - B).den) = v at *
      grind
    generalize (A - B).den = D at *
    have p1 := cR_pos hD
    have p2 := pw_pos (2 * D)
    have h4 : pw (2 * D) ≤ cR (2 * D) := by
      have := Rat.mul_le_mul_of_nonneg_right (Rat.mul_le_mul_of_nonneg_right h3 (Rat.le_of_lt p1)) (Rat.le_of_lt p2)
      rw [cR_mul, show cR 2 = 2 from rfl]
      have e1 : 1 / cR D * cR D * pw (2 * D) = pw (2 * D) := by
        have := Rat.ne_of_gt p1
        generalize cR D = a at *
        generalize pw (2 * D) = b at *
        grind
      have e2 : 2 / pw (2 * D) * cR D * pw (2 * D) = 2 * cR D := by
        have := Rat.ne_of_gt p2
        generalize cR D = a at *
        generalize pw (2 * D) = b at *
        grind
      rw [e1, e2] at this
      exact this
    have h5 : 2 ^ (2 * D) ≤ 2 * D := by
      unfold pw cR at h4
      have := Rat.intCast_le_intCast.mp h4
      omega
    exact absurd (Nat.lt_two_pow_self (n := 2 * D)) (by omega)
theorem c0_le {b t N j N' j' : Nat} (hb : 0 < b) (hj : j < N) (h : rst b t j = rst b t N) (hj' : j' < N') (h' : rst b t j' = rst b t N') : c0 b t N j ≤ c0 b t N' j' := by
  refine arch fun n => ?_
  have e1 := c0_split (b := b) (t := t) N j n
  have e2 := c0_split (b := b) (t := t) N' j' n
  have t1 := tT_in (t := t) hb hj h n
  have t2 := tT_in (t := t) hb hj' h' n
  have p := pw_pos n
  have l1 : tT b t N j n / pw n ≤ 2 / pw n := by
    rw [Rat.div_def, Rat.div_def]
    exact Rat.mul_le_mul_of_nonneg_right t1.2 (Rat.le_of_lt (Rat.inv_pos.mpr p))
  have l2 : 0 ≤ tT b t N' j' n / pw n := le_div p (by rw [Rat.zero_mul]; exact t2.1)
  rw [e1, e2]
  grind
theorem c0_uniq {b t N j N' j' : Nat} (hb : 0 < b) (hj : j < N) (h : rst b t j = rst b t N) (hj' : j' < N') (h' : rst b t j' = rst b t N') : c0 b t N j = c0 b t N' j' :=
  Rat.le_antisymm (c0_le hb hj h hj' h') (c0_le hb hj' h' hj h)
noncomputable def cN (x : Rat) : Nat := Classical.choose (ro_exists x.num.toNat x.den_pos)
noncomputable def cJ (x : Rat) : Nat := Classical.choose (Classical.choose_spec (ro_exists x.num.toNat x.den_pos))
theorem cRo (x : Rat) : Ro x.den x.num.toNat (cN x) (cJ x) := Classical.choose_spec (Classical.choose_spec (ro_exists x.num.toNat x.den_pos))
noncomputable def Cst (x : Rat) : Rat := c0 x.den x.num.toNat (cN x) (cJ x)
theorem num_tn {x : Rat} (h : 0 ≤ x) : ((x.num.toNat : Nat) : Int) = x.num := Int.toNat_of_nonneg (num_nonneg h)
theorem num_le {x : Rat} (h : x ≤ 1) : x.num ≤ (x.den : Int) := by
  have hx := rat_nd x
  have hd := cR_pos x.den_pos
  have e : x * cR x.den = (x.num : Rat) := by
    have hn := Rat.ne_of_gt hd
    unfold cR at hn ⊢
    generalize (((x.den : Nat) : Int) : Rat) = D at *
    generalize (x.num : Rat) = N at *
    rw [hx]
    grind
  have h2 := Rat.mul_le_mul_of_nonneg_right h (Rat.le_of_lt hd)
  rw [e, Rat.one_mul] at h2
  exact Rat.intCast_le_intCast.mp h2
theorem pr_nat {x : Rat} (h : 0 ≤ x) : pr x = (((x.num.toNat : Nat) : Int), ((x.den : Nat) : Int)) := by
  rw [num_tn h]; rfl
theorem fR_vv {x : Rat} (h : 0 ≤ x) (k : Nat) : fR x k = vv x.den x.num.toNat k := by
  unfold fR vv cR
  rw [← B.tp_mod x.den_pos x.num.toNat k, Int.natCast_emod, Int.natCast_mul, num_tn h]
theorem rst_of {x : Rat} (h : 0 ≤ x) {j k : Nat} (e : fR x j = fR x k) : rst x.den x.num.toNat j = rst x.den x.num.toNat k := by
  rw [fR_vv h, fR_vv h] at e
  unfold vv at e
  have hd := cR_ne x.den_pos
  have e2 : cR (rst x.den x.num.toNat j) = cR (rst x.den x.num.toNat k) := by
    generalize cR (rst x.den x.num.toNat j) = a at *
    generalize cR (rst x.den x.num.toNat k) = c at *
    generalize cR x.den = d at *
    grind
  unfold cR at e2
  have := Rat.intCast_inj.mp e2
  omega
theorem sem_Cst (st : Sto) {x : Rat} (h0 : 0 ≤ x) (h1 : x ≤ 1) (hd : x.den ≤ 200) : F_cost_of.sem [fr (pr x)] st = .ok (fr (pr (Cst x))) st := by
  have hle := num_le h1
  have hn := num_tn h0
  have dn : B.Dn x.den x.num.toNat := ⟨x.den_pos, hd, by omega, by
    have := pr_lw x
    rw [pr_nat h0] at this
    exact this⟩
  have := B.prog_cost dn (cRo x) st
  rw [pr_nat h0]
  exact this
theorem Cst_eq {x : Rat} (h0 : 0 ≤ x) {N j : Nat} (hj : j < N) (e : fR x j = fR x N) : Cst x = c0 x.den x.num.toNat N j := by
  have o := cRo x
  exact c0_uniq x.den_pos o.hj o.eq hj (rst_of h0 e)
/-! ### sums of what is left -/
theorem rsum_add (xs : List Rat) (f g : Rat → Rat) : rsum (xs.map fun x => f x + g x) = rsum (xs.map f) + rsum (xs.map g) := by
  induction xs with
  | nil => rw [List.map_nil, List.map_nil, List.map_nil, rsum_nil]; grind
  | cons x xs ih => rw [List.map_cons, List.map_cons, List.map_cons, rsum_cons, rsum_cons, rsum_cons, ih]; grind
theorem rsum_lin (xs : List Rat) (f g : Rat → Rat) (c d : Rat) : rsum (xs.map fun x => f x + (g x - f x) * c / d) = rsum (xs.map f) + (rsum (xs.map g) - rsum (xs.map f)) * c / d := by
  induction xs with
  | nil => rw [List.map_nil, List.map_nil, List.map_nil, rsum_nil]; simp only [Rat.div_def]; grind
  | cons x xs ih => rw [List.map_cons, List.map_cons, List.map_cons, rsum_cons, rsum_cons, rsum_cons, ih]; simp only [Rat.div_def]; grind
theorem rsum_congr {xs : List Rat} {f g : Rat → Rat} (h : ∀ x ∈ xs, f x = g x) : rsum (xs.map f) = rsum (xs.map g) := by
  rw [List.map_congr_left h]
/-- the tails up to one -/
def tS (xs : List Rat) : Nat → Rat
  | 0 => 0
  | n + 1 => tS xs n + tailR xs n
theorem tS_eq {xs : List Rat} (h : ∀ x ∈ xs, 0 ≤ x) (n : Nat) : tS xs n = rsum (xs.map fun x => sS x.den x.num.toNat n) := by
  induction n with
  | zero =>
    show (0 : Rat) = rsum (xs.map fun _ => 0)
    induction xs with
    | nil => rfl
    | cons x xs ih => rw [List.map_cons, rsum_cons, ← ih fun y hy => h y (by simp [hy]), Rat.add_zero]
  | succ n ih =>
    show tS xs n + tailR xs n = _
    have e : (xs.map fun x => sS x.den x.num.toNat (n + 1)) = xs.map fun x => sS x.den x.num.toNat n + fR x n / pw n := by
      refine List.map_congr_left fun x hx => ?_
      rw [sS_succ, fR_vv (h x hx)]
    rw [e, rsum_add, ← ih, tail_sum]
theorem tS_list (xs : List Rat) (n : Nat) : rsum ((List.range n).map (tailR xs)) = tS xs n := rsum_range (tailR xs) (tS xs) rfl (fun i => rfl) n
/-- what the law reckons is the sum of the costs -/
theorem due_eq {xs : List Rat} (h : ∀ x ∈ xs, 0 ≤ x) {N j : Nat} (hj : j < N) (e : ∀ x ∈ xs, fR x j = fR x N) : tS xs j + (tS xs N - tS xs j) * pw (N - j) / (pw (N - j) - 1) = rsum (xs.map Cst) := by
  rw [tS_eq h, tS_eq h, ← rsum_lin]
  refine rsum_congr fun x hx => ?_
  rw [Cst_eq (h x hx) hj (e x hx)]
  rfl
/-! ### the rests come again -/
def rs (xs : List Rat) (n : Nat) : List Rat := if n = 0 then xs else xs.map fun x => fR x n
theorem fR_again {x : Rat} (k : Nat) : fR (fR x k) 1 = fR x (k + 1) := by
  obtain ⟨q1, e1, _⟩ := fR_eq x k
  obtain ⟨q2, e2, _⟩ := fR_eq (fR x k) 1
  obtain ⟨q3, e3, _⟩ := fR_eq x (k + 1)
  have b2 := fR_01 (fR x k) 1
  have b3 := fR_01 x (k + 1)
  have p1 : pw 1 = 2 := rfl
  have e4 : fR (fR x k) 1 - fR x (k + 1) = (((q3 - 2 * q1 - q2 : Int)) : Rat) := by
    rw [e2, e3, p1, e1, pw_succ, Rat.intCast_sub, Rat.intCast_sub, Rat.intCast_mul]
    have : ((2 : Int) : Rat) = 2 := rfl
    rw [this]
    grind
  generalize q3 - 2 * q1 - q2 = z at *
  have z1 : (z : Rat) < ((1 : Int) : Rat) := by
    have : ((1 : Int) : Rat) = 1 := rfl
    rw [this]; grind
  have z2 : ((-1 : Int) : Rat) < (z : Rat) := by
    have : ((-1 : Int) : Rat) = -1 := rfl
    rw [this]; grind
  have z3 := Rat.intCast_lt_intCast.mp z1
  have z4 := Rat.intCast_lt_intCast.mp z2
  have z0 : z = 0 := by omega
  rw [z0] at e4
  have : ((0 : Int) : Rat) = 0 := rfl
  rw [this] at e4
  grind
theorem fR_same {d : Nat} {x : Rat} (hI : InD (d : Int) x) {i k : Nat} (h : 2 ^ i % d = 2 ^ k % d) (hik : i ≤ k) : fR x i = fR x k := by
  obtain ⟨X, hX⟩ := hI
  obtain ⟨q1, e1, _⟩ := fR_eq x i
  obtain ⟨q2, e2, _⟩ := fR_eq x k
  have b1 := fR_01 x i
  have b2 := fR_01 x k
  obtain ⟨m, hm⟩ : ∃ m, 2 ^ k = 2 ^ i + d * m := by
    have h1 : 2 ^ i ≤ 2 ^ k := Nat.pow_le_pow_right (by omega) hik
    have h2 := Nat.dvd_of_mod_eq_zero (Nat.sub_mod_eq_zero_of_mod_eq h.symm)
    obtain ⟨m, hm⟩ := h2
    exact ⟨m, by omega⟩
  have e3 : fR x k - fR x i = ((X * m - q2 + q1 : Int) : Rat) := by
    have hp : pw k = pw i + (((d : Nat) : Int) : Rat) * (((m : Nat) : Int) : Rat) := by
      unfold pw
      rw [hm]
      unfold cR
      rw [Int.natCast_add, Int.natCast_mul, Rat.intCast_add, Rat.intCast_mul]
    rw [e1, e2, hp, Rat.intCast_add, Rat.intCast_sub, Rat.intCast_mul, ← hX]
    grind
  generalize X * m - q2 + q1 = z at *
  have z1 : (z : Rat) < ((1 : Int) : Rat) := by
    have : ((1 : Int) : Rat) = 1 := rfl
    rw [this]; grind
  have z2 : ((-1 : Int) : Rat) < (z : Rat) := by
    have : ((-1 : Int) : Rat) = -1 := rfl
    rw [this]; grind
  have z3 := Rat.intCast_lt_intCast.mp z1
  have z4 := Rat.intCast_lt_intCast.mp z2
  have z0 : z = 0 := by omega
  rw [z0] at e3
  have : ((0 : Int) : Rat) = 0 := rfl
  rw [this] at e3
  grind
theorem pow_again {d : Nat} (hd : 0 < d) : ∃ i k, i < k ∧ k ≤ d ∧ 2 ^ (i + 1) % d = 2 ^ (k + 1) % d := by
  by_cases h : ∃ i k, i < k ∧ k ≤ d ∧ 2 ^ (i + 1) % d = 2 ^ (k + 1) % d
  · exact h
  · exfalso
    have nd : ((List.range (d + 1)).map fun k => 2 ^ (k + 1) % d).Nodup := by
      unfold List.Nodup
      rw [List.pairwise_map]
      refine List.pairwise_lt_range.imp_of_mem fun {a b} ha hb hab e => h ⟨a, b, hab, ?_, e⟩
      have := List.mem_range.mp hb
      omega
    have := nodup_le nd (S := List.range d) fun x hx => by
      obtain ⟨i, _, rfl⟩ := List.mem_map.mp hx
      exact List.mem_range.mpr (Nat.mod_lt _ hd)
    simp at this
    omega
/-- what the law's search for the first rests that come again finds -/
structure Rj (xs : List Rat) (N j : Nat) : Prop where
  hj : j < N
  hN : N ≤ 2001
  nd : ∀ i k, i < k → k < N → rs xs i ≠ rs xs k
  eq : rs xs j = rs xs N
theorem rj_exists {d : Nat} {xs : List Rat} (h : ∀ x ∈ xs, InD (d : Int) x) (hd : 0 < d) (hd2 : d ≤ 2000) : ∃ N j, Rj xs N j := by
  classical
  obtain ⟨i, k, hik, hk, e⟩ := pow_again hd
  have h1 : ∃ j, j < k + 1 ∧ rs xs j = rs xs (k + 1) := ⟨i + 1, by omega, by
    unfold rs
    rw [if_neg (by omega), if_neg (by omega)]
    exact List.map_congr_left fun x hx => fR_same (h x hx) e (by omega)⟩
  obtain ⟨N, hN, ⟨j, hj, ej⟩, hmin⟩ := least_ex (fun n => ∃ j, j < n ∧ rs xs j = rs xs n) (k + 1) h1
  exact ⟨N, j, hj, by omega, fun a b hab hb e => hmin b hb ⟨a, hab, e⟩, ej⟩
theorem Rj.fr {xs : List Rat} {N j : Nat} (o : Rj xs N j) (h : ∀ x ∈ xs, 0 ≤ x) : ∀ x ∈ xs, fR x j = fR x N := by
  intro x hx
  have hj := o.hj
  have e := o.eq
  unfold rs at e
  rw [if_neg (show ¬ N = 0 by omega)] at e
  by_cases h0 : j = 0
  · subst h0
    rw [if_pos rfl] at e
    have e2 : xs.map (fun x => x) = xs.map fun x => fR x N := by rw [List.map_id']; exact e
    have e3 := (List.map_inj_left.mp e2) x hx
    have b := fR_01 x N
    have hx1 : x < 1 := by
      have e4 : x = fR x N := e3
      rw [e4]; exact b.2
    obtain ⟨q, e5, _⟩ := fR_eq x 0
    have b0 := fR_01 x 0
    have p0 : pw 0 = 1 := rfl
    rw [p0, Rat.mul_one] at e5
    have h0' := h x hx
    have z1 : (q : Rat) < ((1 : Int) : Rat) := by
      have : ((1 : Int) : Rat) = 1 := rfl
      rw [this]; grind
    have z2 : ((-1 : Int) : Rat) < (q : Rat) := by
      have : ((-1 : Int) : Rat) = -1 := rfl
      rw [this]; grind
    have z3 := Rat.intCast_lt_intCast.mp z1
    have z4 := Rat.intCast_lt_intCast.mp z2
    have z0 : q = 0 := by omega
    rw [z0] at e5
    have : ((0 : Int) : Rat) = 0 := rfl
    rw [this] at e5
    have e4 : x = fR x N := e3
    rw [e5, ← e4]
    grind
  · rw [if_neg h0] at e
    exact (List.map_inj_left.mp e) x hx
end Lk18
end

section
set_option Elab.async false
set_option linter.all false
set_option maxRecDepth 100000
set_option autoImplicit false
namespace Lk18
open PySem WT
/-! ### keys -/
def kL (l : List Rat) : NestedKey := .tup (l.map fun x => kPr (pr x).1 (pr x).2)
theorem keyNO_fr (q : Int × Int) : keyNO (fr q) = some (kPr q.1 q.2) := rfl
theorem keyNOs_sh (l : List Rat) : keyNOs (shL l) = some (l.map fun x => kPr (pr x).1 (pr x).2) := by
  induction l with
  | nil => rfl
  | cons x l ih =>
    have e : shL (x :: l) = fr (pr x) :: shL l := rfl
    rw [e, keyNOs, keyNO_fr, ih]
    rfl
theorem depth_pr (a b : Int) : (kPr a b).depth ≤ 3 := by
  unfold kPr
  simp [NestedKey.depth, NestedKey.depthAll]
theorem depthAll_sh (l : List Rat) : NestedKey.depthAll (l.map fun x => kPr (pr x).1 (pr x).2) ≤ 3 := by
  induction l with
  | nil => simp [NestedKey.depthAll]
  | cons x l ih =>
    rw [List.map_cons, NestedKey.depthAll]
    have := depth_pr (pr x).1 (pr x).2
    omega
theorem keyTO_sh (l : List Rat) : keyTO (.tup (shL l)) = some (kL l) := by
  have h1 : keyNO (.tup (shL l)) = some (kL l) := by
    rw [keyNO, keyNOs_sh]; rfl
  have h2 : (kL l).depth ≤ 8 := by
    unfold kL
    rw [NestedKey.depth]
    have := depthAll_sh l
    omega
  rw [keyTO, h1]
  show (if (kL l).depth ≤ 8 then some (kL l) else none) = _
  rw [if_pos h2]
theorem kL_inj {l l' : List Rat} (h : kL l = kL l') : l = l' := by
  unfold kL at h
  injection h with h
  exact (List.map_inj_right fun x y e => by
    obtain ⟨h1, h2⟩ := kPr_inj.mp e
    exact pr_inj (Prod.ext h1 h2)).mp h
/-! ### the law's least mean -/
theorem ll_1 (st : Sto) (p : D) (x1 x2 x3 x4 x5 x6 x7 x8 x9 : Option D) : evS g_law_least t_law_least1 [some p, x1, x2, x3, x4, x5, x6, x7, x8, x9] st = .nx [some p, x1, x2, some (.dT [] []), some (.lst []), some p, x6, x7, x8, x9] st := by
  have z0 : (0 : Nat) ≤ sizeLine := by decide
  simp [t_law_least1, z0]
theorem ll_b (st : Sto) (l : List Rat) (ks : List NestedKey) (vs : List D) (v : D) (x0 x1 x2 x4 x6 x7 x8 x9 : Option D) (hv : valP ks vs (kL l) = some v) : evSs g_law_least l_law_least1 [x0, x1, x2, some (.dT ks vs), x4, some (.tup (shL l)), x6, x7, x8, x9] st = .bk [x0, x1, x2, some (.dT ks vs), x4, some (.tup (shL l)), x6, x7, x8, x9] st := by
  have h : evS g_law_least tl_law_least1_1 [x0, x1, x2, some (.dT ks vs), x4, some (.tup (shL l)), x6, x7, x8, x9] st = .bk [x0, x1, x2, some (.dT ks vs), x4, some (.tup (shL l)), x6, x7, x8, x9] st := by simp [tl_law_least1_1, keyTO_sh, hv]
  rw [btl_law_least1, evSs_cons, h]
  rfl
theorem ll_l1 (st : Sto) (l : List Rat) (ks : List NestedKey) (vs : List D) (x0 x1 x2 x4 x6 x7 x8 x9 : Option D) (hv : valP ks vs (kL l) = none) : evS g_law_least tl_law_least1_1 [x0, x1, x2, some (.dT ks vs), x4, some (.tup (shL l)), x6, x7, x8, x9] st = .nx [x0, x1, x2, some (.dT ks vs), x4, some (.tup (shL l)), x6, x7, x8, x9] st := by
  simp [tl_law_least1_1, keyTO_sh, hv]
theorem ll_l2 (st : Sto) (l : List Rat) (ks : List NestedKey) (vs : List D) (tn : Int) (x0 x2 x4 x6 x7 x8 x9 : Option D) (hv : valP ks vs (kL l) = none) (hk : ks.length < sizeLine) : evS g_law_least tl_law_least1_2 [x0, some (.int tn), x2, some (.dT ks vs), x4, some (.tup (shL l)), x6, x7, x8, x9] st = .nx [x0, some (.int tn), x2, some (.dT (ks ++ [kL l]) (vs ++ [.int tn])), x4, some (.tup (shL l)), x6, x7, x8, x9] st := by
  simp [tl_law_least1_2, keyTO_sh, hv, hk, noL]
theorem ll_l3 (st : Sto) (p : D) (tn : Int) (fs : List D) (t : Int × Int) (x2 x3 x5 x6 x7 x8 x9 : Option D) (h : F_law_tail.sem [p, .int tn] st = .ok (fr t) st) (hl : fs.length < sizeLine) : evS g_law_least tl_law_least1_3 [some p, some (.int tn), x2, x3, some (.lst fs), x5, x6, x7, x8, x9] st = .nx [some p, some (.int tn), x2, x3, some (.lst (fs ++ [fr t])), x5, x6, x7, x8, x9] st := by
  simp [tl_law_least1_3, h, isLs, chg, hl]
theorem ll_c (st : Sto) (p : Int × Int) (r : Int) (d : D) (x0 x1 x2 x3 x4 x5 x6 x7 : Option D) (hp : 0 < p.2) (hr : (2 * p.1) % p.2 = r) (h : F_law_number.sem [.int r, .int p.2] st = .ok d st) : kCb g_law_least (.tup (.cons (.name 8) (.cons (.name 9) .nil))) false .non e_law_least1 [x0, x1, x2, x3, x4, x5, x6, x7, none, none] (fr p) st = .ok (some d) st := by
  have g1 : ∀ z : D, guardO (mulOK 2 p.1) z = some z := fun z => guardO_true (mulOK_l (by decide) (by decide))
  have hb0 : p.2 ≠ 0 := by omega
  simp [bindTg_fr, e_law_least1, g1, hb0, fmod_nn (a := 2 * p.1) (b := p.2) (by omega), hr, h]
theorem ll_l4 (st : Sto) (xs ys : List D) (x0 x1 x2 x3 x4 x6 x7 : Option D) (c : compLoop (kCb g_law_least (.tup (.cons (.name 8) (.cons (.name 9) .nil))) false .non e_law_least1 [x0, x1, x2, x3, x4, some (.tup xs), x6, x7, none, none]) xs st = .ok ys st) (hl : ys.length ≤ sizeLine) : evS g_law_least tl_law_least1_4 [x0, x1, x2, x3, x4, some (.tup xs), x6, x7, none, none] st = .nx [x0, x1, x2, x3, x4, some (.tup ys), x6, x7, none, none] st := by
  simp [tl_law_least1_4, c, hl]
theorem ll_2 (st : Sto) (n : Int) (R : List D) (r : RS) (x0 x1 x2 x3 x4 x5 x6 x7 x8 x9 : Option D) (hn : n = 4000) (hr : rangeD 0 n 1 = some R) (hw : forD (.name 1) (evSs g_law_least l_law_least1) R [x0, x1, x2, x3, x4, x5, x6, x7, x8, x9] st = r) : evS g_law_least t_law_least2 [x0, x1, x2, x3, x4, x5, x6, x7, x8, x9] st = r := by
  have h : evIt g_law_least (.range1 (.int 4000)) [x0, x1, x2, x3, x4, x5, x6, x7, x8, x9] st = .ok R st := by rw [← hn]; simp [hr]
  rw [t_law_least2, evS_for, h]
  exact hw
theorem ll_3 (st : Sto) (l : List Rat) (ks : List NestedKey) (vs fs : List D) (j len m P : Int) (x0 x1 x2 x6 x7 x8 x9 : Option D) (hv : valP ks vs (kL l) = some (.int j)) (hlen : ∀ st, biD st .len [.lst fs] = some (.int len)) (hm : len - j = m) (hp : F_law_power.sem [.int m] st = .ok (.int P) st) : evS g_law_least t_law_least3 [x0, x1, x2, some (.dT ks vs), some (.lst fs), some (.tup (shL l)), x6, x7, x8, x9] st = .nx [x0, x1, x2, some (.dT ks vs), some (.lst fs), some (.tup (shL l)), some (.int j), some (.int P), x8, x9] st := by
  simp [t_law_least3, keyTO_sh, hv, -biD_lenl, hlen, hm, hp, noL]
theorem ll_4 (st : Sto) (fs C : List D) (j P P1 : Int) (s d : D) (x0 x1 x2 x3 x5 x8 x9 : Option D) (hP : 1 < P) (h1 : P - 1 = P1) (c : cutL fs (some j) none = C) (hs : F_law_sum.sem [.lst C] st = .ok s st) (ht : F_law_times.sem [s, fr (P, P1)] st = .ok d st) : evS g_law_least t_law_least4 [x0, x1, x2, x3, some (.lst fs), x5, some (.int j), some (.int P), x8, x9] st = .nx [x0, x1, some d, x3, some (.lst fs), x5, some (.int j), some (.int P), x8, x9] st := by
  have z2 : (2 : Nat) ≤ sizeLine := by decide
  simp [t_law_least4, hP, h1, c, hs, ht, z2]
theorem ll_5 (st : Sto) (fs A : List D) (j : Int) (s a d : D) (x0 x1 x3 x5 x7 x8 x9 : Option D) (c : cutL fs none (some j) = A) (hs : F_law_sum.sem [.lst A] st = .ok s st) (ht : F_law_plus.sem [s, a] st = .ok d st) : (evSs g_law_least (.cons t_law_least5 .nil) [x0, x1, some a, x3, some (.lst fs), x5, some (.int j), x7, x8, x9] st).fin = .ok d st := by
  rw [t_law_least5]
  refine ret_fin ?_
  simp [c, hs, ht]
theorem ll_call (st : Sto) (a : D) : F_law_least.sem [a] st = (evSs g_law_least b_law_least [some a, none, none, none, none, none, none, none, none, none] st).fin := by
  rw [ev_law_least]; rfl
theorem rs_next (xs : List Rat) (n : Nat) (h : ∀ x ∈ xs, 0 ≤ x ∧ x ≤ 1) : rs xs (n + 1) = (rs xs n).map fun x => fR x 1 := by
  unfold rs
  rw [if_neg (by omega)]
  by_cases h0 : n = 0
  · subst h0
    rw [if_pos rfl]
  · rw [if_neg h0, List.map_map]
    exact List.map_congr_left fun x hx => (fR_again n).symm
theorem rs_ld {d : Nat} {xs : List Rat} (s : Ld d xs) (n : Nat) : Ld d (rs xs n) := by
  unfold rs
  split
  · exact s
  · exact s.rests n
theorem step_rests (st : Sto) {d : Nat} {l : List Rat} (s : Ld d l) (x0 x1 x2 x3 x4 x6 x7 : Option D) : evS g_law_least tl_law_least1_4 [x0, x1, x2, x3, x4, some (.tup (shL l)), x6, x7, none, none] st = .nx [x0, x1, x2, x3, x4, some (.tup (shL (l.map fun x => fR x 1))), x6, x7, none, none] st := by
  have hl := s.l
  refine ll_l4 st _ _ _ _ _ _ _ _ _ ?_ (by rw [shL_len, List.length_map]; unfold sizeLine; omega)
  have e : shL (l.map fun x => fR x 1) = l.map fun x => fr (pr (fR x 1)) := by unfold shL; rw [List.map_map]; rfl
  rw [e]
  refine compLoop_mm (fun x => fr (pr x)) (fun x => fr (pr (fR x 1))) fun x hx => ?_
  have hb := s.bd hx
  have hn := sem_law_number (a := (2 * (pr x).1) % (pr x).2) (b := (pr x).2) st (pr_lw x).1 hb.p.2.2.2
  have e2 : ((((2 * (pr x).1) % (pr x).2 : Int)) : Rat) / (((pr x).2 : Int) : Rat) = fR x 1 := by
    unfold fR
    show ((((2 * x.num) % (x.den : Int) : Int)) : Rat) / (((x.den : Nat) : Int) : Rat) = _
    rw [Int.mul_comm 2 x.num]
    rfl
  rw [e2] at hn
  exact ll_c st (pr x) _ _ _ _ _ _ _ _ _ _ (pr_lw x).1 rfl hn
theorem met_none {xs : List Rat} {N j i : Nat} (o : Rj xs N j) (hi : i < N) : valP ((List.range i).map fun n => kL (rs xs n)) (nl (List.range i)) (kL (rs xs i)) = none := valP_none fun z => by
  obtain ⟨k, hk, e⟩ := List.mem_map.mp z
  exact o.nd k i (List.mem_range.mp hk) hi (kL_inj e)
theorem met_some {xs : List Rat} {N j : Nat} (o : Rj xs N j) : valP ((List.range N).map fun n => kL (rs xs n)) (nl (List.range N)) (kL (rs xs N)) = some (.int (j : Int)) := by
  have hj := o.hj
  refine valP_at (j := j) (by rw [List.getElem?_map, List.getElem?_range hj]; show some (kL (rs xs j)) = _; rw [o.eq]) (fun i hi h => ?_) ?_
  · rw [List.getElem?_map, List.getElem?_range (by omega)] at h
    have h1 : kL (rs xs i) = kL (rs xs N) := Option.some.inj h
    exact o.nd i j hi hj ((kL_inj h1).trans o.eq.symm)
  · unfold nl
    rw [List.getElem?_map, List.getElem?_range hj]; rfl
theorem least_loop (st : Sto) {d : Nat} {xs : List Rat} (s : Ld d xs) {N j : Nat} (o : Rj xs N j) (x1 x2 x6 x7 : Option D) : ∃ y1, forD (.name 1) (evSs g_law_least l_law_least1) ((List.range 4000).map fun (i : Nat) => D.int (i : Int)) [some (.tup (shL xs)), x1, x2, some (.dT [] []), some (.lst []), some (.tup (shL xs)), x6, x7, none, none] st
    = .nx [some (.tup (shL xs)), y1, x2, some (.dT ((List.range N).map fun n => kL (rs xs n)) (nl (List.range N))), some (.lst (shL ((List.range N).map (tailR xs)))), some (.tup (shL (rs xs N))), x6, x7, none, none] st := by
  have hN := o.hN
  refine forD_map (P := fun z => ∃ y1, z = .nx [some (.tup (shL xs)), y1, x2, some (.dT ((List.range N).map fun n => kL (rs xs n)) (nl (List.range N))), some (.lst (shL ((List.range N).map (tailR xs)))), some (.tup (shL (rs xs N))), x6, x7, none, none] st)
    (fun pre env st' => st' = st ∧ pre.length ≤ N ∧ ∃ y1, env = [some (.tup (shL xs)), y1, x2, some (.dT ((List.range pre.length).map fun n => kL (rs xs n)) (nl (List.range pre.length))), some (.lst (shL ((List.range pre.length).map (tailR xs)))), some (.tup (shL (rs xs pre.length))), x6, x7, none, none]) ⟨rfl, Nat.zero_le _, x1, rfl⟩ ?_ ?_
  · rintro pre i post env st' e ⟨rfl, hp, y, rfl⟩
    obtain ⟨rfl, hpre⟩ := pre_range e
    rw [List.length_append, List.length_singleton]
    generalize pre.length = i at *
    by_cases h : i < N
    · have hv := met_none o h
      have f4 := step_rests st' (rs_ld s i) (some (.tup (shL xs))) (some (.int (i : Int))) x2 (some (.dT (((List.range i).map fun n => kL (rs xs n)) ++ [kL (rs xs i)]) (nl (List.range i) ++ [.int (i : Int)]))) (some (.lst (shL ((List.range i).map (tailR xs)) ++ [fr (pr (tailR xs i))]))) x6 x7
      rw [← rs_next xs i fun x hx => ⟨(s.h x hx).2.1, (s.h x hx).2.2⟩] at f4
      have core : evSs g_law_least l_law_least1 [some (.tup (shL xs)), some (.int (i : Int)), x2, some (.dT ((List.range i).map fun n => kL (rs xs n)) (nl (List.range i))), some (.lst (shL ((List.range i).map (tailR xs)))), some (.tup (shL (rs xs i))), x6, x7, none, none] st' = .nx [some (.tup (shL xs)), some (.int (i : Int)), x2, some (.dT (((List.range i).map fun n => kL (rs xs n)) ++ [kL (rs xs i)]) (nl (List.range i) ++ [.int (i : Int)])), some (.lst (shL ((List.range i).map (tailR xs)) ++ [fr (pr (tailR xs i))])), some (.tup (shL (rs xs (i + 1)))), x6, x7, none, none] st' := by
        rw [btl_law_least1]
        exact seq_nx2 (ll_l1 st' _ _ _ _ _ _ _ _ _ _ _ hv) (seq_nx2 (ll_l2 st' _ _ _ i _ _ _ _ _ _ _ hv (by simp; unfold sizeLine; omega)) (seq_nx2 (ll_l3 st' _ i _ _ _ _ _ _ _ _ _ (sem_law_tail st' s i (by omega)) (by rw [shL_len, List.length_map, List.length_range]; unfold sizeLine; omega)) (seq_nx2 f4 rfl)))
      refine ⟨_, bindTg_name _ _ _, stepN _ rfl core ⟨rfl, by omega, some (.int (i : Int)), ?_⟩⟩
      rw [List.range_succ, List.map_append, List.map_append, shL_app]
      unfold nl
      rw [List.map_append]
      rfl
    · obtain rfl : i = N := by omega
      exact ⟨_, bindTg_name _ _ _, stepB _ rfl (ll_b st' _ _ _ _ _ _ _ _ _ _ _ _ (met_some o)) ⟨_, rfl⟩⟩
  · rintro env st' ⟨rfl, hp, y, rfl⟩
    rw [List.length_range] at hp
    omega
end Lk18
end

section
set_option Elab.async false
set_option linter.all false
set_option maxRecDepth 100000
set_option autoImplicit false
namespace Lk18
open PySem WT
theorem d_2012 {d : Nat} (h : d ≤ 2000) : ((d * 2 ^ 2001 : Nat) : Int) ≤ ((2 ^ 2012 : Nat) : Int) := Int.ofNat_le.mpr (by
  have : 2 ^ 2012 = 2 ^ 11 * 2 ^ 2001 := by rw [← Nat.pow_add]
  rw [this]
  exact Nat.mul_le_mul (by omega) (Nat.le_refl _))
theorem d_4013 {d m : Nat} (h : d ≤ 2000) (hm : m ≤ 2001) : ((d * 2 ^ 2001 : Nat) : Int) * ((2 ^ m - 1 : Nat) : Int) ≤ ((2 ^ 4013 : Nat) : Int) := by
  rw [← Int.natCast_mul]
  refine Int.ofNat_le.mpr ?_
  have : 2 ^ 4013 = 2 ^ 2012 * 2 ^ 2001 := by rw [← Nat.pow_add]
  rw [this]
  refine Nat.mul_le_mul ?_ (Nat.le_trans (Nat.sub_le _ _) (Nat.pow_le_pow_right (by omega) hm))
  have := d_2012 h
  omega
theorem d_pos {d : Nat} (h : 0 < d) : (0 : Int) < ((d * 2 ^ 2001 : Nat) : Int) := Int.natCast_pos.mpr (Nat.mul_pos h (Nat.pow_pos (by omega)))
theorem p_pos {m : Nat} (h : 0 < m) : (0 : Int) < ((2 ^ m - 1 : Nat) : Int) := by
  have := Nat.one_lt_two_pow (n := m) (by omega)
  omega
theorem gcd_pred {P : Nat} (h : 1 < P) : Nat.gcd P (P - 1) = 1 := by
  have h1 := Nat.gcd_dvd_left P (P - 1)
  have h2 := Nat.gcd_dvd_right P (P - 1)
  have h3 := Nat.dvd_sub h1 h2
  rw [show P - (P - 1) = 1 by omega] at h3
  exact Nat.dvd_one.mp h3
theorem fr_round {m : Nat} (h : 0 < m) : fr (((2 ^ m : Nat) : Int), ((2 ^ m - 1 : Nat) : Int)) = fr (pr (pw m / (pw m - 1))) := by
  have h1 := Nat.one_lt_two_pow (n := m) (by omega)
  have e : low ((2 ^ m : Nat) : Int) ((2 ^ m - 1 : Nat) : Int) = (((2 ^ m : Nat) : Int), ((2 ^ m - 1 : Nat) : Int)) := by
    unfold low
    simp only [Int.natAbs_natCast]
    rw [gcd_pred h1]
    simp
  rw [← e, low_pr (p_pos h)]
  have e2 : (((2 ^ m - 1 : Nat) : Int) : Rat) = pw m - 1 := by
    rw [B.P1]; rfl
  rw [e2]
  rfl
theorem round_in {m : Nat} (h : 0 < m) : InD ((2 ^ m - 1 : Nat) : Int) (pw m / (pw m - 1)) ∧ 0 ≤ pw m / (pw m - 1) ∧ pw m / (pw m - 1) ≤ cR 2 := by
  have h1 : InD ((2 ^ m - 1 : Nat) : Int) ((((2 ^ m : Nat) : Int) : Rat) / (((2 ^ m - 1 : Nat) : Int) : Rat)) := InD.div _ (by have := p_pos h; omega)
  have e2 : (((2 ^ m - 1 : Nat) : Int) : Rat) = pw m - 1 := by
    rw [B.P1]; rfl
  rw [e2] at h1
  have hp := pw1_pos h
  have h3 := pw_pos m
  have h4 : pw m ≤ 2 * (pw m - 1) := by
    have := pw_ge (m - 1)
    rw [show m = (m - 1) + 1 by omega, pw_succ]
    grind
  exact ⟨h1, le_div hp (by rw [Rat.zero_mul]; exact Rat.le_of_lt h3), div_le hp h4⟩
theorem tails_in {d : Nat} {xs : List Rat} (s : Ld d xs) {N : Nat} (hN : N ≤ 2001) : ∀ y ∈ (List.range N).map (tailR xs), InD ((d * 2 ^ 2001 : Nat) : Int) y ∧ 0 ≤ y ∧ y ≤ cR 60 := fun y hy => by
  obtain ⟨k, hk, rfl⟩ := List.mem_map.mp hy
  have hk := List.mem_range.mp hk
  obtain ⟨a1, a2, a3⟩ := tail_in s k
  exact ⟨a1.of (Int.natCast_dvd_natCast.mpr (Nat.mul_dvd_mul_left _ (Nat.pow_dvd_pow _ (by omega)))), a2, Rat.le_trans a3 (half_le (cR_nn 60) k).2⟩
theorem take_range (N j : Nat) (h : j ≤ N) (f : Nat → Rat) : ((List.range N).map f).take j = (List.range j).map f := by
  rw [← List.map_take, List.take_range, Nat.min_eq_left h]
theorem sem_law_least (st : Sto) {d : Nat} {xs : List Rat} (s : Ld d xs) (hd : d ≤ 2000) : F_law_least.sem [.tup (shL xs)] st = .ok (fr (pr (rsum (xs.map Cst)))) st := by
  obtain ⟨N, j, o⟩ := rj_exists (fun x hx => (s.h x hx).1) s.d0 hd
  have hj := o.hj
  have hN := o.hN
  obtain ⟨y1, hw⟩ := least_loop st s o none none none none
  have T := tails_in s hN
  have h0 : ∀ x ∈ xs, 0 ≤ x := fun x hx => (s.h x hx).2.1
  have eT : rsum ((List.range N).map (tailR xs)) = tS xs N := tS_list xs N
  have eA : rsum (((List.range N).map (tailR xs)).take j) = tS xs j := by rw [take_range N j (by omega), tS_list]
  have eS : rsum (((List.range N).map (tailR xs)).drop j) = tS xs N - tS xs j := by
    have := congrArg rsum (List.take_append_drop j ((List.range N).map (tailR xs)))
    rw [rsum_app, eA, eT] at this
    rw [← this]
    grind
  have hlen : ((List.range N).map (tailR xs)).length = N := by simp
  have due := due_eq h0 hj (o.fr h0)
  generalize hT : (List.range N).map (tailR xs) = L at *
  have lt : (L.take j).length ≤ 2001 := by rw [List.length_take]; omega
  have ld : (L.drop j).length ≤ 2001 := by rw [List.length_drop]; omega
  have inA := fun y hy => T y (List.mem_of_mem_take (i := j) hy)
  have inS := fun y hy => T y (List.mem_of_mem_drop (i := j) hy)
  have sA := law_sum2 st (.lst (shL (L.take j))) (L.take j) rfl (M := 60) (f := 20) (d_pos s.d0) inA (d_2012 hd) (by omega) (by omega)
  have sS := law_sum2 st (.lst (shL (L.drop j))) (L.drop j) rfl (M := 60) (f := 20) (d_pos s.d0) inS (d_2012 hd) (by omega) (by omega)
  obtain ⟨a1, a2, a3⟩ := rsum_in inA
  obtain ⟨b1, b2, b3⟩ := rsum_in inS
  rw [eA] at sA a1 a2 a3
  rw [eS] at sS b1 b2 b3
  obtain ⟨r1, r2, r3⟩ := round_in (m := N - j) (by omega)
  have hm : N - j ≤ 2001 := by omega
  have bS : Bd (tS xs N - tS xs j) := b1.bdN (M := 60 * (L.drop j).length + 1) (d_pos s.d0) b2 (Rat.le_trans b3 (cR_le (by omega))) (by omega) (d_2012 hd) (f := 20) (by omega) (by omega)
  have bA : Bd (tS xs j) := a1.bdN (M := 60 * (L.take j).length + 1) (d_pos s.d0) a2 (Rat.le_trans a3 (cR_le (by omega))) (by omega) (d_2012 hd) (f := 20) (by omega) (by omega)
  have bR : Bd (pw (N - j) / (pw (N - j) - 1)) := r1.bdN (M := 2) (p_pos (by omega)) r2 r3 (by omega) (Int.ofNat_le.mpr (Nat.le_trans (Nat.sub_le _ _) (Nat.pow_le_pow_right (n := 2) (by omega) hm))) (f := 2) (by decide) (by omega)
  have tm := ltimes2 st bS bR
  have iSR := b1.mul r1
  have v1 : 0 ≤ (tS xs N - tS xs j) * (pw (N - j) / (pw (N - j) - 1)) := Rat.mul_nonneg b2 r2
  have v2 : (tS xs N - tS xs j) * (pw (N - j) / (pw (N - j) - 1)) ≤ cR (60 * 2001 * 2) := by
    rw [cR_mul]
    have c1 : tS xs N - tS xs j ≤ cR (60 * 2001) := Rat.le_trans b3 (cR_le (by omega))
    exact Rat.le_trans (Rat.mul_le_mul_of_nonneg_right c1 r2) (Rat.mul_le_mul_of_nonneg_left r3 (cR_nn _))
  have bSR : Bd ((tS xs N - tS xs j) * (pw (N - j) / (pw (N - j) - 1))) := iSR.bdN (M := 60 * 2001 * 2) (Int.mul_pos (d_pos s.d0) (p_pos (by omega))) v1 v2 (by omega) (d_4013 hd hm) (f := 20) (by decide) (by omega)
  have pl := lplus2 st bA bSR
  have e9 : tS xs j + (tS xs N - tS xs j) * (pw (N - j) / (pw (N - j) - 1)) = rsum (xs.map Cst) := by
    rw [← due, Rat.div_def, Rat.div_def, ← Rat.mul_assoc]
  rw [e9] at pl
  rw [← fr_round (by omega)] at tm
  have cS := cutL_from (shL L) j (by rw [shL_len]; omega)
  have cA := cutL_to (shL L) j (by rw [shL_len]; omega)
  rw [shL_drop] at cS
  rw [shL_take] at cA
  have hP : (1 : Int) < ((2 ^ (N - j) : Nat) : Int) := by
    have := Nat.one_lt_two_pow (n := N - j) (by omega)
    omega
  have hP1 : ((2 ^ (N - j) : Nat) : Int) - 1 = ((2 ^ (N - j) - 1 : Nat) : Int) := by omega
  rw [ll_call, bt_law_least, seq_nx2 (ll_1 st _ _ _ _ _ _ _ _ _ _) (seq_nx2 (ll_2 st ((4000 : Nat) : Int) _ _ _ _ _ _ _ _ _ _ _ _ rfl (rangeD_n 4000 (by decide)) hw)
    (seq_nx2 (ll_3 st _ _ _ _ j N ((N - j : Nat) : Int) _ _ _ _ _ _ _ _ (met_some o) (fun st => by rw [biD_lenl, shL_len, hlen]) (by omega) (sem_law_power st (N - j) (by omega)))
    (seq_nx2 (ll_4 st _ _ j _ _ _ _ _ _ _ _ _ _ _ hP hP1 cS sS tm) rfl)))]
  exact ll_5 st _ _ j _ _ _ _ _ _ _ _ _ _ cA sA pl
/-! ### the program's least mean -/
theorem Cst_in {d : Nat} {xs : List Rat} (s : Ld d xs) {N j : Nat} (o : Rj xs N j) : ∀ x ∈ xs, InD (((d * 2 ^ 2001 : Nat) : Int) * ((2 ^ (N - j) - 1 : Nat) : Int)) (Cst x) ∧ 0 ≤ Cst x ∧ Cst x ≤ cR 2 := fun x hx => by
  have h0 : ∀ x ∈ xs, 0 ≤ x := fun x hx => (s.h x hx).2.1
  have e := o.fr h0 x hx
  have hr := rst_of (h0 x hx) e
  rw [Cst_eq (h0 x hx) o.hj e]
  have i1 := inD_c0 (t := x.num.toNat) x.den_pos o.hj (K := 2001) o.hN
  have t0 := tT_in (t := x.num.toNat) x.den_pos o.hj hr 0
  rw [c0_T] at t0
  refine ⟨i1.of (Int.mul_dvd_mul (Int.natCast_dvd_natCast.mpr (Nat.mul_dvd_mul (den_le s.d0 (s.h x hx).1) (Nat.dvd_refl _))) (Int.dvd_refl _)), t0.1, t0.2⟩
theorem lm_c (st : Sto) (s d : D) (x0 x1 : Option D) (h : F_cost_of.sem [s] st = .ok d st) : kCb g_least_mean_of (.name 1) false .non e_least_mean_of1 [x0, x1] s st = .ok (some d) st := by
  simp [e_least_mean_of1, h]
theorem lm_core (st : Sto) (xs ys : List D) (d : D) (c : compLoop (kCb g_least_mean_of (.name 1) false .non e_least_mean_of1 [some (.tup xs), none]) xs st = .ok ys st) (hl : ys.length ≤ sizeLine) (hs : F_sum_of_all.sem [.lst ys] st = .ok d st) : F_least_mean_of.sem [.tup xs] st = .ok d st := by
  rw [ev_least_mean_of]
  simp [b_least_mean_of, c, hl, hs]
theorem lm2_core (st : Sto) (x d : D) (h1 : F_check_shares.sem [x] st = .ok .non st) (h3 : F_least_mean_of.sem [x] st = .ok d st) : F_least_mean.sem [x] st = .ok d st := by
  rw [ev_least_mean]
  simp [b_least_mean, h1, h3]
theorem sem_least_mean (st : Sto) {d : Nat} {xs : List Rat} (s : Sx d xs) (hd : d ≤ 2000) (hb : ∀ x ∈ xs, x.den ≤ 200) : F_least_mean.sem [.tup (shL xs)] st = .ok (fr (pr (rsum (xs.map Cst)))) st := by
  have l := s.ld
  have hl := s.l
  obtain ⟨N, j, o⟩ := rj_exists (fun x hx => (l.h x hx).1) l.d0 hd
  have hj := o.hj
  have hN := o.hN
  have C := Cst_in l o
  refine lm2_core st _ _ (sem_check_shares st s) (lm_core st (shL xs) (shL (xs.map Cst)) _ ?_ (by rw [shL_len, List.length_map]; unfold sizeLine; omega) ?_)
  · have e : shL (xs.map Cst) = xs.map fun x => fr (pr (Cst x)) := by unfold shL; rw [List.map_map]; rfl
    rw [e]
    exact compLoop_mm (fun x => fr (pr x)) (fun x => fr (pr (Cst x))) fun x hx => lm_c st _ _ _ _ (sem_Cst st (l.h x hx).2.1 (l.h x hx).2.2 (hb x hx))
  · exact sum_list st (xs.map Cst) (M := 2) (f := 20) (Int.mul_pos (d_pos l.d0) (p_pos (by omega))) (fun y hy => by
      obtain ⟨x, hx, rfl⟩ := List.mem_map.mp hy
      exact C x hx) (d_4013 hd (show N - j ≤ 2001 by omega)) (show 2 * (xs.map Cst).length + 2 + 1 ≤ 2 ^ 20 by rw [List.length_map]; omega) (by omega)
end Lk18
end

section
set_option Elab.async false
set_option linter.all false
set_option maxRecDepth 100000
set_option autoImplicit false
namespace Lk18
open PySem WT
/-! ### the cheapest way -/
def gR (L : Nat) : Nat → Nat
  | 0 => 0
  | n + 1 => L % 2 ^ (n + 1) + gR L n
theorem gR_zero : ∀ n, gR 0 n = 0
  | 0 => rfl
  | n + 1 => by rw [gR, gR_zero n, Nat.zero_mod]
theorem gR_sub (L m : Nat) : ∀ n N, n ≤ N → m * 2 ^ N ≤ L → gR (L - m * 2 ^ N) n = gR L n
  | 0, _, _, _ => rfl
  | n + 1, N, h, hm => by
    rw [gR, gR, gR_sub L m n N (by omega) hm]
    congr 1
    obtain ⟨p, rfl⟩ : ∃ p, N = n + 1 + p := ⟨N - (n + 1), by omega⟩
    have e : m * 2 ^ (n + 1 + p) = 2 ^ (n + 1) * (m * 2 ^ p) := by
      rw [Nat.pow_add, ← Nat.mul_assoc, Nat.mul_comm m, Nat.mul_assoc]
    rw [e] at hm ⊢
    exact Nat.sub_mul_mod hm
theorem ch_1a (n : Nat) (st : Sto) (L : Int) (x1 x2 x3 x4 x5 : Option D) (h : L = 0) : evS (g_law_cheapest n) t_law_cheapest1 [some (.int L), x1, x2, x3, x4, x5] st = .rt (.int 0) st := by
  simp [t_law_cheapest1, h]
theorem ch_1b (n : Nat) (st : Sto) (L : Int) (x1 x2 x3 x4 x5 : Option D) (h : L ≠ 0) : evS (g_law_cheapest n) t_law_cheapest1 [some (.int L), x1, x2, x3, x4, x5] st = .nx [some (.int L), x1, x2, x3, x4, x5] st := by
  simp [t_law_cheapest1, h]
theorem ch_2a (n : Nat) (st : Sto) (L k D r : Int) (x3 x4 x5 : Option WT.D) (h : k = D) (g : ∀ z : WT.D, guardO (mulOK k L) z = some z) (hr : k * L = r) : evS (g_law_cheapest n) t_law_cheapest2 [some (.int L), some (.int k), some (.int D), x3, x4, x5] st = .rt (.int r) st := by
  subst h
  simp [t_law_cheapest2, g, hr]
theorem ch_2b (n : Nat) (st : Sto) (k D : Int) (x0 x3 x4 x5 : Option WT.D) (h : k ≠ D) : evS (g_law_cheapest n) t_law_cheapest2 [x0, some (.int k), some (.int D), x3, x4, x5] st = .nx [x0, some (.int k), some (.int D), x3, x4, x5] st := by
  simp [t_law_cheapest2, h]
theorem ch_3 (n : Nat) (st : Sto) (k D m P : Int) (x0 x3 x4 x5 : Option WT.D) (hm : D - k = m) (hp : F_law_power.sem [.int m] st = .ok (.int P) st) : evS (g_law_cheapest n) t_law_cheapest3 [x0, some (.int k), some (.int D), x3, x4, x5] st = .nx [x0, some (.int k), some (.int D), x3, some (.int P), some (.lst [])] st := by
  have z0 : (0 : Nat) ≤ sizeLine := by decide
  simp [t_law_cheapest3, hm, hp, z0]
theorem ch_l (n : Nat) (st : Sto) (L k D m P mP mPk L2 k1 r s : Int) (fs : List WT.D) (g1 : ∀ z : WT.D, guardO (mulOK m P) z = some z) (h1 : m * P = mP) (g2 : ∀ z : WT.D, guardO (mulOK mP k) z = some z) (h2 : mP * k = mPk) (h3 : L - mP = L2) (h4 : k + 1 = k1) (hc : s_law_cheapest n [.int L2, .int k1, .int D] st = .ok (.int r) st) (hs : mPk + r = s) (hl : fs.length < sizeLine) :
    evSs (g_law_cheapest n) l_law_cheapest1 [some (.int L), some (.int k), some (.int D), some (.int m), some (.int P), some (.lst fs)] st = .nx [some (.int L), some (.int k), some (.int D), some (.int m), some (.int P), some (.lst (fs ++ [.int s]))] st := by
  have hn : noL (.int s) = true := rfl
  simp [l_law_cheapest1, g1, h1, g2, h2, h3, h4, hc, hs, isLs, chg, hl, hn]
theorem ch_4 (n : Nat) (st : Sto) (L P q : Int) (R : List WT.D) (r : RS) (x1 x2 x3 x5 : Option WT.D) (hd : divOK P) (hP : 0 ≤ P) (hq : L / P + 1 = q) (hr : rangeD 0 q 1 = some R) (hw : forD (.name 3) (evSs (g_law_cheapest n) l_law_cheapest1) R [some (.int L), x1, x2, x3, some (.int P), x5] st = r) : evS (g_law_cheapest n) t_law_cheapest4 [some (.int L), x1, x2, x3, some (.int P), x5] st = r := by
  have h : evIt (g_law_cheapest n) (.range1 (.bin .Add (.bin .FloorDiv (.var 0) (.var 4)) (.int 1))) [some (.int L), x1, x2, x3, some (.int P), x5] st = .ok R st := by simp [hd, fdiv_nn (b := P) hP, hq, hr]
  rw [t_law_cheapest4, evS_for, h]
  exact hw
theorem ch_5 (n : Nat) (st : Sto) (fs : List WT.D) (d : WT.D) (x0 x1 x2 x3 x4 : Option WT.D) (h : ∀ st, biD st .min [.lst fs] = some d) : (evSs (g_law_cheapest n) (.cons t_law_cheapest5 .nil) [x0, x1, x2, x3, x4, some (.lst fs)] st).fin = .ok d st := by
  rw [t_law_cheapest5]
  exact ret_fin (by simp [h])
theorem minI_ex : ∀ ns : List Int, ns ≠ [] → ∃ M, minI ns = some M ∧ M ∈ ns ∧ ∀ n ∈ ns, M ≤ n := by
  intro ns hn
  cases ns with
  | nil => exact absurd rfl hn
  | cons x xs =>
    have key : ∀ (xs : List Int) (x : Int), (xs.foldl (fun m y => if y < m then y else m) x) ∈ x :: xs ∧ ∀ n ∈ x :: xs, xs.foldl (fun m y => if y < m then y else m) x ≤ n := by
      intro xs
      induction xs with
      | nil => intro x; simp
      | cons y ys ih =>
        intro x
        rw [List.foldl_cons]
        obtain ⟨h1, h2⟩ := ih (if y < x then y else x)
        refine ⟨?_, fun n hn => ?_⟩
        · rcases List.mem_cons.mp h1 with h | h
          · rw [h]
            split <;> simp
          · simp [h]
        · have h3 := h2 _ (List.mem_cons_self)
          rcases List.mem_cons.mp hn with rfl | hn
          · refine Int.le_trans h3 ?_
            split <;> omega
          · rcases List.mem_cons.mp hn with rfl | hn
            · refine Int.le_trans h3 ?_
              split <;> omega
            · exact h2 n (by simp [hn])
    exact ⟨_, rfl, (key xs x).1, (key xs x).2⟩
theorem ch_call (n : Nat) (st : Sto) (a b c : D) : s_law_cheapest (n + 1) [a, b, c] st = (evSs (g_law_cheapest n) b_law_cheapest [some a, some b, some c, none, none, none] st).fin := by
  rw [ev_law_cheapest]; rfl
theorem seq_rt' {g : GE} {s : S} {ss : Ss} {env : WT.Env} {st st' : Sto} {d : D} (h : evS g s env st = .rt d st') : (evSs g (.cons s ss) env st).fin = .ok d st' := by rw [evSs_cons, h]; rfl
theorem sem_cheapest : ∀ (n f : Nat), n ≤ f → ∀ (st : Sto) (L k D : Nat), k + n = D → D ≤ 20 → L ≤ 1000 → s_law_cheapest (f + 1) [.int (L : Int), .int (k : Int), .int (D : Int)] st = .ok (.int ((k * L + gR L n : Nat) : Int)) st := by
  intro n
  induction n with
  | zero =>
    intro f hf st L k D hk hD hL
    rw [ch_call, bt_law_cheapest]
    by_cases h0 : L = 0
    · subst h0
      rw [seq_rt' (ch_1a f st ((0 : Nat) : Int) _ _ _ _ _ rfl)]
      rfl
    · rw [seq_nx2 (ch_1b f st _ _ _ _ _ _ (by omega)) rfl, seq_rt' (ch_2a f st L k D ((k * L : Nat) : Int) _ _ _ (by omega) (fun z => guardO_true (mulOK_r (by omega) (by omega))) (by rw [Int.natCast_mul]))]
      rfl
  | succ n ih =>
    intro f hf st L k D hk hD hL
    obtain ⟨f, rfl⟩ : ∃ f', f = f' + 1 := ⟨f - 1, by omega⟩
    rw [ch_call, bt_law_cheapest]
    by_cases h0 : L = 0
    · subst h0
      rw [seq_rt' (ch_1a (f + 1) st ((0 : Nat) : Int) _ _ _ _ _ rfl), Nat.mul_zero, gR_zero]
      rfl
    · have hP0 : 0 < 2 ^ (n + 1) := Nat.pow_pos (by omega)
      have hP20 : 2 ^ (n + 1) ≤ 2 ^ 20 := Nat.pow_le_pow_right (by omega) (by omega)
      obtain ⟨y3, hw⟩ : ∃ y3, forD (.name 3) (evSs (g_law_cheapest (f + 1)) l_law_cheapest1) ((List.range (L / 2 ^ (n + 1) + 1)).map fun (i : Nat) => WT.D.int (i : Int)) [some (.int (L : Int)), some (.int (k : Int)), some (.int (D : Int)), none, some (.int ((2 ^ (n + 1) : Nat) : Int)), some (.lst [])] st
          = .nx [some (.int (L : Int)), some (.int (k : Int)), some (.int (D : Int)), y3, some (.int ((2 ^ (n + 1) : Nat) : Int)), some (.lst (nl ((List.range (L / 2 ^ (n + 1) + 1)).map fun m => (k + 1) * L - m * 2 ^ (n + 1) + gR L n)))] st := by
        refine forD_map (P := fun z => ∃ y3, z = .nx [some (.int (L : Int)), some (.int (k : Int)), some (.int (D : Int)), y3, some (.int ((2 ^ (n + 1) : Nat) : Int)), some (.lst (nl ((List.range (L / 2 ^ (n + 1) + 1)).map fun m => (k + 1) * L - m * 2 ^ (n + 1) + gR L n)))] st)
          (fun pre env st' => st' = st ∧ ∃ y3, env = [some (.int (L : Int)), some (.int (k : Int)), some (.int (D : Int)), y3, some (.int ((2 ^ (n + 1) : Nat) : Int)), some (.lst (nl ((List.range pre.length).map fun m => (k + 1) * L - m * 2 ^ (n + 1) + gR L n)))]) ⟨rfl, none, rfl⟩ ?_ ?_
        · rintro pre i post env st' e ⟨rfl, y3, rfl⟩
          obtain ⟨rfl, hpre⟩ := pre_range e
          rw [List.length_append, List.length_singleton]
          generalize pre.length = m at *
          have hm : m * 2 ^ (n + 1) ≤ L := Nat.le_trans (Nat.mul_le_mul_right _ (by omega : m ≤ L / 2 ^ (n + 1))) (Nat.div_mul_le_self _ _)
          have hml : m ≤ 1000 := Nat.le_trans (Nat.le_mul_of_pos_right m hP0) (Nat.le_trans hm hL)
          have hc := ih f (by omega) st' (L - m * 2 ^ (n + 1)) (k + 1) D (by omega) hD (by omega)
          rw [gR_sub L m n (n + 1) (by omega) hm] at hc
          have hkl : m * 2 ^ (n + 1) * k + ((k + 1) * (L - m * 2 ^ (n + 1)) + gR L n) = (k + 1) * L - m * 2 ^ (n + 1) + gR L n := by
            generalize m * 2 ^ (n + 1) = q at *
            obtain ⟨u, rfl⟩ : ∃ u, L = q + u := ⟨L - q, by omega⟩
            rw [Nat.add_sub_cancel_left, Nat.add_mul, Nat.add_mul, Nat.one_mul, Nat.one_mul, Nat.mul_add, Nat.mul_comm q k]
            omega
          generalize hq : 2 ^ (n + 1) = P at *
          have hk20 : k ≤ 20 := by omega
          have core := ch_l (f + 1) st' L k D m P ((m * P : Nat) : Int) ((m * P * k : Nat) : Int) ((L - m * P : Nat) : Int) ((k + 1 : Nat) : Int) _ (((k + 1) * L - m * P + gR L n : Nat) : Int) (nl ((List.range m).map fun m => (k + 1) * L - m * P + gR L n)) (fun z => guardO_true (mulOK_r (by omega) (by omega))) (by rw [Int.natCast_mul]) (fun z => guardO_true (mulOK_r (by omega) (by omega))) (by rw [Int.natCast_mul (m * P) k]) (by omega) (by omega) hc (by rw [← hkl]; simp only [Int.natCast_add]) (by rw [nl_length, List.length_map, List.length_range]; unfold sizeLine; omega)
          refine ⟨_, bindTg_name _ _ _, stepN _ rfl core ⟨rfl, some (.int (m : Int)), ?_⟩⟩
          rw [List.range_succ, List.map_append]
          unfold nl
          rw [List.map_append]
          rfl
        · rintro env st' ⟨rfl, y3, rfl⟩
          rw [List.length_range]
          exact ⟨y3, rfl⟩
      have hmin : ∀ st, biD st .min [.lst (nl ((List.range (L / 2 ^ (n + 1) + 1)).map fun m => (k + 1) * L - m * 2 ^ (n + 1) + gR L n))] = some (.int ((k * L + gR L (n + 1) : Nat) : Int)) := fun st => by
        show ((intsD (nl _)).bind minI).map WT.D.int = _
        rw [nl_ilst, intsD_ints]
        show (minI _).map WT.D.int = _
        obtain ⟨M, h1, h2, h3⟩ := minI_ex (((List.range (L / 2 ^ (n + 1) + 1)).map fun m => (k + 1) * L - m * 2 ^ (n + 1) + gR L n).map fun (n : Nat) => (n : Int)) (by simp)
        rw [h1]
        obtain ⟨v, hv, hM⟩ := List.mem_map.mp h2
        obtain ⟨m, hm, rfl⟩ := List.mem_map.mp hv
        have hm := List.mem_range.mp hm
        have hq := h3 (((k + 1) * L - (L / 2 ^ (n + 1)) * 2 ^ (n + 1) + gR L n : Nat) : Int) (List.mem_map.mpr ⟨_, List.mem_map.mpr ⟨L / 2 ^ (n + 1), List.mem_range.mpr (by omega), rfl⟩, rfl⟩)
        have hmq : m * 2 ^ (n + 1) ≤ (L / 2 ^ (n + 1)) * 2 ^ (n + 1) := Nat.mul_le_mul_right _ (by omega)
        have hdm : (L / 2 ^ (n + 1)) * 2 ^ (n + 1) + L % 2 ^ (n + 1) = L := by rw [Nat.mul_comm]; exact Nat.div_add_mod _ _
        have hk1 : (k + 1) * L = k * L + L := by rw [Nat.add_mul, Nat.one_mul]
        show some (WT.D.int M) = _
        rw [gR]
        refine congrArg some (congrArg WT.D.int ?_)
        omega
      have f3 := ch_3 (f + 1) st k D ((n + 1 : Nat) : Int) _ (some (.int (L : Int))) none none none (by omega) (sem_law_power st (n + 1) (by omega))
      have f4 := ch_4 (f + 1) st L ((2 ^ (n + 1) : Nat) : Int) ((L / 2 ^ (n + 1) + 1 : Nat) : Int) _ _ (some (.int (k : Int))) (some (.int (D : Int))) none (some (.lst [])) (divOK_small (by omega) (by omega)) (by omega) (by rw [← Int.natCast_ediv]; rfl) (rangeD_n _ (by
        have := Nat.div_le_self L (2 ^ (n + 1))
        omega)) hw
      rw [seq_nx2 (ch_1b (f + 1) st _ _ _ _ _ _ (by omega)) (seq_nx2 (ch_2b (f + 1) st k D _ _ _ _ (by omega)) (seq_nx2 f3 (seq_nx2 f4 rfl)))]
      exact ch_5 (f + 1) st _ _ _ _ _ _ _ hmin
theorem sem_law_cheapest (st : Sto) (L n : Nat) (hn : n ≤ 8) (hL : L ≤ 1000) : F_law_cheapest.sem [.int (L : Int), .int 0, .int (n : Int)] st = .ok (.int ((gR L n : Nat) : Int)) st := by
  have := sem_cheapest n 11 (by omega) st L 0 n (by omega) (by omega) hL
  rw [Nat.zero_mul, Nat.zero_add] at this
  exact this
end Lk18
end

section
set_option Elab.async false
set_option linter.all false
set_option maxRecDepth 100000
set_option autoImplicit false
namespace Lk18
open PySem WT
/-! ### the cheapest way is the cost -/
theorem frac_uniq {a b : Rat} {z : Int} (h : a - b = (z : Rat)) (a0 : 0 ≤ a) (a1 : a < 1) (b0 : 0 ≤ b) (b1 : b < 1) : a = b := by
  have z1 : (z : Rat) < ((1 : Int) : Rat) := by
    have : ((1 : Int) : Rat) = 1 := rfl
    rw [this]; grind
  have z2 : ((-1 : Int) : Rat) < (z : Rat) := by
    have : ((-1 : Int) : Rat) = -1 := rfl
    rw [this]; grind
  have z3 := Rat.intCast_lt_intCast.mp z1
  have z4 := Rat.intCast_lt_intCast.mp z2
  have z0 : z = 0 := by omega
  rw [z0] at h
  have : ((0 : Int) : Rat) = 0 := rfl
  rw [this] at h
  grind
theorem fR_pow {L n i D : Nat} (h : n + 1 + i = D) : fR (cR L / pw D) i = cR (L % 2 ^ (n + 1)) / pw (n + 1) := by
  obtain ⟨q, e, _⟩ := fR_eq (cR L / pw D) i
  have b := fR_01 (cR L / pw D) i
  have hD : pw D = pw (n + 1) * pw i := by rw [← pw_add, h]
  have p1 := pw_ne (n + 1)
  have p2 := pw_ne i
  have hdm : L = 2 ^ (n + 1) * (L / 2 ^ (n + 1)) + L % 2 ^ (n + 1) := (Nat.div_add_mod L (2 ^ (n + 1))).symm
  have hL : cR L = pw (n + 1) * cR (L / 2 ^ (n + 1)) + cR (L % 2 ^ (n + 1)) := by
    conv => lhs; rw [hdm]
    rw [cR_add, cR_mul]; rfl
  have hlt : cR (L % 2 ^ (n + 1)) < pw (n + 1) := cR_lt (Nat.mod_lt _ (Nat.pow_pos (by omega)))
  have hp := pw_pos (n + 1)
  have h0 : 0 ≤ cR (L % 2 ^ (n + 1)) / pw (n + 1) := le_div hp (by rw [Rat.zero_mul]; exact cR_nn _)
  have h1 : cR (L % 2 ^ (n + 1)) / pw (n + 1) < 1 := by
    rw [Rat.div_def]
    have := Rat.mul_lt_mul_of_pos_right hlt (Rat.inv_pos.mpr hp)
    rwa [Rat.mul_inv_cancel _ p1] at this
  refine frac_uniq (z := ((L / 2 ^ (n + 1) : Nat) : Int) - q) ?_ b.1 b.2 h0 h1
  rw [e, hD, hL, Rat.intCast_sub]
  show _ = cR (L / 2 ^ (n + 1)) - (q : Rat)
  generalize cR (L / 2 ^ (n + 1)) = u at *
  generalize cR (L % 2 ^ (n + 1)) = v at *
  generalize pw (n + 1) = P at *
  generalize pw i = I at *
  grind
theorem x_nn (L D : Nat) : 0 ≤ cR L / pw D := le_div (pw_pos D) (by rw [Rat.zero_mul]; exact cR_nn _)
theorem gR_sS (L D : Nat) : ∀ n i, n + i = D → cR (gR L n) / pw D = sS (cR L / pw D).den (cR L / pw D).num.toNat D - sS (cR L / pw D).den (cR L / pw D).num.toNat i
  | 0, i, h => by
    have : i = D := by omega
    rw [this, gR, cR_0, Rat.div_def, Rat.zero_mul]
    grind
  | n + 1, i, h => by
    have ih := gR_sS L D n (i + 1) (by omega)
    rw [sS_succ, ← fR_vv (x_nn L D) i, fR_pow (n := n) (by omega)] at ih
    rw [gR, cR_add]
    have hD : pw D = pw (n + 1) * pw i := by rw [← pw_add, h]
    have p1 := pw_ne (n + 1)
    have p2 := pw_ne i
    rw [hD] at ih ⊢
    generalize sS (cR L / (pw (n + 1) * pw i)).den (cR L / (pw (n + 1) * pw i)).num.toNat D = u at *
    generalize sS (cR L / (pw (n + 1) * pw i)).den (cR L / (pw (n + 1) * pw i)).num.toNat i = v at *
    generalize cR (L % 2 ^ (n + 1)) = m at *
    generalize cR (gR L n) = g at *
    generalize pw (n + 1) = P at *
    generalize pw i = I at *
    have e : (m + g) / (P * I) = m / P / I + g / (P * I) := by grind
    rw [e, ih]
    grind
/-- the cheapest way's part is the cost -/
theorem cheap_cost (w e : Nat) : cR (gR (w * 2) (e + 1)) / pw (e + 1) = Cst (cR (w * 2) / pw (e + 1)) := by
  have h := gR_sS (w * 2) (e + 1) (e + 1) 0 (by omega)
  have h0 := x_nn (w * 2) (e + 1)
  have f1 : fR (cR (w * 2) / pw (e + 1)) e = 0 := by
    rw [fR_pow (n := 0) (by omega), show w * 2 % 2 ^ (0 + 1) = 0 by omega, cR_0, Rat.div_def, Rat.zero_mul]
  have f2 : fR (cR (w * 2) / pw (e + 1)) (e + 1) = 0 := by
    have ha := fR_again (x := cR (w * 2) / pw (e + 1)) e
    rw [f1] at ha
    rw [← ha]
    unfold fR
    have : ((0 : Rat).num * ((2 ^ 1 : Nat) : Int)) % ((0 : Rat).den : Int) = 0 := rfl
    rw [this, Rat.div_def]
    exact Rat.zero_mul _
  rw [h, Cst_eq h0 (show e < e + 1 by omega) (f1.trans f2.symm)]
  unfold c0
  rw [sS_succ, ← fR_vv h0 e, f1, show e + 1 - e = 1 by omega]
  have p1 : pw 1 = 2 := rfl
  have z : sS (cR (w * 2) / pw (e + 1)).den (cR (w * 2) / pw (e + 1)).num.toNat 0 = 0 := rfl
  rw [z, p1]
  simp only [Rat.div_def, Rat.zero_mul]
  grind
theorem half_two (w e : Nat) : (((w : Nat) : Int) : Rat) / (((2 ^ e : Nat) : Int) : Rat) = cR (w * 2) / pw (e + 1) := by
  rw [pw_succ, cR_mul, show cR 2 = 2 from rfl]
  have := pw_ne e
  unfold pw cR at *
  generalize (((2 ^ e : Nat) : Int) : Rat) = P at *
  generalize (((w : Nat) : Int) : Rat) = W at *
  grind
theorem total_cost (ws : List Nat) (e : Nat) (hs : ws.sum = 2 ^ e) : ((((ws.map fun w => gR (w * 2) (e + 1)).sum : Nat) : Int) : Rat) / pw (e + 1) = rsum ((shr ws).map Cst) := by
  have h := rsum_shr (pw (e + 1)) (ws.map fun w => gR (w * 2) (e + 1))
  rw [← h, List.map_map]
  unfold shr
  rw [List.map_map, hs]
  refine congrArg rsum (List.map_congr_left fun w hw => ?_)
  show cR (gR (w * 2) (e + 1)) / pw (e + 1) = Cst ((((w : Nat) : Int) : Rat) / (((2 ^ e : Nat) : Int) : Rat))
  rw [half_two, cheap_cost]
/-! ### the other sequence -/
theorem Sx.rev {d : Nat} {xs : List Rat} (s : Sx d xs) : Sx d xs.reverse := ⟨s.d0, s.d1, fun x hx => s.h x (List.mem_reverse.mp hx), (rsum_perm (List.reverse_perm xs)).trans s.s, by rw [List.length_reverse]; exact s.l, fun e => s.n (List.reverse_eq_nil_iff.mp e)⟩
theorem shL_rev (xs : List Rat) : (shL xs).reverse = shL xs.reverse := by unfold shL; rw [List.map_reverse]
theorem Cst_rev (xs : List Rat) : rsum (xs.reverse.map Cst) = rsum (xs.map Cst) := rsum_perm ((List.reverse_perm xs).map _)
end Lk18
end

section
set_option Elab.async false
set_option linter.all false
set_option maxRecDepth 100000
set_option autoImplicit false
namespace Lk18
open PySem WT
theorem lw_1 (st : Sto) (sc : D) (tn a b c : Int) (x2 x3 x4 x5 x6 x7 x8 x9 x10 x11 : Option D) (h : F_law_deck.sem [sc, .int tn] st = .ok (.lst [.int a, .int b, .int c]) st) : evS g_law tl_law2_1 [some sc, some (.int tn), x2, x3, x4, x5, x6, x7, x8, x9, x10, x11] st = .nx [some sc, some (.int tn), some (.ref st.length), x3, x4, x5, x6, x7, x8, x9, x10, x11] (st ++ [[.int a, .int b, .int c]]) := by
  have hn : noLs [D.int a, .int b, .int c] = true := rfl
  simp [tl_law2_1, h, hn]
theorem lw_2 (st st1 : Sto) (k : Nat) (s : D) (x0 x1 x3 x4 x5 x6 x7 x8 x9 x10 x11 : Option D) (h : F_law_shares.sem [.ref k, .int 6] st = .ok s st1) : evS g_law tl_law2_2 [x0, x1, some (.ref k), x3, x4, x5, x6, x7, x8, x9, x10, x11] st = .nx [x0, x1, some (.ref k), some s, x4, x5, x6, x7, x8, x9, x10, x11] st1 := by
  simp [tl_law2_2, h]
theorem lw_3 (st : Sto) (x d : D) (x0 x1 x2 x4 x5 x6 x7 x8 x9 x10 x11 : Option D) (h : F_law_least.sem [x] st = .ok d st) : evS g_law tl_law2_3 [x0, x1, x2, some x, x4, x5, x6, x7, x8, x9, x10, x11] st = .nx [x0, x1, x2, some x, some d, x5, x6, x7, x8, x9, x10, x11] st := by
  simp [tl_law2_3, h]
theorem lw_4 (st : Sto) (xs : List D) (d : D) (x0 x1 x2 x5 x6 x7 x8 x9 x10 x11 : Option D) (h1 : F_least_mean.sem [.tup xs] st = .ok d st) (h2 : F_least_mean.sem [.tup xs.reverse] st = .ok d st) (hm : binD .Mult (.lst [d]) (.int 3) = some (.lst [d, d, d])) (h3 : F_law_same.sem [.lst [d, d, d], .lst [d, d, d]] st = .ok (.bl true) st) : evS g_law tl_law2_4 [x0, x1, x2, some (.tup xs), some d, x5, x6, x7, x8, x9, x10, x11] st = .nx [x0, x1, x2, some (.tup xs), some d, x5, x6, x7, x8, x9, x10, x11] st := by
  have z1 : (1 : Nat) ≤ sizeLine := by decide
  have z3 : (3 : Nat) ≤ sizeLine := by decide
  have hr : revD (.tup xs) = some (.tup xs.reverse) := rfl
  simp [tl_law2_4, permL, h1, h2, hr, hm, h3, z1, z3]
theorem lw_5 (st st1 st2 : Sto) (k : Nat) (r b q n : Int) (x0 x1 x3 x4 x5 x6 x7 x8 x9 x10 x11 : Option D) (p1 : F_law_take.sem [.ref k, .int 4] st = .ok (.int r) st1) (hb : idxD st1 (.lst [.int 2, .int 4, .int 8, .int 16]) (.int r) = some (.int b)) (p2 : F_law_take.sem [.ref k, .int 4] st1 = .ok (.int q) st2) (hn : 1 + q = n) :
    evS g_law tl_law2_5 [x0, x1, some (.ref k), x3, x4, x5, x6, x7, x8, x9, x10, x11] st = .nx [x0, x1, some (.ref k), x3, x4, x5, x6, x7, some (.int b), some (.int n), x10, x11] st2 := by
  have z4 : (4 : Nat) ≤ sizeLine := by decide
  simp [tl_law2_5, p1, z4, hb, p2, hn, -idxD_lst]
theorem lw_6 (st st1 : Sto) (k : Nat) (b n m : Int) (ws : D) (x0 x1 x3 x4 x5 x6 x7 x10 x11 : Option D) (hm : ∀ st, biD st .min2 [.int n, .int b] = some (.int m)) (h : F_law_weights.sem [.ref k, .int m, .int b] st = .ok ws st1) :
    evS g_law tl_law2_6 [x0, x1, some (.ref k), x3, x4, x5, x6, x7, some (.int b), some (.int n), x10, x11] st = .nx [x0, x1, some (.ref k), x3, x4, some ws, x6, x7, some (.int b), some (.int n), x10, x11] st1 := by
  simp [tl_law2_6, -biD_min2, hm, h]
theorem lw_7c (st : Sto) (w b : Int) (d : D) (x0 x1 x2 x3 x4 x5 x6 x7 x9 x10 x11 : Option D) (h : F_law_number.sem [.int w, .int b] st = .ok d st) : kCb g_law (.name 11) false .non e_law1 [x0, x1, x2, x3, x4, x5, x6, x7, some (.int b), x9, x10, x11] (.int w) st = .ok (some d) st := by
  simp [e_law1, h]
theorem lw_7 (st : Sto) (ws ys : List D) (x0 x1 x2 x3 x4 x6 x7 x8 x9 x10 x11 : Option D) (c : compLoop (kCb g_law (.name 11) false .non e_law1 [x0, x1, x2, x3, x4, some (.lst ws), x6, x7, x8, x9, x10, x11]) ws st = .ok ys st) (hl : ys.length ≤ sizeLine) :
    evS g_law tl_law2_7 [x0, x1, x2, x3, x4, some (.lst ws), x6, x7, x8, x9, x10, x11] st = .nx [x0, x1, x2, some (.tup ys), x4, some (.lst ws), x6, x7, x8, x9, some (.int 1), x11] st := by
  simp [tl_law2_7, c, hl]
theorem lw_8l (st : Sto) (dp b P r : Int) (x0 x1 x2 x3 x4 x5 x6 x7 x9 x11 : Option D) (hp : F_law_power.sem [.int dp] st = .ok (.int P) st) (hr : r = if P ≤ b then dp + 1 else dp) : evSs g_law l_law1 [x0, x1, x2, x3, x4, x5, x6, x7, some (.int b), x9, some (.int dp), x11] st = .nx [x0, x1, x2, x3, x4, x5, x6, x7, some (.int b), x9, some (.int r), x11] st := by
  subst hr
  by_cases h : P ≤ b <;> simp [l_law1, hp, h]
theorem lw_8 (st : Sto) (n : Int) (R : List D) (r : RS) (x0 x1 x2 x3 x4 x5 x6 x7 x8 x9 x10 x11 : Option D) (hn : n = 5) (hr : rangeD 0 n 1 = some R) (hw : forD (.name 6) (evSs g_law l_law1) R [x0, x1, x2, x3, x4, x5, x6, x7, x8, x9, x10, x11] st = r) : evS g_law tl_law2_8 [x0, x1, x2, x3, x4, x5, x6, x7, x8, x9, x10, x11] st = r := by
  have h : evIt g_law (.range1 (.int 5)) [x0, x1, x2, x3, x4, x5, x6, x7, x8, x9, x10, x11] st = .ok R st := by rw [← hn]; simp [hr]
  rw [tl_law2_8, evS_for, h]
  exact hw
theorem lw_9c (st : Sto) (w b dp P wP L z : Int) (d : D) (x0 x1 x2 x3 x4 x5 x6 x7 x9 x11 : Option D) (hp : F_law_power.sem [.int dp] st = .ok (.int P) st) (g : ∀ z : D, guardO (mulOK w P) z = some z) (h1 : w * P = wP) (hd : divOK b) (hb : 0 ≤ b) (h2 : wP / b = L) (hz : z = 0) (h : F_law_cheapest.sem [.int L, .int z, .int dp] st = .ok d st) : kCb g_law (.name 11) false .non e_law2 [x0, x1, x2, x3, x4, x5, x6, x7, some (.int b), x9, some (.int dp), x11] (.int w) st = .ok (some d) st := by
  subst hz
  simp [e_law2, hp, g, h1, hd, fdiv_nn (a := wP) (b := b) hb, h2, h]
theorem lw_9 (st : Sto) (ws ys : List D) (T : Int) (x0 x1 x2 x3 x4 x6 x7 x8 x9 x10 x11 : Option D) (c : compLoop (kCb g_law (.name 11) false .non e_law2 [x0, x1, x2, x3, x4, some (.lst ws), x6, x7, x8, x9, x10, x11]) ws st = .ok ys st) (hl : ys.length ≤ sizeLine) (hs : ∀ st, biD st .sum [.lst ys] = some (.int T)) :
    evS g_law tl_law2_9 [x0, x1, x2, x3, x4, some (.lst ws), x6, x7, x8, x9, x10, x11] st = .nx [x0, x1, x2, x3, x4, some (.lst ws), x6, some (.int T), x8, x9, x10, x11] st := by
  simp [tl_law2_9, c, hl, hs]
theorem lw_10 (st : Sto) (T dp P : Int) (d : D) (x0 x1 x2 x3 x4 x5 x6 x8 x9 x11 : Option D) (hp : F_law_power.sem [.int dp] st = .ok (.int P) st) (h : F_law_number.sem [.int T, .int P] st = .ok d st) :
    evS g_law tl_law2_10 [x0, x1, x2, x3, x4, x5, x6, some (.int T), x8, x9, some (.int dp), x11] st = .nx [x0, x1, x2, x3, some d, x5, x6, some (.int T), x8, x9, some (.int dp), x11] st := by
  simp [tl_law2_10, hp, h]
theorem lw_11 (st : Sto) (x : D) (q : Int × Int) (x0 x1 x2 x5 x6 x7 x8 x9 x10 x11 : Option D) (h1 : F_law_least.sem [x] st = .ok (fr q) st) (h2 : F_least_mean.sem [x] st = .ok (fr q) st) (h3 : F_law_same.sem [fr q, fr q] st = .ok (.bl true) st) :
    evS g_law tl_law2_11 [x0, x1, x2, some x, some (fr q), x5, x6, x7, x8, x9, x10, x11] st = .nx [x0, x1, x2, some x, some (fr q), x5, x6, x7, x8, x9, x10, x11] st := by
  simp [tl_law2_11, h1, h2, h3]
theorem deep_loop (st : Sto) (e : Nat) (he : 1 ≤ e) (he2 : e ≤ 4) (x0 x1 x2 x3 x4 x5 x6 x7 x9 x11 : Option D) : ∃ y6, forD (.name 6) (evSs g_law l_law1) ((List.range 5).map fun (i : Nat) => D.int (i : Int)) [x0, x1, x2, x3, x4, x5, x6, x7, some (.int ((2 ^ e : Nat) : Int)), x9, some (.int 1), x11] st = .nx [x0, x1, x2, x3, x4, x5, y6, x7, some (.int ((2 ^ e : Nat) : Int)), x9, some (.int ((e + 1 : Nat) : Int)), x11] st := by
  refine forD_map (P := fun z => ∃ y6, z = .nx [x0, x1, x2, x3, x4, x5, y6, x7, some (.int ((2 ^ e : Nat) : Int)), x9, some (.int ((e + 1 : Nat) : Int)), x11] st)
    (fun pre env st' => st' = st ∧ ∃ y6, env = [x0, x1, x2, x3, x4, x5, y6, x7, some (.int ((2 ^ e : Nat) : Int)), x9, some (.int ((min (1 + pre.length) (e + 1) : Nat) : Int)), x11]) ⟨rfl, x6, by rw [List.length_nil, Nat.min_eq_left (by omega)]; rfl⟩ ?_ ?_
  · rintro pre i post env st' e1 ⟨rfl, y6, rfl⟩
    obtain ⟨rfl, hpre⟩ := pre_range e1
    have hp := sem_law_power st' (min (1 + pre.length) (e + 1)) (by omega)
    refine ⟨_, bindTg_name _ _ _, stepN _ rfl (lw_8l st' ((min (1 + pre.length) (e + 1) : Nat) : Int) ((2 ^ e : Nat) : Int) _ ((min (1 + (pre.length + 1)) (e + 1) : Nat) : Int) _ _ _ _ _ _ _ _ _ _ hp ?_) ⟨rfl, some (.int (pre.length : Int)), by rw [List.length_append, List.length_singleton]⟩⟩
    have key : ((2 ^ (min (1 + pre.length) (e + 1)) : Nat) : Int) ≤ ((2 ^ e : Nat) : Int) ↔ min (1 + pre.length) (e + 1) ≤ e := by
      rw [Int.ofNat_le]
      exact Nat.pow_le_pow_iff_right (by omega)
    by_cases h : min (1 + pre.length) (e + 1) ≤ e
    · rw [if_pos (key.mpr h)]
      omega
    · rw [if_neg fun z => h (key.mp z)]
      omega
  · rintro env st' ⟨rfl, y6, rfl⟩
    rw [List.length_range, Nat.min_eq_right (by omega)]
    exact ⟨y6, rfl⟩
theorem sum_gR (ws : List Nat) (g : Nat → Nat) (st : Sto) : biD st .sum [.lst (nl (ws.map g))] = some (.int (((ws.map g).sum : Nat) : Int)) := sum_nl _ st
theorem turn_step (ns : List Int) (st : Sto) (tn : Nat) (ht : tn < 1000) (x2 x3 x4 x5 x6 x7 x8 x9 x10 : Option D) : ∃ st' y2 y3 y4 y5 y6 y7 y8 y9 y10, evSs g_law l_law2 [some (.frz ns), some (.int (tn : Int)), x2, x3, x4, x5, x6, x7, x8, x9, x10, none] st = .nx [some (.frz ns), some (.int (tn : Int)), y2, y3, y4, y5, y6, y7, y8, y9, y10, none] st' := by
  obtain ⟨a, b, hd, a0, b0, b1⟩ := sem_law_deck st ns tn ht
  have S : Dk (st ++ [[.int a, .int b, .int 0]]) st.length 0 := ⟨a, b, 0, by simp, a0, b0, b1, by decide, by decide⟩
  generalize hk : st.length = k at *
  have f1 := lw_1 st (.frz ns) tn a b 0 x2 x3 x4 x5 x6 x7 x8 x9 x10 none hd
  rw [hk] at f1
  generalize st ++ [[.int a, .int b, .int 0]] = st1 at *
  obtain ⟨d, xs, st2, p2, s, S2⟩ := sem_law_shares st1 k 0 6 S (by omega) (by omega) (by omega)
  have hl := s.s.l
  have L := sem_law_least st2 s.s.ld s.d
  have M := sem_least_mean st2 s.s s.d fun x hx => Nat.le_trans (s.b x hx) (by decide)
  have MR := sem_least_mean st2 s.s.rev s.d fun x hx => Nat.le_trans (s.b x (List.mem_reverse.mp hx)) (by decide)
  rw [Cst_rev, ← shL_rev] at MR
  have al : ∀ x : Rat, alD 10 (fr (pr x)) = true := fun x => alD_fr 9 _
  have al2 : ∀ x : Rat, alD 11 (fr (pr x)) = true := fun x => alD_fr 10 _
  obtain ⟨r5, st5, p5, h5, S5⟩ := sem_take st2 k 500 4 (S2.mono (by omega)) (by omega) (by omega) (by omega)
  obtain ⟨e, he1, he2, hb⟩ : ∃ e : Nat, 1 ≤ e ∧ e ≤ 4 ∧ idxD st5 (.lst [.int 2, .int 4, .int 8, .int 16]) (.int (r5 : Int)) = some (.int ((2 ^ e : Nat) : Int)) := by
    rcases (by omega : r5 = 0 ∨ r5 = 1 ∨ r5 = 2 ∨ r5 = 3) with rfl | rfl | rfl | rfl
    · exact ⟨1, by decide, by decide, rfl⟩
    · exact ⟨2, by decide, by decide, rfl⟩
    · exact ⟨3, by decide, by decide, rfl⟩
    · exact ⟨4, by decide, by decide, rfl⟩
  obtain ⟨q5, st6, p6, h6, S6⟩ := sem_take st5 k 501 4 S5 (by omega) (by omega) (by omega)
  have hP : 2 ≤ 2 ^ e ∧ 2 ^ e ≤ 16 := ⟨Nat.pow_le_pow_right (n := 2) (i := 1) (by omega) he1, Nat.pow_le_pow_right (n := 2) (j := 4) (by omega) he2⟩
  obtain ⟨m, hm0, hm1, hm2, hm⟩ : ∃ m : Nat, 0 < m ∧ m ≤ 4 ∧ m ≤ 2 ^ e ∧ ∀ st, biD st .min2 [.int ((1 + q5 : Nat) : Int), .int ((2 ^ e : Nat) : Int)] = some (.int (m : Int)) := by
    by_cases hc : 2 ^ e < 1 + q5
    · exact ⟨2 ^ e, by omega, by omega, by omega, fun st => by rw [biD_min2, if_pos (by omega)]⟩
    · exact ⟨1 + q5, by omega, by omega, by omega, fun st => by rw [biD_min2, if_neg (by omega)]⟩
  obtain ⟨ws, st7, p7, g1, g2, g3, S7⟩ := sem_law_weights st6 k 502 m (2 ^ e) S6 (by omega) hm0 (by omega) hm2 (by omega)
  have wt := wt_of g1 g2 g3 hm0 (by omega) (by omega)
  have s2 := Sx.shr wt
  have hwl := s2.l
  have hsum := g3
  have c7 := comp_num st7 (f := kCb g_law (.name 11) false .non e_law1 [some (.frz ns), some (.int (tn : Int)), some (.ref k), some (.tup (shL xs)), some (fr (pr (rsum (xs.map Cst)))), some (.lst (nl ws)), x6, x7, some (.int ((2 ^ e : Nat) : Int)), some (.int ((1 + q5 : Nat) : Int)), x10, none]) ws ws.sum fun v hv => lw_7c st7 v _ _ _ _ _ _ _ _ _ _ _ _ _ (by rw [← hsum]; exact sem_law_number st7 (by omega) (small_BIG (by omega)))
  have e7 : (ws.map fun (w : Nat) => (((w : Nat) : Int) : Rat) / (((ws.sum : Nat) : Int) : Rat)) = shr ws := rfl
  rw [e7] at c7
  have f7 := lw_7 st7 (nl ws) (shL (shr ws)) _ _ _ _ _ _ _ _ _ _ _ c7 (by rw [shL_len]; unfold sizeLine; omega)
  obtain ⟨y6, hw8⟩ := deep_loop st7 e he1 he2 (some (.frz ns)) (some (.int (tn : Int))) (some (.ref k)) (some (.tup (shL (shr ws)))) (some (fr (pr (rsum (xs.map Cst))))) (some (.lst (nl ws))) x6 x7 (some (.int ((1 + q5 : Nat) : Int))) none
  have hle : ∀ w ∈ ws, w ≤ 16 := fun w hw => by have := sum_mem hw; omega
  have hpw := sem_law_power st7 (e + 1) (by omega)
  have hpp : 2 ^ (e + 1) = 2 ^ e * 2 := Nat.pow_succ 2 e
  have c9 := compLoop_mm (f := kCb g_law (.name 11) false .non e_law2 [some (.frz ns), some (.int (tn : Int)), some (.ref k), some (.tup (shL (shr ws))), some (fr (pr (rsum (xs.map Cst)))), some (.lst (nl ws)), y6, x7, some (.int ((2 ^ e : Nat) : Int)), some (.int ((1 + q5 : Nat) : Int)), some (.int ((e + 1 : Nat) : Int)), none]) (st := st7) (ps := ws) vI (fun w => D.int ((gR (w * 2) (e + 1) : Nat) : Int)) fun w hw => by
    have hw16 := hle w hw
    refine lw_9c st7 (w : Int) ((2 ^ e : Nat) : Int) ((e + 1 : Nat) : Int) _ ((w * 2 ^ (e + 1) : Nat) : Int) ((w * 2 : Nat) : Int) 0 _ _ _ _ _ _ _ _ _ _ _ hpw (fun z => guardO_true (mulOK_r (by omega) (by omega))) (by rw [Int.natCast_mul]) (divOK_small (by omega) (by omega)) (by omega) ?_ rfl (sem_law_cheapest st7 (w * 2) (e + 1) (by omega) (by omega))
    rw [← Int.natCast_ediv, hpp, Nat.mul_comm (2 ^ e) 2, ← Nat.mul_assoc, Nat.mul_div_cancel _ (by omega)]
  have e9 : (ws.map fun w => D.int ((gR (w * 2) (e + 1) : Nat) : Int)) = nl (ws.map fun w => gR (w * 2) (e + 1)) := by unfold nl; rw [List.map_map]; rfl
  rw [e9] at c9
  have f9 := lw_9 st7 (nl ws) _ _ _ _ _ _ _ _ x7 _ _ _ _ c9 (by rw [nl_length, List.length_map]; unfold sizeLine; omega) (sum_gR ws (fun w => gR (w * 2) (e + 1)))
  have tc := total_cost ws e hsum
  have n10 := sem_law_number (a := (((ws.map fun w => gR (w * 2) (e + 1)).sum : Nat) : Int)) (b := ((2 ^ (e + 1) : Nat) : Int)) st7 (by omega) (small_BIG (by omega))
  have tc2 : ((((ws.map fun w => gR (w * 2) (e + 1)).sum : Nat) : Int) : Rat) / (((2 ^ (e + 1) : Nat) : Int) : Rat) = rsum ((shr ws).map Cst) := tc
  rw [tc2] at n10
  have L2 := sem_law_least st7 s2.ld (by omega)
  have M2 := sem_least_mean st7 s2 (by omega) fun x hx => by
    have := Nat.le_of_dvd wt.pos (den_le wt.pos (s2.h x hx).1)
    omega
  refine ⟨st7, some (.ref k), some (.tup (shL (shr ws))), some (fr (pr (rsum ((shr ws).map Cst)))), some (.lst (nl ws)), y6, some (.int (((ws.map fun w => gR (w * 2) (e + 1)).sum : Nat) : Int)), some (.int ((2 ^ e : Nat) : Int)), some (.int ((1 + q5 : Nat) : Int)), some (.int ((e + 1 : Nat) : Int)), ?_⟩
  rw [btl_law2]
  exact seq_nx2 f1 (seq_nx2 (lw_2 st1 st2 k _ _ _ _ _ _ _ _ _ _ _ _ p2) (seq_nx2 (lw_3 st2 _ _ _ _ _ _ _ _ _ _ _ _ _ L) (seq_nx2 (lw_4 st2 _ _ _ _ _ _ _ _ _ _ _ _ M MR (rep_lst _ 3 (by omega)) (sem_law_same (alD_3 (al _) (al _) (al _)) st2))
    (seq_nx2 (lw_5 st2 st5 st6 k r5 _ q5 ((1 + q5 : Nat) : Int) _ _ _ _ _ _ _ _ _ _ _ p5 hb p6 (by omega)) (seq_nx2 (lw_6 st6 st7 k _ _ m _ _ _ _ _ _ _ _ _ _ hm p7) (seq_nx2 f7 (seq_nx2 (lw_8 st7 ((5 : Nat) : Int) _ _ _ _ _ _ _ _ _ _ _ _ _ _ rfl (rangeD_n 5 (by decide)) hw8)
    (seq_nx2 f9 (seq_nx2 (lw_10 st7 _ _ _ _ _ _ _ _ _ _ _ _ _ _ hpw n10) (seq_nx2 (lw_11 st7 _ _ _ _ _ _ _ _ _ _ _ _ L2 M2 (sem_law_same (al2 _) st7)) rfl))))))))))
theorem loop_law (ns : List Int) (N : Nat) (hN : N ≤ 100) (st : Sto) (x2 x3 x4 x5 x6 x7 x8 x9 x10 : Option D) : ∃ st' y1 y2 y3 y4 y5 y6 y7 y8 y9 y10, forD (.name 1) (evSs g_law l_law2) ((List.range N).map fun (k : Nat) => D.int (k : Int)) [some (.frz ns), none, x2, x3, x4, x5, x6, x7, x8, x9, x10, none] st = .nx [some (.frz ns), y1, y2, y3, y4, y5, y6, y7, y8, y9, y10, none] st' := by
  refine forD_map (P := fun z => ∃ st' y1 y2 y3 y4 y5 y6 y7 y8 y9 y10, z = .nx [some (.frz ns), y1, y2, y3, y4, y5, y6, y7, y8, y9, y10, none] st') (fun pre env st' => ∃ y1 y2 y3 y4 y5 y6 y7 y8 y9 y10, env = [some (.frz ns), y1, y2, y3, y4, y5, y6, y7, y8, y9, y10, none]) ⟨none, x2, x3, x4, x5, x6, x7, x8, x9, x10, rfl⟩ ?_ ?_
  · rintro pre x post env st' e ⟨y1, y2, y3, y4, y5, y6, y7, y8, y9, y10, rfl⟩
    have hx : x < N := List.mem_range.mp (by rw [e]; simp)
    obtain ⟨st2, z2, z3, z4, z5, z6, z7, z8, z9, z10, h⟩ := turn_step ns st' x (by omega) y2 y3 y4 y5 y6 y7 y8 y9 y10
    exact ⟨_, bindTg_name _ _ _, stepN _ rfl h ⟨_, _, _, _, _, _, _, _, _, _, rfl⟩⟩
  · rintro env st' ⟨y1, y2, y3, y4, y5, y6, y7, y8, y9, y10, rfl⟩
    exact ⟨st', y1, y2, y3, y4, y5, y6, y7, y8, y9, y10, rfl⟩
theorem m_1 (st : Sto) (ns : List Int) (len n m : Int) (R : List D) (r : RS) (x1 x2 x3 x4 x5 x6 x7 x8 x9 x10 x11 : Option D) (hlen : (ns.length : Int) = len) (h1 : ∀ st, biD st .min2 [.int 8, .int len] = some (.int n)) (h2 : ∀ st, biD st .max2 [.int 2, .int n] = some (.int m)) (rr : rangeD 0 m 1 = some R)
    (hw : forD (.name 1) (evSs g_law l_law2) R [some (.frz ns), x1, x2, x3, x4, x5, x6, x7, x8, x9, x10, x11] st = r) : evS g_law (.for_ (.name 1) (.range1 (.bi .max2 (.cons (.int 2) (.cons (.bi .min2 (.cons (.int 8) (.cons (.bi .len (.cons (.var 0) .nil)) .nil))) .nil)))) l_law2) [some (.frz ns), x1, x2, x3, x4, x5, x6, x7, x8, x9, x10, x11] st = r := by
  have hlen' : ∀ st, biD st .len [.frz ns] = some (.int len) := fun st => by rw [biD_lenf, hlen]
  have h : evIt g_law (.range1 (.bi .max2 (.cons (.int 2) (.cons (.bi .min2 (.cons (.int 8) (.cons (.bi .len (.cons (.var 0) .nil)) .nil))) .nil)))) [some (.frz ns), x1, x2, x3, x4, x5, x6, x7, x8, x9, x10, x11] st = .ok R st := by simp [-biD_lenf, -biD_min2, -biD_max2, hlen', h1, h2, rr]
  rw [evS_for, h]
  exact hw
theorem m_call (st : Sto) (a : D) : F_law.sem [a] st = (evSs g_law b_law [some a, none, none, none, none, none, none, none, none, none, none, none] st).fin := by
  rw [ev_law]; rfl
theorem plain (ns : List Int) (h : ns.length ≤ 63) : ∃ st, F_law.sem [.frz ns] [] = .ok (.bl true) st := by
  obtain ⟨n, hn, h1⟩ : ∃ n : Nat, n ≤ 8 ∧ ∀ st, biD st .min2 [.int 8, .int ns.length] = some (.int n) := by
    by_cases hc : ns.length < 8
    · exact ⟨ns.length, by omega, fun st => by rw [biD_min2, if_pos (by omega)]⟩
    · exact ⟨8, by omega, fun st => by rw [biD_min2, if_neg (by omega)]; rfl⟩
  obtain ⟨m, hm, h2⟩ : ∃ m : Nat, m ≤ 8 ∧ ∀ st, biD st .max2 [.int 2, .int n] = some (.int m) := by
    by_cases hc : 2 < n
    · exact ⟨n, by omega, fun st => by rw [biD_max2, if_pos (by omega)]⟩
    · exact ⟨2, by omega, fun st => by rw [biD_max2, if_neg (by omega)]; rfl⟩
  obtain ⟨st4, y1, y2, y3, y4, y5, y6, y7, y8, y9, y10, hl⟩ := loop_law ns m (by omega) [] none none none none none none none none none
  refine ⟨st4, ?_⟩
  rw [m_call, b_law, seq_nx2 (m_1 [] ns ns.length n m _ _ _ _ _ _ _ _ _ _ _ _ _ rfl h1 h2 (rangeD_n m (by omega)) hl) rfl]
  exact ret_fin (by simp)
end Lk18
end

set_option Elab.async false
set_option linter.all false
set_option maxRecDepth 100000
set_option maxHeartbeats 0
open PySem PySem.W PySem.Calls PyProof.Rows
namespace Lk18
open HandSHeadRun
theorem walk : WalkO prgQ loose (XL prgQ []) hk.says rowR.toRowW defD [] (fun f vs => PySem.call f vs) := by
  refine WT.walk_ofW (l := PySem.Challenge.rw_wholetosses_k18_whole_least_means) (n := 63) (k := Lk18.lvl) (x := "script") rfl (by decide) asm10 ⟨rfl, by decide, by decide⟩ ?F
  intro w mg fa h Y G hmg0
  obtain ⟨K, KX, c⟩ := Y
  have hmg : mg "law" = some (.ref fa) := asm9 ▸ hmg0
  have e := hmg.symm.trans (WT.facts_glo c.look KX G (x := "law") (by decide))
  cases e
  obtain ⟨fd, F, hb⟩ := Lk18.all_ok (P := PySem.Challenge.rw_wholetosses_k18_whole_least_means.prog) (w := w) KX G c
  refine ⟨K, fd, _, KX, hb, ?_, fun base _ _ => F base⟩
  intro H a ns hl hO hS
  obtain ⟨st, hst⟩ := Lk18.plain ns hl
  exact WT.law_sp hst hO hS
end Lk18
theorem PySem.Challenge.cw_wholetosses_k18_whole_least_means_holds : PySem.Challenge.rw_wholetosses_k18_whole_least_means.Holds := by
  w_on; o_law
  exact HandSHeadRun.head_imp (r := Lk18.rowR) (q := Lk18.prgQ) (H := Lk18.hk) (ob := Lk18.ob) (M := 2000) (loose := Lk18.loose) (d := Lk18.defD) (kwd := []) Lk18.ob_eq
    Lk18.run Lk18.asm1 Lk18.asm2 Lk18.asm3 Lk18.asm4 Lk18.asm5 Lk18.asm6 Lk18.asm7 Lk18.asm8 Lk18.walk

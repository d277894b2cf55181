import PyProof.Rows.All
import Wide.All
import OpenK.AllK
import Wide.FinOn
import HandS.ForMost
import HandS.Exc
import HandS.Wide
import HandS.WideBits
import HandS.Gcd
import HandS.IsInst
import HandS.Flow
import HandS.Zip
import HandS.Rev
import HandS.TupMul
import HandS.TupAny
import HandS.ExcOwn
import HandS.Style
import KE.KStateDown
import Lean
import HandS.Ends
import HandS.More
import HandS.Words
import HandS.WordsExc
import HandS.Defaults
import HandS.Head0
import HandS.Head1
import HandS.Head2
import HandS.HeadEnd
import HandS.HeadHook1
import HandS.HeadHook2
import HandS.Deep
import KE.KDictKeyed
import PyProof.Rows.TupTab
import HandS.ExcInit
import HandS.ExcField
import KE.KMathG
import HandS.Conv
import PyProof.Draws
import PyProof.EnumMake
import PySem.Challenge.RW_wholetosses_k35_whole_means_of_a_crooked
import HandS.Head3
section
set_option Elab.async false
set_option linter.all false
set_option maxRecDepth 100000
/-! K1: values D, stores, results, the small language E / S, its evaluator. Own work. -/
namespace WT
open PySem

inductive D where
  | non | bl (b : Bool) | int (i : Int) | str (x : Str) | tup (xs : List D) | lst (xs : List D) | frz (ns : List Int)
  | dK (ks : List L2.Key) (vs : List D) | dT (ks : List NestedKey) (vs : List D) | ref (k : Nat) | exc (c : Str) (d : D)

abbrev Sto := List (List D)
inductive R (α : Type) where
  | ok (a : α) (st : Sto) | exn (c : Str) (d : D) (st : Sto) | bad
def R.bind {α β : Type} : R α → (α → Sto → R β) → R β
  | .ok a st, f => f a st
  | .exn c d st, _ => .exn c d st
  | .bad, _ => .bad
/-- no error leaves -/
def R.nox {α : Type} : R α → R α
  | .exn _ _ _ => .bad
  | r => r
@[simp] theorem R.nox_ok {α : Type} (a : α) (st : Sto) : (R.ok a st).nox = .ok a st := rfl
def R.ofO {α : Type} (st : Sto) : Option α → R α
  | some a => .ok a st
  | none => .bad
@[simp] theorem R.bind_ok {α β : Type} (a : α) (st : Sto) (f : α → Sto → R β) : (R.ok a st).bind f = f a st := rfl
@[simp] theorem R.bind_exn {α β : Type} (c : Str) (d : D) (st : Sto) (f : α → Sto → R β) : (R.exn c d st).bind f = .exn c d st := rfl
@[simp] theorem R.bind_bad {α β : Type} (f : α → Sto → R β) : (R.bad).bind f = .bad := rfl
@[simp] theorem R.ofO_some {α : Type} (st : Sto) (a : α) : R.ofO st (some a) = .ok a st := rfl
@[simp] theorem R.ofO_none {α : Type} (st : Sto) : R.ofO st (none : Option α) = .bad := rfl

def D.isNil : List D → Bool
  | [] => true
  | _ => false
/-! ### data without dicts, references: for == -/
mutual
def toPy : D → Option PyData
  | .non => some .none
  | .bl b => some (.bool b)
  | .int i => some (.int i)
  | .str x => some (.str x)
  | .tup xs => (toPys xs).map .tuple
  | .lst xs => (toPys xs).map .list
  | .frz _ => none
  | .dK _ _ => none
  | .dT _ _ => none
  | .ref _ => none
  | .exc _ _ => none
def toPys : List D → Option (List PyData)
  | [] => some []
  | x :: xs => match toPy x, toPys xs with
    | some a, some b => some (a :: b)
    | _, _ => none
end
/-- == of two data, where it is served -/
def eqD (a b : D) : Option Bool := match toPy a, toPy b with
  | some x, some y => if SeqAt.shaped x = true ∧ SeqAt.shaped y = true then some (PyData.eqv x y) else none
  | _, _ => none
/-! no list, no dict within -/
mutual
def noL : D → Bool
  | .non | .bl _ | .int _ | .str _ | .frz _ | .ref _ => true
  | .tup xs => noLs xs
  | .lst _ | .dK _ _ | .dT _ _ | .exc _ _ => false
def noLs : List D → Bool
  | [] => true
  | x :: xs => noL x && noLs xs
end
def flatD : D → Bool
  | .non | .bl _ | .int _ | .str _ => true
  | _ => false
def eqF : D → D → Bool
  | .non, .non => true
  | .bl a, .bl b => a == b
  | .bl a, .int j => (if a then 1 else 0) == j
  | .int i, .bl b => i == (if b then 1 else 0)
  | .int i, .int j => i == j
  | .str x, .str y => x == y
  | _, _ => false

/-! ### operations -/
def log2Lt (i : Int) (n : Nat) : Prop := i.natAbs.log2 < n
instance (i : Int) (n : Nat) : Decidable (log2Lt i n) := inferInstanceAs (Decidable (_ < _))
def mulOK (i j : Int) : Prop := ((-(2 ^ 64) < i ∧ i < 2 ^ 64) ∨ (-(2 ^ 64) < j ∧ j < 2 ^ 64)) ∨ (i.natAbs.log2 + j.natAbs.log2 < 1000000)
instance (i j : Int) : Decidable (mulOK i j) := inferInstanceAs (Decidable (_ ∨ _))
def divOK (j : Int) : Prop := j ≠ 0 ∧ log2Lt j 9000
instance (j : Int) : Decidable (divOK j) := inferInstanceAs (Decidable (_ ∧ _))
def powOK (i j : Int) : Prop := 0 ≤ j ∧ j ≤ 1000000 ∧ i.natAbs < 2 ^ 64
instance (i j : Int) : Decidable (powOK i j) := inferInstanceAs (Decidable (_ ∧ _))
def pwOK (i j : Int) : Prop := powOK i j ∨ (0 ≤ j ∧ ((i.natAbs.log2 + 1 : Nat) : Int) * j ≤ 2 ^ 27)
instance (i j : Int) : Decidable (pwOK i j) := inferInstanceAs (Decidable (_ ∨ _))
def repOK (n : Nat) (k : Int) : Prop := -(2 ^ 63) ≤ k ∧ k < 2 ^ 63 ∧ n * k.toNat ≤ sizeLine
instance (n : Nat) (k : Int) : Decidable (repOK n k) := inferInstanceAs (Decidable (_ ∧ _))
def repTOK (n : Nat) (k : Int) : Prop := n ≠ 0 ∧ 2 ≤ k ∧ k ≤ 1000 ∧ n ≤ 1000
instance (n : Nat) (k : Int) : Decidable (repTOK n k) := inferInstanceAs (Decidable (_ ∧ _))
def guardO {α : Type} (p : Prop) [Decidable p] (x : α) : Option α := if p then some x else none

def addD : D → D → Option D
  | .int a, .int b => some (.int (a + b))
  | .str a, .str b => guardO (a.length + b.length ≤ sizeLine) (.str (a ++ b))
  | .tup a, .tup b => guardO (a.length + b.length ≤ sizeLine) (.tup (a ++ b))
  | .lst a, .lst b => guardO (a.length + b.length ≤ sizeLine) (.lst (a ++ b))
  | _, _ => none
def mulD : D → D → Option D
  | .int a, .int b => guardO (mulOK a b) (.int (a * b))
  | .lst a, .int k => guardO (repOK a.length k) (.lst (List.replicate k.toNat a).flatten)
  | .tup a, .int k => if k = 1 ∨ a.isEmpty = true then guardO (-(2 ^ 63) ≤ k ∧ k < 2 ^ 63) (.tup a) else if k ≤ 0 then guardO (-1000 ≤ k) (.tup []) else guardO (repTOK a.length k) (.tup (List.replicate k.toNat a).flatten)
  | _, _ => none
def binD : Operator → D → D → Option D
  | .Add, a, b => addD a b
  | .Mult, a, b => mulD a b
  | .Sub, .int a, .int b => some (.int (a - b))
  | .FloorDiv, .int a, .int b => guardO (divOK b) (.int (a.fdiv b))
  | .Mod, .int a, .int b => guardO (b ≠ 0) (.int (a.fmod b))
  | .Pow, .int a, .int b => guardO (pwOK a b) (.int (a ^ b.toNat))
  | .LShift, .int a, .int b => guardO (powOK a b) (.int (a * 2 ^ b.toNat))
  | _, _, _ => none

/-- the items of a list or tuple that is walked or asked -/
def seqD (st : Sto) : D → Option (List D)
  | .lst xs => some xs
  | .tup xs => some xs
  | .ref k => st[k]?
  | _ => none
/-- dicts whose keys are ints and texts, whose values hold no lists: a key -/
def keyOf : D → Option L2.Key
  | .int i => some (.inl i)
  | .str x => some (.inr x)
  | _ => none
mutual
/-- a key of a dict whose keys are tuples of ints, also of such tuples -/
def keyNO : D → Option NestedKey
  | .non => some .none
  | .bl b => some (.num (if b = true then 1 else 0))
  | .int i => some (.num i)
  | .tup xs => (keyNOs xs).map .tup
  | .str _ => none
  | .lst _ => none
  | .frz _ => none
  | .dK _ _ => none
  | .dT _ _ => none
  | .ref _ => none
  | .exc _ _ => none
def keyNOs : List D → Option (List NestedKey)
  | [] => some []
  | x :: xs => match keyNO x, keyNOs xs with
    | some a, some b => some (a :: b)
    | _, _ => none
end
def keyTO : D → Option NestedKey
  | .tup xs => (keyNO (.tup xs)).bind fun k => if k.depth ≤ 8 then some k else none
  | _ => none
def valP {κ α : Type} [DecidableEq κ] : List κ → List α → κ → Option α
  | k' :: ks, v :: vs, k => if k' = k then some v else valP ks vs k
  | _, _, _ => none
def repP {κ α : Type} [DecidableEq κ] (k : κ) (v : α) : List κ → List α → List α
  | k' :: ks, w :: vs => (if k' = k then v else w) :: repP k v ks vs
  | _, _ => []
def inD (x : D) (xs : List D) : Bool := xs.any fun y => eqF y x
def lexLtD : List Int → List Int → Bool
  | x :: xs, y :: ys => if x = y then lexLtD xs ys else decide (x < y)
  | [], _ :: _ => true
  | _, [] => false
def cmpD : CmpOp → D → D → Option Bool
  | .Eq, a, b => eqD a b
  | .NotEq, a, b => (eqD a b).map (!·)
  | .Lt, .int a, .int b => some (decide (a < b))
  | .LtE, .int a, .int b => some (decide (a ≤ b))
  | .Gt, .int a, .int b => some (decide (b < a))
  | .GtE, .int a, .int b => some (decide (b ≤ a))
  | .In, a, .lst xs => guardO (flatD a = true ∧ xs.all flatD = true) (inD a xs)
  | .In, a, .tup xs => guardO (flatD a = true ∧ xs.all flatD = true) (inD a xs)
  | .NotIn, a, .lst xs => guardO (flatD a = true ∧ xs.all flatD = true) (!inD a xs)
  | .NotIn, a, .tup xs => guardO (flatD a = true ∧ xs.all flatD = true) (!inD a xs)
  | .In, a, .dK ks vs => (keyOf a).map fun k => (valP ks vs k).isSome
  | .NotIn, a, .dK ks vs => (keyOf a).map fun k => !(valP ks vs k).isSome
  | .In, a, .dT ks vs => (keyTO a).map fun k => (valP ks vs k).isSome
  | .NotIn, a, .dT ks vs => (keyTO a).map fun k => !(valP ks vs k).isSome
  | .Is, a, .non => some (match a with | .non => true | _ => false)
  | .IsNot, a, .non => some (match a with | .non => false | _ => true)
  | .Is, .bl a, .bl b => some (decide (a = b))
  | .IsNot, .bl a, .bl b => some (!decide (a = b))
  | _, _, _ => none
/-- truth -/
def truD (st : Sto) : D → Option Bool
  | .non => some false
  | .bl b => some b
  | .int i => some (i != 0)
  | .str x => guardO (x.length ≤ sizeLine) (x.length != 0)
  | .lst xs => some (!xs.isEmpty)
  | .tup xs => some (!xs.isEmpty)
  | _ => none
/-- x[i] -/
def ixD {α : Type} (xs : List α) (i : Int) : Option α := L2.atI xs i
def idxD (st : Sto) : D → D → Option D
  | .lst xs, .int i => ixD xs i
  | .tup xs, .int i => ixD xs i
  | .ref k, .int i => (st[k]?).bind fun xs => ixD xs i
  | .frz ns, .int i => ixD (ns.map D.int) i
  | .str z, .int i => if z.length ≤ sizeLine then (ixD z.cps.toList i).map fun c => .str ⟨#[c]⟩ else none
  | .dK ks vs, y => (keyOf y).bind fun k => valP ks vs k
  | .dT ks vs, y => (keyTO y).bind fun k => valP ks vs k
  | _, _ => none
/-- x[lo:hi] -/
def cutL {α : Type} (xs : List α) (lo hi : Option Int) : List α := (xs.drop (HT.sIx xs.length 0 lo)).take (HT.sIx xs.length xs.length hi - HT.sIx xs.length 0 lo)
def intO : Option D → Option (Option Int)
  | none => some none
  | some (.int i) => some (some i)
  | _ => none
def sliceD (x : D) (lo hi : Option Int) : Option D := match x with
  | .lst xs => some (.lst (cutL xs lo hi))
  | .tup xs => some (.tup (cutL xs lo hi))
  | _ => none
def revD : D → Option D
  | .lst xs => some (.lst xs.reverse)
  | .tup xs => some (.tup xs.reverse)
  | _ => none
/-- the built-in classes of isinstance -/
inductive Ty where
  | int | bool | str | tuple | list | dict
  deriving DecidableEq
def tyD : D → Option (List Ty)
  | .non => some []
  | .bl _ => some [.bool, .int]
  | .int _ => some [.int]
  | .str _ => some [.str]
  | .tup _ => some [.tuple]
  | .lst _ => some [.list]
  | .dK _ _ => some [.dict]
  | _ => none
def isiD (x : D) (ts : List Ty) : Option Bool := (tyD x).map fun own => ts.any fun t => own.contains t

/-- built-in functions -/
inductive Bi where
  | len | int | sum | all | any | max | min | max2 | min2 | tuple | list | abs | gcd | sorted | comb | fact
  deriving DecidableEq
def intsD : List D → Option (List Int)
  | [] => some []
  | .int i :: r => (intsD r).map (i :: ·)
  | _ => none
def blsD : List D → Option (List Bool)
  | [] => some []
  | .bl i :: r => (blsD r).map (i :: ·)
  | _ => none
def seqOf : D → Option (List D)
  | .lst xs => some xs
  | .tup xs => some xs
  | _ => none
def maxI : List Int → Option Int
  | [] => none
  | x :: xs => some (xs.foldl (fun m y => if m < y then y else m) x)
def minI : List Int → Option Int
  | [] => none
  | x :: xs => some (xs.foldl (fun m y => if y < m then y else m) x)
def insI (x : Int) : List Int → List Int
  | [] => [x]
  | y :: r => if x ≤ y then x :: y :: r else y :: insI x r
def sortI (xs : List Int) : List Int := xs.foldr insI []
/-- n over k, as it is worked out -/
def combI (n k : Int) : Int := Builtin.Math.fallingProduct n (min k (n - k)).toNat / Builtin.Math.fallingProduct (min k (n - k)) (min k (n - k)).toNat
def factI (n : Int) : Int := ((Builtin.Math.factorialNat n.toNat : Nat) : Int)
def combOK (n k : Int) : Prop := 0 ≤ k ∧ k ≤ n ∧ n ≤ 1000 ∧ (combI n k).natAbs.log2 < 20000
instance (n k : Int) : Decidable (combOK n k) := inferInstanceAs (Decidable (_ ∧ _))
def factOK (n : Int) : Prop := 0 ≤ n ∧ n ≤ 1000 ∧ (factI n).natAbs.log2 < 20000
instance (n : Int) : Decidable (factOK n) := inferInstanceAs (Decidable (_ ∧ _))
def biD (st : Sto) : Bi → List D → Option D
  | .len, [.lst xs] => some (.int xs.length)
  | .len, [.tup xs] => some (.int xs.length)
  | .len, [.frz xs] => some (.int xs.length)
  | .len, [.dK ks _] => some (.int ks.length)
  | .len, [.str x] => guardO (x.length ≤ sizeLine) (.int x.length)
  | .len, [.ref k] => (st[k]?).map fun xs => .int xs.length
  | .int, [.int i] => some (.int i)
  | .int, [.bl b] => some (.int (if b then 1 else 0))
  | .sum, [x] => ((seqOf x).bind intsD).map fun ns => .int ns.sum
  | .all, [.lst x] => (blsD x).map fun bs => .bl (bs.all id)
  | .any, [.lst x] => (blsD x).map fun bs => .bl (bs.any id)
  | .max, [.lst x] => ((intsD x).bind maxI).map D.int
  | .min, [.lst x] => ((intsD x).bind minI).map D.int
  | .max2, [.int i, .int j] => some (.int (if j > i then j else i))
  | .min2, [.int i, .int j] => some (.int (if j < i then j else i))
  | .tuple, [.lst x] => some (.tup x)
  | .tuple, [.tup x] => some (.tup x)
  | .list, [.lst x] => some (.lst x)
  | .list, [.tup x] => some (.lst x)
  | .abs, [.int i] => some (.int (if i < 0 then -i else i))
  | .gcd, [.int i, .int j] => some (.int (Nat.gcd i.natAbs j.natAbs : Nat))
  | .sorted, [.lst x] => (intsD x).bind fun ns => guardO (ns.length < 64) (.lst ((sortI ns).map D.int))
  | .comb, [.int n, .int k] => guardO (combOK n k) (.int (combI n k))
  | .fact, [.int n] => guardO (factOK n) (.int (factI n))
  | _, _ => none

/-! ### dicts: operations -/
def isDK : D → Bool
  | .dK _ _ => true
  | _ => false
def isLst : D → Bool
  | .lst _ => true
  | _ => false
def dgetoD : D → D → D → Option D
  | .dK ks vs, y, z => if noL z then (keyOf y).map fun k => (valP ks vs k).getD z else none
  | _, _, _ => none
/-- d[k] = v -/
def dputD : D → D → D → Option D
  | .dK ks vs, y, v => if noL v && decide (ks.length < sizeLine) then (keyOf y).map fun k => if (valP ks vs k).isSome then .dK ks (repP k v ks vs) else .dK (ks ++ [k]) (vs ++ [v]) else none
  | .dT ks vs, y, v => if noL v && decide (ks.length < sizeLine) then (keyTO y).map fun k => if (valP ks vs k).isSome then .dT ks (repP k v ks vs) else .dT (ks ++ [k]) (vs ++ [v]) else none
  | _, _, _ => none
/-- xs.index(x) -/
def midxD (l x : D) : Option D := match toPy l, toPy x with
  | some (.list ps), some p => if SeqAt.shaped (.list ps) = true ∧ SeqAt.shaped p = true then (ps.findIdx? fun z => PyData.eqv z p).map fun j => D.int (j : Nat) else none
  | _, _ => none
/-- statements that change a list -/
inductive Mth where
  | extend | insert | reverse
  deriving DecidableEq
def mthD : Mth → List D → List D → Option (List D)
  | .extend, xs, [.lst ys] => guardO (noLs ys = true ∧ xs.length + ys.length ≤ sizeLine) (xs ++ ys)
  | .insert, xs, [.int i, d] => guardO (noL d = true ∧ xs.length < sizeLine ∧ 0 ≤ i ∧ i < 2 ^ 63) (xs.take i.toNat ++ [d] ++ xs.drop i.toNat)
  | .reverse, xs, [] => some xs.reverse
  | _, _, _ => none

/-- operations of one argument, with a text of their own -/
inductive Op1 where
  | bits | lenSet
  deriving DecidableEq
/-- the first ones met -/
def nubI (ns : List Int) : List Int := ns.foldl (fun acc x => if acc.any (· == x) then acc else acc ++ [x]) []
def op1D : Op1 → D → Option D
  | .bits, .int i => some (.int ((Builtin.Int.intBits i : Nat) : Int))
  | .lenSet, .lst xs => (intsD xs).bind fun ns => guardO (ns.length ≤ 4000) (.int ((nubI ns).length : Nat))
  | _, _ => none
/-- what stands in an except suite: texts, truths, None, the error's value -/
inductive Xa where
  | str (x : Str) | bl (b : Bool) | non | val
inductive Xs where
  | atom (a : Xa) | tup (as : List Xa) | lst (as : List Xa)
inductive Sx where
  | set (j : Nat) (x : Xs) | ret (x : Xs)
def evXa (d : D) : Xa → D
  | .str x => .str x
  | .bl b => .bl b
  | .non => .non
  | .val => d
def evXs (d : D) : Xs → D
  | .atom a => evXa d a
  | .tup as => .tup (as.map (evXa d))
  | .lst as => .lst (as.map (evXa d))
/-- an except clause: its class, whether it is the base of all, the slot of its name, its suite -/
structure Cls where
  cls : Str
  all : Bool
  nm : Nat
  body : Sx

/-! ### the language -/
mutual
inductive Tg where
  | name (i : Nat) | tup (ts : Tgs)
inductive Tgs where
  | nil | cons (t : Tg) (ts : Tgs)
end
mutual
inductive E where
  | var (i : Nat) | int (i : Int) | bl (b : Bool) | non | str (x : Str) | glob (c : Nat)
  | bin (op : Operator) (a b : E) | neg (a : E) | not (a : E)
  | cmp (op : CmpOp) (a b : E) | cmp2 (op op' : CmpOp) (a b c : E)
  | and (a b : E) | or (a b : E) | ife (c a b : E)
  | tup (es : Es) | lst (es : Es)
  | idx (a i : E) | slice (a : E) (lo hi : Eo)
  | isi (a : E) (ts : List Ty) (tupled : Bool)
  | rev (a : E)
  | rg1 (l : Bool) (b : E) | rg2 (l : Bool) (a b : E)
  | bi (f : Bi) (es : Es)
  | call (f : Nat) (es kes : Es) (ord : List Nat)
  | box (e : E)
  | comp (tg : Tg) (it : It) (hasIf : Bool) (cond elt : E)
  | comp2 (tg : Tg) (it : It) (tg1 : Tg) (it1 : It) (elt : E)
  | dnew (t : Bool) | dgeto (d k x : E) | midx (l x : E)
  | op1 (o : Op1) (a : E)
  | dead
inductive Es where
  | nil | cons (e : E) (es : Es)
inductive Eo where
  | no | yes (e : E)
inductive It where
  | seq (e : E) | range1 (a : E) | range2 (a b : E) | range3 (a b c : E) | enum (a : E) | zip (a b : E)
end

abbrev Env := List (Option D)
structure FnI where
  name : Str
  ps : List Str
  sem : List D → Sto → R D
structure GE where
  fns : List FnI
  cons : List (Str × D)

def slot (env : Env) (i : Nat) : Option D := (env[i]?).getD none
mutual
def bindTg : Tg → D → Env → Option Env
  | .name i, d, env => some (env.set i (some d))
  | .tup ts, d, env => match d with
    | .tup ds => bindTgs ts ds env
    | _ => none
def bindTgs : Tgs → List D → Env → Option Env
  | .nil, ds, env => match ds with
    | [] => some env
    | _ => none
  | .cons t ts, ds, env => match ds with
    | d :: ds => (bindTg t d env).bind fun env' => bindTgs ts ds env'
    | [] => none
end
mutual
def Tg.slots : Tg → List Nat
  | .name i => [i]
  | .tup ts => ts.slots
def Tgs.slots : Tgs → List Nat
  | .nil => []
  | .cons t ts => t.slots ++ ts.slots
end
def Tgs.len : Tgs → Nat
  | .nil => 0
  | .cons _ ts => ts.len + 1
def compLoop (f : D → Sto → R (Option D)) : List D → Sto → R (List D)
  | [], st => .ok [] st
  | x :: xs, st => (f x st).bind fun y st1 => (compLoop f xs st1).bind fun ys st2 => .ok (match y with | some z => z :: ys | none => ys) st2
def compCat (f : D → Sto → R (List D)) : List D → Sto → R (List D)
  | [], st => .ok [] st
  | x :: xs, st => (f x st).bind fun ys st1 => (compCat f xs st1).bind fun zs st2 => .ok (ys ++ zs) st2
/-- the slots forgotten -/
def clrs (env : Env) : List Nat → Env
  | [] => env
  | i :: is => (clrs env is).set i none
def rangeD (lo hi c : Int) : Option (List D) :=
  if -(2 ^ 62) ≤ lo ∧ lo < 2 ^ 62 ∧ -(2 ^ 62) ≤ hi ∧ hi < 2 ^ 62 then
    (if c = 1 then some ((List.range (hi - lo).toNat).map fun (k : Nat) => D.int (lo + k))
     else if c = -1 then some ((List.range (lo - hi).toNat).map fun (k : Nat) => D.int (lo - k)) else none)
  else none
/-- tuple(range(a, b)), list(range(a, b)) -/
def rgL (a b : Int) : List D := (List.range (b - a).toNat).map fun (i : Nat) => D.int (a + (i : Int))
def rgOk (a b : Int) : Prop := -(2 ^ 62) ≤ a ∧ a < 2 ^ 62 ∧ -(2 ^ 62) ≤ b ∧ b < 2 ^ 62 ∧ (b - a).toNat ≤ 2 ^ 24
instance (a b : Int) : Decidable (rgOk a b) := inferInstanceAs (Decidable (_ ∧ _))
def rgD (l : Bool) : D → D → Option D
  | .int a, .int b => guardO (rgOk a b) (if l then .lst (rgL a b) else .tup (rgL a b))
  | _, _ => none
def enumD (xs : List D) : List D := xs.mapIdx fun i x => D.tup [.int i, x]
def zipD (xs ys : List D) : List D := List.zipWith (fun x y => D.tup [x, y]) xs ys
/-- the named arguments in the parameters' order -/
def permL {α : Type} (ord : List Nat) (zs : List α) : List α := ord.filterMap fun i => zs[i]?
mutual
def evE (g : GE) : E → Env → Sto → R D
  | .var i, env, st => .ofO st (slot env i)
  | .int i, _, st => .ok (.int i) st
  | .bl b, _, st => .ok (.bl b) st
  | .non, _, st => .ok .non st
  | .str x, _, st => .ok (.str x) st
  | .glob c, _, st => .ofO st ((g.cons[c]?).map (·.2))
  | .bin op a b, env, st => (evE g a env st).bind fun x st1 => (evE g b env st1).bind fun y st2 => .ofO st2 (binD op x y)
  | .neg a, env, st => (evE g a env st).bind fun x st1 => match x with | .int i => .ok (.int (-i)) st1 | _ => .bad
  | .not a, env, st => (evE g a env st).bind fun x st1 => .ofO st1 ((truD st1 x).map fun b => D.bl (!b))
  | .cmp op a b, env, st => (evE g a env st).bind fun x st1 => (evE g b env st1).bind fun y st2 => .ofO st2 ((cmpD op x y).map D.bl)
  | .cmp2 op op' a b c, env, st => (evE g a env st).bind fun x st1 => (evE g b env st1).bind fun y st2 => match cmpD op x y with
    | some true => (evE g c env st2).bind fun z st3 => .ofO st3 ((cmpD op' y z).map D.bl)
    | some false => .ok (.bl false) st2
    | none => .bad
  | .and a b, env, st => (evE g a env st).bind fun x st1 => match truD st1 x with
    | some true => evE g b env st1
    | some false => .ok x st1
    | none => .bad
  | .or a b, env, st => (evE g a env st).bind fun x st1 => match truD st1 x with
    | some true => .ok x st1
    | some false => evE g b env st1
    | none => .bad
  | .ife c a b, env, st => (evE g c env st).bind fun x st1 => match truD st1 x with
    | some true => evE g a env st1
    | some false => evE g b env st1
    | none => .bad
  | .tup es, env, st => (evEs g es env st).bind fun xs st1 => .ofO st1 (guardO (xs.length ≤ sizeLine) (.tup xs))
  | .lst es, env, st => (evEs g es env st).bind fun xs st1 => .ofO st1 (guardO (xs.length ≤ sizeLine) (.lst xs))
  | .idx a i, env, st => (evE g a env st).bind fun x st1 => (evE g i env st1).bind fun y st2 => .ofO st2 (idxD st2 x y)
  | .slice a lo hi, env, st => (evE g a env st).bind fun x st1 => (evEo g lo env st1).bind fun l st2 => (evEo g hi env st2).bind fun u st3 => .ofO st3 (sliceD x l u)
  | .isi a ts _, env, st => (evE g a env st).bind fun x st1 => .ofO st1 ((isiD x ts).map D.bl)
  | .rev a, env, st => (evE g a env st).bind fun x st1 => .ofO st1 (revD x)
  | .rg1 l b, env, st => (evE g b env st).bind fun y st1 => .ofO st1 (rgD l (.int 0) y)
  | .rg2 l a b, env, st => (evE g a env st).bind fun x st1 => (evE g b env st1).bind fun y st2 => .ofO st2 (rgD l x y)
  | .bi f es, env, st => (evEs g es env st).bind fun xs st1 => .ofO st1 (biD st1 f xs)
  | .call f es kes ord, env, st => (evEs g es env st).bind fun xs st1 => (evEs g kes env st1).bind fun zs st2 => match g.fns[f]? with
    | some fi => if xs.length + (permL ord zs).length = fi.ps.length then fi.sem (xs ++ permL ord zs) st2 else .bad
    | none => .bad
  | .box e, env, st => (evE g e env st).bind fun x st1 => match x with
    | .lst xs => if noLs xs then .ok (.ref st1.length) (st1 ++ [xs]) else .bad
    | _ => .bad
  | .comp tg it hasIf cond elt, env, st => (evIt g it env st).bind fun xs st1 =>
      (compLoop (fun x st2 => match bindTg tg x env with
        | some env' => (if hasIf then (evE g cond env' st2).bind fun c st3 => match truD st3 c with
            | some true => (evE g elt env' st3).bind fun y st4 => .ok (some y) st4
            | some false => .ok none st3
            | none => .bad
          else (evE g elt env' st2).bind fun y st3 => .ok (some y) st3).nox
        | none => .bad) xs st1).bind fun ys st5 => .ofO st5 (guardO (ys.length ≤ sizeLine) (.lst ys))
  | .comp2 tg it tg1 it1 elt, env, st => (evIt g it env st).bind fun xs st1 =>
      (compCat (fun x st2 => match bindTg tg x (clrs env (tg.slots ++ tg1.slots)) with
        | some env' => ((evIt g it1 env' st2).bind fun ys st3 => compLoop (fun y st4 => match bindTg tg1 y env' with
          | some env2 => ((evE g elt env2 st4).bind fun z st5 => .ok (some z) st5).nox
          | none => .bad) ys st3).nox
        | none => .bad) xs st1).bind fun ys st5 => .ofO st5 (guardO (ys.length ≤ sizeLine) (.lst ys))
  | .dnew t, _, st => .ok (if t then .dT [] [] else .dK [] []) st
  | .dgeto d k e, env, st => (evE g d env st).bind fun x st1 => if isDK x then (evE g k env st1).bind fun y st2 => (evE g e env st2).bind fun z st3 => .ofO st3 (dgetoD x y z) else .bad
  | .midx l e, env, st => (evE g l env st).bind fun x st1 => if isLst x then (evE g e env st1).bind fun y st2 => .ofO st2 (midxD x y) else .bad
  | .op1 o a, env, st => (evE g a env st).bind fun x st1 => .ofO st1 (op1D o x)
  | .dead, _, _ => .bad
def evEs (g : GE) : Es → Env → Sto → R (List D)
  | .nil, _, st => .ok [] st
  | .cons e es, env, st => (evE g e env st).bind fun x st1 => (evEs g es env st1).bind fun xs st2 => .ok (x :: xs) st2
def evEo (g : GE) : Eo → Env → Sto → R (Option Int)
  | .no, _, st => .ok none st
  | .yes e, env, st => (evE g e env st).bind fun x st1 => match x with | .int i => .ok (some i) st1 | _ => .bad
def evIt (g : GE) : It → Env → Sto → R (List D)
  | .seq e, env, st => (evE g e env st).bind fun x st1 => .ofO st1 (seqOf x)
  | .range1 a, env, st => (evE g a env st).bind fun x st1 => match x with | .int n => .ofO st1 (rangeD 0 n 1) | _ => .bad
  | .range2 a b, env, st => (evE g a env st).bind fun x st1 => (evE g b env st1).bind fun y st2 => match x, y with | .int m, .int n => .ofO st2 (rangeD m n 1) | _, _ => .bad
  | .range3 a b c, env, st => (evE g a env st).bind fun x st1 => (evE g b env st1).bind fun y st2 => (evE g c env st2).bind fun z st3 =>
      match x, y, z with | .int m, .int n, .int c => .ofO st3 (rangeD m n c) | _, _, _ => .bad
  | .enum a, env, st => (evE g a env st).bind fun x st1 => match x with | .lst xs => .ok (enumD xs) st1 | .tup xs => .ok (enumD xs) st1 | _ => .bad
  | .zip a b, env, st => (evE g a env st).bind fun x st1 => (evE g b env st1).bind fun y st2 => match x, y with
      | .lst xs, .lst ys => .ok (zipD xs ys) st2
      | .tup xs, .tup ys => .ok (zipD xs ys) st2
      | _, _ => .bad
end

/-! ### statements -/
inductive RS where
  | nx (env : Env) (st : Sto) | rt (d : D) (st : Sto) | bk (env : Env) (st : Sto) | ct (env : Env) (st : Sto)
  | exn (c : Str) (d : D) (env : Env) (st : Sto) | bad
/-- how a value goes to a name: a list of one's own that is changed later; a value that stands; one without lists (looked at) -/
inductive Ak where
  | own | pln | nl | n1
  deriving DecidableEq
mutual
inductive S where
  | ret (e : E) | retN
  | set (i : Nat) (k : Ak) (e : E)
  | setT (tg : Tg) (e : E)
  | par (i j : Nat) (ki kj : Ak) (a b : E)
  | par3 (i j l : Nat) (ki kj kl : Ak) (a b c : E)
  | move (i j : Nat)
  | aug (i : Nat) (op : Operator) (e : E)
  | setIx (i : Nat) (o nl : Bool) (ix e : E)
  | augIx (i : Nat) (o : Bool) (op : Operator) (ix e : E)
  | app (i : Nat) (o nl : Bool) (e : E)
  | mth (i : Nat) (o : Bool) (f : Mth) (es : Es)
  | dput (i : Nat) (k e : E)
  | ite (c : E) (a b : Ss)
  | whl (c : E) (body : Ss)
  | for_ (tg : Tg) (it : It) (body : Ss)
  | brk | cont | pass | drop (e : E)
  | kill (i : Nat)
  | raise_ (c : Str) (e : E)
  | popApp (i j : Nat) (oi oj : Bool) (e : E)
  | popDrop (j : Nat) (o : Bool) (e : E)
  | try_ (n : Nat) (b : Ss) (cs : List Cls)
  | dead
inductive Ss where
  | nil | cons (s : S) (ss : Ss)
end
def R.toS (r : R α) (env : Env) (f : α → Sto → RS) : RS := match r with
  | .ok a st => f a st
  | .exn c d st => .exn c d env st
  | .bad => .bad
@[simp] theorem R.toS_ok {α : Type} (a : α) (st : Sto) (env : Env) (f : α → Sto → RS) : (R.ok a st).toS env f = f a st := rfl
@[simp] theorem R.toS_exn {α : Type} (c : Str) (d : D) (st : Sto) (env : Env) (f : α → Sto → RS) : (R.exn c d st : R α).toS env f = .exn c d env st := rfl
@[simp] theorem R.toS_bad {α : Type} (env : Env) (f : α → Sto → RS) : (R.bad : R α).toS env f = .bad := rfl
/-- no list among its items -/
def noI : D → Bool
  | .lst xs => noLs xs
  | d => noL d
def akOk (k : Ak) (d : D) : Bool := match k with
  | .nl => noL d
  | .n1 => noI d
  | _ => true
def whN (c : Env → Sto → R Bool) (b : Env → Sto → RS) : Nat → Env → Sto → RS
  | 0, _, _ => .bad
  | n + 1, env, st => (c env st).toS env fun k st1 => match k with
    | false => .nx env st1
    | true => match b env st1 with
      | .nx env' st' => whN c b n env' st'
      | .ct env' st' => whN c b n env' st'
      | .bk env' st' => .nx env' st'
      | r => r
open Classical in
noncomputable def whD (c : Env → Sto → R Bool) (b : Env → Sto → RS) (env : Env) (st : Sto) : RS :=
  if h : ∃ n, whN c b n env st ≠ .bad then whN c b (Classical.choose h) env st else .bad
def forD (tg : Tg) (b : Env → Sto → RS) : List D → Env → Sto → RS
  | [], env, st => .nx env st
  | x :: xs, env, st => match bindTg tg x env with
    | none => .bad
    | some env1 => match b env1 st with
      | .nx env' st' => forD tg b xs env' st'
      | .ct env' st' => forD tg b xs env' st'
      | .bk env' st' => .nx env' st'
      | r => r
def setIxL (xs : List D) (ix : D) (d : D) : Option (List D) := match ix with
  | .int k => (L2.ixN xs.length k).map fun j => xs.set j d
  | _ => none
/-- a name's list is changed: the name's own, or the one that it refers to -/
def chg (i : Nat) (o ok : Bool) (env : Env) (st : Sto) (f : List D → Option (List D)) : RS := match slot env i with
  | some (.lst xs) => if o then match f xs with
    | some ys => .nx (env.set i (some (.lst ys))) st
    | none => .bad else .bad
  | some (.ref k) => if ok then match (st[k]?).bind f with
    | some ys => .nx env (st.set k ys)
    | none => .bad else .bad
  | _ => .bad
def isLs (env : Env) (st : Sto) (i : Nat) : Bool := match slot env i with
  | some (.lst _) => true
  | some (.ref k) => decide (k < st.length)
  | _ => false
/-- an item of a name's own list is taken out -/
def popD (j : Nat) (o : Bool) (k : D) (env : Env) (st : Sto) (f : D → Env → Sto → RS) : RS := match slot env j, k with
  | some (.lst xs), .int i => if o && decide (-(2 ^ 63) ≤ i ∧ i < 2 ^ 63) then match L2.ixN xs.length i with
    | some n => match xs[n]? with
      | some y => f y (env.set j (some (.lst (xs.eraseIdx n)))) st
      | none => .bad
    | none => .bad else .bad
  | _, _ => .bad
/-- the clauses, one behind another -/
def catchD (n : Nat) (x : Str) (d : D) (env : Env) (st : Sto) : List Cls → RS
  | [] => .exn x d env st
  | c :: r => if c.all || c.cls == x then (if env.length = n ∧ c.nm < n then (match c.body with
      | .set j e => .nx ((env.set j (some (evXs d e))).set c.nm none) st
      | .ret e => .rt (evXs d e) st) else .bad) else catchD n x d env st r
def evC (g : GE) (c : E) (env : Env) (st : Sto) : R Bool := (evE g c env st).bind fun x st1 => .ofO st1 (truD st1 x)
mutual
noncomputable def evS (g : GE) : S → Env → Sto → RS
  | .ret e, env, st => (evE g e env st).toS env fun d st1 => .rt d st1
  | .retN, _, st => .rt .non st
  | .set i k e, env, st => (evE g e env st).toS env fun d st1 => if akOk k d then .nx (env.set i (some d)) st1 else .bad
  | .setT tg e, env, st => (evE g e env st).toS env fun d st1 => match bindTg tg d env with
    | some env' => .nx env' st1
    | none => .bad
  | .par i j ki kj a b, env, st => (evE g a env st).toS env fun x st1 => if akOk ki x then (evE g b env st1).toS env fun y st2 =>
      if akOk kj y then .nx ((env.set i (some x)).set j (some y)) st2 else .bad else .bad
  | .par3 i j l ki kj kl a b c, env, st => (evE g a env st).toS env fun x st1 => if akOk ki x then (evE g b env st1).toS env fun y st2 =>
      if akOk kj y then (evE g c env st2).toS env fun z st3 => if akOk kl z then .nx (((env.set i (some x)).set j (some y)).set l (some z)) st3 else .bad else .bad else .bad
  | .move i j, env, st => match slot env j with
    | some d => .nx ((env.set i (some d)).set j none) st
    | none => .bad
  | .aug i op e, env, st => match slot env i with
    | some x => (evE g e env st).toS env fun y st1 => match x, y, binD op x y with
      | .int _, .int _, some z => .nx (env.set i (some z)) st1
      | _, _, _ => .bad
    | none => .bad
  | .setIx i o nl ix e, env, st => if (slot env i).isNone then .bad else (evE g e env st).toS env fun d st1 => (evE g ix env st1).toS env fun k st2 =>
      if nl && !noL d then .bad else chg i o (noL d) env st2 fun xs => setIxL xs k d
  | .augIx i o op ix e, env, st => if !isLs env st i then .bad else (evE g ix env st).toS env fun k st1 => match (slot env i).bind fun d => idxD st1 d k with
    | some x => (evE g e env st1).toS env fun y st2 => match x, y, binD op x y with
      | .int _, .int _, some z => chg i o true env st2 fun xs => setIxL xs k z
      | _, _, _ => .bad
    | none => .bad
  | .app i o nl e, env, st => if !isLs env st i then .bad else (evE g e env st).toS env fun d st1 =>
      if nl && !noL d then .bad else chg i o (noL d) env st1 fun xs => guardO (xs.length < sizeLine) (xs ++ [d])
  | .mth i o f es, env, st => if !isLs env st i then .bad else (evEs g es env st).toS env fun ds st1 => chg i o true env st1 fun xs => mthD f xs ds
  | .dput i k e, env, st => if (slot env i).isNone then .bad else (evE g e env st).toS env fun v st1 => (evE g k env st1).toS env fun y st2 => match (slot env i).bind fun d => dputD d y v with
    | some d' => .nx (env.set i (some d')) st2
    | none => .bad
  | .ite c a b, env, st => (evC g c env st).toS env fun k st1 => match k with
    | true => evSs g a env st1
    | false => evSs g b env st1
  | .whl c body, env, st => whD (evC g c) (evSs g body) env st
  | .for_ tg it body, env, st => (evIt g it env st).toS env fun xs st1 => forD tg (evSs g body) xs env st1
  | .brk, env, st => .bk env st
  | .cont, env, st => .ct env st
  | .pass, env, st => .nx env st
  | .drop e, env, st => (evE g e env st).toS env fun _ st1 => .nx env st1
  | .kill i, env, st => .nx (env.set i none) st
  | .raise_ c e, env, st => (evE g e env st).toS env fun d st1 => .exn c d env st1
  | .popApp i j oi oj e, env, st => if !isLs env st i then .bad else if !isLs env st j then .bad else (evE g e env st).toS env fun k st1 => popD j oj k env st1 fun y env1 st2 =>
      if noL y then chg i oi true env1 st2 fun xs => guardO (xs.length < sizeLine) (xs ++ [y]) else .bad
  | .popDrop j o e, env, st => if !isLs env st j then .bad else (evE g e env st).toS env fun k st1 => popD j o k env st1 fun _ env1 st2 => .nx env1 st2
  | .try_ n b cs, env, st => if env.length = n then (match evSs g b env st with
    | .exn x d env' st' => catchD n x d env' st' cs
    | r => r) else .bad
  | .dead, _, _ => .bad
noncomputable def evSs (g : GE) : Ss → Env → Sto → RS
  | .nil, env, st => .nx env st
  | .cons s ss, env, st => match evS g s env st with
    | .nx env' st' => evSs g ss env' st'
    | r => r
end
def RS.fin : RS → R D
  | .nx _ st => .ok .non st
  | .rt d st => .ok d st
  | .exn c d _ st => .exn c d st
  | _ => .bad
/-- a def's body at its arguments -/
noncomputable def evF (g : GE) (n : Nat) (body : Ss) (as : List D) (st : Sto) : R D := (evSs g body (as.map some ++ List.replicate (n - as.length) none) st).fin

/-! ### while, unfolded -/
theorem whN_mono {c : Env → Sto → R Bool} {b : Env → Sto → RS} : ∀ {n : Nat} {env : Env} {st : Sto}, whN c b n env st ≠ .bad → ∀ k, whN c b (n + k) env st = whN c b n env st
  | 0, _, _, h, _ => absurd rfl h
  | n + 1, env, st, h, k => by
    rw [show n + 1 + k = (n + k) + 1 by omega]
    unfold whN at h ⊢
    cases e : c env st with
    | bad => rfl
    | exn _ _ _ => rfl
    | ok t st1 =>
      rw [e] at h
      simp only [R.toS_ok] at h ⊢
      cases t with
      | false => rfl
      | true =>
        simp only at h ⊢
        cases e2 : b env st1 with
        | nx env' st' => rw [e2] at h; exact whN_mono h k
        | ct env' st' => rw [e2] at h; exact whN_mono h k
        | bk _ _ => rfl
        | rt _ _ => rfl
        | exn _ _ _ _ => rfl
        | bad => rfl
theorem whD_of {c : Env → Sto → R Bool} {b : Env → Sto → RS} {n : Nat} {env : Env} {st : Sto} (h : whN c b n env st ≠ .bad) : whD c b env st = whN c b n env st := by
  have ex : ∃ n, whN c b n env st ≠ .bad := ⟨n, h⟩
  unfold whD
  rw [dif_pos ex]
  have h2 := Classical.choose_spec ex
  generalize Classical.choose ex = m at h2
  rcases Nat.le_total n m with hl | hl
  · obtain ⟨k, rfl⟩ := Nat.exists_eq_add_of_le hl
    exact whN_mono h k
  · obtain ⟨k, rfl⟩ := Nat.exists_eq_add_of_le hl
    exact (whN_mono h2 k).symm
theorem whD_ne {c : Env → Sto → R Bool} {b : Env → Sto → RS} {env : Env} {st : Sto} (h : whD c b env st ≠ .bad) : ∃ n, whN c b n env st ≠ .bad := by
  unfold whD at h
  split at h
  · rename_i ex; exact ex
  · exact absurd rfl h
theorem whD_eq (c : Env → Sto → R Bool) (b : Env → Sto → RS) (env : Env) (st : Sto) : whD c b env st = (c env st).toS env fun k st1 => match k with
    | false => .nx env st1
    | true => match b env st1 with
      | .nx env' st' => whD c b env' st'
      | .ct env' st' => whD c b env' st'
      | .bk env' st' => .nx env' st'
      | r => r := by
  have key : ∀ env' st', ∀ r, (∃ n, whN c b n env' st' ≠ .bad) → (∀ n, whN c b n env' st' ≠ .bad → whN c b n env' st' = r) → whD c b env' st' = r := fun env' st' r ⟨n, hn⟩ h => by rw [whD_of hn, h n hn]
  have nokey : ∀ env' st', ¬ (∃ n, whN c b n env' st' ≠ .bad) → whD c b env' st' = .bad := fun env' st' h => by unfold whD; rw [dif_neg h]
  by_cases ex : ∃ n, whN c b n env st ≠ .bad
  · obtain ⟨n, hn⟩ := ex
    rw [whD_of hn]
    cases n with
    | zero => exact absurd rfl hn
    | succ n =>
      unfold whN at hn ⊢
      cases e : c env st with
      | bad => rfl
      | exn _ _ _ => rfl
      | ok t st1 =>
        rw [e] at hn
        simp only [R.toS_ok] at hn ⊢
        cases t with
        | false => rfl
        | true =>
          simp only at hn ⊢
          cases e2 : b env st1 with
          | nx env' st' => rw [e2] at hn; exact (whD_of hn).symm
          | ct env' st' => rw [e2] at hn; exact (whD_of hn).symm
          | bk _ _ => rfl
          | rt _ _ => rfl
          | exn _ _ _ _ => rfl
          | bad => rfl
  · rw [nokey env st ex]
    have h1 : whN c b 1 env st = .bad := Classical.byContradiction fun z => ex ⟨1, z⟩
    have hs : ∀ n, whN c b (n + 1) env st = .bad := fun n => Classical.byContradiction fun z => ex ⟨n + 1, z⟩
    unfold whN at hs
    cases e : c env st with
    | bad => rfl
    | exn _ _ _ => have := hs 0; rw [e] at this; cases this
    | ok t st1 =>
      rw [e] at hs
      simp only [R.toS_ok] at hs ⊢
      cases t with
      | false => have := hs 0; cases this
      | true =>
        simp only at hs ⊢
        cases e2 : b env st1 with
        | nx env' st' =>
          rw [e2] at hs
          exact (nokey env' st' fun ⟨n, hn⟩ => hn (hs n)).symm
        | ct env' st' =>
          rw [e2] at hs
          exact (nokey env' st' fun ⟨n, hn⟩ => hn (hs n)).symm
        | bk _ _ => have := hs 0; rw [e2] at this; cases this
        | rt _ _ => have := hs 0; rw [e2] at this; cases this
        | exn _ _ _ _ => have := hs 0; rw [e2] at this; cases this
        | bad => rfl
end WT
end

section
set_option Elab.async false
set_option linter.all false
set_option maxRecDepth 100000
/-! K2: how data stand in the abstract heap; states; what a step keeps. -/
namespace WT
open PySem PySem.Spec PyProof.Rows L2

abbrev St := L2.St
/-- the script, known to the object -/
def Fz (K : PySem.W.Frag) (H : Hp) (a : Addr) (ns : List Int) : Prop :=
  (∃ o, H a = some (.frz o (.lst (ns.map V.int)))) ∨
    ∃ (o : Obj) (its : Array Value) (n : Nat), K.lookup a = some o ∧ o.cls = .type "list" ∧ o.dict = none ∧ o.data = .seq its n ∧ its.size ≤ sizeLine ∧ Vals (ns.map V.int) its.toList
theorem Fz.sq {K : PySem.W.Frag} {H : Hp} {a : Addr} {ns : List Int} (h : Fz K H a ns) : SqL K H a (ns.map V.int) := by
  rcases h with ⟨o, h⟩ | h
  · exact .inl (.inr ⟨o, h⟩)
  · exact .inr h
/-! ### dicts whose keys are tuples of ints -/
mutual
def hash0 : NestedKey → Int
  | .none => reduceHash 0xFCA86420
  | .num i => hashInt i
  | .text _ => 0
  | .tup ks => reduceHash (Builtin.Tuple.tupleHashOf (hash0s ks))
def hash0s : List NestedKey → List Int
  | [] => []
  | k :: ks => hash0 k :: hash0s ks
end
mutual
def noTx : NestedKey → Bool
  | .none => true
  | .num _ => true
  | .text _ => false
  | .tup ks => noTxs ks
def noTxs : List NestedKey → Bool
  | [] => true
  | k :: ks => noTx k && noTxs ks
end
mutual
theorem hash0_eq (w : World) : ∀ k : NestedKey, noTx k = true → k.hash w = hash0 k
  | .none, _ => rfl
  | .num _, _ => rfl
  | .text _, h => by simp [noTx] at h
  | .tup ks, h => by
    rw [NestedKey.hash, hash0, hash0s_eq w ks (by simpa [noTx] using h)]
theorem hash0s_eq (w : World) : ∀ ks : List NestedKey, noTxs ks = true → NestedKey.hashes w ks = hash0s ks
  | [], _ => rfl
  | k :: ks, h => by
    rw [noTxs, Bool.and_eq_true] at h
    rw [NestedKey.hashes, hash0s, hash0_eq w k h.1, hash0s_eq w ks h.2]
end
/-- the dict's own object -/
def DTq (a : Addr) (xs : List (NestedKey × Addr × Value)) (h : Heap) : Prop :=
  ∃ o es ep, h.get? a = some o ∧ o.ExactDict ∧ o.data = .dict es ep ∧ es.toList = xs.map (fun x => (⟨hash0 x.1, .ref x.2.1, x.2.2⟩ : DictEntry)) ∧ (xs.map (·.1)).Nodup
def DTo (a : Addr) (xs : List (NestedKey × Addr × Value)) : HO := .ext (DTq a xs)
mutual
/-- a value is a key -/
inductive NK (K : PySem.W.Frag) (H : Hp) : NestedKey → V → Prop
  | none : NK K H .none .non
  | bl (b : Bool) : NK K H (.num (if b = true then 1 else 0)) (.bl b)
  | num (i : Int) : NK K H (.num i) (.int i)
  | tup {b : Addr} {vs : List V} {ks : List NestedKey} : SqT K H b vs → NKs K H ks vs → NK K H (.tup ks) (.ref b)
inductive NKs (K : PySem.W.Frag) (H : Hp) : List NestedKey → List V → Prop
  | nil : NKs K H [] []
  | cons {k : NestedKey} {v : V} {ks : List NestedKey} {vs : List V} : NK K H k v → NKs K H ks vs → NKs K H (k :: ks) (v :: vs)
end
mutual
theorem NK.mono {K : PySem.W.Frag} {H H' : Hp} (m : ∀ a vs, SqT K H a vs → SqT K H' a vs) : ∀ {k : NestedKey} {v : V}, NK K H k v → NK K H' k v
  | _, _, .none => .none
  | _, _, .bl b => .bl b
  | _, _, .num i => .num i
  | _, _, .tup e r => .tup (m _ _ e) (NKs.mono m r)
theorem NKs.mono {K : PySem.W.Frag} {H H' : Hp} (m : ∀ a vs, SqT K H a vs → SqT K H' a vs) : ∀ {ks : List NestedKey} {vs : List V}, NKs K H ks vs → NKs K H' ks vs
  | _, _, .nil => .nil
  | _, _, .cons r s => .cons (NK.mono m r) (NKs.mono m s)
end
/-- the entries: keys that stand -/
def NKx (K : PySem.W.Frag) (H : Hp) (xs : List (NestedKey × Addr × Value)) : Prop := ∀ x ∈ xs, NK K H x.1 (.ref x.2.1) ∧ noTx x.1 = true ∧ x.1.depth ≤ 8
theorem NKx.mono {K : PySem.W.Frag} {H H' : Hp} {xs : List (NestedKey × Addr × Value)} (h : NKx K H xs) (m : ∀ a vs, SqT K H a vs → SqT K H' a vs) : NKx K H' xs := fun x hx => ⟨(h x hx).1.mono m, (h x hx).2⟩
mutual
inductive Rep (K : PySem.W.Frag) (H : Hp) (μ : List Addr) : D → V → List Addr → List Addr → Prop
  | non : Rep K H μ .non .non [] []
  | bl (b : Bool) : Rep K H μ (.bl b) (.bl b) [] []
  | int (i : Int) : Rep K H μ (.int i) (.int i) [] []
  | str (x : Str) : Rep K H μ (.str x) (.str x) [] []
  | tup {a : Addr} {vs : List V} {ds : List D} {F : List Addr} : SqT K H a vs → Reps K H μ ds vs F → Rep K H μ (.tup ds) (.ref a) [] F
  | lst {a : Addr} {vs : List V} {ds : List D} {F : List Addr} : H a = some (.lst vs) → Reps K H μ ds vs F → Rep K H μ (.lst ds) (.ref a) [a] F
  | frz {a : Addr} {ns : List Int} : Fz K H a ns → Rep K H μ (.frz ns) (.ref a) [] []
  | dK {a : Addr} {kvs : List (Key × V)} {ks : List Key} {vs : List V} {ds : List D} {F : List Addr} : H a = some (.dK kvs) → kvs.map (·.1) = ks → kvs.map (·.2) = vs → Reps K H μ ds vs F → F = [] → Rep K H μ (.dK ks ds) (.ref a) [a] []
  | dT {a : Addr} {xs : List (NestedKey × Addr × Value)} {ks : List NestedKey} {vs : List V} {ds : List D} {F : List Addr} : H a = some (DTo a xs) → (a == sysModules) = false → xs.length ≤ sizeLine → xs.map (·.1) = ks → NKx K H xs → Vals vs (xs.map (·.2.2)) → Reps K H μ ds vs F → F = [] → Rep K H μ (.dT ks ds) (.ref a) [a] []
  | ref {a : Addr} {k : Nat} : μ[k]? = some a → Rep K H μ (.ref k) (.ref a) [] []
inductive Reps (K : PySem.W.Frag) (H : Hp) (μ : List Addr) : List D → List V → List Addr → Prop
  | nil : Reps K H μ [] [] []
  | cons {d : D} {v : V} {t F : List Addr} {ds : List D} {vs : List V} {G : List Addr} : Rep K H μ d v t F → Reps K H μ ds vs G → Reps K H μ (d :: ds) (v :: vs) (t ++ F ++ G)
end

section
variable {K : PySem.W.Frag} {H H1 H2 H' : Hp} {μ μ1 μ2 μ' : List Addr}
theorem Reps.length : ∀ {ds : List D} {vs : List V} {F : List Addr}, Reps K H μ ds vs F → ds.length = vs.length
  | _, _, _, .nil => rfl
  | _, _, _, .cons _ t => by simp [Reps.length t]
theorem Reps.get : ∀ {ds : List D} {vs : List V} {F : List Addr} {i : Nat} {d : D}, Reps K H μ ds vs F → ds[i]? = some d → ∃ v t G, vs[i]? = some v ∧ Rep K H μ d v t G ∧ ∀ a ∈ t ++ G, a ∈ F
  | _, _, _, _, _, .nil, h => by simp at h
  | _, _, _, 0, _, .cons r _, h => by
    simp at h
    subst h
    exact ⟨_, _, _, rfl, r, fun a ha => List.mem_append_left _ ha⟩
  | _, _, _, i + 1, d, .cons _ s, h => by
    obtain ⟨v, t, G, e, r, k⟩ := Reps.get s (i := i) (d := d) (by simpa using h)
    exact ⟨v, t, G, by simpa using e, r, fun a ha => List.mem_append_right _ (k a ha)⟩
theorem Reps.append : ∀ {ds : List D} {vs : List V} {F : List Addr} {es : List D} {ws : List V} {G : List Addr}, Reps K H μ ds vs F → Reps K H μ es ws G → ∃ L, Reps K H μ (ds ++ es) (vs ++ ws) L ∧ ∀ a ∈ L, a ∈ F ∨ a ∈ G
  | _, _, _, _, _, _, .nil, s => ⟨_, s, fun a h => .inr h⟩
  | _, _, _, _, _, _, .cons (t := t) (F := F) r u, s => by
    obtain ⟨L, h1, h2⟩ := Reps.append u s
    refine ⟨_, .cons r h1, fun a h => ?_⟩
    rcases List.mem_append.mp h with h | h
    · exact .inl (List.mem_append_left _ h)
    · rcases h2 a h with h | h
      · exact .inl (List.mem_append_right _ h)
      · exact .inr h
theorem Reps.drop : ∀ {ds : List D} {vs : List V} {F : List Addr} (n : Nat), Reps K H μ ds vs F → ∃ L, Reps K H μ (ds.drop n) (vs.drop n) L ∧ ∀ a ∈ L, a ∈ F
  | _, _, _, 0, r => ⟨_, r, fun _ h => h⟩
  | _, _, _, _ + 1, .nil => ⟨_, .nil, fun _ h => h⟩
  | _, _, _, n + 1, .cons _ s => by
    obtain ⟨L, h1, h2⟩ := Reps.drop n s
    exact ⟨L, h1, fun a h => List.mem_append_right _ (h2 a h)⟩
theorem Reps.take : ∀ {ds : List D} {vs : List V} {F : List Addr} (n : Nat), Reps K H μ ds vs F → ∃ L, Reps K H μ (ds.take n) (vs.take n) L ∧ ∀ a ∈ L, a ∈ F
  | _, _, _, 0, _ => ⟨[], .nil, fun _ h => by simp at h⟩
  | _, _, _, _ + 1, .nil => ⟨[], .nil, fun _ h => h⟩
  | _, _, _, n + 1, .cons r s => by
    obtain ⟨L, h1, h2⟩ := Reps.take n s
    refine ⟨_, .cons r h1, fun a h => ?_⟩
    rcases List.mem_append.mp h with h | h
    · exact List.mem_append_left _ h
    · exact List.mem_append_right _ (h2 a h)
theorem Reps.rep {ds : List D} {vs : List V} {F : List Addr} (r : Reps K H μ ds vs F) : ∀ n : Nat, ∃ L, Reps K H μ (List.replicate n ds).flatten (List.replicate n vs).flatten L ∧ ∀ a ∈ L, a ∈ F
  | 0 => ⟨[], .nil, fun _ h => by simp at h⟩
  | n + 1 => by
    obtain ⟨L, h1, h2⟩ := Reps.rep r n
    rw [List.replicate_succ, List.replicate_succ, List.flatten_cons, List.flatten_cons]
    obtain ⟨M, h3, h4⟩ := Reps.append r h1
    exact ⟨M, h3, fun a h => (h4 a h).elim id (h2 a)⟩
theorem Reps.set : ∀ {ds : List D} {vs : List V} {F : List Addr} (i : Nat) {d : D} {v : V} {t G : List Addr}, Reps K H μ ds vs F → Rep K H μ d v t G → ∃ L, Reps K H μ (ds.set i d) (vs.set i v) L ∧ ∀ a ∈ L, a ∈ F ∨ a ∈ t ++ G
  | _, _, _, _, _, _, _, _, .nil, _ => ⟨[], .nil, fun _ h => by simp at h⟩
  | _, _, _, 0, _, _, _, _, .cons _ s, r => ⟨_, .cons r s, fun a h => by
      rcases List.mem_append.mp h with h | h
      · exact .inr h
      · exact .inl (List.mem_append_right _ h)⟩
  | _, _, _, i + 1, _, _, _, _, .cons q s, r => by
    obtain ⟨L, h1, h2⟩ := Reps.set i s r
    refine ⟨_, .cons q h1, fun a h => ?_⟩
    rcases List.mem_append.mp h with h | h
    · exact .inl (List.mem_append_left _ h)
    · rcases h2 a h with h | h
      · exact .inl (List.mem_append_right _ h)
      · exact .inr h
mutual
theorem Rep.there : ∀ {d : D} {v : V} {t F : List Addr}, Rep K H μ d v t F → ∀ a ∈ t ++ F, H a ≠ none
  | _, _, _, _, .non, a, h => by simp at h
  | _, _, _, _, .bl _, a, h => by simp at h
  | _, _, _, _, .int _, a, h => by simp at h
  | _, _, _, _, .str _, a, h => by simp at h
  | _, _, _, _, .tup _ r, a, h => Reps.there r a (by simpa using h)
  | _, _, _, _, .lst e r, a, h => by
    rcases List.mem_append.mp h with h | h
    · have z := List.mem_singleton.mp h
      rw [z, e]
      simp
    · exact Reps.there r a h
  | _, _, _, _, .frz _, a, h => by simp at h
  | _, _, _, _, .ref _, a, h => by simp at h
  | _, _, _, _, .dT e _ _ _ _ _ _ _, a, h => by
    have z := List.mem_singleton.mp (by simpa using h : a ∈ [_])
    rw [z, e]
    simp
  | _, _, _, _, .dK e _ _ _ _, a, h => by
    have z := List.mem_singleton.mp (by simpa using h : a ∈ [_])
    rw [z, e]
    simp
theorem Reps.there : ∀ {ds : List D} {vs : List V} {F : List Addr}, Reps K H μ ds vs F → ∀ a ∈ F, H a ≠ none
  | _, _, _, .nil, a, h => by simp at h
  | _, _, _, .cons r s, a, h => by
    rcases List.mem_append.mp h with h | h
    · exact Rep.there r a h
    · exact Reps.there s a h
end
mutual
theorem Rep.noL : ∀ {d : D} {v : V} {t F : List Addr}, Rep K H μ d v t F → noL d = true → t = [] ∧ F = []
  | _, _, _, _, .non, _ => ⟨rfl, rfl⟩
  | _, _, _, _, .bl _, _ => ⟨rfl, rfl⟩
  | _, _, _, _, .int _, _ => ⟨rfl, rfl⟩
  | _, _, _, _, .str _, _ => ⟨rfl, rfl⟩
  | _, _, _, _, .tup _ r, h => ⟨rfl, Reps.noL r (by simpa [WT.noL] using h)⟩
  | _, _, _, _, .lst _ _, h => by simp [WT.noL] at h
  | _, _, _, _, .dK _ _ _ _ _, h => by simp [WT.noL] at h
  | _, _, _, _, .dT _ _ _ _ _ _ _ _, h => by simp [WT.noL] at h
  | _, _, _, _, .frz _, _ => ⟨rfl, rfl⟩
  | _, _, _, _, .ref _, _ => ⟨rfl, rfl⟩
theorem Reps.noL : ∀ {ds : List D} {vs : List V} {F : List Addr}, Reps K H μ ds vs F → noLs ds = true → F = []
  | _, _, _, .nil, _ => rfl
  | _, _, _, .cons r s, h => by
    rw [noLs, Bool.and_eq_true] at h
    obtain ⟨e1, e2⟩ := Rep.noL r h.1
    rw [e1, e2, Reps.noL s h.2]
    rfl
end

/-! ### steps -/
structure Step (μ : List Addr) (H : Hp) (μ' : List Addr) (H' : Hp) : Prop where
  keep : ∀ a o, H a = some o → a ∉ μ → H' a = some o
  tups : ∀ a xs, H a = some (.tup xs) → H' a = some (.tup xs)
  frzs : ∀ a o u, H a = some (.frz o u) → H' a = some (.frz o u)
  dom : ∀ a, H a ≠ none → H' a ≠ none
  ext : ∃ ν, μ' = μ ++ ν ∧ ∀ a ∈ ν, H a = none
theorem Step.refl : Step μ H μ H := ⟨fun _ _ h _ => h, fun _ _ h => h, fun _ _ _ h => h, fun _ h => h, [], by simp, fun _ h => by simp at h⟩
theorem Step.notin (s : Step μ H μ' H') {a : Addr} (h : H a ≠ none) (n : a ∉ μ) : a ∉ μ' := by
  obtain ⟨ν, rfl, hν⟩ := s.ext
  intro z
  rcases List.mem_append.mp z with z | z
  · exact n z
  · exact h (hν a z)
theorem Step.trans (s : Step μ H μ1 H1) (r : Step μ1 H1 μ2 H2) : Step μ H μ2 H2 where
  keep := fun a o h n => r.keep a o (s.keep a o h n) (s.notin (by rw [h]; simp) n)
  tups := fun a xs h => r.tups a xs (s.tups a xs h)
  frzs := fun a o u h => r.frzs a o u (s.frzs a o u h)
  dom := fun a h => r.dom a (s.dom a h)
  ext := by
    obtain ⟨ν, rfl, hν⟩ := s.ext
    obtain ⟨ν', rfl, hν'⟩ := r.ext
    refine ⟨ν ++ ν', by simp, fun a h => ?_⟩
    rcases List.mem_append.mp h with h | h
    · exact hν a h
    · cases e : H a with
      | none => rfl
      | some o => exact absurd (hν' a h) (s.dom a (by rw [e]; simp))
theorem Step.new {p : Addr} {o : HO} (h : H p = none) : Step μ H μ (upd H p o) where
  keep := fun a u e _ => by rw [upd_ne (ne_of_none e h)]; exact e
  tups := fun a u e => by rw [upd_ne (ne_of_none e h)]; exact e
  frzs := fun a o u e => by rw [upd_ne (ne_of_none e h)]; exact e
  dom := fun a e => by
    by_cases q : a = p
    · rw [q, upd_same]; simp
    · rw [upd_ne q]; exact e
  ext := ⟨[], by simp, fun _ h => by simp at h⟩
theorem Step.wasNone (s : Step μ H μ' H') {a : Addr} (h : H' a = none) : H a = none := by
  cases e : H a with
  | none => rfl
  | some o => exact absurd h (s.dom a (by rw [e]; simp))
theorem SqT.step {a : Addr} {vs : List V} (h : SqT K H a vs) (s : Step μ H μ' H') : SqT K H' a vs := by
  rcases h with (h | ⟨o, h⟩) | h
  · exact .inl (.inl (s.tups _ _ h))
  · exact .inl (.inr ⟨o, s.frzs _ _ _ h⟩)
  · exact .inr h
theorem Fz.step {a : Addr} {ns : List Int} (h : Fz K H a ns) (s : Step μ H μ' H') : Fz K H' a ns := by
  rcases h with ⟨o, h⟩ | h
  · exact .inl ⟨o, s.frzs _ _ _ h⟩
  · exact .inr h
mutual
theorem Rep.step : ∀ {d : D} {v : V} {t F : List Addr}, Rep K H μ d v t F → Step μ H μ' H' → (∀ a ∈ t ++ F, a ∉ μ) → Rep K H' μ' d v t F
  | _, _, _, _, .non, _, _ => .non
  | _, _, _, _, .bl b, _, _ => .bl b
  | _, _, _, _, .int b, _, _ => .int b
  | _, _, _, _, .str b, _, _ => .str b
  | _, _, _, _, .tup e r, s, n => .tup (SqT.step e s) (Reps.step r s fun a h => n a (by simpa using h))
  | _, _, _, _, .lst e r, s, n => .lst (s.keep _ _ e (n _ (by simp))) (Reps.step r s fun a h => n a (by simp [h]))
  | _, _, _, _, .frz e, s, _ => .frz (Fz.step e s)
  | _, _, _, _, .dT e h1 h2 h3 h4 h5 r hF, s, n => .dT (s.keep _ _ e (n _ (by simp))) h1 h2 h3 (h4.mono fun _ _ z => SqT.step z s) h5 (Reps.step r s fun a h => by rw [hF] at h; simp at h) hF
  | _, _, _, _, .dK e h1 h2 r hF, s, n => .dK (s.keep _ _ e (n _ (by simp))) h1 h2 (Reps.step r s fun a h => by rw [hF] at h; simp at h) hF
  | _, _, _, _, .ref e, s, _ => .ref (by
      obtain ⟨ν, rfl, _⟩ := s.ext
      rw [List.getElem?_append_left (List.getElem?_eq_some_iff.mp e).1]
      exact e)
theorem Reps.step : ∀ {ds : List D} {vs : List V} {F : List Addr}, Reps K H μ ds vs F → Step μ H μ' H' → (∀ a ∈ F, a ∉ μ) → Reps K H' μ' ds vs F
  | _, _, _, .nil, _, _ => .nil
  | _, _, _, .cons r t, s, n => .cons (Rep.step r s fun a h => n a (List.mem_append_left _ h)) (Reps.step t s fun a h => n a (List.mem_append_right _ h))
end

/-! ### states -/
/-- the boxes: lists that a reference stands for; their items hold no lists -/
def BoxOk (K : PySem.W.Frag) (H : Hp) (μ : List Addr) (st : Sto) : Prop := ∀ (k : Nat) (xs : List D), st[k]? = some xs → ∃ a vs, μ[k]? = some a ∧ H a = some (.lst vs) ∧ Reps K H μ xs vs []
structure SI (K : PySem.W.Frag) (ow : Nat → Bool) (Ok : Addr → Prop) (env : Env) (st : Sto) (μ : List Addr) (G : Addr → Option Nat) (σ : St) (H : Hp) : Prop where
  slot : ∀ (i : Nat) (d : D), WT.slot env i = some d → ∃ v t F, σ[i]? = some (some v) ∧ Rep K H μ d v t F ∧ (∀ a ∈ t, G a = if ow i then some i else none) ∧ (∀ a ∈ F, G a = none) ∧ ∀ a ∈ t ++ F, a ∉ μ ∧ Ok a
  box : BoxOk K H μ st
  muLen : μ.length = st.length
  muNd : μ.Nodup
  gmu : ∀ a ∈ μ, G a = none ∧ H a ≠ none
  gdom : ∀ a, G a ≠ none → H a ≠ none
  okn : ∀ a, H a = none → Ok a
  len : env.length ≤ σ.length
variable {ow : Nat → Bool} {Ok : Addr → Prop} {env : Env} {st : Sto} {G : Addr → Option Nat} {σ : St}
theorem SI.notLst (I : SI K ow Ok env st μ G σ H) {a : Addr} (h : a ∈ μ) : ∃ vs, H a = some (.lst vs) := by
  obtain ⟨k, hk, e⟩ := List.mem_iff_getElem.mp h
  have hk2 : k < st.length := by rw [← I.muLen]; exact hk
  obtain ⟨b, vs, e1, e2, _⟩ := I.box k _ (List.getElem?_eq_getElem hk2)
  rw [List.getElem?_eq_getElem hk] at e1
  cases e1
  rw [← e]
  exact ⟨vs, e2⟩
/-- a new object that is no box -/
theorem SI.new (I : SI K ow Ok env st μ G σ H) {p : Addr} {o : HO} (h : H p = none) : SI K ow Ok env st μ G σ (upd H p o) := by
  have s : Step μ H μ (upd H p o) := .new h
  refine ⟨fun i d e => ?_, fun k xs e => ?_, I.muLen, I.muNd, fun a ha => ⟨(I.gmu a ha).1, s.dom a (I.gmu a ha).2⟩, fun a ha => s.dom a (I.gdom a ha), fun a ha => I.okn a (s.wasNone ha), I.len⟩
  · obtain ⟨v, t, F, e1, r, g1, g2, g3⟩ := I.slot i d e
    exact ⟨v, t, F, e1, r.step s fun a ha => (g3 a ha).1, g1, g2, g3⟩
  · obtain ⟨a, vs, e1, e2, r⟩ := I.box k xs e
    exact ⟨a, vs, e1, by rw [upd_ne (ne_of_none e2 h)]; exact e2, r.step s fun b hb => by simp at hb⟩

/-- what is known of a value's lists: it is new, or it may be (top), or hold (inn), a list of these names' own -/
structure Pv where
  new : Bool
  top : List Nat
  inn : List Nat
structure PO (p : Pv) (G : Addr → Option Nat) (H : Hp) (μ' : List Addr) (Ok : Addr → Prop) (t F : List Addr) : Prop where
  top : ∀ a ∈ t, if p.new = true then H a = none ∧ a ∉ F else (G a = none ∨ ∃ i ∈ p.top, G a = some i)
  inn : ∀ a ∈ F, G a = none ∨ ∃ i ∈ p.inn, G a = some i
  out : ∀ a ∈ t ++ F, a ∉ μ' ∧ Ok a
/-- an error that leaves: its class's address by its name, its value in its own dict -/
def XR (CA : Str → Option Addr) (K : PySem.W.Frag) (H : Hp) (μ : List Addr) (Ok : Addr → Prop) (c : Str) (d : D) (cls : Value) (dd : Option Addr) : Prop :=
  ∃ C dx v t F, CA c = some C ∧ cls = .ref C ∧ dd = some dx ∧ H dx = some (.xd [("value", v)]) ∧ Rep K H μ d v t F ∧ ∀ a ∈ t ++ F, a ∉ μ ∧ Ok a
end

/-- the reading of an expression by its evaluation -/
structure Cfg where
  g : GE
  ow : Nat → Bool
  Ok : Addr → Prop
  CA : Str → Option Addr
  W : WX
def okE (c : Cfg) (K : PySem.W.Frag) (p : Pv) (env : Env) (μ : List Addr) (G : Addr → Option Nat) (σ : St) (H : Hp) (Q : VK) : D → Sto → Prop := fun d st' =>
  ∀ v H' μ' t F, SI K c.ow c.Ok env st' μ' G σ H' → Step μ H μ' H' → Rep K H' μ' d v t F → PO p G H μ' c.Ok t F → Q v H'
def exE (c : Cfg) (K : PySem.W.Frag) (env : Env) (μ : List Addr) (G : Addr → Option Nat) (σ : St) (H : Hp) : Str → D → Sto → Prop := fun x d st' =>
  ∀ cls dd H' μ', SI K c.ow c.Ok env st' μ' G σ H' → Step μ H μ' H' → XR c.CA K H' μ' c.Ok x d cls dd → c.W cls dd σ H'
def Fin {α : Type} (ok : α → Sto → Prop) (ex : Str → D → Sto → Prop) : R α → Prop
  | .ok a st => ok a st
  | .exn x d st => ex x d st
  | .bad => False
theorem Fin.bind {α β : Type} {ok : β → Sto → Prop} {ex : Str → D → Sto → Prop} {r : R α} {f : α → Sto → R β} : Fin ok ex (r.bind f) ↔ Fin (fun a st => Fin ok ex (f a st)) ex r := by cases r <;> rfl
theorem Fin.mono {α : Type} {ok ok' : α → Sto → Prop} {ex ex' : Str → D → Sto → Prop} {r : R α} (h : Fin ok ex r) (h1 : ∀ a st, r = .ok a st → ok a st → ok' a st) (h2 : ∀ x d st, ex x d st → ex' x d st) : Fin ok' ex' r := by
  cases r with
  | ok a st => exact h1 a st rfl h
  | exn x d st => exact h2 x d st h
  | bad => exact h
theorem Fin.ofO {α : Type} {ok : α → Sto → Prop} {ex : Str → D → Sto → Prop} {o : Option α} {st : Sto} (h : Fin ok ex (R.ofO st o)) : ∃ a, o = some a ∧ ok a st := by
  cases o with
  | none => exact h.elim
  | some a => exact ⟨a, rfl, h⟩
def TEv (c : Cfg) (K : PySem.W.Frag) (p : Pv) (s : Env → Sto → R D) : TE := fun σ H Q => ∃ env st μ G, SI K c.ow c.Ok env st μ G σ H ∧ Fin (okE c K p env μ G σ H Q) (exE c K env μ G σ H) (s env st)
/-- .. of a test -/
def okT (c : Cfg) (K : PySem.W.Frag) (env : Env) (μ : List Addr) (G : Addr → Option Nat) (σ : St) (H : Hp) (Q : Bool → Hp → Prop) : Bool → Sto → Prop := fun b st' =>
  ∀ H' μ', SI K c.ow c.Ok env st' μ' G σ H' → Step μ H μ' H' → Q b H'
def TTv (c : Cfg) (K : PySem.W.Frag) (s : Env → Sto → R Bool) : TT := fun σ H Q => ∃ env st μ G, SI K c.ow c.Ok env st μ G σ H ∧ Fin (okT c K env μ G σ H Q) (exE c K env μ G σ H) (s env st)
/-- .. of a list of expressions -/
def okA (c : Cfg) (K : PySem.W.Frag) (inn : List Nat) (env : Env) (μ : List Addr) (G : Addr → Option Nat) (σ : St) (H : Hp) (Q : List V → Hp → Prop) : List D → Sto → Prop := fun ds st' =>
  ∀ vs H' μ' F, SI K c.ow c.Ok env st' μ' G σ H' → Step μ H μ' H' → Reps K H' μ' ds vs F → (∀ a ∈ F, (G a = none ∨ ∃ i ∈ inn, G a = some i) ∧ a ∉ μ' ∧ c.Ok a) → Q vs H'
def TAv (c : Cfg) (K : PySem.W.Frag) (inn : List Nat) (s : Env → Sto → R (List D)) : TA := fun σ H Q => ∃ env st μ G, SI K c.ow c.Ok env st μ G σ H ∧ Fin (okA c K inn env μ G σ H Q) (exE c K env μ G σ H) (s env st)
theorem _root_.L2.PE.mono {X : Cx} {e : Expr} {t t' : TE} (h : PE X e t) (m : ∀ σ H Q, t' σ H Q → t σ H Q) : PE X e t' := ⟨fun pins s σ H Q I q => h.run pins s σ H Q I (m σ H Q q)⟩
theorem _root_.L2.PA.mono {X : Cx} {e : List Expr} {t t' : TA} (h : PA X e t) (m : ∀ σ H Q, t' σ H Q → t σ H Q) : PA X e t' := ⟨fun pos pins s σ H Q I q => h.run pos pins s σ H Q I (m σ H Q q)⟩
theorem _root_.L2.PT.mono {X : Cx} {e : Expr} {t t' : TT} (h : PT X e t) (m : ∀ σ H Q, t' σ H Q → t σ H Q) : PT X e t' := ⟨fun pins s σ H Q I q => h.run pins s σ H Q I (m σ H Q q)⟩
theorem _root_.L2.PSs.mono {X : Cx} {e : List Stmt} {t t' : TS} (h : PSs X e t) (m : ∀ D σ H, t' D σ H → t D σ H) : PSs X e t' := ⟨fun pins s σ H D I q => h.run pins s σ H D I (m D σ H q)⟩
theorem _root_.L2.PS.mono {X : Cx} {e : Stmt} {t t' : TS} (h : PS X e t) (m : ∀ D σ H, t' D σ H → t D σ H) : PS X e t' := ⟨fun pins s σ H D I q => h.run pins s σ H D I (m D σ H q)⟩

section
variable {c : Cfg} {K : PySem.W.Frag} {p : Pv} {env : Env} {μ μ1 : List Addr} {G : Addr → Option Nat} {σ : St} {H H1 : Hp}
theorem exE.step {x : Str} {d : D} {st : Sto} (h : exE c K env μ G σ H x d st) (s : Step μ H μ1 H1) : exE c K env μ1 G σ H1 x d st := fun cls dd H' μ' I s' e => h cls dd H' μ' I (s.trans s') e
/-- a value that was ahead stands behind a step -/
structure Held (K : PySem.W.Frag) (c : Cfg) (G : Addr → Option Nat) (p : Pv) (H0 : Hp) (d : D) (v : V) (t F : List Addr) (μ : List Addr) (H : Hp) : Prop where
  rep : Rep K H μ d v t F
  po : PO p G H0 μ c.Ok t F
theorem Held.step {H0 : Hp} {d : D} {v : V} {t F : List Addr} (h : Held K c G p H0 d v t F μ H) (s : Step μ H μ1 H1) : Held K c G p H0 d v t F μ1 H1 :=
  ⟨h.rep.step s fun a ha => (h.po.out a ha).1, h.po.top, h.po.inn, fun a ha => ⟨s.notin (h.rep.there a ha) (h.po.out a ha).1, (h.po.out a ha).2⟩⟩
/-- new of a later heap is new of an earlier one -/
theorem PO.back {H0 : Hp} {t F : List Addr} (h : PO p G H μ c.Ok t F) {μ2 : List Addr} (s : Step μ1 H0 μ2 H) : PO p G H0 μ c.Ok t F :=
  ⟨fun a ha => by
    have z := h.top a ha
    split at z
    · rename_i hn
      rw [if_pos hn]
      exact ⟨s.wasNone z.1, z.2⟩
    · rename_i hn
      rw [if_neg hn]
      exact z, h.inn, h.out⟩
end
end WT
end

section
set_option Elab.async false
set_option linter.all false
set_option maxRecDepth 100000
/-! K3: the operators and built-in functions by values. -/
namespace WT
open PySem PySem.Spec PyProof.Rows L2

/-- the heap as it was, or with one new object -/
def New1 (H H' : Hp) : Prop := H' = H ∨ ∃ p o, H p = none ∧ H' = upd H p o
section
variable {K : PySem.W.Frag} {H H' : Hp} {μ : List Addr}
theorem New1.keep (n : New1 H H') : ∀ a o, H a = some o → H' a = some o := fun a o e => by
  rcases n with rfl | ⟨p, u, hp, rfl⟩
  · exact e
  · rw [upd_ne (ne_of_none e hp)]; exact e
theorem SqT.ext {a : Addr} {vs : List V} (h : SqT K H a vs) (k : ∀ a o, H a = some o → H' a = some o) : SqT K H' a vs := by
  rcases h with (h | ⟨o, h⟩) | h
  · exact .inl (.inl (k _ _ h))
  · exact .inl (.inr ⟨o, k _ _ h⟩)
  · exact .inr h
mutual
theorem Rep.ext : ∀ {d : D} {v : V} {t F : List Addr}, Rep K H μ d v t F → (∀ a o, H a = some o → H' a = some o) → Rep K H' μ d v t F
  | _, _, _, _, .non, _ => .non
  | _, _, _, _, .bl b, _ => .bl b
  | _, _, _, _, .int b, _ => .int b
  | _, _, _, _, .str b, _ => .str b
  | _, _, _, _, .tup e r, k => .tup (SqT.ext e k) (Reps.ext r k)
  | _, _, _, _, .lst e r, k => .lst (k _ _ e) (Reps.ext r k)
  | _, _, _, _, .frz e, k => .frz (by
      rcases e with ⟨o, h⟩ | h
      · exact .inl ⟨o, k _ _ h⟩
      · exact .inr h)
  | _, _, _, _, .ref e, _ => .ref e
  | _, _, _, _, .dT e h1 h2 h3 h4 h5 r hF, k => .dT (k _ _ e) h1 h2 h3 (h4.mono fun _ _ z => SqT.ext z k) h5 (Reps.ext r k) hF
  | _, _, _, _, .dK e h1 h2 r hF, k => .dK (k _ _ e) h1 h2 (Reps.ext r k) hF
theorem Reps.ext : ∀ {ds : List D} {vs : List V} {F : List Addr}, Reps K H μ ds vs F → (∀ a o, H a = some o → H' a = some o) → Reps K H' μ ds vs F
  | _, _, _, .nil, _ => .nil
  | _, _, _, .cons r t, k => .cons (Rep.ext r k) (Reps.ext t k)
end
mutual
theorem Rep.moreMu : ∀ {d : D} {v : V} {t F ν : List Addr}, Rep K H μ d v t F → Rep K H (μ ++ ν) d v t F
  | _, _, _, _, _, .non => .non
  | _, _, _, _, _, .bl b => .bl b
  | _, _, _, _, _, .int b => .int b
  | _, _, _, _, _, .str b => .str b
  | _, _, _, _, _, .tup e r => .tup e (Reps.moreMu r)
  | _, _, _, _, _, .lst e r => .lst e (Reps.moreMu r)
  | _, _, _, _, _, .frz e => .frz e
  | _, _, _, _, _, .dT e h1 h2 h3 h4 h5 r hF => .dT e h1 h2 h3 h4 h5 (Reps.moreMu r) hF
  | _, _, _, _, _, .dK e h1 h2 r hF => .dK e h1 h2 (Reps.moreMu r) hF
  | _, _, _, _, _, .ref e => .ref (by rw [List.getElem?_append_left (List.getElem?_eq_some_iff.mp e).1]; exact e)
theorem Reps.moreMu : ∀ {ds : List D} {vs : List V} {F ν : List Addr}, Reps K H μ ds vs F → Reps K H (μ ++ ν) ds vs F
  | _, _, _, _, .nil => .nil
  | _, _, _, _, .cons r t => .cons (Rep.moreMu r) (Reps.moreMu t)
end
/-- what a value's rule hands on -/
def Out (K : PySem.W.Frag) (H : Hp) (μ : List Addr) (d : D) (B : Addr → Prop) (Q : VK) : Prop :=
  ∀ v H' t F, New1 H H' → Rep K H' μ d v t F → (∀ a ∈ t, H a = none ∧ a ∉ F) → (∀ a ∈ F, B a) → Q v H'
variable {B : Addr → Prop} {Q : VK}
theorem Out.int {i : Int} (h : Out K H μ (.int i) B Q) : Q (.int i) H := h _ _ _ _ (.inl rfl) (.int i) (fun _ h => by simp at h) fun _ h => by simp at h
theorem Out.bl {i : Bool} (h : Out K H μ (.bl i) B Q) : Q (.bl i) H := h _ _ _ _ (.inl rfl) (.bl i) (fun _ h => by simp at h) fun _ h => by simp at h
theorem Out.str {i : Str} (h : Out K H μ (.str i) B Q) : Q (.str i) H := h _ _ _ _ (.inl rfl) (.str i) (fun _ h => by simp at h) fun _ h => by simp at h
theorem Out.tup {ds : List D} {vs : List V} {F : List Addr} (h : Out K H μ (.tup ds) B Q) (r : Reps K H μ ds vs F) (b : ∀ a ∈ F, B a) {p : Addr} (hp : H p = none) : Q (.ref p) (upd H p (.tup vs)) :=
  h _ _ _ _ (.inr ⟨p, _, hp, rfl⟩) (.tup (.of upd_same) (r.ext (New1.keep (.inr ⟨p, _, hp, rfl⟩)))) (fun _ h => by simp at h) b
theorem Out.tupSame {ds : List D} {vs : List V} {F : List Addr} {a : Addr} (h : Out K H μ (.tup ds) B Q) (e : SqT K H a vs) (r : Reps K H μ ds vs F) (b : ∀ a ∈ F, B a) : Q (.ref a) H :=
  h _ _ _ _ (.inl rfl) (.tup e r) (fun _ h => by simp at h) b
theorem Out.lst {ds : List D} {vs : List V} {F : List Addr} (h : Out K H μ (.lst ds) B Q) (r : Reps K H μ ds vs F) (b : ∀ a ∈ F, B a) {p : Addr} (hp : H p = none) : Q (.ref p) (upd H p (.lst vs)) :=
  h _ _ _ _ (.inr ⟨p, _, hp, rfl⟩) (.lst upd_same (r.ext (New1.keep (.inr ⟨p, _, hp, rfl⟩)))) (fun a ha => by
    have e := List.mem_singleton.mp ha
    subst e
    exact ⟨hp, fun hm => r.there a hm hp⟩) b
/-- an operator by its evaluation -/
def R2v (K : PySem.W.Frag) (g : D → D → Option D) : R2 := fun x y H Q => ∃ μ d1 d2 d t1 F1 t2 F2, Rep K H μ d1 x t1 F1 ∧ Rep K H μ d2 y t2 F2 ∧ g d1 d2 = some d ∧ Out K H μ d (fun a => a ∈ F1 ∨ a ∈ F2) Q
end

theorem guardO_some {α : Type} {p : Prop} [Decidable p] {x y : α} (h : guardO p x = some y) : p ∧ x = y := by
  unfold guardO at h
  split at h
  · rename_i hp
    exact ⟨hp, Option.some.inj h⟩
  · cases h

section
variable {X : Cx}
theorem op_add_v : OpR X (binaryOp .Add) (R2v X.K addD) := by
  intro pins s σ H x y v u Q I rx ry h
  obtain ⟨μ, d1, d2, d, t1, F1, t2, F2, r1, r2, hg, q⟩ := h
  cases r1 <;> cases r2 <;> simp only [addD] at hg <;> first | (cases hg; done) | skip
  case int.int i j =>
    cases hg
    exact op_add pins s σ H _ _ v u Q I rx ry ⟨_, _, rfl, rfl, q.int⟩
  case str.str i j =>
    obtain ⟨hp, rfl⟩ := guardO_some hg
    exact op_add_str pins s σ H _ _ v u Q I rx ry ⟨_, _, rfl, rfl, hp, q.str⟩
  case tup.tup a vs ds e1 s1 b ws es e2 s2 =>
    obtain ⟨hp, rfl⟩ := guardO_some hg
    obtain ⟨L, s3, hL⟩ := s1.append s2
    refine op_catA pins s σ H _ _ v u Q I rx ry ⟨_, _, _, _, rfl, rfl, e1, e2, by rw [← s1.length, ← s2.length]; exact hp, fun z => ?_, fun z z2 => ?_, fun z z2 p hp => q.tup s3 hL hp⟩
    · subst z
      have z2 : ds = [] := List.eq_nil_of_length_eq_zero s1.length
      subst z2
      exact q.tupSame e2 (by simpa using s2) fun a ha => .inr ha
    · subst z2
      have z2 : es = [] := List.eq_nil_of_length_eq_zero s2.length
      subst z2
      exact q.tupSame e1 (by simpa using s1) fun a ha => .inl ha
  case lst.lst a vs ds e1 s1 b ws es e2 s2 =>
    obtain ⟨hp, rfl⟩ := guardO_some hg
    obtain ⟨L, s3, hL⟩ := s1.append s2
    exact op_cat pins s σ H _ _ v u Q I rx ry ⟨_, _, _, _, rfl, rfl, e1, e2, by rw [← s1.length, ← s2.length]; exact hp, fun p hp => q.lst s3 hL hp⟩

theorem tuple_mul1 (l : Addr) (items : Array Value) (n : Nat) (dd : Option Addr) (sl : Array (Option Value)) (x : Int) (u : Tok) (c0 : (decide (x < -(2 ^ 63)) || decide (x ≥ 2 ^ 63)) = false) (c1 : (items.isEmpty || x == 1) = true) :
    Meets (Builtin.«tuple.__mul__» ⟨[.ref l, .int x u], []⟩) (fun _ R s => s.heap.get? l = some { cls := .type "tuple", dict := dd, data := .seq items n, slots := sl } ∧ R (.ok (.ret (Value.ref l))) s) :=
  .of_wp fun prog w A R s h => by
    obtain ⟨hp, g, d, tk, os⟩ := s
    obtain ⟨hl, h⟩ := h
    have f1 := AutoSeq1.idx_int
    wp_walk using AutoSeq1.wpAny_loadPart' hl
    repeat (first
      | (refine wpAny_ite_false (decide_eq_false (by rw [c0]; exact Bool.false_ne_true)) ?_; wp_walk using AutoSeq1.wpAny_loadPart' hl)
      | (refine wpAny_ite_true (decide_eq_true c1) ?_; wp_walk using AutoSeq1.wpAny_loadPart' hl))
    all_goals exact ⟨_, rfl, h⟩
theorem tuple_mul0 (l : Addr) (items : Array Value) (n : Nat) (dd : Option Addr) (sl : Array (Option Value)) (x : Int) (u : Tok) (c0 : (decide (x < -(2 ^ 63)) || decide (x ≥ 2 ^ 63)) = false) (c1 : (items.isEmpty || x == 1) = false) (c2 : (decide (x ≤ 0) || items.isEmpty) = true) :
    Meets (Builtin.«tuple.__mul__» ⟨[.ref l, .int x u], []⟩) (fun _ R s => s.heap.get? l = some { cls := .type "tuple", dict := dd, data := .seq items n, slots := sl } ∧
      R (.ok (.ret (Value.ref s.heap.objs.size))) { s with heap := s.heap.push { cls := Value.type "tuple", data := Data.seq #[] }, toks := s.toks }) :=
  .of_wp fun prog w A R s h => by
    obtain ⟨hp, g, d, tk, os⟩ := s
    obtain ⟨hl, h⟩ := h
    have f1 := AutoSeq1.idx_int
    wp_walk using AutoSeq1.wpAny_loadPart' hl
    repeat (first
      | (refine wpAny_ite_false (decide_eq_false (by rw [c0]; exact Bool.false_ne_true)) ?_; wp_walk using AutoSeq1.wpAny_loadPart' hl)
      | (refine wpAny_ite_false (decide_eq_false (by rw [c1]; exact Bool.false_ne_true)) ?_; wp_walk using AutoSeq1.wpAny_loadPart' hl)
      | (refine wpAny_ite_true (decide_eq_true c2) ?_; wp_walk using AutoSeq1.wpAny_loadPart' hl))
    all_goals exact ⟨_, rfl, h⟩
/-- t * k: t itself (k = 1, or t empty); none (k below 1) -/
def rRep1 (K : PySem.W.Frag) : R2 := fun x y H Q => ∃ l k xs, x = .ref l ∧ y = .int k ∧ SqT K H l xs ∧ (-(2 ^ 63) ≤ k ∧ k < 2 ^ 63) ∧ (xs = [] ∨ k = 1) ∧ Q (.ref l) H
def rRep0 (K : PySem.W.Frag) : R2 := fun x y H Q => ∃ l k xs, x = .ref l ∧ y = .int k ∧ SqT K H l xs ∧ (-(2 ^ 63) ≤ k ∧ k ≤ 0) ∧ xs ≠ [] ∧ ∀ p, H p = none → Q (.ref p) (upd H p (.tup []))
theorem isE {xs : List V} {its : List Value} (r : L2.Vals xs its) : its.toArray.isEmpty = xs.isEmpty := by cases r <;> simp
theorem op_rep1 : OpR X (binaryOp .Mult) (rRep1 X.K) := by
  intro pins s σ H x y v u Q I rx ry h
  obtain ⟨l, k, xs, rfl, rfl, hT, ⟨h1, h2⟩, h3, q⟩ := h
  cases rx
  obtain ⟨t, rfl⟩ := ry
  obtain ⟨its, r, ⟨⟨cls, dd, data, sl⟩, ho, hc, n, hd⟩, hs⟩ := I.tuple hT
  simp only at hc hd
  subst hc hd
  have c0 : (decide (k < -(2 ^ 63)) || decide (k ≥ 2 ^ 63)) = false := by
    rw [decide_eq_false (by omega), decide_eq_false (by omega)] <;> rfl
  have c1 : (its.toArray.isEmpty || k == 1) = true := by
    rw [isE r]
    rcases h3 with h3 | h3
    · rw [h3] <;> rfl
    · rw [h3]; simp
  exact wpAny_binaryOp_repeat_ref (T := "tuple") (U := "int") (by decide) ⟨_, ho, rfl⟩ (fun s' => typeIs_int s' k t) noFill_tuple_mul F.fills_int_mul F.slot_int_rmul repeat_tuple F.slot_int_index.lookup
    (call_meets F.slot_int_rmul (typeIs_int s k t) F.entry_int_rmul (F.args_int_rmul_2 _ _) (int_rmul_tuple k t l its.toArray n dd sl)
      ⟨ho, rfl, ⟨_, ho, rfl⟩, call_meets F.slot_tuple_mul ⟨_, ho, rfl⟩ F.entry_tuple_mul (F.args_tuple_mul_2 _ _) (tuple_mul1 l its.toArray n dd sl k t c0 c1) ⟨ho, ⟨.ref l, H, I, rfl, q⟩⟩⟩)
theorem op_rep0 : OpR X (binaryOp .Mult) (rRep0 X.K) := by
  intro pins s σ H x y v u Q I rx ry h
  obtain ⟨l, k, xs, rfl, rfl, hT, ⟨h1, h2⟩, h3, q⟩ := h
  cases rx
  obtain ⟨t, rfl⟩ := ry
  obtain ⟨its, r, ⟨⟨cls, dd, data, sl⟩, ho, hc, n, hd⟩, hs⟩ := I.tuple hT
  simp only at hc hd
  subst hc hd
  have c0 : (decide (k < -(2 ^ 63)) || decide (k ≥ 2 ^ 63)) = false := by
    rw [decide_eq_false (by omega), decide_eq_false (by omega)] <;> rfl
  have c1 : (its.toArray.isEmpty || k == 1) = false := by
    rw [isE r]
    cases xs with
    | nil => exact absurd rfl h3
    | cons a b =>
      show (false || k == 1) = false
      rw [Bool.false_or]
      exact beq_eq_false_iff_ne.mpr (by omega)
  have c2 : (decide (k ≤ 0) || its.toArray.isEmpty) = true := by rw [decide_eq_true h2] <;> rfl
  refine wpAny_binaryOp_repeat_ref (T := "tuple") (U := "int") (by decide) ⟨_, ho, rfl⟩ (fun s' => typeIs_int s' k t) noFill_tuple_mul F.fills_int_mul F.slot_int_rmul repeat_tuple F.slot_int_index.lookup
    (call_meets F.slot_int_rmul (typeIs_int s k t) F.entry_int_rmul (F.args_int_rmul_2 _ _) (int_rmul_tuple k t l its.toArray n dd sl)
      ⟨ho, rfl, ⟨_, ho, rfl⟩, call_meets F.slot_tuple_mul ⟨_, ho, rfl⟩ F.entry_tuple_mul (F.args_tuple_mul_2 _ _) (tuple_mul0 l its.toArray n dd sl k t c0 c1 c2) ⟨ho, ?_⟩⟩)
  refine ⟨.ref s.heap.objs.size, _, I.laid (t' := s.toks) (o := .tup []) (fun b ob q => Heap.get?_push_of_some _ q) (Nat.le_refl _) ?_, rfl, q _ (I.hok.fresh (Nat.le_refl _))⟩
  exact ⟨Nat.zero_le _, [], .nil, IsTup.new _ _⟩
theorem mulOK.ok {i j : Int} (h : mulOK i j) : IntMulOk i j := by
  rcases h with h | h
  · exact CMul.ok h
  · exact CMulW.ok h
theorem op_mul_v : OpR X (binaryOp .Mult) (R2v X.K mulD) := by
  intro pins s σ H x y v u Q I rx ry h
  obtain ⟨μ, d1, d2, d, t1, F1, t2, F2, r1, r2, hg, q⟩ := h
  cases r1 <;> cases r2 <;> simp only [mulD] at hg <;> first | (cases hg; done) | skip
  case int.int i j =>
    obtain ⟨hp, rfl⟩ := guardO_some hg
    obtain ⟨t, rfl⟩ := rx
    obtain ⟨t', rfl⟩ := ry
    exact mul_int ⟨.int _, H, I.tok _, ⟨_, rfl⟩, q.int⟩ hp.ok
  case lst.int a vs ds e1 s1 k =>
    obtain ⟨⟨h1, h2, h3⟩, rfl⟩ := guardO_some hg
    obtain ⟨L, s3, hL⟩ := s1.rep k.toNat
    exact op_rep pins s σ H _ _ v u Q I rx ry ⟨_, _, _, rfl, rfl, e1, h1, h2, by rw [← s1.length]; exact h3, fun p hp => q.lst s3 (fun a ha => .inl (hL a ha)) hp⟩
  case tup.int a vs ds e1 s1 k =>
    split at hg
    · rename_i hk
      obtain ⟨hb, rfl⟩ := guardO_some hg
      refine op_rep1 pins s σ H _ _ v u Q I rx ry ⟨_, _, _, rfl, rfl, e1, hb, ?_, q.tupSame e1 s1 fun a ha => .inl ha⟩
      rcases hk with hk | hk
      · exact .inr hk
      · refine .inl ?_
        cases s1 with
        | nil => rfl
        | cons _ _ => cases hk
    · rename_i hk
      have hne : vs ≠ [] := fun z => by
        subst z
        cases s1
        exact hk (.inr rfl)
      split at hg
      · rename_i hk0
        obtain ⟨hb, rfl⟩ := guardO_some hg
        exact op_rep0 pins s σ H _ _ v u Q I rx ry ⟨_, _, _, rfl, rfl, e1, ⟨by omega, hk0⟩, hne, fun p hp => q.tup .nil (fun _ h => by simp at h) hp⟩
      · obtain ⟨⟨h1, h2, h3, h4⟩, rfl⟩ := guardO_some hg
        obtain ⟨L, s3, hL⟩ := s1.rep k.toNat
        exact op_repT pins s σ H _ _ v u Q I rx ry ⟨_, _, _, rfl, rfl, e1, hne, h2, h3, by rw [← s1.length]; exact h4, fun p hp => q.tup s3 (fun a ha => .inl (hL a ha)) hp⟩
theorem op_sub_v : OpR X (binaryOp .Sub) (R2v X.K (binD .Sub)) := by
  intro pins s σ H x y v u Q I rx ry h
  obtain ⟨μ, d1, d2, d, t1, F1, t2, F2, r1, r2, hg, q⟩ := h
  cases r1 <;> cases r2 <;> simp only [binD] at hg <;> first | (cases hg; done) | skip
  case int.int i j =>
    cases hg
    exact op_sub pins s σ H _ _ v u Q I rx ry ⟨_, _, rfl, rfl, q.int⟩
theorem op_div_v : OpR X (binaryOp .FloorDiv) (R2v X.K (binD .FloorDiv)) := by
  intro pins s σ H x y v u Q I rx ry h
  obtain ⟨μ, d1, d2, d, t1, F1, t2, F2, r1, r2, hg, q⟩ := h
  cases r1 <;> cases r2 <;> simp only [binD] at hg <;> first | (cases hg; done) | skip
  case int.int i j =>
    obtain ⟨⟨h1, h2⟩, rfl⟩ := guardO_some hg
    obtain ⟨t, rfl⟩ := rx
    obtain ⟨t', rfl⟩ := ry
    exact floordiv_int h1 ⟨.int _, H, I.tok _, ⟨_, rfl⟩, q.int⟩ (.inl (PyProof.noPylong_of_log2 h2))
theorem op_mod_v : OpR X (binaryOp .Mod) (R2v X.K (binD .Mod)) := by
  intro pins s σ H x y v u Q I rx ry h
  obtain ⟨μ, d1, d2, d, t1, F1, t2, F2, r1, r2, hg, q⟩ := h
  cases r1 <;> cases r2 <;> simp only [binD] at hg <;> first | (cases hg; done) | skip
  case int.int i j =>
    obtain ⟨h1, rfl⟩ := guardO_some hg
    exact op_modN pins s σ H _ _ v u Q I rx ry ⟨_, _, rfl, rfl, h1, q.int⟩
theorem op_pow_v : OpR X (binaryOp .Pow) (R2v X.K (binD .Pow)) := by
  intro pins s σ H x y v u Q I rx ry h
  obtain ⟨μ, d1, d2, d, t1, F1, t2, F2, r1, r2, hg, q⟩ := h
  cases r1 <;> cases r2 <;> simp only [binD] at hg <;> first | (cases hg; done) | skip
  case int.int i j =>
    obtain ⟨h1, rfl⟩ := guardO_some hg
    rcases h1 with h1 | ⟨h1, h2⟩
    · exact op_pow pins s σ H _ _ v u Q I rx ry ⟨_, _, rfl, rfl, h1, q.int⟩
    · obtain ⟨t, rfl⟩ := rx
      obtain ⟨t', rfl⟩ := ry
      refine pow_int h1 (Int.le_trans (Int.mul_le_mul_of_nonneg_right (Int.ofNat_le.mpr ?_) h1) h2) ⟨.int _, H, I.tok _, ⟨_, rfl⟩, q.int⟩
      unfold Builtin.Int.intBits
      split <;> omega
theorem op_shl_v : OpR X (binaryOp .LShift) (R2v X.K (binD .LShift)) := by
  intro pins s σ H x y v u Q I rx ry h
  obtain ⟨μ, d1, d2, d, t1, F1, t2, F2, r1, r2, hg, q⟩ := h
  cases r1 <;> cases r2 <;> simp only [binD] at hg <;> first | (cases hg; done) | skip
  case int.int i j =>
    obtain ⟨h1, rfl⟩ := guardO_some hg
    exact op_shl pins s σ H _ _ v u Q I rx ry ⟨_, _, rfl, rfl, h1, q.int⟩
theorem op_none_v {op : Operator} {f : Value → Value → Sem Value} (h : ∀ x y, binD op x y = none) : OpR X f (R2v X.K (binD op)) := by
  intro pins s σ H x y v u Q I rx ry hh
  obtain ⟨μ, d1, d2, d, t1, F1, t2, F2, r1, r2, hg, q⟩ := hh
  rw [h] at hg
  cases hg
theorem op_bin_v (op : Operator) : OpR X (binaryOp op) (R2v X.K (binD op)) := by
  cases op with
  | Add => exact op_add_v
  | Mult => exact op_mul_v
  | Sub => exact op_sub_v
  | FloorDiv => exact op_div_v
  | Mod => exact op_mod_v
  | Pow => exact op_pow_v
  | LShift => exact op_shl_v
  | _ => exact op_none_v fun _ _ => rfl
end
end WT
end

section
set_option Elab.async false
set_option linter.all false
set_option maxRecDepth 100000
/-! K4: comparisons, truth, subscripts, slices, isinstance, built-in functions by values. -/
namespace WT
open PySem PySem.Spec PyProof.Rows L2

section
variable {K : PySem.W.Frag} {H H' : Hp} {μ : List Addr}
mutual
theorem Rep.dp : ∀ {d : D} {v : V} {t F : List Addr} {y : PyData}, Rep K H μ d v t F → toPy d = some y → Dp K H v y
  | _, _, _, _, _, .non, h => by cases h; exact .non
  | _, _, _, _, _, .bl b, h => by cases h; exact .bl b
  | _, _, _, _, _, .int b, h => by cases h; exact .int b
  | _, _, _, _, _, .str b, h => by cases h; exact .str b
  | _, _, _, _, _, .tup e r, h => by
    rw [toPy] at h
    obtain ⟨ys, h1, rfl⟩ := Option.map_eq_some_iff.mp h
    exact .tup e (Reps.dp r h1)
  | _, _, _, _, _, .lst e r, h => by
    rw [toPy] at h
    obtain ⟨ys, h1, rfl⟩ := Option.map_eq_some_iff.mp h
    exact .lst (.of e) (Reps.dp r h1)
  | _, _, _, _, _, .frz _, h => by rw [toPy] at h; cases h
  | _, _, _, _, _, .ref _, h => by rw [toPy] at h; cases h
  | _, _, _, _, _, .dK _ _ _ _ _, h => by rw [toPy] at h; cases h
  | _, _, _, _, _, .dT _ _ _ _ _ _ _ _, h => by rw [toPy] at h; cases h
theorem Reps.dp : ∀ {ds : List D} {vs : List V} {F : List Addr} {ys : List PyData}, Reps K H μ ds vs F → toPys ds = some ys → DpAll K H vs ys
  | _, _, _, _, .nil, h => by cases h; exact .nil
  | _, _, _, _, .cons (d := d) (ds := ds) r t, h => by
    rw [toPys] at h
    cases e1 : toPy d with
    | none => rw [e1] at h; cases h
    | some a =>
      cases e2 : toPys ds with
      | none => rw [e1, e2] at h; cases h
      | some b =>
        rw [e1, e2] at h
        cases h
        exact .cons (Rep.dp r e1) (Reps.dp t e2)
end
def toV : D → V
  | .bl b => .bl b
  | .int i => .int i
  | .str x => .str x
  | _ => .non
theorem Rep.flat {d : D} {v : V} {t F : List Addr} (r : Rep K H μ d v t F) (f : flatD d = true) : v = toV d ∧ flatV v = true := by
  cases r <;> first | exact ⟨rfl, rfl⟩ | (cases f; done)
theorem Reps.flats : ∀ {ds : List D} {vs : List V} {F : List Addr}, Reps K H μ ds vs F → ds.all flatD = true → vs = ds.map toV ∧ vs.all flatV = true
  | _, _, _, .nil, _ => ⟨rfl, rfl⟩
  | _, _, _, .cons r t, f => by
    rw [List.all_cons, Bool.and_eq_true] at f
    obtain ⟨e1, e2⟩ := r.flat f.1
    obtain ⟨e3, e4⟩ := Reps.flats t f.2
    refine ⟨by rw [List.map_cons, ← e1, ← e3], ?_⟩
    rw [List.all_cons, e2, e4] <;> rfl
theorem eqV_to {a b : D} (ha : flatD a = true) (hb : flatD b = true) : eqV (toV a) (toV b) = eqF a b := by
  cases a <;> cases b <;> first | rfl | (cases ha; done) | (cases hb; done)
theorem inV_to {a : D} (ha : flatD a = true) : ∀ {xs : List D}, xs.all flatD = true → inV (toV a) (xs.map toV) = inD a xs
  | [], _ => rfl
  | x :: xs, h => by
    rw [List.all_cons, Bool.and_eq_true] at h
    have ih := inV_to ha h.2
    unfold inV inD at ih ⊢
    rw [List.map_cons, List.any_cons, List.any_cons, eqV_to h.1 ha, ih]
theorem Rep.non_iff {d : D} {v : V} {t F : List Addr} (r : Rep K H μ d v t F) : decide (v = .non) = (match d with | .non => true | _ => false) := by
  cases r <;> simp
theorem Rep.key {d : D} {v : V} {t F : List Addr} {k : Key} (r : Rep K H μ d v t F) (h : keyOf d = some k) : v = kV k := by
  cases r <;> cases h <;> rfl
/-- what a dict holds -/
theorem Reps.valP : ∀ {kvs : List (Key × V)} {ks : List Key} {vs : List V} {ds : List D} {F : List Addr} (k : Key), kvs.map (·.1) = ks → kvs.map (·.2) = vs → Reps K H μ ds vs F →
    (∃ d v t G, WT.valP ks ds k = some d ∧ valV kvs k = some v ∧ Rep K H μ d v t G ∧ ∀ a ∈ t ++ G, a ∈ F) ∨ (WT.valP ks ds k = none ∧ valV kvs k = none)
  | [], _, _, _, _, k, h1, h2, .nil => by cases h1; exact .inr ⟨rfl, rfl⟩
  | [], _, _, _, _, k, h1, h2, .cons _ _ => by cases h2
  | p :: kvs, ks, vs, ds, F, k, h1, h2, r => by
    cases r with
    | nil => cases h2
    | @cons d v t F ds vs G r rs =>
    rw [List.map_cons] at h1 h2
    obtain ⟨e1, e2⟩ := List.cons.inj h2
    subst h1
    by_cases e : p.1 = k
    · refine .inl ⟨d, v, t, F, ?_, ?_, r, fun a ha => List.mem_append_left _ ha⟩
      · unfold WT.valP; exact if_pos e
      · rw [valV_pos e, e1]
    · rcases Reps.valP k rfl e2 rs with ⟨d', v', t', G', a1, a2, a3, a4⟩ | ⟨a1, a2⟩
      · refine .inl ⟨d', v', t', G', ?_, ?_, a3, fun a ha => List.mem_append_right _ (a4 a ha)⟩
        · unfold WT.valP; rw [if_neg e]; exact a1
        · rw [valV_neg e]; exact a2
      · refine .inr ⟨?_, ?_⟩
        · unfold WT.valP; rw [if_neg e]; exact a1
        · rw [valV_neg e]; exact a2
mutual
theorem Rep.nk : ∀ {d : D} {v : V} {t F : List Addr} {k : NestedKey}, Rep K H μ d v t F → keyNO d = some k → NK K H k v
  | _, _, _, _, _, .non, h => by cases h; exact .none
  | _, _, _, _, _, .bl b, h => by cases h; exact .bl b
  | _, _, _, _, _, .int b, h => by cases h; exact .num b
  | _, _, _, _, _, .str b, h => by cases h
  | _, _, _, _, _, .tup e r, h => by
    rw [keyNO] at h
    obtain ⟨ks, h1, rfl⟩ := Option.map_eq_some_iff.mp h
    exact .tup e (Reps.nk r h1)
  | _, _, _, _, _, .lst _ _, h => by cases h
  | _, _, _, _, _, .frz _, h => by cases h
  | _, _, _, _, _, .ref _, h => by cases h
  | _, _, _, _, _, .dK _ _ _ _ _, h => by cases h
  | _, _, _, _, _, .dT _ _ _ _ _ _ _ _, h => by cases h
theorem Reps.nk : ∀ {ds : List D} {vs : List V} {F : List Addr} {ks : List NestedKey}, Reps K H μ ds vs F → keyNOs ds = some ks → NKs K H ks vs
  | _, _, _, _, .nil, h => by cases h; exact .nil
  | _, _, _, _, .cons (d := d) (ds := ds) r t, h => by
    rw [keyNOs] at h
    cases e1 : keyNO d with
    | none => rw [e1] at h; cases h
    | some a =>
      cases e2 : keyNOs ds with
      | none => rw [e1, e2] at h; cases h
      | some b =>
        rw [e1, e2] at h
        cases h
        exact .cons (Rep.nk r e1) (Reps.nk t e2)
end
mutual
theorem keyNO_tx : ∀ {d : D} {k : NestedKey}, keyNO d = some k → noTx k = true
  | .non, _, h => by cases h; rfl
  | .bl _, _, h => by cases h; rfl
  | .int _, _, h => by cases h; rfl
  | .str _, _, h => by cases h
  | .tup xs, _, h => by
    rw [keyNO] at h
    obtain ⟨ks, h1, rfl⟩ := Option.map_eq_some_iff.mp h
    rw [noTx]
    exact keyNOs_tx h1
  | .lst _, _, h => by cases h
  | .frz _, _, h => by cases h
  | .dK _ _, _, h => by cases h
  | .dT _ _, _, h => by cases h
  | .ref _, _, h => by cases h
  | .exc _ _, _, h => by cases h
theorem keyNOs_tx : ∀ {ds : List D} {ks : List NestedKey}, keyNOs ds = some ks → noTxs ks = true
  | [], _, h => by cases h; rfl
  | d :: ds, _, h => by
    rw [keyNOs] at h
    cases e1 : keyNO d with
    | none => rw [e1] at h; cases h
    | some a =>
      cases e2 : keyNOs ds with
      | none => rw [e1, e2] at h; cases h
      | some b =>
        rw [e1, e2] at h
        cases h
        rw [noTxs, keyNO_tx e1, keyNOs_tx e2]; rfl
end
/-- a key of a dict of tuples: the tuple's address -/
theorem Rep.keyT {d : D} {v : V} {t F : List Addr} {k : NestedKey} (r : Rep K H μ d v t F) (h : keyTO d = some k) : ∃ b, v = .ref b ∧ NK K H k (.ref b) ∧ noTx k = true ∧ k.depth ≤ 8 := by
  cases d <;> first | (cases h; done) | skip
  unfold keyTO at h
  obtain ⟨k', h1, h2⟩ := Option.bind_eq_some_iff.mp h
  split at h2
  · rename_i hd
    cases h2
    have n := r.nk h1
    cases r with
    | tup e rs => exact ⟨_, rfl, n, keyNO_tx h1, hd⟩
  · cases h2
theorem Reps.valT : ∀ {xs : List (NestedKey × Addr × Value)} {ks : List NestedKey} {vs : List V} {ds : List D} {F : List Addr} (k : NestedKey), xs.map (·.1) = ks → Vals vs (xs.map (·.2.2)) → Reps K H μ ds vs F →
    (∃ d v t G b u, WT.valP ks ds k = some d ∧ atKey xs k = some (b, u) ∧ RelV v u ∧ Rep K H μ d v t G ∧ ∀ a ∈ t ++ G, a ∈ F) ∨ (WT.valP ks ds k = none ∧ atKey xs k = none)
  | [], _, _, _, _, k, h1, h2, r => by
    subst h1
    cases h2
    cases r
    exact .inr ⟨rfl, rfl⟩
  | p :: xs, ks, vs, ds, F, k, h1, h2, r => by
    rw [List.map_cons] at h1 h2
    subst h1
    cases h2 with
    | cons e1 e2 =>
      cases r with
      | cons r rs =>
      by_cases e : p.1 = k
      · refine .inl ⟨_, _, _, _, p.2.1, p.2.2, ?_, ?_, e1, r, fun a ha => List.mem_append_left _ ha⟩
        · unfold WT.valP; exact if_pos e
        · simp [atKey, List.find?_cons, e]
      · have q : atKey (p :: xs) k = atKey xs k := by simp [atKey, List.find?_cons, e]
        rcases Reps.valT k rfl e2 rs with ⟨d', v', t', G', b, u, a1, a2, a3, a4, a5⟩ | ⟨a1, a2⟩
        · refine .inl ⟨d', v', t', G', b, u, ?_, by rw [q]; exact a2, a3, a4, fun a ha => List.mem_append_right _ (a5 a ha)⟩
          unfold WT.valP; rw [if_neg e]; exact a1
        · refine .inr ⟨?_, by rw [q]; exact a2⟩
          unfold WT.valP; rw [if_neg e]; exact a1
section
variable {X : Cx} {pins : List (Addr × Obj)} {σ : St} {H : Hp} {s : Shared}
mutual
theorem NK.is (I : Inv X pins σ H s) : ∀ {k : NestedKey} {v : V} {u : Value}, NK X.K H k v → RelV v u → NestedIs s.heap k u
  | _, _, u, .none, r => by obtain rfl : u = Value.none := r; exact .none
  | _, _, u, .bl b, r => by obtain rfl : u = Value.bool b := r; exact .bool rfl
  | _, _, u, .num i, r => by obtain ⟨t, rfl⟩ := r; exact .int i t
  | _, _, u, .tup (b := b) e ns, r => by
    obtain rfl : u = Value.ref b := r
    obtain ⟨its, rv, ⟨o, ho, hc, n, hd⟩, hz⟩ := I.tuple e
    exact .tup ho hc hd (NKs.is I ns rv)
theorem NKs.is (I : Inv X pins σ H s) : ∀ {ks : List NestedKey} {vs : List V} {us : List Value}, NKs X.K H ks vs → Vals vs us → NestedAll s.heap ks us
  | _, _, _, .nil, r => by cases r; exact .nil
  | _, _, _, .cons n ns, r => by
    cases r with
    | cons r rs => exact .cons (NK.is I n r) (NKs.is I ns rs)
end
theorem dto_of (I : Inv X pins σ H s) {a : Addr} {xs : List (NestedKey × Addr × Value)} (e : H a = some (DTo a xs)) (hk : NKx X.K H xs) : s.heap.DictOfH (nestedKind X.prog X.w) a xs := by
  obtain ⟨⟨o, es, ep, h1, h2, h3, h4, h5⟩, _⟩ := I.hok a _ e
  refine ⟨o, es, ep, h1, h2, h3, ?_, fun x hx => ⟨(hk x hx).1.is I rfl, (hk x hx).2.2⟩, h5⟩
  rw [h4]
  refine List.map_congr_left fun x hx => ?_
  unfold entryOfKey
  show _ = (⟨x.1.hash X.w, .ref x.2.1, x.2.2⟩ : DictEntry)
  rw [hash0_eq X.w x.1 (hk x hx).2.1]
theorem nk_room {prog : Program} {w : World} {A : Around} (hu : A.units + 64 < cLine) : (nestedKind prog w).room A.in1 := by
  show A.units + 1 + 8 < cLine
  omega
end
def R2c (K : PySem.W.Frag) (op : CmpOp) : R2 := fun x y H Q => ∃ μ d1 d2 b t1 F1 t2 F2, Rep K H μ d1 x t1 F1 ∧ Rep K H μ d2 y t2 F2 ∧ cmpD op d1 d2 = some b ∧ Q (.bl b) H
end

section
variable {X : Cx}
theorem eqD_some {a b : D} {r : Bool} (h : eqD a b = some r) : ∃ x y, toPy a = some x ∧ toPy b = some y ∧ SeqAt.shaped x = true ∧ SeqAt.shaped y = true ∧ r = PyData.eqv x y := by
  unfold eqD at h
  split at h
  · rename_i x y e1 e2
    split at h
    · rename_i hs
      cases h
      exact ⟨x, y, e1, e2, hs.1, hs.2, rfl⟩
    · cases h
  · cases h
theorem op_eq_v (hu : X.A.units + 64 < cLine) : OpR X (compareOp .Eq) (R2c X.K .Eq) := by
  intro pins s σ H x y v u Q I rx ry h
  obtain ⟨μ, d1, d2, b, t1, F1, t2, F2, r1, r2, hg, q⟩ := h
  obtain ⟨a, c, e1, e2, s1, s2, rfl⟩ := eqD_some hg
  exact op_eqD hu pins s σ H _ _ v u Q I rx ry ⟨_, _, r1.dp e1, r2.dp e2, s1, s2, q⟩
theorem op_ne_v (hu : X.A.units + 64 < cLine) : OpR X (compareOp .NotEq) (R2c X.K .NotEq) := by
  intro pins s σ H x y v u Q I rx ry h
  obtain ⟨μ, d1, d2, b, t1, F1, t2, F2, r1, r2, hg, q⟩ := h
  obtain ⟨z, h1, rfl⟩ := Option.map_eq_some_iff.mp (show (eqD d1 d2).map (!·) = some b from hg)
  obtain ⟨a, c, e1, e2, s1, s2, rfl⟩ := eqD_some h1
  exact op_neD hu pins s σ H _ _ v u Q I rx ry ⟨_, _, r1.dp e1, r2.dp e2, s1, s2, q⟩
theorem op_lt_v : OpR X (compareOp .Lt) (R2c X.K .Lt) := by
  intro pins s σ H x y v u Q I rx ry h
  obtain ⟨μ, d1, d2, d, t1, F1, t2, F2, r1, r2, hg, q⟩ := h
  cases r1 <;> cases r2 <;> simp only [cmpD] at hg <;> first | (cases hg; done) | skip
  cases hg
  exact op_lt pins s σ H _ _ v u Q I rx ry ⟨_, _, rfl, rfl, q⟩
theorem op_le_v : OpR X (compareOp .LtE) (R2c X.K .LtE) := by
  intro pins s σ H x y v u Q I rx ry h
  obtain ⟨μ, d1, d2, d, t1, F1, t2, F2, r1, r2, hg, q⟩ := h
  cases r1 <;> cases r2 <;> simp only [cmpD] at hg <;> first | (cases hg; done) | skip
  cases hg
  exact op_le pins s σ H _ _ v u Q I rx ry ⟨_, _, rfl, rfl, q⟩
theorem op_gt_v : OpR X (compareOp .Gt) (R2c X.K .Gt) := by
  intro pins s σ H x y v u Q I rx ry h
  obtain ⟨μ, d1, d2, d, t1, F1, t2, F2, r1, r2, hg, q⟩ := h
  cases r1 <;> cases r2 <;> simp only [cmpD] at hg <;> first | (cases hg; done) | skip
  cases hg
  exact op_gt pins s σ H _ _ v u Q I rx ry ⟨_, _, rfl, rfl, q⟩
theorem op_ge_v : OpR X (compareOp .GtE) (R2c X.K .GtE) := by
  intro pins s σ H x y v u Q I rx ry h
  obtain ⟨μ, d1, d2, d, t1, F1, t2, F2, r1, r2, hg, q⟩ := h
  cases r1 <;> cases r2 <;> simp only [cmpD] at hg <;> first | (cases hg; done) | skip
  cases hg
  exact op_ge pins s σ H _ _ v u Q I rx ry ⟨_, _, rfl, rfl, q⟩
theorem op_in_v (hu : X.A.units + 64 < cLine) : OpR X (compareOp .In) (R2c X.K .In) := by
  intro pins s σ H x y v u Q I rx ry h
  obtain ⟨μ, d1, d2, b, t1, F1, t2, F2, r1, r2, hg, q⟩ := h
  cases r2 <;> simp only [cmpD] at hg <;> first | (cases hg; done) | skip
  case dT a xs ks vs ds F e hs hl hk nk hv r2 hF =>
    obtain ⟨k, hk1, rfl⟩ := Option.map_eq_some_iff.mp hg
    obtain ⟨b, rfl, n1, n2, n3⟩ := r1.keyT hk1
    obtain rfl : u = Value.ref a := ry
    obtain rfl : v = Value.ref b := rx
    refine wpAny_in_heap (knd := nestedKind X.prog X.w) (k := k) (nk_room hu) ⟨n1.is I rfl, n3⟩ hs (dto_of I e nk) ⟨.bl (atKey xs k).isSome, H, I.tok _, rfl, ?_⟩
    rcases Reps.valT k hk hv r2 with ⟨d', v', t', G', b', u', a1, a2, a3, a4, a5⟩ | ⟨a1, a2⟩
    · rw [a1] at q; rw [a2]; exact q
    · rw [a1] at q; rw [a2]; exact q
  case dK a kvs ks vs ds F e hk hv r2 hF =>
    obtain ⟨k, hk1, rfl⟩ := Option.map_eq_some_iff.mp hg
    obtain rfl := r1.key hk1
    obtain rfl : u = Value.ref a := ry
    refine d_in (by omega) I (.k e) rx fun s' I' => ⟨.bl (valV kvs k).isSome, H, I', rfl, ?_⟩
    rcases Reps.valP k hk hv r2 with ⟨d', v', t', G', a1, a2, a3, a4⟩ | ⟨a1, a2⟩
    · rw [a1] at q; rw [a2]; exact q
    · rw [a1] at q; rw [a2]; exact q
  case tup a vs ds e r =>
    obtain ⟨⟨h1, h2⟩, rfl⟩ := guardO_some hg
    obtain ⟨rfl, f1⟩ := r1.flat h1
    obtain ⟨rfl, f2⟩ := r.flats h2
    rw [← inV_to h1 h2] at q
    exact op_in_seq pins s σ H _ _ v u Q I rx ry ⟨_, _, rfl, .inr e, f1, f2, q⟩
  case lst a vs ds e r =>
    obtain ⟨⟨h1, h2⟩, rfl⟩ := guardO_some hg
    obtain ⟨rfl, f1⟩ := r1.flat h1
    obtain ⟨rfl, f2⟩ := r.flats h2
    rw [← inV_to h1 h2] at q
    exact op_in_seq pins s σ H _ _ v u Q I rx ry ⟨_, _, rfl, .inl (.of e), f1, f2, q⟩
theorem op_notin_v (hu : X.A.units + 64 < cLine) : OpR X (compareOp .NotIn) (R2c X.K .NotIn) := by
  intro pins s σ H x y v u Q I rx ry h
  obtain ⟨μ, d1, d2, b, t1, F1, t2, F2, r1, r2, hg, q⟩ := h
  cases r2 <;> simp only [cmpD] at hg <;> first | (cases hg; done) | skip
  case dT a xs ks vs ds F e hs hl hk nk hv r2 hF =>
    obtain ⟨k, hk1, rfl⟩ := Option.map_eq_some_iff.mp hg
    obtain ⟨b, rfl, n1, n2, n3⟩ := r1.keyT hk1
    obtain rfl : u = Value.ref a := ry
    obtain rfl : v = Value.ref b := rx
    refine wpAny_notIn_heap (knd := nestedKind X.prog X.w) (k := k) (nk_room hu) ⟨n1.is I rfl, n3⟩ hs (dto_of I e nk) ⟨.bl (!(atKey xs k).isSome), H, I.tok _, rfl, ?_⟩
    rcases Reps.valT k hk hv r2 with ⟨d', v', t', G', b', u', a1, a2, a3, a4, a5⟩ | ⟨a1, a2⟩
    · rw [a1] at q; rw [a2]; exact q
    · rw [a1] at q; rw [a2]; exact q
  case dK a kvs ks vs ds F e hk hv r2 hF =>
    obtain ⟨k, hk1, rfl⟩ := Option.map_eq_some_iff.mp hg
    obtain rfl := r1.key hk1
    obtain rfl : u = Value.ref a := ry
    refine d_notIn (by omega) I (.k e) rx fun s' I' => ⟨.bl (!(valV kvs k).isSome), H, I', rfl, ?_⟩
    rcases Reps.valP k hk hv r2 with ⟨d', v', t', G', a1, a2, a3, a4⟩ | ⟨a1, a2⟩
    · rw [a1] at q; rw [a2]; exact q
    · rw [a1] at q; rw [a2]; exact q
  case tup a vs ds e r =>
    obtain ⟨⟨h1, h2⟩, rfl⟩ := guardO_some hg
    obtain ⟨rfl, f1⟩ := r1.flat h1
    obtain ⟨rfl, f2⟩ := r.flats h2
    rw [← inV_to h1 h2] at q
    exact op_notIn_seq pins s σ H _ _ v u Q I rx ry ⟨_, _, rfl, .inr e, f1, f2, q⟩
  case lst a vs ds e r =>
    obtain ⟨⟨h1, h2⟩, rfl⟩ := guardO_some hg
    obtain ⟨rfl, f1⟩ := r1.flat h1
    obtain ⟨rfl, f2⟩ := r.flats h2
    rw [← inV_to h1 h2] at q
    exact op_notIn_seq pins s σ H _ _ v u Q I rx ry ⟨_, _, rfl, .inl (.of e), f1, f2, q⟩
theorem op_is_v : OpR X (compareOp .Is) (R2c X.K .Is) := by
  intro pins s σ H x y v u Q I rx ry h
  obtain ⟨μ, d1, d2, b, t1, F1, t2, F2, r1, r2, hg, q⟩ := h
  have e := r1.non_iff
  cases r2 with
  | non => cases d1 <;> simp only [cmpD] at hg <;> cases hg <;> exact op_isN pins s σ H _ _ v u Q I rx ry ⟨rfl, by rw [e]; exact q⟩
  | bl c =>
    cases r1 <;> simp only [cmpD] at hg <;> first | (cases hg; done) | skip
    cases hg
    exact op_isBl pins s σ H _ _ v u Q I rx ry ⟨_, _, rfl, rfl, q⟩
  | _ => cases d1 <;> simp only [cmpD] at hg <;> cases hg
theorem op_isnot_v : OpR X (compareOp .IsNot) (R2c X.K .IsNot) := by
  intro pins s σ H x y v u Q I rx ry h
  obtain ⟨μ, d1, d2, b, t1, F1, t2, F2, r1, r2, hg, q⟩ := h
  have e := r1.non_iff
  cases r2 with
  | non => cases d1 <;> simp only [cmpD] at hg <;> cases hg <;> exact op_notN pins s σ H _ _ v u Q I rx ry ⟨rfl, by rw [e]; exact q⟩
  | bl c =>
    cases r1 <;> simp only [cmpD] at hg <;> first | (cases hg; done) | skip
    cases hg
    exact op_notBl pins s σ H _ _ v u Q I rx ry ⟨_, _, rfl, rfl, q⟩
  | _ => cases d1 <;> simp only [cmpD] at hg <;> cases hg
theorem op_cmp_v (hu : X.A.units + 64 < cLine) (op : CmpOp) : OpR X (compareOp op) (R2c X.K op) := by
  cases op with
  | Eq => exact op_eq_v hu
  | NotEq => exact op_ne_v hu
  | Lt => exact op_lt_v
  | LtE => exact op_le_v
  | Gt => exact op_gt_v
  | GtE => exact op_ge_v
  | In => exact op_in_v hu
  | NotIn => exact op_notin_v hu
  | Is => exact op_is_v
  | IsNot => exact op_isnot_v

/-! ### truth -/
theorem Rep.tru {K : PySem.W.Frag} {H : Hp} {μ : List Addr} {d : D} {v : V} {t F : List Addr} {st : Sto} {b : Bool} (r : Rep K H μ d v t F) (h : truD st d = some b) : TruV K v H b := by
  cases r <;> simp only [truD] at h <;> first | (cases h; done) | skip
  · cases h; rfl
  · cases h; rfl
  · cases h; rfl
  · obtain ⟨h1, rfl⟩ := guardO_some h
    refine ⟨h1, ?_⟩
    rename_i x
    cases e : x.length with
    | zero => rfl
    | succ n =>
      have e2 : ((n + 1 : Nat) : Int) ≠ 0 := by omega
      rw [bne_iff_ne.mpr e2, bne_iff_ne.mpr (Nat.succ_ne_zero n)]
  · cases h
    rename_i a vs ds e r
    exact .inr (.inl ⟨_, e, by cases r <;> rfl⟩)
  · cases h
    rename_i a vs ds e r
    exact .inl ⟨_, .of e, by cases r <;> rfl⟩

/-! ### x[i] -/
/-- what the boxes hold -/
def Bx (K : PySem.W.Frag) (H : Hp) (μ : List Addr) (st : Sto) (B : Addr → Prop) : Prop := ∀ (k : Nat) (xs : List D), st[k]? = some xs → ∃ a vs F, μ[k]? = some a ∧ H a = some (.lst vs) ∧ Reps K H μ xs vs F ∧ ∀ b ∈ F, B b
theorem atI_rep {K : PySem.W.Frag} {H : Hp} {μ : List Addr} {ds : List D} {vs : List V} {F : List Addr} {i : Int} {d : D} (r : Reps K H μ ds vs F) (h : ixD ds i = some d) : ∃ v t G, atI vs i = some v ∧ Rep K H μ d v t G ∧ ∀ a ∈ t ++ G, a ∈ F := by
  unfold ixD atI at h
  obtain ⟨j, h1, h2⟩ := Option.bind_eq_some_iff.mp h
  obtain ⟨v, t, G, e, q, k⟩ := r.get h2
  refine ⟨v, t, G, ?_, q, k⟩
  unfold atI
  rw [← r.length, h1]
  exact e
def R2i (K : PySem.W.Frag) : R2 := fun x y H Q => ∃ μ d1 d2 d t1 F1 t2 F2 st B, Rep K H μ d1 x t1 F1 ∧ Rep K H μ d2 y t2 F2 ∧ Bx K H μ st B ∧ idxD st d1 d2 = some d ∧
  ∀ v t F, Rep K H μ d v t F → (∀ a ∈ t ++ F, a ∈ F1 ∨ B a) → Q v H
theorem ix_dict (hu : X.A.units + 64 < cLine) : IxR X (fun x y H Q => ∃ a v, x = .ref a ∧ DGet H a y (some v) ∧ Q v H) := by
  intro value slice pins s σ H x y v u Q I rx ry h hs
  obtain ⟨a, w, rfl, g, q⟩ := h
  obtain rfl : v = Value.ref a := rx
  exact tail_any (dict_typeIs I g) PySem.F.slot_dict_getitem.lookup (d_getItem (by omega) I g ry fun w' s' I' rw' => ⟨w, H, I', rw', q⟩) hs
theorem ix_v (hu : X.A.units + 64 < cLine) : IxR X (R2i X.K) := by
  intro value slice pins s σ H x y v u Q I rx ry h hps
  obtain ⟨μ, d1, d2, d, t1, F1, t2, F2, st, B, r1, r2, bx, hg, q⟩ := h
  have dict : ∀ {a : Addr} {kvs : List (Key × V)} {ks : List Key} {vs : List V} {ds : List D} {F : List Addr} {k : Key}, x = .ref a → y = kV k → H a = some (.dK kvs) → kvs.map (·.1) = ks → kvs.map (·.2) = vs → Reps X.K H μ ds vs F → F = [] → WT.valP ks ds k = some d →
      wpAny (model X.prog X.w) X.A (subscriptTail value slice v u) (EP X pins σ Q) X.xe s := by
    intro a kvs ks vs ds F k ex ey e h1 h2 r hF hv
    subst ex ey
    rcases Reps.valP k h1 h2 r with ⟨d', v', t', G', a1, a2, a3, a4⟩ | ⟨a1, a2⟩
    · rw [hv] at a1
      cases a1
      refine ix_dict hu value slice pins s σ H _ _ v u Q I rx ry ⟨a, v', rfl, ?_, q _ _ _ a3 fun b hb => ?_⟩ hps
      · rw [← a2]; exact .k e
      · have := a4 b hb; rw [hF] at this; simp at this
    · rw [hv] at a1; cases a1
  have dictT : ∀ {a : Addr} {xs : List (NestedKey × Addr × Value)} {ks : List NestedKey} {vs : List V} {ds : List D} {F : List Addr} {k : NestedKey}, x = .ref a → keyTO d2 = some k → H a = some (DTo a xs) → xs.map (·.1) = ks → NKx X.K H xs → Vals vs (xs.map (·.2.2)) → Reps X.K H μ ds vs F → F = [] → WT.valP ks ds k = some d →
      wpAny (model X.prog X.w) X.A (subscriptTail value slice v u) (EP X pins σ Q) X.xe s := by
    intro a xs ks vs ds F k ex ek e h1 nk h2 r hF hv
    subst ex
    obtain ⟨b, rfl, n1, n2, n3⟩ := r2.keyT ek
    obtain rfl : v = Value.ref a := rx
    obtain rfl : u = Value.ref b := ry
    rcases Reps.valT k h1 h2 r with ⟨d', v', t', G', b', u', a1, a2, a3, a4, a5⟩ | ⟨a1, a2⟩
    · rw [hv] at a1
      cases a1
      have dd := dto_of I e nk
      refine tail_any dd.typeIs PySem.F.slot_dict_getitem.lookup (wpAny_getItem_heap (knd := nestedKind X.prog X.w) (k := k) (nk_room hu) ⟨n1.is I rfl, n3⟩ dd a2 ⟨v', H, I.tok _, a3, q _ _ _ a4 fun c hc => ?_⟩) hps
      have := a5 c hc
      rw [hF] at this; simp at this
    · rw [hv] at a1; cases a1
  cases r1
  case dT a xs ks vs ds F e hs hl hk nk hv r hF =>
    obtain ⟨k, hk1, hk2⟩ := Option.bind_eq_some_iff.mp (show (keyTO d2).bind (fun k => WT.valP ks ds k) = some d from by cases d2 <;> exact hg)
    exact dictT rfl hk1 e hk nk hv r hF hk2
  all_goals (cases r2 <;> simp only [idxD] at hg <;> first | (cases hg; done) | skip)
  case str.int z i =>
    split at hg
    · rename_i hz
      obtain ⟨c, h1, rfl⟩ := Option.map_eq_some_iff.mp hg
      exact ix_str value slice pins s σ H _ _ v u Q I rx ry ⟨_, _, _, rfl, rfl, hz, h1, q _ _ _ (.str _) fun _ h => by simp at h⟩ hps
    · cases hg
  case tup.int a vs ds e r i =>
    obtain ⟨w', t, G, e1, r3, k⟩ := atI_rep r hg
    exact ix_tup value slice pins s σ H _ _ v u Q I rx ry ⟨_, _, _, _, rfl, rfl, e, e1, q _ _ _ r3 fun a ha => .inl (k a ha)⟩ hps
  case lst.int a vs ds e r i =>
    obtain ⟨w', t, G, e1, r3, k⟩ := atI_rep r hg
    exact ix_list value slice pins s σ H _ _ v u Q I rx ry ⟨_, _, _, _, rfl, rfl, .of e, e1, q _ _ _ r3 fun a ha => .inl (k a ha)⟩ hps
  case frz.int a ns e i =>
    unfold ixD atI at hg
    obtain ⟨j, h1, h2⟩ := Option.bind_eq_some_iff.mp hg
    rw [List.getElem?_map] at h2
    obtain ⟨n, h3, rfl⟩ := Option.map_eq_some_iff.mp h2
    rw [List.length_map] at h1
    refine ix_list value slice pins s σ H _ _ v u Q I rx ry ⟨_, _, _, .int n, rfl, rfl, e.sq, ?_, q _ _ _ (.int n) fun _ h => by simp at h⟩ hps
    unfold atI
    rw [List.length_map, h1, Option.bind_some, List.getElem?_map, h3] <;> rfl
  case dK.int a kvs ks vs ds F e h1 h2 r hF i => exact dict rfl rfl e h1 h2 r hF (k := .inl i) hg
  case dK.str a kvs ks vs ds F e h1 h2 r hF i => exact dict rfl rfl e h1 h2 r hF (k := .inr i) hg
  case ref.int a k e i =>
    obtain ⟨xs, h1, h2⟩ := Option.bind_eq_some_iff.mp hg
    obtain ⟨a', vs, F, e1, e2, r, hB⟩ := bx _ _ h1
    rw [e] at e1
    cases e1
    obtain ⟨w', t, G, e3, r3, k⟩ := atI_rep r h2
    exact ix_list value slice pins s σ H _ _ v u Q I rx ry ⟨_, _, _, _, rfl, rfl, .of e2, e3, q _ _ _ r3 fun a ha => .inr (hB a (k a ha))⟩ hps

/-! ### x[lo:hi] -/
theorem cut_rep {K : PySem.W.Frag} {H : Hp} {μ : List Addr} {ds : List D} {vs : List V} {F : List Addr} (r : Reps K H μ ds vs F) (lo hi : Option Int) : ∃ L, Reps K H μ (cutL ds lo hi) (cutV vs lo hi) L ∧ ∀ a ∈ L, a ∈ F := by
  unfold cutL cutV
  rw [← r.length]
  obtain ⟨L, h1, h2⟩ := r.drop (HT.sIx ds.length 0 lo)
  obtain ⟨M, h3, h4⟩ := h1.take (HT.sIx ds.length ds.length hi - HT.sIx ds.length 0 lo)
  exact ⟨M, h3, fun a ha => h2 a (h4 a ha)⟩
def R2s (K : PySem.W.Frag) : V → Option Int → Option Int → Hp → VK → Prop := fun x lo hi H Q => ∃ μ d1 d t1 F1, Rep K H μ d1 x t1 F1 ∧ sliceD d1 lo hi = some d ∧ Out K H μ d (fun a => a ∈ F1) Q
theorem sl_v : SlR X (R2s X.K) := by
  intro pins s σ H x v vl vu lo hi sl Q I rx hs pl pu h
  obtain ⟨μ, d1, d, t1, F1, r1, hg, q⟩ := h
  cases r1 <;> simp only [sliceD] at hg <;> first | (cases hg; done) | skip
  case tup a vs ds e r =>
    cases hg
    obtain ⟨L, h1, h2⟩ := cut_rep r lo hi
    refine sl_tupA pins s σ H _ v vl vu lo hi sl Q I rx hs pl pu ⟨_, _, rfl, e, fun z => ?_, fun z p hp => q.tup h1 h2 hp⟩
    have e2 : cutL ds lo hi = ds := by
      unfold cutL
      rw [r.length, z.1, z.2, List.drop_zero, Nat.sub_zero, ← r.length, List.take_length]
    rw [e2] at q
    exact q.tupSame e r fun _ h => h
  case lst a vs ds e r =>
    cases hg
    obtain ⟨L, h1, h2⟩ := cut_rep r lo hi
    exact sl_list pins s σ H _ v vl vu lo hi sl Q I rx hs pl pu ⟨_, _, rfl, .of e, fun p hp => q.lst h1 h2 hp⟩

/-! ### isinstance -/
def Ty.nm : Ty → String
  | .int => "int" | .bool => "bool" | .str => "str" | .tuple => "tuple" | .list => "list" | .dict => "dict"
def tyS : D → Option String
  | .non => some "NoneType"
  | .bl _ => some "bool"
  | .int _ => some "int"
  | .str _ => some "str"
  | .tup _ => some "tuple"
  | .lst _ => some "list"
  | .dK _ _ => some "dict"
  | _ => none
theorem kit_all : ∀ (d : D) (own : List Ty) (a : String), tyD d = some own → tyS d = some a → ∀ t : Ty, kitB a t.nm = some (own.contains t) := by
  intro d own a h1 h2 t
  cases d <;> cases h1 <;> cases h2 <;> cases t <;> decide +kernel
theorem Rep.ty {K : PySem.W.Frag} {H : Hp} {μ : List Addr} {d : D} {v : V} {t F : List Addr} {a : String} (r : Rep K H μ d v t F) (h : tyS d = some a) : TyX K H v (.type a) := by
  cases r <;> cases h
  · exact .base .non
  · exact .base (.bl _)
  · exact .base (.int _)
  · exact .base (.str _)
  · rename_i a vs ds e r
    rcases e with (e | ⟨o, e⟩) | ⟨o, its, n, e1, e2, _⟩
    · exact .base (.tup e)
    · exact .fTuple e
    · exact .kTuple e1 e2
  · rename_i a vs ds e r
    exact .base (.lst e)
  · rename_i e _ _ _ _
    exact .base (.dK e)
theorem kitAny_v {K : PySem.W.Frag} {d : D} {own : List Ty} {a : String} (h1 : tyD d = some own) (h2 : tyS d = some a) : ∀ ts : List Ty, PySem.W.kitAny K (.type a) (ts.map fun t => Value.type t.nm) = some (ts.any fun t => own.contains t)
  | [] => rfl
  | t :: ts => by
    refine kitAny_cons (b := own.contains t) (kit_ty (kit_all d own a h1 h2 t)) (fun hb => ?_) fun hb => ?_
    · rw [List.any_cons, hb, Bool.false_or]
      exact kitAny_v h1 h2 ts
    · rw [List.any_cons, hb, Bool.true_or]
theorem tyD_tyS {d : D} {own : List Ty} (h : tyD d = some own) : ∃ a, tyS d = some a := by
  cases d <;> first | (cases h; done) | exact ⟨_, rfl⟩

/-! ### built-in functions -/
def RBi (K : PySem.W.Frag) (f : Bi) : List V → Hp → VK → Prop := fun xs H Q => ∃ μ ds F st B d, Reps K H μ ds xs F ∧ Bx K H μ st B ∧ biD st f ds = some d ∧ Out K H μ d (fun a => a ∈ F) Q
theorem Reps.one {K : PySem.W.Frag} {H : Hp} {μ : List Addr} {d : D} {vs : List V} {F : List Addr} (r : Reps K H μ [d] vs F) : ∃ v t G, vs = [v] ∧ Rep K H μ d v t G ∧ F = t ++ G := by
  cases r with
  | cons r s =>
    cases s
    exact ⟨_, _, _, rfl, r, by simp⟩
theorem Reps.two {K : PySem.W.Frag} {H : Hp} {μ : List Addr} {d e : D} {vs : List V} {F : List Addr} (r : Reps K H μ [d, e] vs F) : ∃ v t G w u L, vs = [v, w] ∧ Rep K H μ d v t G ∧ Rep K H μ e w u L := by
  cases r with
  | cons r s =>
    cases s with
    | cons r2 s2 =>
      cases s2
      exact ⟨_, _, _, _, _, _, rfl, r, r2⟩
theorem Reps.ints {K : PySem.W.Frag} {H : Hp} {μ : List Addr} : ∀ {ds : List D} {vs : List V} {F : List Addr} {ns : List Int}, Reps K H μ ds vs F → intsD ds = some ns → vs = ns.map V.int
  | _, _, _, _, .nil, h => by cases h; rfl
  | _, _, _, _, .cons (d := d) r s, h => by
    cases r <;> simp only [intsD] at h <;> first | (cases h; done) | skip
    obtain ⟨ms, h1, rfl⟩ := Option.map_eq_some_iff.mp h
    rw [s.ints h1] <;> rfl
theorem Reps.bls {K : PySem.W.Frag} {H : Hp} {μ : List Addr} : ∀ {ds : List D} {vs : List V} {F : List Addr} {ns : List Bool}, Reps K H μ ds vs F → blsD ds = some ns → vs = ns.map V.bl
  | _, _, _, _, .nil, h => by cases h; rfl
  | _, _, _, _, .cons (d := d) r s, h => by
    cases r <;> simp only [blsD] at h <;> first | (cases h; done) | skip
    obtain ⟨ms, h1, rfl⟩ := Option.map_eq_some_iff.mp h
    rw [s.bls h1] <;> rfl
theorem max_foldl : ∀ (xs : List Int) (x m : Int), m ∈ x :: xs → (∀ y ∈ x :: xs, y ≤ m) → xs.foldl (fun m y => if m < y then y else m) x = m
  | [], x, m, h, _ => (List.mem_singleton.mp h).symm
  | y :: ys, x, m, h, b => by
    rw [List.foldl_cons]
    refine max_foldl ys _ m ?_ fun z hz => ?_
    · have b1 := b x (by simp)
      have b2 := b y (by simp)
      rcases List.mem_cons.mp h with h | h
      · rw [if_neg (by omega)]; simp [h]
      · rcases List.mem_cons.mp h with h | h
        · split
          · simp [h]
          · have : x = m := by omega
            simp [this]
        · simp [h]
    · rcases List.mem_cons.mp hz with e | hz
      · rw [e]; split
        · exact b y (by simp)
        · exact b x (by simp)
      · exact b z (by simp [hz])
theorem min_foldl : ∀ (xs : List Int) (x m : Int), m ∈ x :: xs → (∀ y ∈ x :: xs, m ≤ y) → xs.foldl (fun m y => if y < m then y else m) x = m
  | [], x, m, h, _ => (List.mem_singleton.mp h).symm
  | y :: ys, x, m, h, b => by
    rw [List.foldl_cons]
    refine min_foldl ys _ m ?_ fun z hz => ?_
    · have b1 := b x (by simp)
      have b2 := b y (by simp)
      rcases List.mem_cons.mp h with h | h
      · rw [if_neg (by omega)]; simp [h]
      · rcases List.mem_cons.mp h with h | h
        · split
          · simp [h]
          · have : x = m := by omega
            simp [this]
        · simp [h]
    · rcases List.mem_cons.mp hz with e | hz
      · rw [e]; split
        · exact b y (by simp)
        · exact b x (by simp)
      · exact b z (by simp [hz])
theorem insI_perm (x : Int) : ∀ xs : List Int, (insI x xs).Perm (x :: xs)
  | [] => .refl _
  | y :: r => by
    unfold insI
    split
    · exact .refl _
    · exact ((insI_perm x r).cons y).trans (.swap x y r)
theorem insI_sorted (x : Int) : ∀ xs : List Int, xs.Pairwise (· ≤ ·) → (insI x xs).Pairwise (· ≤ ·)
  | [], _ => by simp [insI]
  | y :: r, h => by
    unfold insI
    have h1 := List.pairwise_cons.mp h
    split
    · rename_i hxy
      refine List.pairwise_cons.mpr ⟨fun z hz => ?_, h⟩
      rcases List.mem_cons.mp hz with e | hz
      · rw [e]; exact hxy
      · exact Int.le_trans hxy (h1.1 z hz)
    · rename_i hxy
      refine List.pairwise_cons.mpr ⟨fun z hz => ?_, insI_sorted x r h1.2⟩
      rcases List.mem_cons.mp ((insI_perm x r).mem_iff.mp hz) with e | hz
      · omega
      · exact h1.1 z hz
theorem sortI_perm : ∀ xs : List Int, (sortI xs).Perm xs
  | [] => .refl _
  | x :: xs => (insI_perm x _).trans ((sortI_perm xs).cons x)
theorem sortI_sorted : ∀ xs : List Int, (sortI xs).Pairwise (· ≤ ·)
  | [] => .nil
  | x :: xs => insI_sorted x _ (sortI_sorted xs)
theorem sorted_one {xs ys : List Int} (p : xs.Perm ys) (h1 : xs.Pairwise (· ≤ ·)) (h2 : ys.Pairwise (· ≤ ·)) : xs = ys :=
  p.eq_of_pairwise (fun a b _ _ h3 h4 => Int.le_antisymm h3 h4) h1 h2
theorem preSum_list (ns : List Int) : ∀ n, n ≤ ns.length → preSum (fun i => ns.getD i 0) n = (ns.take n).sum
  | 0, _ => by simp [preSum]
  | n + 1, h => by
    rw [preSum, preSum_list ns n (by omega), List.take_succ, List.sum_append, List.getD_eq_getElem?_getD]
    rw [List.getElem?_eq_getElem (by omega)]
    simp
theorem cr_sumT (hc : X.calm = true) : CallR X (.builtin "sum") (fun vs H Q => ∃ (a : Addr) (ns : List Int), vs = [V.ref a] ∧ SqT X.K H a (ns.map V.int) ∧ Q (.int ns.sum) H) := by
  intro pins s σ H vs us Q I r h
  obtain ⟨a, ns, rfl, hs, q⟩ := h
  obtain ⟨its, rv, hl, _⟩ := I.tuple hs
  rw [Vals.ref1 r]
  refine call_sum_walkG (wpAny_pyIter_tuple (show s.heap.IsTuple a its.toArray from hl) ?_)
  have hlt : a < s.heap.objs.size := hl.lt
  refine ⟨_, _, _, _, _, _, (fun i => ns.getD i 0), rfl, Walks.tuple (A := X.A.in1) (I.ok.hd hc) s.heap.objs.size a (Nat.ne_of_lt hlt) its.toArray, ?_, ?_, ?_, ?_⟩
  · exact ⟨⟨_, Heap.get?_push_size _ rfl, rfl, rfl⟩, hl.push _⟩
  · intro b hb
    rw [Heap.size_push]
    rcases List.mem_cons.mp hb with e | hb
    · rw [e]; exact Nat.lt_succ_self _
    · rw [List.mem_singleton.mp hb]; exact Nat.lt_succ_of_lt hlt
  · intro i v hv
    have hv' : its[i]? = some v := by simpa using hv
    have hi := (Vals.ints rv)
    have hlen : its.length = ns.length := by rw [← rv.length, List.length_map]
    have hin : i < ns.length := by rw [← hlen]; exact (List.getElem?_eq_some_iff.mp hv').1
    obtain ⟨u, hu, ru⟩ := rv.get (i := i) (x := V.int (ns.getD i 0)) (by
      rw [List.getElem?_map, List.getElem?_eq_getElem hin, List.getD_eq_getElem?_getD, List.getElem?_eq_getElem hin] <;> rfl)
    rw [hv'] at hu
    cases hu
    exact ru
  · intro h' tk t' hk
    have hlen : its.length = ns.length := by rw [← rv.length, List.length_map]
    have e : preSum (fun i => ns.getD i 0) its.toArray.size = ns.sum := by
      rw [List.size_toArray, hlen, preSum_list ns _ (Nat.le_refl _), List.take_length]
    rw [e]
    refine ⟨.int _, H, I.kept fun b o eo => hk b o (fun hmem => ?_) (Heap.get?_push_of_some _ eo), ⟨_, rfl⟩, q⟩
    rw [List.mem_singleton.mp hmem] at eo
    exact absurd (Heap.lt_size eo) (Nat.lt_irrefl _)

theorem Out.frame {K : PySem.W.Frag} {H : Hp} {μ : List Addr} {d : D} {B B' : Addr → Prop} {Q : VK} (h : Out K H μ d B Q) (hb : ∀ a, B' a → B a) : Out K H μ d B' Q := fun v H' t F n r x y => h v H' t F n r x fun a ha => hb a (y a ha)
def BiOk (X : Cx) (f : Bi) (v : Value) : Prop := CallR X v (RBi X.K f)
theorem bi_len : CallR X (.builtin "len") (RBi X.K .len) := by
  intro pins s σ H xs us Q I r h
  obtain ⟨μ, ds, F, st, B, d, rs, bx, hg, q⟩ := h
  match ds, rs, hg with
  | [], _, hg => cases hg
  | _ :: _ :: _, _, hg => simp [biD] at hg
  | [x], rs, hg =>
    obtain ⟨v, t, G, rfl, r1, -⟩ := rs.one
    clear rs
    cases r1 <;> simp only [biD] at hg <;> first | (cases hg; done) | skip
    case str x =>
      obtain ⟨h1, rfl⟩ := guardO_some hg
      exact call_len pins s σ H _ us Q I r ⟨_, x.length, rfl, ⟨h1, rfl⟩, q.int⟩
    case tup a vs ds e r1 =>
      cases hg
      exact call_len pins s σ H _ us Q I r ⟨_, ds.length, rfl, .inr ⟨_, e, r1.length⟩, q.int⟩
    case lst a vs ds e r1 =>
      cases hg
      exact call_len pins s σ H _ us Q I r ⟨_, ds.length, rfl, .inl ⟨_, .of e, r1.length⟩, q.int⟩
    case frz a ns e =>
      cases hg
      exact call_len pins s σ H _ us Q I r ⟨_, ns.length, rfl, .inl ⟨_, e.sq, by rw [List.length_map]⟩, q.int⟩
    case ref a k e =>
      obtain ⟨ys, h1, rfl⟩ := Option.map_eq_some_iff.mp hg
      obtain ⟨a', vs, F', e1, e2, r2, _⟩ := bx _ _ h1
      rw [e] at e1
      cases e1
      exact call_len pins s σ H _ us Q I r ⟨_, ys.length, rfl, .inl ⟨_, .of e2, r2.length⟩, q.int⟩
    case dK a kvs ks vs ds F e hk hv r2 hF =>
      cases hg
      refine call_lenD pins s σ H _ us Q I r ⟨_, kvs, rfl, e, ?_⟩
      rw [show kvs.length = ks.length by rw [← hk, List.length_map]]
      exact q.int
theorem bi_int : CallR X (.type "int") (RBi X.K .int) := by
  intro pins s σ H xs us Q I r h
  obtain ⟨μ, ds, F, st, B, d, rs, bx, hg, q⟩ := h
  match ds, rs, hg with
  | [], _, hg => cases hg
  | _ :: _ :: _, _, hg => simp [biD] at hg
  | [x], rs, hg =>
    obtain ⟨v, t, G, rfl, r1, -⟩ := rs.one
    clear rs
    cases r1 <;> simp only [biD] at hg <;> first | (cases hg; done) | skip
    case bl b =>
      cases hg
      exact call_int1 pins s σ H _ us Q I r (.inr ⟨b, rfl, q.int⟩)
    case int b =>
      cases hg
      exact call_int1 pins s σ H _ us Q I r (.inl ⟨b, rfl, q.int⟩)
theorem bi_abs : CallR X (.builtin "abs") (RBi X.K .abs) := by
  intro pins s σ H xs us Q I r h
  obtain ⟨μ, ds, F, st, B, d, rs, bx, hg, q⟩ := h
  match ds, rs, hg with
  | [], _, hg => cases hg
  | _ :: _ :: _, _, hg => simp [biD] at hg
  | [x], rs, hg =>
    obtain ⟨v, t, G, rfl, r1, -⟩ := rs.one
    clear rs
    cases r1 <;> simp only [biD] at hg <;> first | (cases hg; done) | skip
    case int b =>
      cases hg
      exact call_abs pins s σ H _ us Q I r ⟨b, rfl, q.int⟩
theorem bi_sum (hc : X.calm = true) : CallR X (.builtin "sum") (RBi X.K .sum) := by
  intro pins s σ H xs us Q I r h
  obtain ⟨μ, ds, F, st, B, d, rs, bx, hg, q⟩ := h
  match ds, rs, hg with
  | [], _, hg => cases hg
  | _ :: _ :: _, _, hg => simp [biD] at hg
  | [x], rs, hg =>
    obtain ⟨v, t, G, rfl, r1, -⟩ := rs.one
    clear rs
    obtain ⟨ns, h1, rfl⟩ := Option.map_eq_some_iff.mp (show ((seqOf x).bind intsD).map (fun ns => D.int ns.sum) = some d from hg)
    cases r1 <;> simp only [seqOf, Option.bind_none, Option.bind_some] at h1 <;> first | (cases h1; done) | skip
    case tup a vs ds e r1 =>
      have e2 := r1.ints h1
      subst e2
      exact cr_sumT hc pins s σ H _ us Q I r ⟨_, _, rfl, e, q.int⟩
    case lst a vs ds e r1 =>
      have e2 := r1.ints h1
      subst e2
      exact cr_sum hc pins s σ H _ us Q I r ⟨_, _, rfl, .of e, q.int⟩
theorem bi_all (hc : X.calm = true) : CallR X (.builtin "all") (RBi X.K .all) := by
  intro pins s σ H xs us Q I r h
  obtain ⟨μ, ds, F, st, B, d, rs, bx, hg, q⟩ := h
  match ds, rs, hg with
  | [], _, hg => cases hg
  | _ :: _ :: _, _, hg => simp [biD] at hg
  | [x], rs, hg =>
    obtain ⟨v, t, G, rfl, r1, -⟩ := rs.one
    clear rs
    cases r1 <;> simp only [biD] at hg <;> first | (cases hg; done) | skip
    case lst a vs ds e r1 =>
      obtain ⟨ns, h1, rfl⟩ := Option.map_eq_some_iff.mp hg
      have e2 := r1.bls h1
      subst e2
      exact cr_all hc pins s σ H _ us Q I r ⟨_, _, rfl, .of e, q.bl⟩
theorem bi_any (hc : X.calm = true) : CallR X (.builtin "any") (RBi X.K .any) := by
  intro pins s σ H xs us Q I r h
  obtain ⟨μ, ds, F, st, B, d, rs, bx, hg, q⟩ := h
  match ds, rs, hg with
  | [], _, hg => cases hg
  | _ :: _ :: _, _, hg => simp [biD] at hg
  | [x], rs, hg =>
    obtain ⟨v, t, G, rfl, r1, -⟩ := rs.one
    clear rs
    cases r1 <;> simp only [biD] at hg <;> first | (cases hg; done) | skip
    case lst a vs ds e r1 =>
      obtain ⟨ns, h1, rfl⟩ := Option.map_eq_some_iff.mp hg
      have e2 := r1.bls h1
      subst e2
      exact cr_any hc pins s σ H _ us Q I r ⟨_, _, rfl, .of e, q.bl⟩
theorem bi_max (hc : X.calm = true) : CallR X (.builtin "max") (RBi X.K .max) := by
  intro pins s σ H xs us Q I r h
  obtain ⟨μ, ds, F, st, B, d, rs, bx, hg, q⟩ := h
  match ds, rs, hg with
  | [], _, hg => cases hg
  | _ :: _ :: _, _, hg => simp [biD] at hg
  | [x], rs, hg =>
    obtain ⟨v, t, G, rfl, r1, -⟩ := rs.one
    clear rs
    cases r1 <;> simp only [biD] at hg <;> first | (cases hg; done) | skip
    case lst a vs ds e r1 =>
      obtain ⟨m, h1, rfl⟩ := Option.map_eq_some_iff.mp hg
      obtain ⟨ns, h2, h3⟩ := Option.bind_eq_some_iff.mp h1
      have e2 := r1.ints h2
      subst e2
      cases ns with
      | nil => cases h3
      | cons x ys =>
        cases h3
        exact cr_max hc pins s σ H _ us Q I r ⟨_, _, rfl, .of e, by simp, fun m hm hle => by rw [← max_foldl ys x m hm hle]; exact q.int⟩
theorem bi_min (hc : X.calm = true) : CallR X (.builtin "min") (RBi X.K .min) := by
  intro pins s σ H xs us Q I r h
  obtain ⟨μ, ds, F, st, B, d, rs, bx, hg, q⟩ := h
  match ds, rs, hg with
  | [], _, hg => cases hg
  | _ :: _ :: _, _, hg => simp [biD] at hg
  | [x], rs, hg =>
    obtain ⟨v, t, G, rfl, r1, -⟩ := rs.one
    clear rs
    cases r1 <;> simp only [biD] at hg <;> first | (cases hg; done) | skip
    case lst a vs ds e r1 =>
      obtain ⟨m, h1, rfl⟩ := Option.map_eq_some_iff.mp hg
      obtain ⟨ns, h2, h3⟩ := Option.bind_eq_some_iff.mp h1
      have e2 := r1.ints h2
      subst e2
      cases ns with
      | nil => cases h3
      | cons x ys =>
        cases h3
        exact cr_min hc pins s σ H _ us Q I r ⟨_, _, rfl, .of e, by simp, fun m hm hle => by rw [← min_foldl ys x m hm hle]; exact q.int⟩
theorem bi_max2 (hc : X.calm = true) : CallR X (.builtin "max") (RBi X.K .max2) := by
  intro pins s σ H xs us Q I r h
  obtain ⟨μ, ds, F, st, B, d, rs, bx, hg, q⟩ := h
  match ds, rs, hg with
  | [], _, hg => cases hg
  | [_], _, hg => simp [biD] at hg
  | _ :: _ :: _ :: _, _, hg => simp [biD] at hg
  | [x, y], rs, hg =>
    obtain ⟨v, t, G, v2, t2, G2, rfl, r1, r2⟩ := rs.two
    clear rs
    cases r1 <;> cases r2 <;> simp only [biD] at hg <;> first | (cases hg; done) | skip
    cases hg
    exact call_max2 hc pins s σ H _ us Q I r ⟨_, _, rfl, q.int⟩
theorem bi_min2 (hc : X.calm = true) : CallR X (.builtin "min") (RBi X.K .min2) := by
  intro pins s σ H xs us Q I r h
  obtain ⟨μ, ds, F, st, B, d, rs, bx, hg, q⟩ := h
  match ds, rs, hg with
  | [], _, hg => cases hg
  | [_], _, hg => simp [biD] at hg
  | _ :: _ :: _ :: _, _, hg => simp [biD] at hg
  | [x, y], rs, hg =>
    obtain ⟨v, t, G, v2, t2, G2, rfl, r1, r2⟩ := rs.two
    clear rs
    cases r1 <;> cases r2 <;> simp only [biD] at hg <;> first | (cases hg; done) | skip
    cases hg
    exact call_min2 hc pins s σ H _ us Q I r ⟨_, _, rfl, q.int⟩
theorem bi_gcd : CallR X (.builtin "math.gcd") (RBi X.K .gcd) := by
  intro pins s σ H xs us Q I r h
  obtain ⟨μ, ds, F, st, B, d, rs, bx, hg, q⟩ := h
  match ds, rs, hg with
  | [], _, hg => cases hg
  | [_], _, hg => simp [biD] at hg
  | _ :: _ :: _ :: _, _, hg => simp [biD] at hg
  | [x, y], rs, hg =>
    obtain ⟨v, t, G, v2, t2, G2, rfl, r1, r2⟩ := rs.two
    clear rs
    cases r1 <;> cases r2 <;> simp only [biD] at hg <;> first | (cases hg; done) | skip
    cases hg
    exact cr_gcd pins s σ H _ us Q I r ⟨_, _, rfl, q.int⟩
theorem bi_tuple : CallR X (.type "tuple") (RBi X.K .tuple) := by
  intro pins s σ H xs us Q I r h
  obtain ⟨μ, ds, F, st, B, d, rs, bx, hg, q⟩ := h
  match ds, rs, hg with
  | [], _, hg => cases hg
  | _ :: _ :: _, _, hg => simp [biD] at hg
  | [x], rs, hg =>
    obtain ⟨v, t, G, rfl, r1, rfl⟩ := rs.one
    clear rs
    cases r1 <;> simp only [biD] at hg <;> first | (cases hg; done) | skip
    case tup a vs ds e r1 =>
      cases hg
      exact call_tuple_of pins s σ H _ us Q I r ⟨_, _, rfl, .inr ⟨e, q.tupSame e r1 fun a ha => List.mem_append_right _ ha⟩⟩
    case lst a vs ds e r1 =>
      cases hg
      exact call_tuple_of pins s σ H _ us Q I r ⟨_, _, rfl, .inl ⟨.of e, fun p hp => q.tup r1 (fun a ha => List.mem_append_right _ ha) hp⟩⟩
theorem bi_list : CallR X (.type "list") (RBi X.K .list) := by
  intro pins s σ H xs us Q I r h
  obtain ⟨μ, ds, F, st, B, d, rs, bx, hg, q⟩ := h
  match ds, rs, hg with
  | [], _, hg => cases hg
  | _ :: _ :: _, _, hg => simp [biD] at hg
  | [x], rs, hg =>
    obtain ⟨v, t, G, rfl, r1, rfl⟩ := rs.one
    clear rs
    cases r1 <;> simp only [biD] at hg <;> first | (cases hg; done) | skip
    case tup a vs ds e r1 =>
      cases hg
      exact call_list_of pins s σ H _ us Q I r ⟨_, _, rfl, .inr e, fun p hp => q.lst r1 (fun a ha => List.mem_append_right _ ha) hp⟩
    case lst a vs ds e r1 =>
      cases hg
      exact call_list_of pins s σ H _ us Q I r ⟨_, _, rfl, .inl (.of e), fun p hp => q.lst r1 (fun a ha => List.mem_append_right _ ha) hp⟩
theorem reps_ints {K : PySem.W.Frag} {H : Hp} {μ : List Addr} : ∀ ns : List Int, Reps K H μ (ns.map D.int) (ns.map V.int) []
  | [] => .nil
  | n :: ns => .cons (.int n) (reps_ints ns)
theorem bi_sorted : CallR X (.builtin "sorted") (RBi X.K .sorted) := by
  intro pins s σ H xs us Q I r h
  obtain ⟨μ, ds, F, st, B, d, rs, bx, hg, q⟩ := h
  match ds, rs, hg with
  | [], _, hg => cases hg
  | _ :: _ :: _, _, hg => simp [biD] at hg
  | [x], rs, hg =>
    obtain ⟨v, t, G, rfl, r1, rfl⟩ := rs.one
    clear rs
    cases r1 <;> simp only [biD] at hg <;> first | (cases hg; done) | skip
    case lst a vs ds e r1 =>
      obtain ⟨ns, h1, h2⟩ := Option.bind_eq_some_iff.mp hg
      obtain ⟨h3, rfl⟩ := guardO_some h2
      have e2 := r1.ints h1
      subst e2
      refine cr_sorted pins s σ H _ us Q I r ⟨_, _, rfl, .of e, h3, fun ns' p p1 p2 hp => ?_⟩
      have e3 : ns' = sortI ns := sorted_one (p1.trans (sortI_perm ns).symm) p2 (sortI_sorted ns)
      subst e3
      exact q.lst (reps_ints _) (fun _ h => by simp at h) hp
theorem bits_few {i : Int} (h : i.natAbs.log2 < 20000) : i.natAbs.log2 < bitsLine := Nat.lt_of_lt_of_le h (by decide)
theorem bi_fact : CallR X (.builtin "math.factorial") (RBi X.K .fact) := by
  intro pins s σ H xs us Q I r h
  obtain ⟨μ, ds, F, st, B, d, rs, bx, hg, q⟩ := h
  match ds, rs, hg with
  | [], _, hg => cases hg
  | _ :: _ :: _, _, hg => simp [biD] at hg
  | [x], rs, hg =>
    obtain ⟨v, t, G, rfl, r1, rfl⟩ := rs.one
    clear rs
    cases r1 <;> simp only [biD] at hg <;> first | (cases hg; done) | skip
    rename_i n
    obtain ⟨⟨h1, h2, h3⟩, rfl⟩ := guardO_some hg
    obtain ⟨u, rfl, ru⟩ := r.one
    obtain ⟨t, rfl⟩ := ru
    refine PySem.W.mg_factorial (by show ¬ n > 2 ^ 63 - 1; omega) (by omega) (by show ¬ n > 20000; omega) (bits_few h3) ⟨.int _, H, I.tok _, ⟨_, rfl⟩, q.int⟩
namespace MG
theorem entry_comb : entryFor table "math.comb" = some Builtin.«math.comb» := entryFor_of_tree (by kernel_rfl)
theorem kind_comb : builtinKind "math.comb" = none := by kernel_rfl
theorem plain_comb : plainId "math.comb" = true := by decide +kernel
theorem args_comb (a b : Value) : argsOk "math.comb" ⟨[a, b], []⟩ := by unfold argsOk; kernel_rfl
end MG
theorem run_comb (n : Int) (t : Tok) (k : Int) (u : Tok) (h0 : ¬ n < 0) (h1 : ¬ k < 0) (h2 : ¬ k > n) (h3 : ¬ min k (n - k) > Builtin.Math.maxSsize) (h4 : ¬ min k (n - k) > Builtin.Math.manyFactors) (h5 : ¬ min k (n - k) > 9000) (hz : (combI n k).natAbs.log2 < bitsLine) :
    Gives (Builtin.«math.comb» ⟨[.int n t, .int k u], []⟩) (.int (combI n k)) :=
  .of_wp fun M A E s Q h => by
    obtain ⟨hp, g, d, tk, os⟩ := s
    unfold combI at hz h
    wp_walk
    (try (refine wpAny_ite_false (decide_eq_false (Nat.not_le.mpr hz)) ?_; wp_walk))
    exact ⟨_, rfl, h⟩
theorem bi_comb : CallR X (.builtin "math.comb") (RBi X.K .comb) := by
  intro pins s σ H xs us Q I r h
  obtain ⟨μ, ds, F, st, B, d, rs, bx, hg, q⟩ := h
  match ds, rs, hg with
  | [], _, hg => cases hg
  | [_], _, hg => simp [biD] at hg
  | _ :: _ :: _ :: _, _, hg => simp [biD] at hg
  | [x, y], rs, hg =>
    obtain ⟨v, t, G, v2, t2, G2, rfl, r1, r2⟩ := rs.two
    clear rs
    cases r1 <;> cases r2 <;> simp only [biD] at hg <;> first | (cases hg; done) | skip
    rename_i n k
    obtain ⟨⟨h1, h2, h3, h4⟩, rfl⟩ := guardO_some hg
    obtain ⟨t, u, rfl⟩ := Vals.int2 r
    have hm : min k (n - k) ≤ 1000 := by omega
    exact call_function_meets MG.kind_comb MG.plain_comb MG.entry_comb (MG.args_comb _ _) (run_comb n t k u (by omega) (by omega) (by omega) (by show ¬ min k (n - k) > 2 ^ 63 - 1; omega) (by show ¬ min k (n - k) > 20000; omega) (by omega) (bits_few h4)).meets ⟨.int _, H, I.tok _, ⟨_, rfl⟩, q.int⟩
/-- the name of a built-in function, what it stands for; gcd is the module's -/
def Bi.nm : Bi → Str
  | .len => "len" | .int => "int" | .sum => "sum" | .all => "all" | .any => "any" | .max => "max" | .min => "min" | .max2 => "max" | .min2 => "min" | .tuple => "tuple" | .list => "list" | .abs => "abs" | .gcd => "gcd" | .sorted => "sorted"
  | .comb => "comb" | .fact => "factorial"
/-- the module's own -/
def Bi.math : Bi → Bool
  | .gcd => true
  | .comb => true
  | .fact => true
  | _ => false
def Bi.vl : Bi → Value
  | .len => .builtin "len" | .int => .type "int" | .sum => .builtin "sum" | .all => .builtin "all" | .any => .builtin "any" | .max => .builtin "max" | .min => .builtin "min" | .max2 => .builtin "max" | .min2 => .builtin "min"
  | .tuple => .type "tuple" | .list => .type "list" | .abs => .builtin "abs" | .gcd => .builtin "math.gcd" | .sorted => .builtin "sorted"
  | .comb => .builtin "math.comb" | .fact => .builtin "math.factorial"
theorem bi_ok (hc : X.calm = true) (f : Bi) : CallR X f.vl (RBi X.K f) := by
  cases f with
  | len => exact bi_len
  | int => exact bi_int
  | sum => exact bi_sum hc
  | all => exact bi_all hc
  | any => exact bi_any hc
  | max => exact bi_max hc
  | min => exact bi_min hc
  | max2 => exact bi_max2 hc
  | min2 => exact bi_min2 hc
  | tuple => exact bi_tuple
  | list => exact bi_list
  | abs => exact bi_abs
  | gcd => exact bi_gcd
  | sorted => exact bi_sorted
  | comb => exact bi_comb
  | fact => exact bi_fact
end
end WT
end

section
set_option Elab.async false
set_option linter.all false
set_option maxRecDepth 100000
set_option autoImplicit false
/-! K4r: x[::-1] of a tuple. -/
namespace WT
open PySem PySem.Spec PyProof.Rows L2 HT
section
variable {prog : Program} {w : World} {A : Around} {E : Value → Shared → Prop} {s : Shared}
theorem adjust_rev (n : Int) : Builtin.Slice.sliceAdjust none none (-1) n = (n - 1, -1) := by
  unfold Builtin.Slice.sliceAdjust
  simp
theorem places_rev (n : Nat) : Builtin.Slice.slicePlaces ((n : Int) - 1) (-1) (-1) = n := by
  unfold Builtin.Slice.slicePlaces
  rw [if_neg (by decide)]
  split
  · have e : (-(-1) : Int) = 1 := by decide
    rw [e, Int.ediv_one]
    omega
  · have : n = 0 := by omega
    subst this
    rfl
theorem sliceApplied_rev {sl : Addr} {vl vu vs : Value} {n : Nat} {Q : Int × Int × Nat → Shared → Prop} (hs : s.heap.IsSliceOf sl vl vu vs) (pl : IsPart vl none) (pu : IsPart vu none) (ps : IsPart vs (some (-1))) (h : Q ((n : Int) - 1, -1, n) s) :
    wpAny (model prog w) A (Builtin.Slice.sliceApplied (.ref sl) (pure (n : Int))) Q E s := by
  obtain ⟨os, hos, hcs, hds⟩ := id hs
  cases pl
  cases pu
  cases ps with
  | int i t =>
    unfold Builtin.Slice.sliceApplied Builtin.Slice.sliceFields
    refine wpAny_bind (wpAny_bind (wpAny_field hos hds (x := .none) rfl (wpAny_bind (wpAny_field hos hds (x := .none) rfl (wpAny_bind (wpAny_field hos hds (x := .int (-1) t) rfl (wpAny_pure ?_)))))))
    refine wpAny_bind (slicePart_int ?_)
    show wpAny _ _ (if ((-1 : Int) == 0) = true then _ else _) _ _ s
    rw [if_neg (by decide)]
    refine wpAny_bind (slicePart_none (wpAny_bind (slicePart_none (wpAny_bind (wpAny_pure ?_)))))
    show wpAny _ _ (match Builtin.Slice.sliceAdjust none none (-1) (n : Int) with | (lo, hi) => pure (lo, (-1 : Int), Builtin.Slice.slicePlaces lo hi (-1))) _ _ s
    rw [adjust_rev]
    show wpAny _ _ (pure ((n : Int) - 1, (-1 : Int), Builtin.Slice.slicePlaces ((n : Int) - 1) (-1) (-1))) _ _ s
    rw [places_rev]
    exact wpAny_pure h
theorem pick_rev (xs : Array Value) : (List.range xs.size).filterMap (fun (m : Nat) => xs[(((xs.size : Int) - 1) + (m : Int) * -1).toNat]?) = xs.toList.reverse := by
  have e : (fun (m : Nat) => xs[(((xs.size : Int) - 1) + (m : Int) * -1).toNat]?) = fun (m : Nat) => xs[xs.size - 1 - m]? := by
    funext m
    have : (((xs.size : Int) - 1) + (m : Int) * -1).toNat = xs.size - 1 - m := by omega
    rw [this]
  rw [e]
  have h1 : (List.range xs.size).filterMap (fun (m : Nat) => xs[xs.size - 1 - m]?) = ((List.range xs.size).map fun k => xs.size - 1 - k).filterMap (xs[·]?) := by
    rw [List.filterMap_map]
    rfl
  rw [h1, PySem.W.krv_range, List.filterMap_reverse, PySem.W.krv_all]
theorem getItem_tuple_rev {t sl : Addr} {items : Array Value} {vl vu vs : Value} {Q : Value → Shared → Prop} (ht : IsTup s.heap t items) (hs : s.heap.IsSliceOf sl vl vu vs) (pl : IsPart vl none) (pu : IsPart vu none) (ps : IsPart vs (some (-1)))
    (h : Q (.ref s.heap.objs.size) { s with heap := s.heap.push { cls := .type "tuple", data := .seq items.toList.reverse.toArray } }) (hsz : items.size ≤ sizeLine) : wpAny (model prog w) A (getItem (.ref t) (.ref sl)) Q E s := by
  have htake : sizeOk (.seq items.toList.reverse.toArray) := by
    show items.toList.reverse.toArray.size ≤ sizeLine
    rw [List.size_toArray, List.length_reverse, Array.length_toList]
    exact hsz
  obtain ⟨os, hos, hcs, hds⟩ := id hs
  have hTs : s.TypeIs (.ref sl) "slice" := ⟨os, hos, hcs⟩
  unfold getItem
  try with_reducible refine wpAny_holding ?_
  first | refine wpAny_bind (wpAny_pure ?_) | skip
  refine wpAny_bind (wpAny_sequenceKey ht.typeIs (by decide) ?_)
  refine wpAny_bind (wpAny_callSpecial?_slot (name := Str.ofString "__getitem__") ht.typeIs PyProof.Rows.slot_tuple_getitem
    (wpAny_call_entry PyProof.Rows.slot_tuple_getitem ht.typeIs entry_tuple_getitem ?_ (args_tuple_getitem _ _)))
  show wpAny _ _ (Builtin.Tuple.tupleItemsOf (.ref t) >>= _) _ _ s
  refine wpAny_bind (tupleItemsOf_ ht ?_)
  refine wpAny_bind (wpAny_typeOf hTs ?_)
  rw [if_pos (by decide)]
  refine wpAny_bind (sliceApplied_rev hs pl pu ps ?_)
  have hno : ¬ ((((items.size : Int) - 1) == 0 && (-1 : Int) == 1 && items.size == items.size) = true) := by
    intro q
    rw [Bool.and_eq_true, Bool.and_eq_true] at q
    exact absurd (eq_of_beq q.1.2) (by decide)
  show wpAny _ _ (if (((items.size : Int) - 1) == 0 && (-1 : Int) == 1 && items.size == items.size) = true then _ else _) _ _ s
  rw [if_neg hno, pick_rev]
  first
    | exact wpAny_bind (m := Builtin.Tuple.tupleExact _) (wpAny_newObj_type (wpAny_pure ⟨_, rfl, wpAny_pure h⟩) htake)
    | exact wpAny_bind (m := Builtin.Tuple.tupleExact _) (wpAny_newObj_type (wpAny_bind (wpAny_pure (wpAny_pure ⟨_, rfl, wpAny_pure h⟩))) htake)
    | exact wpAny_bind (wpAny_bind (m := Builtin.Tuple.tupleExact _) (wpAny_newObj_type (wpAny_pure (wpAny_pure ⟨_, rfl, wpAny_pure h⟩)) htake))
    | exact wpAny_bind (wpAny_bind (m := Builtin.Tuple.tupleExact _) (wpAny_newObj_type (wpAny_pure ⟨_, rfl, wpAny_pure h⟩) htake))
end
section
variable {X : Cx}
def tRevA (K : PySem.W.Frag) (te : TE) : TE := fun σ H Q => te σ H fun x H1 => ∃ a xs, x = .ref a ∧ ((SqL K H1 a xs ∧ ∀ p, H1 p = none → Q (.ref p) (upd H1 p (.lst xs.reverse))) ∨ (SqT K H1 a xs ∧ ∀ p, H1 p = none → Q (.ref p) (upd H1 p (.tup xs.reverse))))
theorem pe_revA {e : Expr} {te : TE} {k : Nat} {p1 p2 p3 pos : Pos} (he : PE X e te) : PE X (.Subscript e (.Slice none none (some (.UnaryOp .USub (.Constant (.int 1) k p1) p2)) p3) pos) (tRevA X.K te) := by
  refine ⟨fun pins s σ H Q I h => ?_⟩
  refine Subscript_ (thn (he.run pins s σ H _ I h) fun v s1 ⟨x, H1, I1, r1, q1⟩ => ?_)
  obtain ⟨a, xs, ex, q⟩ := q1
  subst ex
  cases r1
  have hst : L2.PO X (some (.UnaryOp .USub (.Constant (.int 1) k p1) p2)) (tPart (tUn (rU fun i => .int (-i)) (tC (.int 1)))) := po_some (pe_un un_neg pe_int)
  refine wpAny_Slice (thn (po_none.run pins s1 σ H1 (fun o H2 => o = none ∧ H2 = H1) I1 ⟨rfl, rfl⟩) fun vl s2 ⟨l, H2, I2, pl, el, e2⟩ => ?_)
  subst el e2
  refine thn (po_none.run pins s2 σ H2 (fun o H3 => o = none ∧ H3 = H2) I2 ⟨rfl, rfl⟩) fun vu s3 ⟨u, H3, I3, pu, eu, e3⟩ => ?_
  subst eu e3
  refine thn (hst.run pins s3 σ H3 (fun o H4 => o = some (-1) ∧ H4 = H3) I3 ⟨1, rfl, -1, rfl, rfl, rfl⟩) fun vs s4 ⟨o, H4, I4, ps, eo, e4⟩ => ?_
  subst eo e4
  have I5 : Inv X pins σ H4 { s4 with heap := s4.heap.push { cls := .type "slice", data := .fields #[vl, vu, vs] } } := I4.kept (t' := s4.toks) fun b ob q => Heap.get?_push_of_some _ q
  show wpAny (model X.prog X.w) X.A (subscriptTail e (.Slice none none (some (.UnaryOp .USub (.Constant (.int 1) k p1) p2)) p3) (.ref a) (.ref s4.heap.objs.size)) (EP X pins σ Q) X.xe { s4 with heap := s4.heap.push { cls := .type "slice", data := .fields #[vl, vu, vs] } }
  rcases q with ⟨hx, q⟩ | ⟨hx, q⟩
  · obtain ⟨its, r, ht, hz⟩ := I5.list hx
    have hlen := r.length
    refine tail_any (ops := [.ref a, .ref s4.heap.objs.size]) ht.isList.typeIs (PySem.slot_list_getitem.lookup) ?_ (by with_unfolding_all rfl)
    refine wpAny_getItem_list_slice ht.isList (Heap.IsSliceOf.new _ vl vu vs) pl pu ps (by decide) ?_ (by rw [List.size_toArray]; omega)
    rw [PySem.W.krv_pick]
    refine ⟨.ref _, _, I5.laid (t' := s4.toks) (o := .lst xs.reverse) (fun b ob q => Heap.get?_push_of_some _ q) (Nat.le_refl _) ?_, rfl, q _ (I5.hok.fresh (Nat.le_refl _))⟩
    exact ⟨by rw [List.length_reverse]; exact hz, _, 0, r.reverse, Heap.get?_push_size _ rfl⟩
  · obtain ⟨its, r, ht, hz⟩ := I5.tuple hx
    have hlen := r.length
    refine tail_any (ops := [.ref a, .ref s4.heap.objs.size]) ht.typeIs PyProof.Rows.slot_tuple_getitem.lookup ?_ (by with_unfolding_all rfl)
    refine getItem_tuple_rev ht (Heap.IsSliceOf.new _ vl vu vs) pl pu ps ?_ (by rw [List.size_toArray]; omega)
    refine ⟨.ref _, _, I5.laid (t' := s4.toks) (o := .tup xs.reverse) (fun b ob q => Heap.get?_push_of_some _ q) (Nat.le_refl _) ?_, rfl, q _ (I5.hok.fresh (Nat.le_refl _))⟩
    exact ⟨by rw [List.length_reverse]; exact hz, _, r.reverse, IsTup.new _ _⟩
theorem rev_rep {K : PySem.W.Frag} {H : Hp} {μ : List Addr} : ∀ {ds : List D} {vs : List V} {F : List Addr}, Reps K H μ ds vs F → ∃ L, Reps K H μ ds.reverse vs.reverse L ∧ ∀ a ∈ L, a ∈ F
  | _, _, _, .nil => ⟨[], .nil, fun _ h => h⟩
  | _, _, _, .cons r s => by
    obtain ⟨L, h1, h2⟩ := rev_rep s
    obtain ⟨L2, h3, h4⟩ := h1.append (.cons r .nil)
    refine ⟨L2, by simpa using h3, fun a ha => ?_⟩
    rcases h4 a ha with h | h
    · exact List.mem_append_right _ (h2 a h)
    · exact List.mem_append_left _ (by simpa using h)
end
end WT
end

section
set_option Elab.async false
set_option linter.all false
set_option maxRecDepth 100000
set_option autoImplicit false
/-! K5: which text an expression of E is (mE), what is known of its lists (pvE), the context. -/
namespace WT
open PySem PySem.Spec PyProof.Rows L2

/-- names of a def by slot; the defs and constants that are in reach, by name; for each def how many arguments stand ahead where the others are named, whether its answer is a new list -/
structure MC where
  N : List Str
  fns : List (Str × List Str)
  cons : List Str
  kw : Nat → List (Nat × List Str × List Nat)
  rn : Nat → Bool
  ow : Nat → Bool
  mth : List Bi
  cls : List Str
  base : Str
def visB (sc : Scope) (x : Str) : Bool := match sc.names.lookup x with | some .local => true | some .cell => true | some .free => true | _ => false
def locB (sc : Scope) (x : Str) : Bool := match sc.names.lookup x with | some .local => true | some .cell => true | _ => false
def glB (sc : Scope) (x : Str) : Bool := match sc.names.lookup x with | some .globalImplicit => true | _ => false
def plB (x : Str) : Bool := !(x == ("__debug__" : Str)) && !(x == ("__classdict__" : Str))
def plainX : Expr → Bool
  | .Starred _ _ => false
  | .Slice _ _ _ _ => false
  | _ => true
def Ty.sname (t : Ty) : Str := Str.ofString t.nm
/-- what an expression is where it is asked as a test -/
def tOk : E → Bool
  | .ife _ _ _ => false
  | .box _ => false
  | .not a => tOk a
  | .and a b => tOk a && tOk b
  | .or a b => tOk a && tOk b
  | _ => true
mutual
def mTg (m : MC) (sc : Scope) : Tg → Expr → Bool
  | .name i, .Name x _ => decide (m.N[i]? = some x) && locB sc x
  | .tup ts, .Tuple es _ _ => mTgs m sc ts es
  | _, _ => false
def mTgs (m : MC) (sc : Scope) : Tgs → List Expr → Bool
  | .nil, [] => true
  | .cons t ts, e :: es => mTg m sc t e && mTgs m sc ts es
  | _, _ => false
end
def ownOf (N : List Str) (scope : Scope) : List (Str × Nat) := scope.names.filterMap fun (n, k) => if k == .local || k == .cell then (N.findIdx? (· == n)).map fun i => (n, i) else none
def tysM : List Ty → List Expr → Scope → Bool
  | [], [], _ => true
  | t :: ts, .Name x _ :: es, sc => x == t.sname && glB sc x && tysM ts es sc
  | _, _, _ => false
def kwsM : List Keyword → List Str → Bool
  | [], [] => true
  | k :: ks, x :: xs => decide (k.arg = some x) && kwsM ks xs
  | _, _ => false
def kwNm (kws : List Keyword) : List Str := kws.filterMap (·.arg)
def kwVals : List Keyword → List Expr
  | [] => []
  | k :: ks => k.value :: kwVals ks
def mRev (f : Expr → Bool) (x : Expr) : Bool := match x with
  | .Subscript y (.Slice none none (some (.UnaryOp .USub (.Constant (.int j) _ _) _)) _) _ => decide (j = 1) && f y
  | _ => false
def rgNm (l : Bool) : Str := if l then "list" else "tuple"
def mRg1 (l : Bool) (sc : Scope) (f : Expr → Bool) (x : Expr) : Bool := match x with
  | .Call (.Name n _) [.Call (.Name r _) [y] [] _] [] _ => n == rgNm l && glB sc n && r == ("range" : Str) && glB sc r && f y
  | _ => false
def mRg2 (l : Bool) (sc : Scope) (f h : Expr → Bool) (x : Expr) : Bool := match x with
  | .Call (.Name n _) [.Call (.Name r _) [y, z] [] _] [] _ => n == rgNm l && glB sc n && r == ("range" : Str) && glB sc r && f y && h z
  | _ => false
def isNC : Expr → Bool
  | .Name _ _ => true
  | .Call (.Name _ _) (_ :: _) _ _ => true
  | _ => false
def mBits (f : Expr → Bool) (x : Expr) : Bool := match x with
  | .Call (.Attribute y n ap) [] [] cp => n == ("bit_length" : Str) && ap.endLine == cp.line && isNC y && f y
  | _ => false
def mLenSet (sc : Scope) (f : Expr → Bool) (x : Expr) : Bool := match x with
  | .Call (.Name n _) [.Call (.Name r _) [y] [] _] [] _ => n == ("len" : Str) && glB sc n && r == ("set" : Str) && glB sc r && f y
  | _ => false
def mOp1 (o : Op1) (sc : Scope) (f : Expr → Bool) (x : Expr) : Bool := match o with
  | .bits => mBits f x
  | .lenSet => mLenSet sc f x
mutual
def mE (m : MC) : E → Scope → Expr → Bool
  | .var i, sc, .Name x _ => decide (m.N[i]? = some x) && visB sc x && plB x
  | .int i, _, .Constant (.int j) _ _ => i == j
  | .bl i, _, .Constant (.bool j) _ _ => i == j
  | .non, _, .Constant .none _ _ => true
  | .str i, _, .Constant (.str j) _ _ => i == j
  | .glob c, sc, .Name x _ => decide (m.cons[c]? = some x) && glB sc x && plB x
  | .bin op a b, sc, .BinOp x op' y _ => decide (op = op') && mE m a sc x && mE m b sc y
  | .neg a, sc, .UnaryOp .USub x _ => mE m a sc x
  | .not a, sc, .UnaryOp .Not x _ => mE m a sc x
  | .cmp op a b, sc, .Compare x [op'] [y] _ => decide (op = op') && mE m a sc x && mE m b sc y && !behindInMarks op y
  | .cmp2 op op2 a b c, sc, .Compare x [op', op2'] [y, z] _ => decide (op = op') && decide (op2 = op2') && mE m a sc x && mE m b sc y && mE m c sc z && !behindInMarks op2 z
  | .and a b, sc, .BoolOp .And (x :: y :: r) pos => mE m a sc x && (match r with
    | [] => mE m b sc y
    | _ :: _ => mE m b sc (.BoolOp .And (y :: r) pos))
  | .or a b, sc, .BoolOp .Or (x :: y :: r) pos => mE m a sc x && (match r with
    | [] => mE m b sc y
    | _ :: _ => mE m b sc (.BoolOp .Or (y :: r) pos))
  | .ife c a b, sc, .IfExp z x y _ => mE m c sc z && tOk c && mE m a sc x && mE m b sc y
  | .tup es, sc, .Tuple xs _ _ => mEs m es sc xs
  | .lst es, sc, .List xs _ => mEs m es sc xs
  | .idx a i, sc, .Subscript x y _ => mE m a sc x && mE m i sc y
  | .slice a lo hi, sc, .Subscript x (.Slice l h none _) _ => mE m a sc x && mEo m lo sc l && mEo m hi sc h
  | .rev a, sc, x => mRev (fun y => mE m a sc y) x
  | .rg1 l b, sc, x => mRg1 l sc (fun y => mE m b sc y) x
  | .rg2 l a b, sc, x => mRg2 l sc (fun y => mE m a sc y) (fun y => mE m b sc y) x
  | .isi a ts false, sc, .Call (.Name f _) [x, .Name t _] [] _ => f == ("isinstance" : Str) && glB sc f && mE m a sc x && tysM ts [.Name t ⟨0, 0, 0, 0⟩] sc
  | .isi a ts true, sc, .Call (.Name f _) [x, .Tuple es _ _] [] _ => f == ("isinstance" : Str) && glB sc f && mE m a sc x && tysM ts es sc && decide (ts.length ≤ 100)
  | .bi f es, sc, .Call (.Name x _) (e :: r) [] _ => x == f.nm && glB sc x && mEs m es sc (e :: r) && (!f.math || decide (f ∈ m.mth))
  | .call f es kes ord, sc, .Call (.Name x _) xs kws _ => (match m.fns[f]? with
    | some (n, ps) => x == n && glB sc x && plB x && mEs m es sc xs && mEs m kes sc (kwVals kws) && kwsM kws (kwNm kws) && decide ((kws.isEmpty = true ∧ ord = []) ∨ (xs.length, kwNm kws, ord) ∈ m.kw f)
    | none => false)
  | .box e, sc, x => mE m e sc x && plainX x
  | .comp tg it hasIf cond elt, sc, .ListComp x [⟨t, i, ifs, n⟩] scope _ =>
      decide (n = 0) && blkC m.N sc scope (ownOf m.N scope) && ((ownOf m.N scope).all fun p => decide (p.2 ∈ tg.slots)) && (tg.slots.all fun k => decide (k ∈ (ownOf m.N scope).map (·.2))) && mTg m scope tg t && mIt m it sc i &&
        (match hasIf, ifs with
        | false, [] => true
        | true, [z] => mE m cond (relS scope sc) z && tOk cond
        | _, _ => false) && mE m elt (relS scope sc) x
  | .comp2 tg it tg1 it1 elt, sc, .ListComp x [⟨t, i, [], n⟩, ⟨t1, i1, [], n1⟩] scope _ =>
      decide (n = 0) && decide (n1 = 0) && blkC m.N sc scope (ownOf m.N scope) && ((ownOf m.N scope).all fun p => decide (p.2 ∈ tg.slots ++ tg1.slots)) && ((tg.slots ++ tg1.slots).all fun k => decide (k ∈ (ownOf m.N scope).map (·.2))) && mTg m scope tg t && mIt m it sc i && mTg m scope tg1 t1 && mIt m it1 (relS scope sc) i1 && mE m elt (relS scope sc) x
  | .dnew _, _, .Dict [] [] _ => true
  | .dgeto d k e, sc, .Call (.Attribute (.Name x p) f ap) [y, z] [] cp => f == ("get" : Str) && ap.endLine == cp.line && mE m d sc (.Name x p) && mE m k sc y && mE m e sc z
  | .midx l e, sc, .Call (.Attribute (.Name x p) f ap) [y] [] cp => f == ("index" : Str) && ap.endLine == cp.line && mE m l sc (.Name x p) && mE m e sc y
  | .op1 o a, sc, x => mOp1 o sc (fun y => mE m a sc y) x
  | .dead, _, x => plainX x
  | _, _, _ => false
def mEs (m : MC) : Es → Scope → List Expr → Bool
  | .nil, _, [] => true
  | .cons e es, sc, x :: xs => mE m e sc x && mEs m es sc xs
  | _, _, _ => false
def mEo (m : MC) : Eo → Scope → Option Expr → Bool
  | .no, _, none => true
  | .yes e, sc, some x => mE m e sc x
  | _, _, _ => false
def mIt (m : MC) : It → Scope → Expr → Bool
  | .seq e, sc, x => mE m e sc x && (match x with | .Set _ _ _ => false | _ => true)
  | .range1 a, sc, .Call (.Name f _) [x] [] _ => f == ("range" : Str) && glB sc f && mE m a sc x
  | .range2 a b, sc, .Call (.Name f _) [x, y] [] _ => f == ("range" : Str) && glB sc f && mE m a sc x && mE m b sc y
  | .range3 a b c, sc, .Call (.Name f _) [x, y, z] [] _ => f == ("range" : Str) && glB sc f && mE m a sc x && mE m b sc y && mE m c sc z
  | .enum a, sc, .Call (.Name f _) [x] [] _ => f == ("enumerate" : Str) && glB sc f && mE m a sc x
  | .zip a b, sc, .Call (.Name f _) [x, y] [] _ => f == ("zip" : Str) && glB sc f && mE m a sc x && mE m b sc y
  | _, _, _ => false
end
/-- enumerate, zip want a written pair as target -/
def itTg : It → Tg → Bool
  | .enum _, .tup _ => true
  | .zip _ _, .tup _ => true
  | .enum _, _ => false
  | .zip _ _, _ => false
  | _, _ => true

/-! ### what is known of a value's lists -/
def Pv.new1 (inn : List Nat) : Pv := ⟨true, [], inn⟩
def Pv.join (p q : Pv) : Pv := ⟨p.new && q.new, p.top ++ q.top, p.inn ++ q.inn⟩
mutual
def pvE (m : MC) : E → Option Pv
  | .var i => some (if m.ow i then ⟨false, [i], []⟩ else ⟨false, [], []⟩)
  | .int _ => some (.new1 [])
  | .bl _ => some (.new1 [])
  | .non => some (.new1 [])
  | .str _ => some (.new1 [])
  | .glob _ => some (.new1 [])
  | .bin _ a b => match pvE m a, pvE m b with | some p, some q => some (.new1 (p.inn ++ q.inn)) | _, _ => none
  | .neg a => (pvE m a).map fun _ => .new1 []
  | .not a => (pvE m a).map fun _ => .new1 []
  | .cmp _ a b => match pvE m a, pvE m b with | some p, some q => some (.new1 []) | _, _ => none
  | .cmp2 _ _ a b c => match pvE m a, pvE m b, pvE m c with | some p, some q, some r => some (.new1 []) | _, _, _ => none
  | .and a b => match pvE m a, pvE m b with | some p, some q => some (p.join q) | _, _ => none
  | .or a b => match pvE m a, pvE m b with | some p, some q => some (p.join q) | _, _ => none
  | .ife c a b => match pvE m c, pvE m a, pvE m b with | some _, some p, some q => some (p.join q) | _, _, _ => none
  | .tup es => (pvEs m es).map fun l => .new1 l
  | .lst es => (pvEs m es).map fun l => .new1 l
  | .idx a i => match pvE m a, pvE m i with | some p, some _ => some ⟨false, p.inn, p.inn⟩ | _, _ => none
  | .slice a lo hi => match pvE m a, pvEo m lo, pvEo m hi with | some p, true, true => some (.new1 p.inn) | _, _, _ => none
  | .isi a _ _ => (pvE m a).map fun _ => .new1 []
  | .rev a => (pvE m a).map fun p => .new1 p.inn
  | .rg1 _ b => (pvE m b).map fun _ => .new1 []
  | .rg2 _ a b => match pvE m a, pvE m b with | some _, some _ => some (.new1 []) | _, _ => none
  | .bi _ es => (pvEs m es).map fun l => .new1 l
  | .call f es kes _ => match pvEs m es, pvEs m kes with | some l, some l' => some ⟨m.rn f, l ++ l', l ++ l'⟩ | _, _ => none
  | .box e => match pvE m e with | some p => if p.new then some (.new1 []) else none | none => none
  | .comp tg it hasIf cond elt => match pvIt m it, pvE m cond, pvE m elt with
    | some l, some _, some p => if l.isEmpty && (tg.slots.all fun i => !m.ow i) && itTg it tg then some (.new1 (p.top ++ p.inn)) else none
    | _, _, _ => none
  | .comp2 tg it tg1 it1 elt => match pvIt m it, pvIt m it1, pvE m elt with
    | some l, some l1, some p => if l.isEmpty && l1.isEmpty && (tg.slots.all fun i => !m.ow i) && (tg1.slots.all fun i => !m.ow i) && itTg it tg && itTg it1 tg1 then some (.new1 (p.top ++ p.inn)) else none
    | _, _, _ => none
  | .dnew _ => some (.new1 [])
  | .dgeto d k e => match pvE m d, pvE m k, pvE m e with | some _, some _, some _ => some (.new1 []) | _, _, _ => none
  | .midx l e => match pvE m l, pvE m e with | some _, some _ => some (.new1 []) | _, _ => none
  | .op1 _ a => (pvE m a).map fun _ => .new1 []
  | .dead => some (.new1 [])
def pvEs (m : MC) : Es → Option (List Nat)
  | .nil => some []
  | .cons e es => match pvE m e, pvEs m es with | some p, some l => some (p.top ++ p.inn ++ l) | _, _ => none
def pvEo (m : MC) : Eo → Bool
  | .no => true
  | .yes e => (pvE m e).isSome
/-- .. of what is walked: its items -/
def pvIt (m : MC) : It → Option (List Nat)
  | .seq e => (pvE m e).map (·.inn)
  | .range1 a => (pvE m a).map fun _ => []
  | .range2 a b => match pvE m a, pvE m b with | some _, some _ => some [] | _, _ => none
  | .range3 a b c => match pvE m a, pvE m b, pvE m c with | some _, some _, some _ => some [] | _, _, _ => none
  | .enum a => (pvE m a).map (·.inn)
  | .zip a b => match pvE m a, pvE m b with | some p, some q => some (p.inn ++ q.inn) | _, _ => none
end

/-! ### a def's promise, the context -/
def spF (K : PySem.W.Frag) (CA : Str → Option Addr) (rn : Bool) (sem : List D → Sto → R D) (n : Nat) : Sp := fun vs H Q E => ∃ (ds : List D) (st : Sto) (μ F : List Addr) (A : Addr → Prop), ds.length = n ∧ Reps K H μ ds vs F ∧ BoxOk K H μ st ∧ μ.length = st.length ∧ μ.Nodup ∧
  (∀ a ∈ F, a ∉ μ ∧ A a) ∧ Fin (fun d st' => ∀ v H' μ' t F', Step μ H μ' H' → BoxOk K H' μ' st' → μ'.length = st'.length → μ'.Nodup → Rep K H' μ' d v t F' → (∀ a ∈ t ++ F', a ∉ μ' ∧ (H a = none ∨ A a)) → (rn = true → ∀ a ∈ t, H a = none ∧ a ∉ F') → Q v H')
    (fun x d st' => ∀ cls dd H' μ', Step μ H μ' H' → BoxOk K H' μ' st' → μ'.length = st'.length → μ'.Nodup → XR CA K H' μ' (fun a => H a = none ∨ A a) x d cls dd → E cls dd H') (sem ds st)
/-- how the arguments are bound: all in a row, or some behind by their names -/
def KBd (K : PySem.W.Frag) (fd : FuncData) (ps : List Str) (kw : List (Nat × List Str × List Nat)) : Prop :=
  ∀ (s : Shared) (us ws : List Value), K.In s.heap → (us.length = ps.length → BindsTo s fd ⟨us, []⟩ (ps.zip us)) ∧ ∀ q ∈ kw, us.length = q.1 → ws.length = q.2.1.length → BindsTo s fd ⟨us, q.2.1.zip ws⟩ (ps.zip (us ++ permL q.2.2 ws))
/-- the error that is made: its value is stored -/
def spI (K : PySem.W.Frag) : Sp := fun vs H Q _ => ∃ (a C : Addr) (v : V), vs = [.ref a, v] ∧ OexC K C ∧ PySem.W.findIn K (.ref C) "value" = some none ∧ H a = some (exo a C none) ∧ ∀ dx, H dx = none → dx ≠ a → Q .non (upd (upd H dx (exd dx [("value", v)])) a (exo a C (some dx)))
/-- a class of errors that can be raised -/
def ClsOk (P : Program) (w : World) (K : PySem.W.Frag) (mg : Str → Option Value) (base : Heap) (CA : Str → Option Addr) (x : Str) : Prop := ∃ (C fI : Addr) (fd : FuncData), CA x = some C ∧ mg x = some (.ref C) ∧ OexC K C ∧ PySem.W.findIn K (.ref C) "value" = some none ∧
  PySem.W.findIn K (.ref C) "__init__" = some (some (.ref fI)) ∧ PySem.W.typeIn K (.ref fI) = some (.type "function") ∧ FnOk P w K mg base (L2.CX P w) 1 fI fd ["self", "value"] (spI K) ∧ Binds K fd ["self", "value"] []
/-- .. and caught -/
structure ExmOk (K : PySem.W.Frag) (CA : Str → Option Addr) (root : Str) : Prop where
  exm : ∀ (x y : Str) (C C' : Addr), CA x = some C → CA y = some C' → PySem.W.exmOne K (.ref C) (.ref C') = some (y == root || y == x)
  xf : ∀ (x : Str) (C : Addr), CA x = some C → XfC K C ∧ PySem.W.findIn K (.ref C) "value" = some none
def freeNames : List Str := ["set", "len", "int", "sum", "all", "any", "max", "min", "tuple", "list", "abs", "sorted", "isinstance", "bool", "str", "dict", "range", "enumerate", "zip"]
structure XOk (m : MC) (c : Cfg) (k : Nat) (sc : Scope) (X : Cx) : Prop where
  hN : X.N = m.N
  nd : m.N.Nodup
  sc : X.env.scope = sc
  ow : c.ow = m.ow
  calm : X.calm = true
  room : Room k X.A
  tk : Takes X c.W
  fns : ∀ (i : Nat) (n : Str) (ps : List Str), m.fns[i]? = some (n, ps) → ∃ fi f fd, c.g.fns[i]? = some fi ∧ fi.ps = ps ∧ X.mg n = some (.ref f) ∧ PySem.W.keepIn X.K (.ref f) = true ∧
    FnOk X.prog X.w X.K X.mg X.base (L2.CX X.prog X.w) k f fd ps (spF X.K c.CA (m.rn i) fi.sem ps.length) ∧ KBd X.K fd ps (m.kw i)
  cons : ∀ (i : Nat) (x : Str), m.cons[i]? = some x → ∃ d v u, c.g.cons[i]? = some (x, d) ∧ X.mg x = some u ∧ RelV v u ∧ ∀ H μ, Rep X.K H μ d v [] []
  free : ∀ x ∈ freeNames, X.mg x = none
  mth : ∀ f ∈ m.mth, X.mg f.nm = some f.vl
  cls : ∀ y ∈ m.cls, 2 ≤ k ∧ ClsOk X.prog X.w X.K X.mg X.base c.CA y
  exm : ExmOk X.K c.CA m.base

section
variable {m : MC} {c : Cfg} {k : Nat} {sc : Scope} {X : Cx}
theorem XOk.vis (x : XOk m c k sc X) {y : Str} (h : visB sc y = true) : Vis X.env.scope y := by
  rw [x.sc]
  unfold visB at h
  split at h
  · exact .inl (by assumption)
  · exact .inr (.inl (by assumption))
  · exact .inr (.inr (by assumption))
  · cases h
theorem XOk.loc (x : XOk m c k sc X) {y : Str} (h : locB sc y = true) : Loc X.env.scope y := by
  rw [x.sc]
  unfold locB at h
  split at h
  · exact .inl (by assumption)
  · exact .inr (by assumption)
  · cases h
theorem XOk.gl (x : XOk m c k sc X) {y : Str} (h : glB sc y = true) : Gl X y := by
  show X.env.scope.names.lookup y = _
  rw [x.sc]
  unfold glB at h
  split at h
  · assumption
  · cases h
theorem plB_ok {y : Str} (h : plB y = true) : (y == ("__debug__" : Str)) = false ∧ (y == ("__classdict__" : Str)) = false := by
  unfold plB at h
  rw [Bool.and_eq_true, Bool.not_eq_true', Bool.not_eq_true'] at h
  exact h
theorem star_of {x : Expr} (h : plainX x = true) (es : List Expr) (env : PySem.Env) : starEach (x :: es) env = (false, eval x env) :: starEach es env := by
  cases x <;> first | rfl | (cases h; done)
theorem ix_of {x : Expr} (h : plainX x = true) : PlainIx x := by
  intro o i
  cases x <;> first | rfl | (cases h; done)
theorem mE_plain : ∀ {e : E} {x : Expr}, mE m e sc x = true → plainX x = true := by
  intro e x h
  cases x <;> first | rfl | skip
  · cases e <;> first | (simp [mE, mRev, mRg1, mRg2, plainX] at h; done) | skip
    rename_i o a
    cases o <;> simp [mE, mOp1, mBits, mLenSet] at h
  · cases e <;> first | (simp [mE, mRev, mRg1, mRg2, plainX] at h; done) | skip
    rename_i o a
    cases o <;> simp [mE, mOp1, mBits, mLenSet] at h
theorem mEs_star : ∀ {es : Es} {xs : List Expr}, mEs m es sc xs = true → ∀ (env : PySem.Env) (pos : Pos), (backTo pos (starEach xs env)).any (·.1) = false
  | .nil, [], _, _, _ => rfl
  | .cons e es, x :: xs, h, env, pos => by
    rw [mEs, Bool.and_eq_true] at h
    rw [star_of (mE_plain h.1)]
    show (false || (backTo pos (starEach xs env)).any (·.1)) = false
    rw [mEs_star h.2 env pos] <;> rfl
  | .nil, _ :: _, h, _, _ => by simp [mEs] at h
  | .cons _ _, [], h, _, _ => by simp [mEs] at h
end
end WT
end

section
set_option Elab.async false
set_option linter.all false
set_option maxRecDepth 100000
set_option autoImplicit false
/-! K6: an expression does what it is evaluated to. -/
namespace WT
open PySem PySem.Spec PyProof.Rows L2

def Snd (m : MC) (g : GE) (k : Nat) (e : E) (p : Pv) : Prop := ∀ (c : Cfg) (sc : Scope) (X : Cx) (x : Expr), c.g = g → XOk m c k sc X → mE m e sc x = true → PE X x (TEv c X.K p (evE g e))
def SndT (m : MC) (g : GE) (k : Nat) (e : E) : Prop := ∀ (c : Cfg) (sc : Scope) (X : Cx) (x : Expr), c.g = g → XOk m c k sc X → mE m e sc x = true → tOk e = true → PT X x (TTv c X.K (evC g e))
def SndA (m : MC) (g : GE) (k : Nat) (es : Es) (l : List Nat) : Prop := ∀ (c : Cfg) (sc : Scope) (X : Cx) (xs : List Expr), c.g = g → XOk m c k sc X → mEs m es sc xs = true →
  PA X xs (TAv c X.K l (evEs g es)) ∧ ∀ kws : List Keyword, kwVals kws = xs → PK X kws (TAv c X.K l (evEs g es))

section
variable {c : Cfg} {K : PySem.W.Frag} {p q : Pv} {env : Env} {st st2 : Sto} {μ μ2 : List Addr} {G : Addr → Option Nat} {σ : St} {H H2 : Hp} {Q : VK} {d : D} {ii : List Nat}
theorem okE.out (h : okE c K (.new1 ii) env μ G σ H Q d st2) (I2 : SI K c.ow c.Ok env st2 μ2 G σ H2) (S2 : Step μ H μ2 H2) {B : Addr → Prop} (hB : ∀ a, B a → (G a = none ∨ ∃ i ∈ ii, G a = some i) ∧ a ∉ μ2 ∧ c.Ok a) : Out K H2 μ2 d B Q := by
  intro v H' t F n r tn fb
  have I3 : SI K c.ow c.Ok env st2 μ2 G σ H' := by
    rcases n with rfl | ⟨p, o, hp, rfl⟩
    · exact I2
    · exact I2.new hp
  have S3 : Step μ2 H2 μ2 H' := by
    rcases n with rfl | ⟨p, o, hp, rfl⟩
    · exact .refl
    · exact .new hp
  refine h v H' μ2 t F I3 (S2.trans S3) r ⟨fun a ha => ?_, fun a ha => (hB a (fb a ha)).1, fun a ha => ?_⟩
  · rw [if_pos (show (Pv.new1 ii).new = true from rfl)]
    exact ⟨S2.wasNone (tn a ha).1, (tn a ha).2⟩
  · rcases List.mem_append.mp ha with ha | ha
    · exact ⟨fun hm => (I2.gmu a hm).2 (tn a ha).1, I2.okn a (tn a ha).1⟩
    · exact (hB a (fb a ha)).2
theorem PO.nil : PO p G H μ c.Ok [] [] := ⟨fun _ h => by simp at h, fun _ h => by simp at h, fun _ h => by simp at h⟩
theorem okE.flat (h : okE c K p env μ G σ H Q d st2) (I2 : SI K c.ow c.Ok env st2 μ2 G σ H2) (S2 : Step μ H μ2 H2) {v : V} (r : Rep K H2 μ2 d v [] []) : Q v H2 := h v H2 μ2 [] [] I2 S2 r .nil
theorem Held.innr {G' : Addr → Option Nat} {v : V} {t F : List Addr} {H0 : Hp} (h : Held K c G p H0 d v t F μ H) : ∀ a ∈ F, (G a = none ∨ ∃ i ∈ p.inn, G a = some i) ∧ a ∉ μ ∧ c.Ok a := fun a ha => ⟨h.po.inn a ha, h.po.out a (List.mem_append_right _ ha)⟩
/-- the first of two: hand on its value, held -/
theorem TEv.fst {s : Env → Sto → R D} {f : D → Sto → R D} {R' : VK} (I : SI K c.ow c.Ok env st μ G σ H) (h : Fin (okE c K q env μ G σ H Q) (exE c K env μ G σ H) ((s env st).bind f))
    (k : ∀ x st1 v H1 μ1 t F, SI K c.ow c.Ok env st1 μ1 G σ H1 → Step μ H μ1 H1 → Held K c G p H x v t F μ1 H1 → Fin (okE c K q env μ G σ H Q) (exE c K env μ G σ H) (f x st1) → R' v H1) : TEv c K p s σ H R' := by
  rw [Fin.bind] at h
  exact ⟨env, st, μ, G, I, h.mono (fun x st1 _ hx v H1 μ1 t F I1 S1 r po => k x st1 v H1 μ1 t F I1 S1 ⟨r, po⟩ hx) fun _ _ _ hx => hx⟩
/-- a further one, from a later state -/
theorem TEv.nxt {s : Env → Sto → R D} {f : D → Sto → R D} {R' : VK} {μ1 : List Addr} {H1 : Hp} {st1 : Sto} (S1 : Step μ H μ1 H1) (I : SI K c.ow c.Ok env st1 μ1 G σ H1) (h : Fin (okE c K q env μ G σ H Q) (exE c K env μ G σ H) ((s env st1).bind f))
    (k : ∀ x st2 v H2 μ2 t F, SI K c.ow c.Ok env st2 μ2 G σ H2 → Step μ1 H1 μ2 H2 → Held K c G p H x v t F μ2 H2 → Fin (okE c K q env μ G σ H Q) (exE c K env μ G σ H) (f x st2) → R' v H2) : TEv c K p s σ H1 R' := by
  rw [Fin.bind] at h
  exact ⟨env, st1, μ1, G, I, h.mono (fun x st1 _ hx v H1 μ1 t F I1 S2 r po => k x st1 v H1 μ1 t F I1 S2 ⟨r, po.back S1⟩ hx) fun _ _ _ hx => hx.step S1⟩
/-- the last one, whose result is the whole's -/
theorem TEv.lst {s : Env → Sto → R D} {μ1 : List Addr} {H1 : Hp} {st1 : Sto} (S1 : Step μ H μ1 H1) (I : SI K c.ow c.Ok env st1 μ1 G σ H1) (h : Fin (okE c K q env μ G σ H Q) (exE c K env μ G σ H) (s env st1)) : TEv c K q s σ H1 Q :=
  ⟨env, st1, μ1, G, I, h.mono (fun x st2 _ hx v H2 μ2 t F I2 S2 r po => hx v H2 μ2 t F I2 (S1.trans S2) r (po.back S1)) fun _ _ _ hx => hx.step S1⟩
/-- a weaker knowledge -/
theorem PO.weak {t F : List Addr} (h : PO p G H μ c.Ok t F) (gd : ∀ a, G a ≠ none → H a ≠ none) (h1 : q.new = true → p.new = true) (h2 : ∀ i ∈ p.top, i ∈ q.top) (h3 : ∀ i ∈ p.inn, i ∈ q.inn) : PO q G H μ c.Ok t F := by
  refine ⟨fun a ha => ?_, fun a ha => (h.inn a ha).imp id fun ⟨i, hi, e⟩ => ⟨i, h3 i hi, e⟩, h.out⟩
  have z := h.top a ha
  by_cases hq : q.new = true
  · rw [if_pos hq]
    rw [if_pos (h1 hq)] at z
    exact z
  · rw [if_neg hq]
    split at z
    · refine .inl ?_
      cases e : G a with
      | none => rfl
      | some i => exact absurd z.1 (gd a (by rw [e]; simp))
    · exact z.imp id fun ⟨i, hi, e⟩ => ⟨i, h2 i hi, e⟩
theorem TEv.weak {s : Env → Sto → R D} (h1 : q.new = true → p.new = true) (h2 : ∀ i ∈ p.top, i ∈ q.top) (h3 : ∀ i ∈ p.inn, i ∈ q.inn) (h : TEv c K q s σ H Q) : TEv c K p s σ H Q := by
  obtain ⟨env, st, μ, G, I, h⟩ := h
  exact ⟨env, st, μ, G, I, h.mono (fun x st1 _ hx v H1 μ1 t F I1 S1 r po => hx v H1 μ1 t F I1 S1 r (po.weak I.gdom h1 h2 h3)) fun _ _ _ hx => hx⟩
end

section
variable {m : MC} {g : GE} {k : Nat} {a b e : E} {p q r : Pv}
theorem snd_var {i : Nat} : Snd m g k (.var i) (if m.ow i then ⟨false, [i], []⟩ else ⟨false, [], []⟩) := by
  intro c sc X x hg ok h
  cases x with
  | Name y pos =>
    simp only [mE, Bool.and_eq_true, decide_eq_true_eq] at h
    obtain ⟨⟨h1, h2⟩, h3⟩ := h
    obtain ⟨d1, d2⟩ := plB_ok h3
    refine (pe_var (by rw [ok.hN]; exact h1) (ok.vis h2) d1 d2).mono fun σ H Q hq => ?_
    obtain ⟨env, st, μ, G, I, hq⟩ := hq
    obtain ⟨d, e1, hq⟩ := Fin.ofO hq
    obtain ⟨v, t, F, e2, r, g1, g2, g3⟩ := I.slot i d e1
    rw [ok.ow] at g1
    refine ⟨v, e2, hq v H μ t F I .refl r ⟨fun a ha => ?_, fun a ha => .inl (g2 a ha), g3⟩⟩
    have z := g1 a ha
    cases ho : m.ow i with
    | true =>
      rw [ho] at z
      simp only [ite_true, Bool.false_eq_true, ite_false]
      exact .inr ⟨i, by simp, by simpa using z⟩
    | false =>
      rw [ho] at z
      simp only [Bool.false_eq_true, ite_false] at z ⊢
      exact .inl z
  | _ => simp [mE] at h
theorem snd_int {i : Int} : Snd m g k (.int i) (.new1 []) := by
  intro c sc X x hg ok h
  cases x with
  | Constant y j pos =>
    cases y with
    | int y =>
      simp only [mE, beq_iff_eq] at h
      subst h
      exact pe_int.mono fun σ H Q ⟨env, st, μ, G, I, hq⟩ => okE.flat (p := .new1 []) hq I .refl (.int _)
    | _ => simp [mE] at h
  | _ => simp [mE] at h
theorem snd_bl {i : Bool} : Snd m g k (.bl i) (.new1 []) := by
  intro c sc X x hg ok h
  cases x with
  | Constant y j pos =>
    cases y with
    | bool y =>
      simp only [mE, beq_iff_eq] at h
      subst h
      exact pe_bl.mono fun σ H Q ⟨env, st, μ, G, I, hq⟩ => okE.flat (p := .new1 []) hq I .refl (.bl _)
    | _ => simp [mE] at h
  | _ => simp [mE] at h
theorem snd_non : Snd m g k .non (.new1 []) := by
  intro c sc X x hg ok h
  cases x with
  | Constant y j pos =>
    cases y with
    | none => exact pe_non.mono fun σ H Q ⟨env, st, μ, G, I, hq⟩ => okE.flat (p := .new1 []) hq I .refl .non
    | _ => simp [mE] at h
  | _ => simp [mE] at h
theorem snd_str {i : Str} : Snd m g k (.str i) (.new1 []) := by
  intro c sc X x hg ok h
  cases x with
  | Constant y j pos =>
    cases y with
    | str y =>
      simp only [mE, beq_iff_eq] at h
      subst h
      exact pe_str.mono fun σ H Q ⟨env, st, μ, G, I, hq⟩ => okE.flat (p := .new1 []) hq I .refl (.str _)
    | _ => simp [mE] at h
  | _ => simp [mE] at h
theorem snd_glob {i : Nat} : Snd m g k (.glob i) (.new1 []) := by
  intro c sc X x hg ok h
  cases x with
  | Name y pos =>
    simp only [mE, Bool.and_eq_true, decide_eq_true_eq] at h
    obtain ⟨⟨h1, h2⟩, h3⟩ := h
    obtain ⟨d, v, u, e1, e2, r, rp⟩ := ok.cons i y h1
    refine (pe_glob (ok.gl h2) e2 r (plB_ok h3).1).mono fun σ H Q ⟨env, st, μ, G, I, hq⟩ => ?_
    subst hg
    rw [evE, e1] at hq
    exact okE.flat (p := .new1 []) hq I .refl (rp H μ)
  | _ => simp [mE] at h
theorem snd_bin {op : Operator} (ha : Snd m g k a p) (hb : Snd m g k b q) : Snd m g k (.bin op a b) (.new1 (p.inn ++ q.inn)) := by
  intro c sc X x hg ok h
  cases x with
  | BinOp x op' y pos =>
    simp only [mE, Bool.and_eq_true, decide_eq_true_eq] at h
    obtain ⟨⟨rfl, h1⟩, h2⟩ := h
    refine (pe_op (op_bin_v op) (ha c sc X x hg ok h1) (hb c sc X y hg ok h2)).mono fun σ H Q ⟨env, st, μ, G, I, hq⟩ => ?_
    rw [evE] at hq
    refine TEv.fst I hq fun x1 st1 v1 H1 μ1 t1 F1 I1 S1 r1 hq => ?_
    refine TEv.nxt S1 I1 hq fun x2 st2 v2 H2 μ2 t2 F2 I2 S2 r2 hq => ?_
    obtain ⟨z, e1, hq⟩ := Fin.ofO hq
    have r1 := r1.step S2
    exact ⟨_, _, _, _, _, _, _, _, r1.rep, r2.rep, e1, hq.out I2 (S1.trans S2) fun a ha => by
      rcases ha with ha | ha
      · obtain ⟨z1, z2⟩ := r1.innr (G' := G) a ha
        exact ⟨z1.imp id fun ⟨i, hi, e⟩ => ⟨i, List.mem_append_left _ hi, e⟩, z2⟩
      · obtain ⟨z1, z2⟩ := r2.innr (G' := G) a ha
        exact ⟨z1.imp id fun ⟨i, hi, e⟩ => ⟨i, List.mem_append_right _ hi, e⟩, z2⟩⟩
  | _ => simp [mE] at h
end
end WT
end

section
set_option Elab.async false
set_option linter.all false
set_option maxRecDepth 100000
set_option autoImplicit false
/-! K7: further expressions; tests; calls. -/
namespace WT
open PySem PySem.Spec PyProof.Rows L2

/-! ### a call with positional and named arguments -/
theorem kws_all {x : Str} : ∀ {kws : List Keyword} {xs : List Str} (pos : Pos) (env : PySem.Env), kwsM kws xs = true →
    (backToKw pos (keywordEach kws env)).all (·.1.isSome) = true ∧ (backToKw pos (keywordEach kws env)).any (·.1.isNone) = false ∧ (backToKw pos (keywordEach kws env)).filterMap (·.1) = xs
  | [], [], _, _, _ => ⟨rfl, rfl, rfl⟩
  | [], _ :: _, _, _, h => by simp [kwsM] at h
  | _ :: _, [], _, _, h => by simp [kwsM] at h
  | ⟨n, v, p⟩ :: ks, x :: xs, pos, env, h => by
    rw [kwsM, Bool.and_eq_true, decide_eq_true_eq] at h
    obtain ⟨h1, h2⟩ := h
    obtain ⟨e1, e2, e3⟩ := kws_all (x := x) pos env h2
    simp only at h1
    subst h1
    refine ⟨?_, ?_, ?_⟩
    · show (true && (backToKw pos (keywordEach ks env)).all (·.1.isSome)) = true
      rw [e1] <;> rfl
    · show (false || (backToKw pos (keywordEach ks env)).any (·.1.isNone)) = false
      rw [e2] <;> rfl
    · show x :: (backToKw pos (keywordEach ks env)).filterMap (·.1) = x :: xs
      rw [e3]
theorem Vals.perm {vs : List V} {us : List Value} (r : L2.Vals vs us) : ∀ ord : List Nat, L2.Vals (permL ord vs) (permL ord us)
  | [] => .nil
  | i :: ord => by
    have ih := Vals.perm r ord
    unfold permL at ih ⊢
    rw [List.filterMap_cons, List.filterMap_cons]
    have hl := r.length
    cases e : vs[i]? with
    | none =>
      have : us[i]? = none := List.getElem?_eq_none (by rw [← hl]; exact List.getElem?_eq_none_iff.mp e)
      rw [this]
      exact ih
    | some v =>
      obtain ⟨u, e2, rv⟩ := r.get e
      rw [e2]
      exact .cons rv ih
theorem Reps.perm {K : PySem.W.Frag} {H : Hp} {μ : List Addr} {ds : List D} {vs : List V} {F : List Addr} (r : Reps K H μ ds vs F) : ∀ ord : List Nat, ∃ L, Reps K H μ (permL ord ds) (permL ord vs) L ∧ ∀ a ∈ L, a ∈ F
  | [] => ⟨[], .nil, fun _ h => by simp at h⟩
  | i :: ord => by
    obtain ⟨L, r1, h1⟩ := Reps.perm r ord
    unfold permL at r1 ⊢
    rw [List.filterMap_cons, List.filterMap_cons]
    cases e : ds[i]? with
    | none =>
      have : vs[i]? = none := List.getElem?_eq_none (by rw [← r.length]; exact List.getElem?_eq_none_iff.mp e)
      rw [this]
      exact ⟨L, r1, h1⟩
    | some d =>
      obtain ⟨v, t, G, e2, rd, hs⟩ := r.get e
      rw [e2]
      refine ⟨_, .cons rd r1, fun a ha => ?_⟩
      rcases List.mem_append.mp ha with ha | ha
      · exact hs a ha
      · exact h1 a ha
theorem call_bound {X : Cx} {CX : CXT} {k n : Nat} {f : Addr} {fd : FuncData} {ps ks : List Str} {ord : List Nat} {kw : List (Nat × List Str × List Nat)} {sp : Sp} {E : St → XK} {σ : St} {pins : List (Addr × Obj)} {Q : VK} {us ws : List Value} {vs zs : List V} {s2 : Shared} {H2 : Hp}
    (F : FnOk X.prog X.w X.K X.mg X.base CX k f fd ps sp) (hr : Room k X.A) (hb : KBd X.K fd ps kw) (hx : ∀ σ, PassesAt CX X σ (E σ)) (I2 : L2.Inv X pins σ H2 s2) (r1 : L2.Vals vs us) (r2 : L2.Vals zs ws) (l1 : vs.length = n) (l0 : zs.length = ks.length) (l2 : vs.length + (permL ord zs).length = ps.length) (l3 : (ks = [] ∧ ord = []) ∨ (n, ks, ord) ∈ kw) (hs : sp (vs ++ permL ord zs) H2 Q (E σ)) :
    wpAny (model X.prog X.w) X.A (call (.ref f) us (ks.zip ws)) (EP X pins σ Q) X.xe s2 := by
  have z1 : us.length = n := by rw [← r1.length]; exact l1
  have z3 : ws.length = ks.length := by rw [← r2.length]; exact l0
  have hbi : BindsTo s2 fd ⟨us, ks.zip ws⟩ (ps.zip (us ++ permL ord ws)) := by
    rcases l3 with ⟨rfl, rfl⟩ | l3
    · have e : permL ([] : List Nat) ws = [] := rfl
      have e2 : permL ([] : List Nat) zs = [] := rfl
      rw [e, List.append_nil]
      rw [e2, List.length_nil, Nat.add_zero] at l2
      exact (hb s2 us ws I2.kIn).1 (by rw [← r1.length]; exact l2)
    · exact (hb s2 us ws I2.kIn).2 _ l3 z1 z3
  refine wpAny_call (codeAny_mono (F.run X.A X.stack s2 H2 ⟨us, ks.zip ws⟩ (us ++ permL ord ws) (vs ++ permL ord zs) Q (E σ) hr I2.env0 hbi (r1.append (Vals.perm r2 ord)) hs) fun r s' hq => ?_)
  cases r with
  | error e => exact hx σ pins H2 s2 e s' I2 hq
  | ok fl =>
    cases fl with
    | ret u => exact I2.after hq
    | next => exact False.elim hq
    | brk => exact False.elim hq
    | cont => exact False.elim hq
section
variable {X : Cx} {CX : CXT} {k : Nat} {f : Addr} {fd : FuncData} {ps ks : List Str} {ord : List Nat} {kw : List (Nat × List Str × List Nat)} {sp : Sp} {E : St → XK} {x : Str} {p pos : Pos} {e : Expr} {es : List Expr} {kws : List Keyword} {t tk : TA}
theorem pe_callA (F : FnOk X.prog X.w X.K X.mg X.base CX k f fd ps sp) (hr : Room k X.A) (hg : Gl X x) (hm : X.mg x = some (.ref f)) (hk : PySem.W.keepIn X.K (.ref f) = true) (hb : KBd X.K fd ps kw) (hx : ∀ σ, PassesAt CX X σ (E σ))
    (ha : PA X (e :: es) t) (hkw : PK X kws tk) (hst : ∀ pos, (backTo pos (starEach (e :: es) X.env)).any (·.1) = false) (h1 : starEach (e :: es) X.env = (false, eval e X.env) :: starEach es X.env)
    (hkn : kwsM kws ks = true) (hdb : (x == ("__debug__" : Str)) = false) :
    PE X (.Call (.Name x p) (e :: es) kws pos) (fun σ H Q => t σ H fun vs H1 => tk σ H1 fun zs H2 => vs.length = (e :: es).length ∧ zs.length = ks.length ∧ vs.length + (permL ord zs).length = ps.length ∧ ((ks = [] ∧ ord = []) ∨ ((e :: es).length, ks, ord) ∈ kw) ∧ sp (vs ++ permL ord zs) H2 Q (E σ)) := by
  refine ⟨fun pins s σ H Q I h => ?_⟩
  obtain ⟨e1, e2, e3⟩ := kws_all (x := x) pos X.env hkn
  refine wpAny_Call_Name_kw (ld_glob I hg hm ?_ hdb)
  refine PySem.W.callWith_KW (h₀ := X.base) I.ok.mod.kin hk e1 (thn (ha.run pos pins s σ H _ I h) fun us s1 ⟨vs, H1, I1, r1, q⟩ => ?_) (by rw [hst pos, e2] <;> rfl) h1
  refine thn (hkw.run pos pins s1 σ H1 _ I1 q) fun ws s2 ⟨zs, H2, I2, rz, l1, l0, l2, l3, q2⟩ => ⟨I2.kIn, ?_⟩
  rw [e3]
  exact call_bound F hr hb hx I2 r1 rz l1 l0 l2 l3 q2
theorem pe_callA0 (F : FnOk X.prog X.w X.K X.mg X.base CX k f fd ps sp) (hr : Room k X.A) (hg : Gl X x) (hm : X.mg x = some (.ref f)) (hk : PySem.W.keepIn X.K (.ref f) = true) (hb : KBd X.K fd ps kw) (hx : ∀ σ, PassesAt CX X σ (E σ))
    (hkw : PK X kws tk) (hkn : kwsM kws ks = true) (hdb : (x == ("__debug__" : Str)) = false) :
    PE X (.Call (.Name x p) [] kws pos) (fun σ H Q => tk σ H fun zs H2 => zs.length = ks.length ∧ (permL ord zs).length = ps.length ∧ ((ks = [] ∧ ord = []) ∨ (0, ks, ord) ∈ kw) ∧ sp (permL ord zs) H2 Q (E σ)) := by
  refine ⟨fun pins s σ H Q I h => ?_⟩
  obtain ⟨e1, e2, e3⟩ := kws_all (x := x) pos X.env hkn
  refine wpAny_Call_Name_kw (ld_glob I hg hm ?_ hdb)
  refine PySem.W.callWith_KW0 (h₀ := X.base) I.ok.mod.kin hk e1 ?_ (by rw [e2] <;> rfl)
  refine thn (hkw.run pos pins s σ H _ I h) fun ws s2 ⟨zs, H2, I2, rz, l0, l2, l3, q2⟩ => ⟨I2.kIn, ?_⟩
  rw [e3]
  exact call_bound (n := 0) (vs := []) (us := []) F hr hb hx I2 .nil rz rfl l0 (by simpa using l2) l3 (by simpa using q2)
end

section
variable {m : MC} {g : GE} {k : Nat} {a b d e : E} {es kes : Es} {p q r : Pv} {l l' : List Nat}
theorem snd_neg (ha : Snd m g k a p) : Snd m g k (.neg a) (.new1 []) := by
  intro c sc X x hg ok h
  cases x with
  | UnaryOp op x pos =>
    cases op with
    | USub =>
      simp only [mE] at h
      refine (pe_un un_neg (ha c sc X x hg ok h)).mono fun σ H Q ⟨env, st, μ, G, I, hq⟩ => ?_
      rw [evE] at hq
      refine TEv.fst I hq fun x1 st1 v1 H1 μ1 t1 F1 I1 S1 r1 hq => ?_
      obtain ⟨r1, _⟩ := r1
      cases r1 <;> first | exact hq.elim | skip
      exact ⟨_, rfl, okE.flat (p := .new1 []) hq I1 S1 (.int _)⟩
    | _ => simp [mE] at h
  | _ => simp [mE] at h
theorem snd_not (ha : Snd m g k a p) : Snd m g k (.not a) (.new1 []) := by
  intro c sc X x hg ok h
  cases x with
  | UnaryOp op x pos =>
    cases op with
    | Not =>
      simp only [mE] at h
      refine (pe_notT (ha c sc X x hg ok h)).mono fun σ H Q ⟨env, st, μ, G, I, hq⟩ => ?_
      rw [evE] at hq
      refine TEv.fst I hq fun x1 st1 v1 H1 μ1 t1 F1 I1 S1 r1 hq => ?_
      obtain ⟨z, e1, hq⟩ := Fin.ofO hq
      obtain ⟨b, e2, rfl⟩ := Option.map_eq_some_iff.mp e1
      exact ⟨b, r1.rep.tru e2, okE.flat (p := .new1 []) hq I1 S1 (.bl _)⟩
    | _ => simp [mE] at h
  | _ => simp [mE] at h
theorem snd_cmp {op : CmpOp} (ha : Snd m g k a p) (hb : Snd m g k b q) : Snd m g k (.cmp op a b) (.new1 []) := by
  intro c sc X x hg ok h
  cases x with
  | Compare x ops ys pos =>
    match ops, ys, h with
    | [op'], [y], h =>
      simp only [mE, Bool.and_eq_true, decide_eq_true_eq, Bool.not_eq_true'] at h
      obtain ⟨⟨⟨rfl, h1⟩, h2⟩, h3⟩ := h
      refine (pe_cmpR (op_cmp_v ok.room.units op) (ha c sc X x hg ok h1) (hb c sc X y hg ok h2) h3).mono fun σ H Q ⟨env, st, μ, G, I, hq⟩ => ?_
      rw [evE] at hq
      refine TEv.fst I hq fun x1 st1 v1 H1 μ1 t1 F1 I1 S1 r1 hq => ?_
      refine TEv.nxt S1 I1 hq fun x2 st2 v2 H2 μ2 t2 F2 I2 S2 r2 hq => ?_
      obtain ⟨z, e1, hq⟩ := Fin.ofO hq
      obtain ⟨b, e2, rfl⟩ := Option.map_eq_some_iff.mp e1
      exact ⟨_, _, _, _, _, _, _, _, (r1.step S2).rep, r2.rep, e2, okE.flat (p := .new1 []) hq I2 (S1.trans S2) (.bl _)⟩
    | [], _, h => simp [mE] at h
    | _ :: _ :: _, _, h => simp [mE] at h
    | [_], [], h => simp [mE] at h
    | [_], _ :: _ :: _, h => simp [mE] at h
  | _ => simp [mE] at h
theorem cmp2_shape {x : Expr} {op op2 : CmpOp} {sc : Scope} (h : mE m (.cmp2 op op2 a b d) sc x = true) : ∃ y z w pos, x = .Compare y [op, op2] [z, w] pos ∧ mE m a sc y = true ∧ mE m b sc z = true ∧ mE m d sc w = true ∧ behindInMarks op2 w = false := by
  cases x with
  | Compare x ops ys pos =>
    match ops, ys, h with
    | [o1, o2], [y, z], h =>
      simp only [mE, Bool.and_eq_true, decide_eq_true_eq, Bool.not_eq_true'] at h
      obtain ⟨⟨⟨⟨⟨rfl, rfl⟩, h1⟩, h2⟩, h3⟩, h4⟩ := h
      exact ⟨_, _, _, _, rfl, h1, h2, h3, h4⟩
    | [], _, h => simp [mE] at h
    | [_], _, h => simp [mE] at h
    | _ :: _ :: _ :: _, _, h => simp [mE] at h
    | [_, _], [], h => simp [mE] at h
    | [_, _], [_], h => simp [mE] at h
    | [_, _], _ :: _ :: _ :: _, h => simp [mE] at h
  | _ => simp [mE] at h
theorem snd_cmp2 {op op2 : CmpOp} (ha : Snd m g k a p) (hb : Snd m g k b q) (hd : Snd m g k d r) : Snd m g k (.cmp2 op op2 a b d) (.new1 []) := by
  intro c sc X x hg ok h
  obtain ⟨y, z, w, pos, rfl, h1, h2, h3, h4⟩ := cmp2_shape h
  refine (pe_chain (op_cmp_v ok.room.units op) (op_cmp_v ok.room.units op2) (ha c sc X y hg ok h1) (hb c sc X z hg ok h2) (hd c sc X w hg ok h3) (show behindInMarks op2 w = false from h4)).mono fun σ H Q ⟨env, st, μ, G, I, hq⟩ => ?_
  rw [evE] at hq
  refine TEv.fst I hq fun x1 st1 v1 H1 μ1 t1 F1 I1 S1 r1 hq => ?_
  refine TEv.nxt S1 I1 hq fun x2 st2 v2 H2 μ2 t2 F2 I2 S2 r2 hq => ?_
  cases e1 : cmpD op x1 x2 with
  | none => rw [e1] at hq; exact hq.elim
  | some b =>
    rw [e1] at hq
    refine ⟨_, _, _, _, _, _, _, _, (r1.step S2).rep, r2.rep, e1, b, rfl, ?_⟩
    cases b with
    | false => exact okE.flat (p := .new1 []) hq I2 (S1.trans S2) (.bl _)
    | true =>
      simp only [ite_true]
      refine TEv.nxt (S1.trans S2) I2 hq fun x3 st3 v3 H3 μ3 t3 F3 I3 S3 r3 hq => ?_
      obtain ⟨z, e2, hq⟩ := Fin.ofO hq
      obtain ⟨b, e3, rfl⟩ := Option.map_eq_some_iff.mp e2
      exact ⟨_, _, _, _, _, _, _, _, (r2.step S3).rep, r3.rep, e3, okE.flat (p := .new1 []) hq I3 ((S1.trans S2).trans S3) (.bl _)⟩
theorem bool_shape {x : Expr} {sc : Scope} (h : mE m (.and a b) sc x = true) : ∃ y z r pos, x = .BoolOp .And (y :: z :: r) pos ∧ mE m a sc y = true ∧ ((r = [] ∧ mE m b sc z = true) ∨ (r ≠ [] ∧ mE m b sc (.BoolOp .And (z :: r) pos) = true)) := by
  cases x with
  | BoolOp op xs pos =>
    cases op with
    | And =>
      match xs, h with
      | [], h => simp [mE] at h
      | [_], h => simp [mE] at h
      | y :: z :: r, h =>
        refine ⟨y, z, r, pos, rfl, ?_⟩
        cases r with
        | nil =>
          simp only [mE, Bool.and_eq_true] at h
          exact ⟨h.1, .inl ⟨rfl, h.2⟩⟩
        | cons _ _ =>
          simp only [mE, Bool.and_eq_true] at h
          exact ⟨h.1, .inr ⟨by simp, h.2⟩⟩
    | Or => simp [mE] at h
  | _ => simp [mE] at h
theorem bool_shapeO {x : Expr} {sc : Scope} (h : mE m (.or a b) sc x = true) : ∃ y z r pos, x = .BoolOp .Or (y :: z :: r) pos ∧ mE m a sc y = true ∧ ((r = [] ∧ mE m b sc z = true) ∨ (r ≠ [] ∧ mE m b sc (.BoolOp .Or (z :: r) pos) = true)) := by
  cases x with
  | BoolOp op xs pos =>
    cases op with
    | Or =>
      match xs, h with
      | [], h => simp [mE] at h
      | [_], h => simp [mE] at h
      | y :: z :: r, h =>
        refine ⟨y, z, r, pos, rfl, ?_⟩
        cases r with
        | nil =>
          simp only [mE, Bool.and_eq_true] at h
          exact ⟨h.1, .inl ⟨rfl, h.2⟩⟩
        | cons _ _ =>
          simp only [mE, Bool.and_eq_true] at h
          exact ⟨h.1, .inr ⟨by simp, h.2⟩⟩
    | And => simp [mE] at h
  | _ => simp [mE] at h
theorem join_l {p q : Pv} : (p.join q).new = true → p.new = true := fun h => by
  rw [Pv.join, Bool.and_eq_true] at h
  exact h.1
theorem join_r {p q : Pv} : (p.join q).new = true → q.new = true := fun h => by
  rw [Pv.join, Bool.and_eq_true] at h
  exact h.2
theorem snd_and (ha : Snd m g k a p) (hb : Snd m g k b q) : Snd m g k (.and a b) (p.join q) := by
  intro c sc X x hg ok h
  obtain ⟨y, z, r, pos, rfl, h1, h2⟩ := bool_shape h
  have hB : PE X (.BoolOp .And (z :: r) pos) (TEv c X.K q (evE g b)) := by
    rcases h2 with ⟨rfl, h2⟩ | ⟨_, h2⟩
    · exact pe_one (hb c sc X z hg ok h2)
    · exact hb c sc X _ hg ok h2
  refine (pe_andT (ha c sc X y hg ok h1) hB).mono fun σ H Q ⟨env, st, μ, G, I, hq⟩ => ?_
  rw [evE] at hq
  refine TEv.fst I hq fun x1 st1 v1 H1 μ1 t1 F1 I1 S1 r1 hq => ?_
  cases e1 : truD st1 x1 with
  | none => rw [e1] at hq; exact hq.elim
  | some b =>
    rw [e1] at hq
    refine ⟨b, r1.rep.tru e1, ?_⟩
    cases b with
    | false =>
      simp only [Bool.false_eq_true, if_false]
      exact hq v1 H1 μ1 t1 F1 I1 S1 r1.rep (r1.po.weak I.gdom join_l (fun _ h => List.mem_append_left _ h) fun _ h => List.mem_append_left _ h)
    | true =>
      simp only [if_true]
      exact (TEv.lst S1 I1 hq).weak join_r (fun _ h => List.mem_append_right _ h) fun _ h => List.mem_append_right _ h
theorem snd_or (ha : Snd m g k a p) (hb : Snd m g k b q) : Snd m g k (.or a b) (p.join q) := by
  intro c sc X x hg ok h
  obtain ⟨y, z, r, pos, rfl, h1, h2⟩ := bool_shapeO h
  have hB : PE X (.BoolOp .Or (z :: r) pos) (TEv c X.K q (evE g b)) := by
    rcases h2 with ⟨rfl, h2⟩ | ⟨_, h2⟩
    · exact pe_one (hb c sc X z hg ok h2)
    · exact hb c sc X _ hg ok h2
  refine (pe_orT (ha c sc X y hg ok h1) hB).mono fun σ H Q ⟨env, st, μ, G, I, hq⟩ => ?_
  rw [evE] at hq
  refine TEv.fst I hq fun x1 st1 v1 H1 μ1 t1 F1 I1 S1 r1 hq => ?_
  cases e1 : truD st1 x1 with
  | none => rw [e1] at hq; exact hq.elim
  | some b =>
    rw [e1] at hq
    refine ⟨b, r1.rep.tru e1, ?_⟩
    cases b with
    | true =>
      simp only [if_true]
      exact hq v1 H1 μ1 t1 F1 I1 S1 r1.rep (r1.po.weak I.gdom join_l (fun _ h => List.mem_append_left _ h) fun _ h => List.mem_append_left _ h)
    | false =>
      simp only [Bool.false_eq_true, if_false]
      exact (TEv.lst S1 I1 hq).weak join_r (fun _ h => List.mem_append_right _ h) fun _ h => List.mem_append_right _ h
theorem TTv.fst {c : Cfg} {K : PySem.W.Frag} {pr : Pv} {s : PySem.Env → Unit} {e : E} {f : D → Sto → R D} {env : Env} {st : Sto} {μ : List Addr} {G : Addr → Option Nat} {σ : St} {H : Hp} {Q : VK} {R' : Bool → Hp → Prop} (I : SI K c.ow c.Ok env st μ G σ H)
    (h : Fin (okE c K pr env μ G σ H Q) (exE c K env μ G σ H) ((evE g e env st).bind f))
    (k : ∀ x st1 b H1 μ1, truD st1 x = some b → SI K c.ow c.Ok env st1 μ1 G σ H1 → Step μ H μ1 H1 → Fin (okE c K pr env μ G σ H Q) (exE c K env μ G σ H) (f x st1) → R' b H1) (nb : ∀ x st1, truD st1 x = none → f x st1 = .bad) : TTv c K (evC g e) σ H R' := by
  rw [Fin.bind] at h
  refine ⟨env, st, μ, G, I, ?_⟩
  unfold evC
  rw [Fin.bind]
  refine h.mono (fun x st1 _ hx => ?_) fun _ _ _ hx => hx
  cases e1 : truD st1 x with
  | none => rw [nb x st1 e1] at hx; exact hx.elim
  | some b => exact fun H' μ' I' S' => k x st1 b H' μ' e1 I' S' hx
theorem snd_ife (hd : SndT m g k d) (ha : Snd m g k a p) (hb : Snd m g k b q) : Snd m g k (.ife d a b) (p.join q) := by
  intro c sc X x hg ok h
  cases x with
  | IfExp z x y pos =>
    simp only [mE, Bool.and_eq_true] at h
    obtain ⟨⟨⟨h1, h2⟩, h3⟩, h4⟩ := h
    refine (pe_ifExp (hd c sc X z hg ok h1 h2) (ha c sc X x hg ok h3) (hb c sc X y hg ok h4)).mono fun σ H Q ⟨env, st, μ, G, I, hq⟩ => ?_
    rw [evE] at hq
    refine TTv.fst (s := fun _ => ()) I hq (fun x1 st1 b H1 μ1 e1 I1 S1 hq => ?_) fun x st1 e1 => by simp only [e1]
    rw [e1] at hq
    cases b with
    | true =>
      simp only [if_true]
      exact (TEv.lst S1 I1 hq).weak join_l (fun _ h => List.mem_append_left _ h) fun _ h => List.mem_append_left _ h
    | false =>
      simp only [Bool.false_eq_true, if_false]
      exact (TEv.lst S1 I1 hq).weak join_r (fun _ h => List.mem_append_right _ h) fun _ h => List.mem_append_right _ h
  | _ => simp [mE] at h
end
end WT
end

section
set_option Elab.async false
set_option linter.all false
set_option maxRecDepth 100000
set_option autoImplicit false
/-! K8: displays, subscripts, isinstance, built-ins, calls, boxes; tests. -/
namespace WT
open PySem PySem.Spec PyProof.Rows L2

theorem SI.after {K : PySem.W.Frag} {ow : Nat → Bool} {Ok : Addr → Prop} {env : Env} {st st' : Sto} {μ μ' : List Addr} {G : Addr → Option Nat} {σ : St} {H H' : Hp} (I : SI K ow Ok env st μ G σ H) (s : Step μ H μ' H') (b : BoxOk K H' μ' st') (l : μ'.length = st'.length) (nd : μ'.Nodup) :
    SI K ow Ok env st' μ' G σ H' where
  slot := fun i d e => by
    obtain ⟨v, t, F, e1, r, g1, g2, g3⟩ := I.slot i d e
    exact ⟨v, t, F, e1, r.step s fun a ha => (g3 a ha).1, g1, g2, fun a ha => ⟨s.notin (r.there a ha) (g3 a ha).1, (g3 a ha).2⟩⟩
  box := b
  muLen := l
  muNd := nd
  gmu := fun a ha => by
    obtain ⟨k, hk, e⟩ := List.mem_iff_getElem.mp ha
    obtain ⟨a', vs, e1, e2, _⟩ := b k _ (List.getElem?_eq_getElem (by rw [← l]; exact hk))
    rw [List.getElem?_eq_getElem hk] at e1
    cases e1
    refine ⟨?_, by rw [← e, e2]; simp⟩
    obtain ⟨ν, rfl, hν⟩ := s.ext
    rcases List.mem_append.mp ha with ha | ha
    · exact (I.gmu a ha).1
    · cases q : G a with
      | none => rfl
      | some i => exact absurd (hν a ha) (I.gdom a (by rw [q]; simp))
  gdom := fun a ha => s.dom a (I.gdom a ha)
  okn := fun a ha => I.okn a (s.wasNone ha)
  len := I.len

section
variable {m : MC} {g : GE} {k : Nat} {a b d e : E} {es kes : Es} {p q r : Pv} {l l' : List Nat}
theorem Held.all {c : Cfg} {K : PySem.W.Frag} {G : Addr → Option Nat} {H0 : Hp} {d : D} {v : V} {t F μ : List Addr} {H : Hp} (h : Held K c G p H0 d v t F μ H) (gd : ∀ a, G a ≠ none → H0 a ≠ none) :
    ∀ a ∈ t ++ F, (G a = none ∨ ∃ i ∈ p.top ++ p.inn, G a = some i) ∧ a ∉ μ ∧ c.Ok a := fun a ha => by
  refine ⟨?_, h.po.out a ha⟩
  rcases List.mem_append.mp ha with ha | ha
  · have z := h.po.top a ha
    split at z
    · refine .inl ?_
      cases q : G a with
      | none => rfl
      | some i => exact absurd z.1 (gd a (by rw [q]; simp))
    · exact z.imp id fun ⟨i, hi, e⟩ => ⟨i, List.mem_append_left _ hi, e⟩
  · exact (h.po.inn a ha).imp id fun ⟨i, hi, e⟩ => ⟨i, List.mem_append_right _ hi, e⟩
theorem snda_nil : SndA m g k .nil [] := by
  intro c sc X xs hg ok h
  cases xs with
  | nil =>
    have key : ∀ σ H Q, TAv c X.K [] (evEs g .nil) σ H Q → tNil σ H Q := fun σ H Q ⟨env, st, μ, G, I, hq⟩ => hq [] H μ [] I .refl .nil fun _ h => by simp at h
    refine ⟨pa_nil.mono key, fun kws hk => ?_⟩
    cases kws with
    | nil => exact ⟨fun pos pins s σ H Q I h => pk_nil.run pos pins s σ H Q I (key σ H Q h)⟩
    | cons _ _ => cases hk
  | cons _ _ => simp [mEs] at h
theorem snda_cons (he : Snd m g k e p) (hes : SndA m g k es l) : SndA m g k (.cons e es) (p.top ++ p.inn ++ l) := by
  intro c sc X xs hg ok h
  cases xs with
  | nil => simp [mEs] at h
  | cons x xs =>
    rw [mEs, Bool.and_eq_true] at h
    have key : ∀ σ H Q, TAv c X.K (p.top ++ p.inn ++ l) (evEs g (.cons e es)) σ H Q → tCons (TEv c X.K p (evE g e)) (TAv c X.K l (evEs g es)) σ H Q := fun σ H Q ⟨env, st, μ, G, I, hq⟩ => by
      rw [evEs, Fin.bind] at hq
      refine ⟨env, st, μ, G, I, hq.mono (fun x1 st1 _ hx v1 H1 μ1 t1 F1 I1 S1 r1 po1 => ?_) fun _ _ _ hx => hx⟩
      rw [Fin.bind] at hx
      refine ⟨env, st1, μ1, G, I1, hx.mono (fun xs2 st2 _ hx vs H2 μ2 F2 I2 S2 r2 po2 => ?_) fun _ _ _ hx => hx.step S1⟩
      have h1 : Held X.K c G p H x1 v1 t1 F1 μ1 H1 := ⟨r1, po1⟩
      have h2 := h1.step S2
      refine hx (v1 :: vs) H2 μ2 (t1 ++ F1 ++ F2) I2 (S1.trans S2) (.cons h2.rep r2) fun a ha => ?_
      rcases List.mem_append.mp ha with ha | ha
      · obtain ⟨z1, z2⟩ := h2.all I.gdom a ha
        exact ⟨z1.imp id fun ⟨i, hi, e⟩ => ⟨i, List.mem_append_left _ hi, e⟩, z2⟩
      · obtain ⟨z1, z2⟩ := po2 a ha
        exact ⟨z1.imp id fun ⟨i, hi, e⟩ => ⟨i, List.mem_append_right _ hi, e⟩, z2⟩
    refine ⟨(pa_cons (he c sc X x hg ok h.1) (hes c sc X xs hg ok h.2).1 (star_of (mE_plain h.1) xs X.env)).mono key, fun kws hk => ?_⟩
    cases kws with
    | nil => cases hk
    | cons kw kws =>
      obtain ⟨n, v, kp⟩ := kw
      rw [kwVals] at hk
      cases hk
      have pk := pk_cons (nm := n) (kpos := kp) (he c sc X v hg ok h.1) ((hes c sc X _ hg ok h.2).2 kws rfl)
      exact ⟨fun pos pins s σ H Q I h => pk.run pos pins s σ H Q I (key σ H Q h)⟩
/-- a list of expressions, at the head of a whole -/
theorem TAv.fst {c : Cfg} {K : PySem.W.Frag} {s : Env → Sto → R (List D)} {f : List D → Sto → R D} {env : Env} {st : Sto} {μ : List Addr} {G : Addr → Option Nat} {σ : St} {H : Hp} {Q : VK} {R' : List V → Hp → Prop} (I : SI K c.ow c.Ok env st μ G σ H) (h : Fin (okE c K q env μ G σ H Q) (exE c K env μ G σ H) ((s env st).bind f))
    (k : ∀ xs st1 vs H1 μ1 F, s env st = .ok xs st1 → SI K c.ow c.Ok env st1 μ1 G σ H1 → Step μ H μ1 H1 → Reps K H1 μ1 xs vs F → (∀ a ∈ F, (G a = none ∨ ∃ i ∈ l, G a = some i) ∧ a ∉ μ1 ∧ c.Ok a) → Fin (okE c K q env μ G σ H Q) (exE c K env μ G σ H) (f xs st1) → R' vs H1) : TAv c K l s σ H R' := by
  rw [Fin.bind] at h
  exact ⟨env, st, μ, G, I, h.mono (fun xs st1 e hx vs H1 μ1 F I1 S1 r po => k xs st1 vs H1 μ1 F e I1 S1 r po hx) fun _ _ _ hx => hx⟩
theorem TAv.nxt {c : Cfg} {K : PySem.W.Frag} {s : Env → Sto → R (List D)} {f : List D → Sto → R D} {env : Env} {st1 : Sto} {μ μ1 : List Addr} {G : Addr → Option Nat} {σ : St} {H H1 : Hp} {Q : VK} {R' : List V → Hp → Prop} (S1 : Step μ H μ1 H1) (I : SI K c.ow c.Ok env st1 μ1 G σ H1) (h : Fin (okE c K q env μ G σ H Q) (exE c K env μ G σ H) ((s env st1).bind f))
    (k : ∀ xs st2 vs H2 μ2 F, s env st1 = .ok xs st2 → SI K c.ow c.Ok env st2 μ2 G σ H2 → Step μ1 H1 μ2 H2 → Reps K H2 μ2 xs vs F → (∀ a ∈ F, (G a = none ∨ ∃ i ∈ l, G a = some i) ∧ a ∉ μ2 ∧ c.Ok a) → Fin (okE c K q env μ G σ H Q) (exE c K env μ G σ H) (f xs st2) → R' vs H2) : TAv c K l s σ H1 R' := by
  rw [Fin.bind] at h
  exact ⟨env, st1, μ1, G, I, h.mono (fun xs st1 e hx vs H1 μ1 F I1 S1 r po => k xs st1 vs H1 μ1 F e I1 S1 r po hx) fun _ _ _ hx => hx.step S1⟩
theorem snd_tup (h1 : SndA m g k es l) : Snd m g k (.tup es) (.new1 l) := by
  intro c sc X x hg ok h
  cases x with
  | Tuple xs j pos =>
    simp only [mE] at h
    refine (pe_tup (h1 c sc X xs hg ok h).1).mono fun σ H Q ⟨env, st, μ, G, I, hq⟩ => ?_
    rw [evE] at hq
    refine TAv.fst I hq fun ds st1 vs H1 μ1 F _ I1 S1 r1 po hq => ?_
    obtain ⟨z, e1, hq⟩ := Fin.ofO hq
    obtain ⟨hz, rfl⟩ := guardO_some e1
    exact ⟨by rw [← r1.length]; exact hz, fun p hp => (okE.out hq I1 S1 (B := fun a => a ∈ F) po).tup r1 (fun _ h => h) hp⟩
  | _ => simp [mE] at h
theorem snd_lst (h1 : SndA m g k es l) : Snd m g k (.lst es) (.new1 l) := by
  intro c sc X x hg ok h
  cases x with
  | List xs pos =>
    simp only [mE] at h
    refine (pe_lst (h1 c sc X xs hg ok h).1).mono fun σ H Q ⟨env, st, μ, G, I, hq⟩ => ?_
    rw [evE] at hq
    refine TAv.fst I hq fun ds st1 vs H1 μ1 F _ I1 S1 r1 po hq => ?_
    obtain ⟨z, e1, hq⟩ := Fin.ofO hq
    obtain ⟨hz, rfl⟩ := guardO_some e1
    exact ⟨by rw [← r1.length]; exact hz, fun p hp => (okE.out hq I1 S1 (B := fun a => a ∈ F) po).lst r1 (fun _ h => h) hp⟩
  | _ => simp [mE] at h
theorem idx_shape {x : Expr} {sc : Scope} (h : mE m (.idx a b) sc x = true) : ∃ y z pos, x = .Subscript y z pos ∧ mE m a sc y = true ∧ mE m b sc z = true := by
  cases x with
  | Subscript y z pos =>
    simp only [mE, Bool.and_eq_true] at h
    exact ⟨y, z, pos, rfl, h.1, h.2⟩
  | _ => simp [mE] at h
theorem SI.bx {K : PySem.W.Frag} {ow : Nat → Bool} {Ok : Addr → Prop} {env : Env} {st : Sto} {μ : List Addr} {G : Addr → Option Nat} {σ : St} {H : Hp} (I : SI K ow Ok env st μ G σ H) : Bx K H μ st (fun _ => False) := fun k xs e => by
  obtain ⟨a, vs, e1, e2, r⟩ := I.box k xs e
  exact ⟨a, vs, [], e1, e2, r, fun _ h => by simp at h⟩
theorem snd_idx (ha : Snd m g k a p) (hb : Snd m g k b q) : Snd m g k (.idx a b) ⟨false, p.inn, p.inn⟩ := by
  intro c sc X x hg ok h
  obtain ⟨y, z, pos, rfl, h1, h2⟩ := idx_shape h
  refine (pe_ix (ix_v ok.room.units) (ha c sc X y hg ok h1) (hb c sc X z hg ok h2) (ix_of (mE_plain h2))).mono fun σ H Q ⟨env, st, μ, G, I, hq⟩ => ?_
  rw [evE] at hq
  refine TEv.fst I hq fun x1 st1 v1 H1 μ1 t1 F1 I1 S1 r1 hq => ?_
  refine TEv.nxt S1 I1 hq fun x2 st2 v2 H2 μ2 t2 F2 I2 S2 r2 hq => ?_
  obtain ⟨w, e1, hq⟩ := Fin.ofO hq
  have r1 := r1.step S2
  refine ⟨_, _, _, _, _, _, _, _, st2, _, r1.rep, r2.rep, I2.bx, e1, fun v t F r3 hin => ?_⟩
  have hz : ∀ a ∈ t ++ F, (G a = none ∨ ∃ i ∈ p.inn, G a = some i) ∧ a ∉ μ2 ∧ c.Ok a := fun a ha => by
    rcases hin a ha with ha | ha
    · exact r1.innr (G' := G) a ha
    · exact ha.elim
  exact hq v H2 μ2 t F I2 (S1.trans S2) r3 ⟨fun a ha => by
    simp only [Bool.false_eq_true, if_false]
    exact (hz a (List.mem_append_left _ ha)).1, fun a ha => (hz a (List.mem_append_right _ ha)).1, fun a ha => (hz a ha).2⟩

/-! ### slices -/
def TOv (c : Cfg) (K : PySem.W.Frag) (s : Env → Sto → R (Option Int)) : TO := fun σ H Q => ∃ env st μ G, SI K c.ow c.Ok env st μ G σ H ∧ Fin (fun o st' => ∀ H' μ', SI K c.ow c.Ok env st' μ' G σ H' → Step μ H μ' H' → Q o H') (exE c K env μ G σ H) (s env st)
def SndO (m : MC) (g : GE) (k : Nat) (o : Eo) : Prop := ∀ (c : Cfg) (sc : Scope) (X : Cx) (x : Option Expr), c.g = g → XOk m c k sc X → mEo m o sc x = true → L2.PO X x (TOv c X.K (evEo g o))
theorem sndo_no : SndO m g k .no := by
  intro c sc X x hg ok h
  cases x with
  | none => exact ⟨fun pins s σ H Q I ⟨env, st, μ, G, J, hq⟩ => po_none.run pins s σ H Q I (hq H μ J .refl)⟩
  | some _ => simp [mEo] at h
theorem sndo_yes (he : Snd m g k e p) : SndO m g k (.yes e) := by
  intro c sc X x hg ok h
  cases x with
  | none => simp [mEo] at h
  | some x =>
    rw [mEo] at h
    refine ⟨fun pins s σ H Q I ⟨env, st, μ, G, J, hq⟩ => (po_some (he c sc X x hg ok h)).run pins s σ H Q I ?_⟩
    rw [evEo, Fin.bind] at hq
    refine ⟨env, st, μ, G, J, hq.mono (fun x1 st1 _ hx v H1 μ1 t F I1 S1 r po => ?_) fun _ _ _ hx => hx⟩
    cases r <;> first | exact hx.elim | skip
    exact ⟨_, rfl, hx H1 μ1 I1 S1⟩
theorem TOv.nxt {c : Cfg} {K : PySem.W.Frag} {s : Env → Sto → R (Option Int)} {f : Option Int → Sto → R D} {env : Env} {st1 : Sto} {μ μ1 : List Addr} {G : Addr → Option Nat} {σ : St} {H H1 : Hp} {Q : VK} {R' : Option Int → Hp → Prop} (S1 : Step μ H μ1 H1) (I : SI K c.ow c.Ok env st1 μ1 G σ H1) (h : Fin (okE c K q env μ G σ H Q) (exE c K env μ G σ H) ((s env st1).bind f))
    (k : ∀ o st2 H2 μ2, SI K c.ow c.Ok env st2 μ2 G σ H2 → Step μ1 H1 μ2 H2 → Fin (okE c K q env μ G σ H Q) (exE c K env μ G σ H) (f o st2) → R' o H2) : TOv c K s σ H1 R' := by
  rw [Fin.bind] at h
  exact ⟨env, st1, μ1, G, I, h.mono (fun o st2 _ hx H2 μ2 I2 S2 => k o st2 H2 μ2 I2 S2 hx) fun _ _ _ hx => hx.step S1⟩
theorem slice_shape {x : Expr} {sc : Scope} {lo hi : Eo} (h : mE m (.slice a lo hi) sc x = true) : ∃ y l u p2 pos, x = .Subscript y (.Slice l u none p2) pos ∧ mE m a sc y = true ∧ mEo m lo sc l = true ∧ mEo m hi sc u = true := by
  cases x with
  | Subscript y z pos =>
    cases z with
    | Slice l u s p2 =>
      cases s with
      | none =>
        simp only [mE, Bool.and_eq_true] at h
        exact ⟨y, l, u, p2, pos, rfl, h.1.1, h.1.2, h.2⟩
      | some _ => simp [mE] at h
    | _ => simp [mE] at h
  | _ => simp [mE] at h
theorem snd_slice {lo hi : Eo} (ha : Snd m g k a p) (hl : SndO m g k lo) (hh : SndO m g k hi) : Snd m g k (.slice a lo hi) (.new1 p.inn) := by
  intro c sc X x hg ok h
  obtain ⟨y, l, u, p2, pos, rfl, h1, h2, h3⟩ := slice_shape h
  refine (pe_slice sl_v (ha c sc X y hg ok h1) (hl c sc X l hg ok h2) (hh c sc X u hg ok h3)).mono fun σ H Q ⟨env, st, μ, G, I, hq⟩ => ?_
  rw [evE] at hq
  refine TEv.fst I hq fun x1 st1 v1 H1 μ1 t1 F1 I1 S1 r1 hq => ?_
  refine TOv.nxt S1 I1 hq fun o st2 H2 μ2 I2 S2 hq => ?_
  refine TOv.nxt (S1.trans S2) I2 hq fun o2 st3 H3 μ3 I3 S3 hq => ?_
  obtain ⟨w, e1, hq⟩ := Fin.ofO hq
  have r1 := (r1.step S2).step S3
  exact ⟨_, _, _, _, _, r1.rep, e1, hq.out I3 ((S1.trans S2).trans S3) fun a ha => r1.innr (G' := G) a ha⟩

/-! ### isinstance -/
theorem rev_shape {x : Expr} {sc : Scope} (h : mE m (.rev a) sc x = true) : ∃ y j p1 p2 p3 pos, x = .Subscript y (.Slice none none (some (.UnaryOp .USub (.Constant (.int 1) j p1) p2)) p3) pos ∧ mE m a sc y = true := by
  rw [mE] at h
  unfold mRev at h
  split at h
  · rw [Bool.and_eq_true, decide_eq_true_eq] at h
    obtain ⟨rfl, h⟩ := h
    exact ⟨_, _, _, _, _, _, rfl, h⟩
  · cases h
theorem snd_rev (ha : Snd m g k a p) : Snd m g k (.rev a) (.new1 p.inn) := by
  intro c sc X x hg ok h
  obtain ⟨y, j, p1, p2, p3, pos, rfl, h1⟩ := rev_shape h
  refine (pe_revA (ha c sc X y hg ok h1)).mono fun σ H Q ⟨env, st, μ, G, I, hq⟩ => ?_
  rw [evE] at hq
  refine TEv.fst I hq fun x1 st1 v1 H1 μ1 t1 F1 I1 S1 r1 hq => ?_
  obtain ⟨z, e1, hq⟩ := Fin.ofO hq
  have innr := r1.innr (G' := G)
  obtain ⟨rp, po⟩ := r1
  cases x1 <;> first | (cases e1; done) | skip
  · cases rp
    rename_i hs rs
    cases e1
    obtain ⟨L, h3, h4⟩ := rev_rep rs
    exact ⟨_, _, rfl, .inr ⟨hs, fun p hp => (okE.out hq I1 S1 (B := fun a => a ∈ F1) fun a ha => innr a ha).tup h3 h4 hp⟩⟩
  · cases rp
    rename_i hs rs
    cases e1
    obtain ⟨L, h3, h4⟩ := rev_rep rs
    exact ⟨_, _, rfl, .inl ⟨.inl (.inl hs), fun p hp => (okE.out hq I1 S1 (B := fun a => a ∈ F1) fun a ha => innr a ha).lst h3 h4 hp⟩⟩
theorem rg1_shape {x : Expr} {sc : Scope} {l : Bool} (h : mE m (.rg1 l b) sc x = true) : ∃ fp rp y p2 pos, x = .Call (.Name (rgNm l) fp) [.Call (.Name ("range" : Str) rp) [y] [] p2] [] pos ∧ glB sc (rgNm l) = true ∧ glB sc ("range" : Str) = true ∧ mE m b sc y = true := by
  rw [mE] at h
  unfold mRg1 at h
  split at h
  · simp only [Bool.and_eq_true, beq_iff_eq] at h
    obtain ⟨⟨⟨⟨rfl, h1⟩, rfl⟩, h2⟩, h3⟩ := h
    exact ⟨_, _, _, _, _, rfl, h1, h2, h3⟩
  · cases h
theorem rg2_shape {x : Expr} {sc : Scope} {l : Bool} (h : mE m (.rg2 l a b) sc x = true) : ∃ fp rp y z p2 pos, x = .Call (.Name (rgNm l) fp) [.Call (.Name ("range" : Str) rp) [y, z] [] p2] [] pos ∧ glB sc (rgNm l) = true ∧ glB sc ("range" : Str) = true ∧ mE m a sc y = true ∧ mE m b sc z = true := by
  rw [mE] at h
  unfold mRg2 at h
  split at h
  · simp only [Bool.and_eq_true, beq_iff_eq] at h
    obtain ⟨⟨⟨⟨⟨rfl, h1⟩, rfl⟩, h2⟩, h3⟩, h4⟩ := h
    exact ⟨_, _, _, _, _, _, rfl, h1, h2, h3, h4⟩
  · cases h
theorem reps_rg {K : PySem.W.Frag} {H : Hp} {μ : List Addr} (a b : Int) : Reps K H μ (rgL a b) (rgV a b) [] := by
  unfold rgL rgV
  induction List.range (b - a).toNat with
  | nil => exact .nil
  | cons i l ih => exact .cons (.int _) ih
theorem snd_rg1 {l : Bool} (hb : Snd m g k b p) : Snd m g k (.rg1 l b) (.new1 []) := by
  intro c sc X x hg ok h
  obtain ⟨fp, rp, y, p2, pos, rfl, h1, h2, h3⟩ := rg1_shape h
  cases l with
  | false =>
    refine (pe_tupRg ok.calm (ok.gl h1) (ok.free _ (by decide +kernel)) (prg_1 (ok.gl h2) (ok.free _ (by decide +kernel)) (hb c sc X y hg ok h3) (star_of (mE_plain h3) _ _))).mono fun σ H Q ⟨env, st, μ, G, I, hq⟩ => ?_
    rw [evE] at hq
    refine TEv.fst I hq fun x1 st1 v1 H1 μ1 t1 F1 I1 S1 r1 hq => ?_
    obtain ⟨z, e1, hq⟩ := Fin.ofO hq
    obtain ⟨rp, po⟩ := r1
    cases x1 <;> first | (cases e1; done) | skip
    cases rp
    rw [rgD] at e1
    obtain ⟨hok, rfl⟩ := guardO_some e1
    exact ⟨_, rfl, hok, fun p hp => (okE.out hq I1 S1 (B := fun _ => False) fun _ h => h.elim).tup (reps_rg _ _) (fun _ h => by simp at h) hp⟩
  | true =>
    refine (pe_listRg ok.calm (ok.gl h1) (ok.free _ (by decide +kernel)) (prg_1 (ok.gl h2) (ok.free _ (by decide +kernel)) (hb c sc X y hg ok h3) (star_of (mE_plain h3) _ _))).mono fun σ H Q ⟨env, st, μ, G, I, hq⟩ => ?_
    rw [evE] at hq
    refine TEv.fst I hq fun x1 st1 v1 H1 μ1 t1 F1 I1 S1 r1 hq => ?_
    obtain ⟨z, e1, hq⟩ := Fin.ofO hq
    obtain ⟨rp, po⟩ := r1
    cases x1 <;> first | (cases e1; done) | skip
    cases rp
    rw [rgD] at e1
    obtain ⟨hok, rfl⟩ := guardO_some e1
    exact ⟨_, rfl, hok, fun p hp => (okE.out hq I1 S1 (B := fun _ => False) fun _ h => h.elim).lst (reps_rg _ _) (fun _ h => by simp at h) hp⟩
theorem snd_rg2 {l : Bool} (ha : Snd m g k a p) (hb : Snd m g k b q) : Snd m g k (.rg2 l a b) (.new1 []) := by
  intro c sc X x hg ok h
  obtain ⟨fp, rp, y, y2, p2, pos, rfl, h1, h2, h3, h4⟩ := rg2_shape h
  cases l with
  | false =>
    refine (pe_tupRg ok.calm (ok.gl h1) (ok.free _ (by decide +kernel)) (prg_2 (ok.gl h2) (ok.free _ (by decide +kernel)) (ha c sc X y hg ok h3) (hb c sc X y2 hg ok h4) (star_of (mE_plain h3) _ _) (star_of (mE_plain h4) _ _) (mEs_star (m := m) (sc := sc) (es := .cons b .nil) (xs := [y2]) (by simp [mEs, h4]) _ _))).mono fun σ H Q ⟨env, st, μ, G, I, hq⟩ => ?_
    rw [evE] at hq
    refine TEv.fst I hq fun x1 st1 v1 H1 μ1 t1 F1 I1 S1 r1 hq => ?_
    refine TEv.nxt S1 I1 hq fun x2 st2 v2 H2 μ2 t2 F2 I2 S2 r2 hq => ?_
    obtain ⟨z, e1, hq⟩ := Fin.ofO hq
    obtain ⟨rp, po⟩ := r1
    obtain ⟨rp2, po2⟩ := r2
    cases x1 <;> first | (cases e1; done) | skip
    cases x2 <;> first | (cases e1; done) | skip
    cases rp
    cases rp2
    rw [rgD] at e1
    obtain ⟨hok, rfl⟩ := guardO_some e1
    exact ⟨_, _, rfl, rfl, hok, fun p hp => (okE.out hq I2 (S1.trans S2) (B := fun _ => False) fun _ h => h.elim).tup (reps_rg _ _) (fun _ h => by simp at h) hp⟩
  | true =>
    refine (pe_listRg ok.calm (ok.gl h1) (ok.free _ (by decide +kernel)) (prg_2 (ok.gl h2) (ok.free _ (by decide +kernel)) (ha c sc X y hg ok h3) (hb c sc X y2 hg ok h4) (star_of (mE_plain h3) _ _) (star_of (mE_plain h4) _ _) (mEs_star (m := m) (sc := sc) (es := .cons b .nil) (xs := [y2]) (by simp [mEs, h4]) _ _))).mono fun σ H Q ⟨env, st, μ, G, I, hq⟩ => ?_
    rw [evE] at hq
    refine TEv.fst I hq fun x1 st1 v1 H1 μ1 t1 F1 I1 S1 r1 hq => ?_
    refine TEv.nxt S1 I1 hq fun x2 st2 v2 H2 μ2 t2 F2 I2 S2 r2 hq => ?_
    obtain ⟨z, e1, hq⟩ := Fin.ofO hq
    obtain ⟨rp, po⟩ := r1
    obtain ⟨rp2, po2⟩ := r2
    cases x1 <;> first | (cases e1; done) | skip
    cases x2 <;> first | (cases e1; done) | skip
    cases rp
    cases rp2
    rw [rgD] at e1
    obtain ⟨hok, rfl⟩ := guardO_some e1
    exact ⟨_, _, rfl, rfl, hok, fun p hp => (okE.out hq I2 (S1.trans S2) (B := fun _ => False) fun _ h => h.elim).lst (reps_rg _ _) (fun _ h => by simp at h) hp⟩
theorem boot_ty : ∀ t : Ty, bootBuiltins t.sname = some (.type t.nm) := by
  intro t
  cases t <;> decide +kernel
theorem ty_free : ∀ t : Ty, t.sname ∈ freeNames ∧ t.sname ≠ "__name__" ∧ (t.sname == ("__debug__" : Str)) = false := by
  intro t
  cases t <;> decide +kernel
def tTys : List Ty → TA := fun ts _ H Q => Q (ts.map fun t => V.ty t.nm) H
theorem pa_tys {c : Cfg} {sc : Scope} {X : Cx} (ok : XOk m c k sc X) : ∀ {ts : List Ty} {es : List Expr}, tysM ts es sc = true → PA X es (tTys ts)
  | [], [], _ => pa_nil.mono fun _ _ _ h => h
  | [], _ :: _, h => by simp [tysM] at h
  | t :: ts, [], h => by simp [tysM] at h
  | t :: ts, x :: es, h => by
    cases x with
    | Name y pos =>
      simp only [tysM, Bool.and_eq_true, beq_iff_eq] at h
      obtain ⟨⟨rfl, h1⟩, h2⟩ := h
      obtain ⟨f1, f2, f3⟩ := ty_free t
      exact (pa_cons (pe_bltn (v := .ty t.nm) (ok.gl h1) (ok.free _ f1) (boot_ty t) rfl f2 f3) (pa_tys ok h2)).mono fun σ H Q h => h
    | _ => simp [tysM] at h
theorem isi_shape {x : Expr} {sc : Scope} {ts : List Ty} {b : Bool} (h : mE m (.isi a ts b) sc x = true) : ∃ f y z fp pos, x = .Call (.Name f fp) [y, z] [] pos ∧ f = ("isinstance" : Str) ∧ glB sc f = true ∧ mE m a sc y = true ∧
    ((∃ t n np, z = .Name n np ∧ ts = [t] ∧ tysM [t] [.Name n np] sc = true) ∨ ∃ es j tp, z = .Tuple es j tp ∧ tysM ts es sc = true ∧ ts.length ≤ 100) := by
  cases x with
  | Call f args kws pos =>
    cases f with
    | Name f fp =>
      match args, kws, h with
      | [y, z], [], h =>
        cases b with
        | false =>
          cases z with
          | Name n np =>
            simp only [mE, Bool.and_eq_true, beq_iff_eq] at h
            obtain ⟨⟨⟨h1, h2⟩, h3⟩, h4⟩ := h
            match ts, h4 with
            | [], h4 => simp [tysM] at h4
            | [t], h4 => exact ⟨f, y, _, fp, pos, rfl, h1, h2, h3, .inl ⟨t, n, np, rfl, rfl, by simpa [tysM] using h4⟩⟩
            | _ :: _ :: _, h4 => simp [tysM] at h4
          | _ => simp [mE] at h
        | true =>
          cases z with
          | Tuple es j tp =>
            simp only [mE, Bool.and_eq_true, beq_iff_eq, decide_eq_true_eq] at h
            obtain ⟨⟨⟨⟨h1, h2⟩, h3⟩, h4⟩, h5⟩ := h
            exact ⟨f, y, _, fp, pos, rfl, h1, h2, h3, .inr ⟨es, j, tp, rfl, h4, h5⟩⟩
          | _ => simp [mE] at h
      | [], _, h => cases b <;> simp [mE] at h
      | [_], _, h => cases b <;> simp [mE] at h
      | _ :: _ :: _ :: _, _, h => cases b <;> simp [mE] at h
      | [_, _], _ :: _, h => cases b <;> simp [mE] at h
    | _ => cases b <;> simp [mE] at h
  | _ => cases b <;> simp [mE] at h
theorem paired_ty : ∀ ts : List Ty, Paired ClsV (ts.map fun t => V.ty t.nm) (ts.map fun t => Value.type t.nm)
  | [] => .nil
  | t :: ts => .cons (.ty _) (paired_ty ts)
theorem snd_isi {ts : List Ty} {tb : Bool} (ha : Snd m g k a p) : Snd m g k (.isi a ts tb) (.new1 []) := by
  intro c sc X x hg ok h
  obtain ⟨f, y, z, fp, pos, rfl, rfl, h2, h3, h4⟩ := isi_shape h
  have hfr : X.mg "isinstance" = none := ok.free _ (by decide +kernel)
  rcases h4 with ⟨t, n, np, rfl, rfl, h4⟩ | ⟨es, j, tp, rfl, h4, h5⟩
  · refine (pe_callB call_isi (ok.gl h2) hfr PyProof.Rows.boot_isinstance (pa_cons (ha c sc X y hg ok h3) (pa_tys ok h4) (star_of (mE_plain h3) _ _)) (by decide) (by decide) (star_of (mE_plain h3) _ _) rfl).mono fun σ H Q ⟨env, st, μ, G, I, hq⟩ => ?_
    rw [evE] at hq
    refine TEv.fst I hq fun x1 st1 v1 H1 μ1 t1 F1 I1 S1 r1 hq => ?_
    obtain ⟨w, e1, hq⟩ := Fin.ofO hq
    obtain ⟨b, e2, rfl⟩ := Option.map_eq_some_iff.mp e1
    obtain ⟨own, e3, rfl⟩ := Option.map_eq_some_iff.mp (show (tyD x1).map (fun own => [t].any fun t => own.contains t) = some b from e2)
    obtain ⟨a', e4⟩ := tyD_tyS e3
    refine ⟨v1, .ty t.nm, .type a', .type t.nm, _, rfl, .ty _, r1.rep.ty e4, ?_, okE.flat (p := .new1 []) hq I1 S1 (.bl _)⟩
    have z := kit_all x1 own a' e3 e4 t
    rw [show ([t].any fun t => own.contains t) = own.contains t by simp]
    exact kit_ty z
  · refine (pe_callB call_isiT (ok.gl h2) hfr PyProof.Rows.boot_isinstance (pa_cons (ha c sc X y hg ok h3) (pa_cons (pe_tup (pa_tys ok h4)) pa_nil) (star_of (mE_plain h3) _ _)) (by decide) (by decide) (star_of (mE_plain h3) _ _) rfl).mono fun σ H Q ⟨env, st, μ, G, I, hq⟩ => ?_
    rw [evE] at hq
    refine TEv.fst I hq fun x1 st1 v1 H1 μ1 t1 F1 I1 S1 r1 hq => ?_
    refine ⟨by rw [List.length_map, sizeLine_eq]; omega, fun pt hp => ?_⟩
    obtain ⟨w, e1, hq⟩ := Fin.ofO hq
    obtain ⟨b, e2, rfl⟩ := Option.map_eq_some_iff.mp e1
    obtain ⟨own, e3, rfl⟩ := Option.map_eq_some_iff.mp (show (tyD x1).map (fun own => ts.any fun t => own.contains t) = some b from e2)
    obtain ⟨a', e4⟩ := tyD_tyS e3
    have sn := Step.new (μ := μ1) (o := .tup (ts.map fun t => V.ty t.nm)) hp
    have r2 := r1.step sn
    exact ⟨v1, pt, _, .type a', _, _, rfl, upd_same, paired_ty ts, r2.rep.ty e4, kitAny_v e3 e4 ts, okE.flat (p := .new1 []) hq (I1.new hp) (S1.trans sn) (.bl _)⟩

/-! ### built-in functions -/
theorem bi_names : ∀ f : Bi, f.math = false → f.nm ∈ freeNames ∧ f.nm ≠ "__name__" ∧ bootBuiltins f.nm = some f.vl := by
  intro f hf
  cases f <;> first | (cases hf; done) | decide +kernel
theorem bi_dbg : ∀ f : Bi, (f.nm == ("__debug__" : Str)) = false := by
  intro f
  cases f <;> decide +kernel
theorem bi_shape {x : Expr} {sc : Scope} {f : Bi} (h : mE m (.bi f es) sc x = true) : ∃ n fp e r pos, x = .Call (.Name n fp) (e :: r) [] pos ∧ n = f.nm ∧ glB sc n = true ∧ mEs m es sc (e :: r) = true ∧ (f.math = false ∨ f ∈ m.mth) := by
  cases x with
  | Call n args kws pos =>
    cases n with
    | Name n fp =>
      match args, kws, h with
      | e :: r, [], h =>
        simp only [mE, Bool.and_eq_true, beq_iff_eq, Bool.or_eq_true, Bool.not_eq_true', decide_eq_true_eq] at h
        exact ⟨n, fp, e, r, pos, rfl, h.1.1.1, h.1.1.2, h.1.2, h.2⟩
      | [], _, h => simp [mE] at h
      | _ :: _, _ :: _, h => simp [mE] at h
    | _ => simp [mE] at h
  | _ => simp [mE] at h
theorem pe_bi {c : Cfg} {sc : Scope} {X : Cx} {f : Bi} {fp pos : Pos} {e : Expr} {r : List Expr} {t : TA} (ok : XOk m c k sc X) (hgl : glB sc f.nm = true) (hgc : f.math = false ∨ f ∈ m.mth) (ha : PA X (e :: r) t)
    (he : starEach (e :: r) X.env = (false, eval e X.env) :: starEach r X.env) (hpl : (backTo pos (starEach r X.env)).any (·.1) = false) : PE X (.Call (.Name f.nm fp) (e :: r) [] pos) (tCB (RBi X.K f) t) := by
  by_cases hf : f.math = true
  · have hm := hgc.elim (fun z => absurd hf (by rw [z]; decide)) (ok.mth f)
    have h4 := bi_ok ok.calm f
    cases f <;> first | (cases hf; done) | exact pe_callBfun h4 (ok.gl hgl) hm ha (bi_dbg _) he hpl
  · have hf : f.math = false := by simpa using hf
    obtain ⟨h1, h2, h3⟩ := bi_names f hf
    have h4 := bi_ok ok.calm f
    cases hv : f.vl with
    | builtin id =>
      rw [hv] at h3 h4
      exact pe_callB h4 (ok.gl hgl) (ok.free _ h1) h3 ha h2 (bi_dbg _) he hpl
    | type T =>
      rw [hv] at h3 h4
      exact pe_callTy h4 (ok.gl hgl) (ok.free _ h1) h3 ha h2 (bi_dbg _) he hpl
    | _ => cases f <;> cases hv
theorem snd_bi {f : Bi} (h1 : SndA m g k es l) : Snd m g k (.bi f es) (.new1 l) := by
  intro c sc X x hg ok h
  obtain ⟨n, fp, e, r, pos, rfl, rfl, h2, h3, h4⟩ := bi_shape h
  have hs := mEs_star (m := m) h3 X.env pos
  obtain ⟨e1, es1, rfl, h5, h6⟩ : ∃ e1 es1, es = .cons e1 es1 ∧ mE m e1 sc e = true ∧ mEs m es1 sc r = true := by
    cases es with
    | nil => simp [mEs] at h3
    | cons e1 es1 =>
      rw [mEs, Bool.and_eq_true] at h3
      exact ⟨e1, es1, rfl, h3.1, h3.2⟩
  refine (pe_bi ok h2 h4 (h1 c sc X _ hg ok h3).1 (star_of (mE_plain h5) _ _) (mEs_star h6 _ _)).mono fun σ H Q ⟨env, st, μ, G, I, hq⟩ => ?_
  rw [evE] at hq
  refine TAv.fst I hq fun ds st1 vs H1 μ1 F _ I1 S1 r1 po hq => ?_
  obtain ⟨z, e1, hq⟩ := Fin.ofO hq
  exact ⟨_, _, _, st1, _, _, r1, I1.bx, e1, okE.out hq I1 S1 (B := fun a => a ∈ F) po⟩

/-! ### calls -/
theorem call_shape {x : Expr} {sc : Scope} {f : Nat} {ord : List Nat} (h : mE m (.call f es kes ord) sc x = true) : ∃ n fp xs kws pos ps, x = .Call (.Name n fp) xs kws pos ∧ m.fns[f]? = some (n, ps) ∧ glB sc n = true ∧ plB n = true ∧ mEs m es sc xs = true ∧ mEs m kes sc (kwVals kws) = true ∧ kwsM kws (kwNm kws) = true ∧ ((kwNm kws = [] ∧ ord = []) ∨ (xs.length, kwNm kws, ord) ∈ m.kw f) := by
  cases x with
  | Call n args kws pos =>
    cases n with
    | Name n fp =>
      simp only [mE] at h
      split at h
      · rename_i n' ps hf
        simp only [Bool.and_eq_true, beq_iff_eq, decide_eq_true_eq] at h
        obtain ⟨⟨⟨⟨⟨⟨rfl, h1⟩, h2⟩, h3⟩, h4⟩, h5⟩, h6⟩ := h
        exact ⟨n, fp, args, kws, pos, ps, rfl, hf, h1, h2, h3, h4, h5, h6.imp (fun z => ⟨by rw [List.isEmpty_iff.mp z.1]; rfl, z.2⟩) id⟩
      · cases h
    | _ => simp [mE] at h
  | _ => simp [mE] at h
theorem kw_len : ∀ {kws : List Keyword} {ks : List Str}, kwsM kws ks = true → (kwVals kws).length = ks.length
  | [], [], _ => rfl
  | [], _ :: _, h => by simp [kwsM] at h
  | _ :: _, [], h => by simp [kwsM] at h
  | k :: ks, x :: xs, h => by
    rw [kwsM, Bool.and_eq_true] at h
    rw [kwVals, List.length_cons, List.length_cons, kw_len h.2]
theorem evEs_len : ∀ {es : Es} {xs : List Expr} {sc : Scope} {env : Env} {st st1 : Sto} {ds : List D}, mEs m es sc xs = true → evEs g es env st = .ok ds st1 → ds.length = xs.length
  | .nil, [], _, _, _, _, _, _, e => by
    rw [evEs] at e
    cases e
    rfl
  | .nil, _ :: _, _, _, _, _, _, h, _ => by simp [mEs] at h
  | .cons _ _, [], _, _, _, _, _, h, _ => by simp [mEs] at h
  | .cons e es, x :: xs, sc, env, st, st1, ds, h, he => by
    rw [mEs, Bool.and_eq_true] at h
    rw [evEs] at he
    cases e1 : evE g e env st with
    | exn _ _ _ => rw [e1] at he; cases he
    | bad => rw [e1] at he; cases he
    | ok d s1 =>
      rw [e1, R.bind_ok] at he
      cases e2 : evEs g es env s1 with
      | exn _ _ _ => rw [e2] at he; cases he
      | bad => rw [e2] at he; cases he
      | ok ds2 s2 =>
        rw [e2, R.bind_ok] at he
        cases he
        rw [List.length_cons, List.length_cons, evEs_len h.2 e2]
theorem XR.mono {CA : Str → Option Addr} {K : PySem.W.Frag} {H : Hp} {μ : List Addr} {Ok Ok' : Addr → Prop} {c : Str} {d : D} {cls : Value} {dd : Option Addr} (h : XR CA K H μ Ok c d cls dd) (k : ∀ a, Ok a → Ok' a) : XR CA K H μ Ok' c d cls dd := by
  obtain ⟨C, dx, v, t, F, e1, e2, e3, e4, r, po⟩ := h
  exact ⟨C, dx, v, t, F, e1, e2, e3, e4, r, fun a ha => ⟨(po a ha).1, k a (po a ha).2⟩⟩
theorem snd_call {f : Nat} {ord : List Nat} (h1 : SndA m g k es l) (h2 : SndA m g k kes l') : Snd m g k (.call f es kes ord) ⟨m.rn f, l ++ l', l ++ l'⟩ := by
  intro c sc X x hg ok h
  obtain ⟨n, fp, xs, kws, pos, ps, rfl, hf, h3, h4, h5, h6, h7, h8⟩ := call_shape h
  obtain ⟨fi, fa, fd, ef, eps, hm, hk, F, hb⟩ := ok.fns f n ps hf
  -- behind the arguments
  have fin0 : ∀ {env : Env} {st st2 : Sto} {μ μ2 : List Addr} {G : Addr → Option Nat} {σ : St} {H H2 : Hp} {Q : VK} {ds1 ds2 : List D} {vs1 vs2 : List V} {F1 F2 : List Addr}, SI X.K c.ow c.Ok env st μ G σ H → SI X.K c.ow c.Ok env st2 μ2 G σ H2 → Step μ H μ2 H2 → Reps X.K H2 μ2 ds1 vs1 F1 → Reps X.K H2 μ2 ds2 vs2 F2 →
      (∀ a ∈ F1, (G a = none ∨ ∃ i ∈ l, G a = some i) ∧ a ∉ μ2 ∧ c.Ok a) → (∀ a ∈ F2, (G a = none ∨ ∃ i ∈ l', G a = some i) ∧ a ∉ μ2 ∧ c.Ok a) →
      Fin (okE c X.K ⟨m.rn f, l ++ l', l ++ l'⟩ env μ G σ H Q) (exE c X.K env μ G σ H) (match g.fns[f]? with | some fi => if ds1.length + ds2.length = fi.ps.length then fi.sem (ds1 ++ ds2) st2 else .bad | none => .bad) →
      vs1.length + vs2.length = ps.length ∧ spF X.K c.CA (m.rn f) fi.sem ps.length (vs1 ++ vs2) H2 Q (WE c.W σ) := fun {env st st2 μ μ2 G σ H H2 Q ds1 ds2 vs1 vs2 F1 F2} I I2 S2 r1 r2 po1 po2 hq => by
    subst hg
    rw [ef] at hq
    simp only at hq
    split at hq
    · rename_i hl
      rw [eps] at hl
      obtain ⟨L, r3, hL⟩ := r1.append r2
      have po : ∀ a ∈ L, (G a = none ∨ ∃ i ∈ l ++ l', G a = some i) ∧ a ∉ μ2 ∧ c.Ok a := fun a ha => by
        rcases hL a ha with ha | ha
        · obtain ⟨z1, z2⟩ := po1 a ha
          exact ⟨z1.imp id fun ⟨i, hi, e⟩ => ⟨i, List.mem_append_left _ hi, e⟩, z2⟩
        · obtain ⟨z1, z2⟩ := po2 a ha
          exact ⟨z1.imp id fun ⟨i, hi, e⟩ => ⟨i, List.mem_append_right _ hi, e⟩, z2⟩
      have gof : ∀ a, H2 a = none → G a = none := fun a ha => by
        cases q : G a with
        | none => rfl
        | some i => exact absurd ha (I2.gdom a (by rw [q]; simp))
      refine ⟨by rw [← r1.length, ← r2.length]; exact hl, ds1 ++ ds2, st2, μ2, L, fun a => (G a = none ∨ ∃ i ∈ l ++ l', G a = some i) ∧ c.Ok a, by rw [List.length_append]; exact hl, r3, I2.box, I2.muLen, I2.muNd, fun a ha => ⟨(po a ha).2.1, (po a ha).1, (po a ha).2.2⟩, ?_⟩
      refine hq.mono (fun d st' _ hx v H' μ' t F' S' b' l'' nd' r' po' nw => ?_) fun x d st' hx cls dd H' μ' S' b' l'' nd' xr => ?_
      · have I3 := I2.after S' b' l'' nd'
        have all : ∀ a ∈ t ++ F', (G a = none ∨ ∃ i ∈ l ++ l', G a = some i) ∧ a ∉ μ' ∧ c.Ok a := fun a ha => by
          obtain ⟨z1, z2⟩ := po' a ha
          rcases z2 with z2 | z2
          · exact ⟨.inl (gof a z2), z1, I2.okn a z2⟩
          · exact ⟨z2.1, z1, z2.2⟩
        refine hx v H' μ' t F' I3 (S2.trans S') r' ⟨fun a ha => ?_, fun a ha => (all a (List.mem_append_right _ ha)).1, fun a ha => (all a ha).2⟩
        simp only
        split
        · rename_i hn
          exact ⟨S2.wasNone (nw hn a ha).1, (nw hn a ha).2⟩
        · exact (all a (List.mem_append_left _ ha)).1
      · exact hx cls dd H' μ' (I2.after S' b' l'' nd') (S2.trans S') (xr.mono fun a ha => ha.elim (fun z => I2.okn a z) fun z => z.2)
    · exact hq.elim
  have fin : ∀ {env : Env} {st st2 : Sto} {μ μ2 : List Addr} {G : Addr → Option Nat} {σ : St} {H H2 : Hp} {Q : VK} {ds1 ds2 : List D} {vs1 vs2 : List V} {F1 F2 : List Addr}, SI X.K c.ow c.Ok env st μ G σ H → SI X.K c.ow c.Ok env st2 μ2 G σ H2 → Step μ H μ2 H2 → Reps X.K H2 μ2 ds1 vs1 F1 → Reps X.K H2 μ2 ds2 vs2 F2 →
      (∀ a ∈ F1, (G a = none ∨ ∃ i ∈ l, G a = some i) ∧ a ∉ μ2 ∧ c.Ok a) → (∀ a ∈ F2, (G a = none ∨ ∃ i ∈ l', G a = some i) ∧ a ∉ μ2 ∧ c.Ok a) →
      Fin (okE c X.K ⟨m.rn f, l ++ l', l ++ l'⟩ env μ G σ H Q) (exE c X.K env μ G σ H) (match g.fns[f]? with | some fi => if ds1.length + (permL ord ds2).length = fi.ps.length then fi.sem (ds1 ++ permL ord ds2) st2 else .bad | none => .bad) →
      vs1.length + (permL ord vs2).length = ps.length ∧ spF X.K c.CA (m.rn f) fi.sem ps.length (vs1 ++ permL ord vs2) H2 Q (WE c.W σ) := fun I I2 S2 r1 r2 po1 po2 hq => by
    obtain ⟨F2', r2', hF2⟩ := r2.perm ord
    exact fin0 I I2 S2 r1 r2' po1 (fun a ha => po2 a (hF2 a ha)) hq
  cases xs with
  | nil =>
    have ee : es = .nil := by
      cases es with
      | nil => rfl
      | cons _ _ => simp [mEs] at h5
    subst ee
    refine (pe_callA0 (ord := ord) F ok.room (ok.gl h3) hm hk hb (fun σ => passAt ok.tk σ) ((h2 c sc X _ hg ok h6).2 kws rfl) h7 (plB_ok h4).1).mono fun σ H Q ⟨env, st, μ, G, I, hq⟩ => ?_
    rw [evE, evEs, R.bind_ok] at hq
    refine TAv.fst I hq fun ds st1 vs H1 μ1 F1 e1 I1 S1 r1 po hq => ?_
    obtain ⟨z1, z2⟩ := fin (ds1 := []) (vs1 := []) (F1 := []) I I1 S1 .nil r1 (fun _ h => by simp at h) po hq
    exact ⟨by rw [← r1.length, evEs_len h6 e1]; exact kw_len h7, by simpa using z1, h8, by simpa using z2⟩
  | cons x xs =>
    have h9 : starEach (x :: xs) X.env = (false, eval x X.env) :: starEach xs X.env := by
      cases es with
      | nil => simp [mEs] at h5
      | cons e1 es1 =>
        rw [mEs, Bool.and_eq_true] at h5
        exact star_of (mE_plain h5.1) _ _
    refine (pe_callA (ord := ord) F ok.room (ok.gl h3) hm hk hb (fun σ => passAt ok.tk σ) (h1 c sc X _ hg ok h5).1 ((h2 c sc X _ hg ok h6).2 kws rfl) (fun pos => mEs_star h5 _ _) h9 h7 (plB_ok h4).1).mono fun σ H Q ⟨env, st, μ, G, I, hq⟩ => ?_
    rw [evE] at hq
    refine TAv.fst I hq fun ds st1 vs H1 μ1 F1 e1 I1 S1 r1 po hq => ?_
    refine TAv.nxt S1 I1 hq fun ds2 st2 vs2 H2 μ2 F2 e2 I2 S2 r2 po2 hq => ?_
    obtain ⟨z1, z2⟩ := fin I I2 (S1.trans S2) (r1.step S2 fun a ha => (po a ha).2.1) r2 (fun a ha => ⟨(po a ha).1, S2.notin (r1.there a ha) (po a ha).2.1, (po a ha).2.2⟩) po2 hq
    exact ⟨by rw [← r1.length]; exact evEs_len h5 e1, by rw [← r2.length, evEs_len h6 e2]; exact kw_len h7, z1, h8, z2⟩

/-! ### boxes -/
theorem snd_box (he : Snd m g k e p) (hn : p.new = true) : Snd m g k (.box e) (.new1 []) := by
  intro c sc X x hg ok h
  have h1 : mE m e sc x = true := by
    have : (mE m e sc x && plainX x) = true := by
      rw [← h]
      cases x <;> simp [mE]
    rw [Bool.and_eq_true] at this
    exact this.1
  refine (he c sc X x hg ok h1).mono fun σ H Q ⟨env, st, μ, G, I, hq⟩ => ?_
  rw [evE] at hq
  refine TEv.fst I hq fun x1 st1 v1 H1 μ1 t1 F1 I1 S1 r1 hq => ?_
  obtain ⟨r, po⟩ := r1
  cases r <;> first | exact hq.elim | skip
  rename_i a vs ds e1 r
  simp only at hq
  split at hq
  · rename_i hn2
    have hF := Reps.noL r hn2
    subst hF
    have ht := po.top a (by simp)
    rw [if_pos hn] at ht
    have ha : a ∉ μ1 := (po.out a (by simp)).1
    have S2 : Step μ H (μ1 ++ [a]) H1 := ⟨S1.keep, S1.tups, S1.frzs, S1.dom, by
      obtain ⟨ν, rfl, hν⟩ := S1.ext
      refine ⟨ν ++ [a], by simp, fun b hb => ?_⟩
      rcases List.mem_append.mp hb with hb | hb
      · exact hν b hb
      · rw [List.mem_singleton.mp hb]; exact ht.1⟩
    refine hq (.ref a) H1 (μ1 ++ [a]) [] [] (I.after S2 (fun k' xs' e' => ?_) (by rw [List.length_append, List.length_append, I1.muLen] <;> rfl) ?_) S2 (.ref ?_) .nil
    · by_cases hk : k' < st1.length
      · rw [List.getElem?_append_left hk] at e'
        obtain ⟨a', vs', e2, e3, r2⟩ := I1.box k' xs' e'
        exact ⟨a', vs', by rw [List.getElem?_append_left (by rw [I1.muLen]; exact hk)]; exact e2, e3, Reps.moreMu r2⟩
      · rw [List.getElem?_append_right (by omega)] at e'
        have hk2 : k' - st1.length = 0 := by
          cases z : k' - st1.length with
          | zero => rfl
          | succ n => rw [z] at e'; simp at e'
        rw [hk2] at e'
        cases e'
        refine ⟨a, vs, ?_, e1, Reps.moreMu r⟩
        rw [List.getElem?_append_right (by rw [I1.muLen]; omega), I1.muLen, hk2] <;> rfl
    · rw [List.nodup_append]
      exact ⟨I1.muNd, by simp, fun b hb d hd => by
        rw [List.mem_singleton.mp hd]
        intro z
        exact ha (by rw [← z]; exact hb)⟩
    · rw [List.getElem?_append_right (by rw [I1.muLen]; omega), I1.muLen, Nat.sub_self] <;> rfl
  · exact hq.elim
end
end WT
end

section
set_option Elab.async false
set_option linter.all false
set_option maxRecDepth 100000
set_option autoImplicit false
/-! K9: tests. -/
namespace WT
open PySem PySem.Spec PyProof.Rows L2

def plainT : Expr → Bool
  | .Compare _ _ _ _ => false
  | .BoolOp _ _ _ => false
  | .UnaryOp .Not _ _ => false
  | .IfExp _ _ _ _ => false
  | _ => true
theorem isTrue_of {x : Expr} (h : plainT x = true) (env : PySem.Env) : ∀ whole, isTrue x env whole = (do let v ← whole; standAt x.pos; holding [v] (truthy v)) := by
  intro whole
  cases x with
  | UnaryOp op _ _ => cases op <;> first | rfl | (cases h; done)
  | _ => first | rfl | (cases h; done)
theorem _root_.L2.PT.pw {X : Cx} {op : BoolOp} {es : List Expr} {pos : Pos} {t : TT} (h : PT X (.BoolOp op es pos) t) : PW X (.BoolOp op es pos) t := ⟨fun _ pins s σ H Q I q => h.run pins s σ H Q I q⟩
section
variable {m : MC} {g : GE} {k : Nat} {a b d e : E} {es kes : Es} {p q r : Pv}
theorem sndt_val (he : Snd m g k e p) (hp : ∀ sc x, mE m e sc x = true → plainT x = true) : SndT m g k e := by
  intro c sc X x hg ok h ht
  refine (pt_truth (he c sc X x hg ok h) (isTrue_of (hp sc x h) X.env)).mono fun σ H Q ⟨env, st, μ, G, I, hq⟩ => ?_
  unfold evC at hq
  rw [Fin.bind] at hq
  exact ⟨env, st, μ, G, I, hq.mono (fun x1 st1 _ hx v H1 μ1 t F I1 S1 r po => by
    obtain ⟨b, e1, hx⟩ := Fin.ofO hx
    exact ⟨b, r.tru e1, hx H1 μ1 I1 S1⟩) fun _ _ _ hx => hx⟩
theorem evC_not {env : Env} {st : Sto} : evC g (.not a) env st = (evC g a env st).bind fun b st1 => .ok (!b) st1 := by
  unfold evC
  rw [evE]
  cases evE g a env st with
  | ok x st1 =>
    simp only [R.bind_ok]
    cases truD st1 x with
    | none => rfl
    | some b => cases b <;> rfl
  | exn _ _ _ => rfl
  | bad => rfl
theorem evC_and {env : Env} {st : Sto} : evC g (.and a b) env st = (evC g a env st).bind fun k st1 => if k = true then evC g b env st1 else .ok false st1 := by
  unfold evC
  rw [evE]
  cases evE g a env st with
  | ok x st1 =>
    simp only [R.bind_ok]
    cases e1 : truD st1 x with
    | none => rfl
    | some b => cases b <;> simp [e1]
  | exn _ _ _ => rfl
  | bad => rfl
theorem evC_or {env : Env} {st : Sto} : evC g (.or a b) env st = (evC g a env st).bind fun k st1 => if k = true then .ok true st1 else evC g b env st1 := by
  unfold evC
  rw [evE]
  cases evE g a env st with
  | ok x st1 =>
    simp only [R.bind_ok]
    cases e1 : truD st1 x with
    | none => rfl
    | some b => cases b <;> simp [e1]
  | exn _ _ _ => rfl
  | bad => rfl
theorem sndt_not (ha : SndT m g k a) : SndT m g k (.not a) := by
  intro c sc X x hg ok h ht
  cases x with
  | UnaryOp op x pos =>
    cases op with
    | Not =>
      simp only [mE] at h
      refine (pt_not (ha c sc X x hg ok h (by simpa [tOk] using ht))).mono fun σ H Q ⟨env, st, μ, G, I, hq⟩ => ?_
      rw [evC_not, Fin.bind] at hq
      exact ⟨env, st, μ, G, I, hq.mono (fun b st1 _ hx H1 μ1 I1 S1 => hx H1 μ1 I1 S1) fun _ _ _ hx => hx⟩
    | _ => simp [mE] at h
  | _ => simp [mE] at h
theorem sndt_and (ha : SndT m g k a) (hb : SndT m g k b) : SndT m g k (.and a b) := by
  intro c sc X x hg ok h ht
  rw [tOk, Bool.and_eq_true] at ht
  obtain ⟨y, z, r, pos, rfl, h1, h2⟩ := bool_shape h
  have hB : PW X (.BoolOp .And (z :: r) pos) (TTv c X.K (evC g b)) := by
    rcases h2 with ⟨rfl, h2⟩ | ⟨_, h2⟩
    · exact pw_and1 (hb c sc X z hg ok h2 ht.2)
    · exact (hb c sc X _ hg ok h2 ht.2).pw
  refine (pw_and (ha c sc X y hg ok h1 ht.1) hB).pt.mono fun σ H Q ⟨env, st, μ, G, I, hq⟩ => ?_
  rw [evC_and, Fin.bind] at hq
  refine ⟨env, st, μ, G, I, hq.mono (fun b st1 _ hx H1 μ1 I1 S1 => ?_) fun _ _ _ hx => hx⟩
  cases b with
  | false => exact hx H1 μ1 I1 S1
  | true => exact ⟨env, st1, μ1, G, I1, Fin.mono hx (fun b st2 _ hy H2 μ2 I2 S2 => hy H2 μ2 I2 (S1.trans S2)) fun _ _ _ hx => hx.step S1⟩
theorem sndt_or (ha : SndT m g k a) (hb : SndT m g k b) : SndT m g k (.or a b) := by
  intro c sc X x hg ok h ht
  rw [tOk, Bool.and_eq_true] at ht
  obtain ⟨y, z, r, pos, rfl, h1, h2⟩ := bool_shapeO h
  have hB : PW X (.BoolOp .Or (z :: r) pos) (TTv c X.K (evC g b)) := by
    rcases h2 with ⟨rfl, h2⟩ | ⟨_, h2⟩
    · exact pw_or1 (hb c sc X z hg ok h2 ht.2)
    · exact (hb c sc X _ hg ok h2 ht.2).pw
  refine (pw_or (ha c sc X y hg ok h1 ht.1) hB).pt.mono fun σ H Q ⟨env, st, μ, G, I, hq⟩ => ?_
  rw [evC_or, Fin.bind] at hq
  refine ⟨env, st, μ, G, I, hq.mono (fun b st1 _ hx H1 μ1 I1 S1 => ?_) fun _ _ _ hx => hx⟩
  cases b with
  | true => exact hx H1 μ1 I1 S1
  | false => exact ⟨env, st1, μ1, G, I1, Fin.mono hx (fun b st2 _ hy H2 μ2 I2 S2 => hy H2 μ2 I2 (S1.trans S2)) fun _ _ _ hx => hx.step S1⟩
theorem okT.of {c : Cfg} {K : PySem.W.Frag} {env : Env} {μ : List Addr} {G : Addr → Option Nat} {σ : St} {H : Hp} {Q : Bool → Hp → Prop} {r : R Bool} (h : Fin (okT c K env μ G σ H Q) (exE c K env μ G σ H) r) :
    Fin (okE c K (.new1 []) env μ G σ H fun v H' => ∃ b, v = .bl b ∧ Q b H') (exE c K env μ G σ H) (r.bind fun b st => .ok (.bl b) st) := by
  rw [Fin.bind]
  exact h.mono (fun b st _ hx v H1 μ1 t F I1 S1 r po => by
    cases r
    exact ⟨b, rfl, hx H1 μ1 I1 S1⟩) fun _ _ _ hx => hx
theorem evC_val {env : Env} {st : Sto} (h : ∀ x st1, evE g e env st = .ok x st1 → ∃ b, x = .bl b) : ((evC g e env st).bind fun b st1 => R.ok (D.bl b) st1) = evE g e env st := by
  unfold evC
  cases e1 : evE g e env st with
  | bad => rfl
  | exn _ _ _ => rfl
  | ok x st1 =>
    obtain ⟨b, rfl⟩ := h x st1 e1
    cases b <;> rfl
/-- a comparison as a test: what it says as a value -/
theorem pt_cmp_of {c : Cfg} {X : Cx} {x : Expr} {t : TE} (hp : PT X x (tTest t)) (hm : ∀ σ H Q, TEv c X.K (.new1 []) (evE g e) σ H Q → t σ H Q) (hv : ∀ env st x st1, evE g e env st = .ok x st1 → ∃ b, x = .bl b) : PT X x (TTv c X.K (evC g e)) := by
  refine hp.mono fun σ H Q ⟨env, st, μ, G, I, hq⟩ => ?_
  exact hm σ H _ ⟨env, st, μ, G, I, by rw [← evC_val (hv env st)]; exact okT.of hq⟩
theorem R.bind_eq {α β : Type} {r : R α} {f : α → Sto → R β} {y : β} {st : Sto} (h : r.bind f = .ok y st) : ∃ x st1, r = .ok x st1 ∧ f x st1 = .ok y st := by
  cases r with
  | ok x st1 => exact ⟨x, st1, rfl, h⟩
  | exn _ _ _ => cases h
  | bad => cases h
theorem R.ofO_eq {α : Type} {o : Option α} {y : α} {st st1 : Sto} (h : R.ofO st1 o = .ok y st) : o = some y ∧ st1 = st := by
  cases o with
  | none => cases h
  | some a => cases h; exact ⟨rfl, rfl⟩
theorem sndt_cmp {op : CmpOp} (ha : Snd m g k a p) (hb : Snd m g k b q) : SndT m g k (.cmp op a b) := by
  intro c sc X x hg ok h ht
  cases x with
  | Compare x ops ys pos =>
    match ops, ys, h with
    | [op'], [y], h =>
      simp only [mE, Bool.and_eq_true, decide_eq_true_eq, Bool.not_eq_true'] at h
      obtain ⟨⟨⟨rfl, h1⟩, h2⟩, h3⟩ := h
      refine pt_cmp_of (pt_cmpR (op_cmp_v ok.room.units op) (ha c sc X x hg ok h1) (hb c sc X y hg ok h2) h3) (fun σ H Q ⟨env, st, μ, G, I, hq⟩ => ?_) fun env st x st1 e => ?_
      · rw [evE] at hq
        refine TEv.fst I hq fun x1 st1 v1 H1 μ1 t1 F1 I1 S1 r1 hq => ?_
        refine TEv.nxt S1 I1 hq fun x2 st2 v2 H2 μ2 t2 F2 I2 S2 r2 hq => ?_
        obtain ⟨z, e1, hq⟩ := Fin.ofO hq
        obtain ⟨b, e2, rfl⟩ := Option.map_eq_some_iff.mp e1
        exact ⟨_, _, _, _, _, _, _, _, (r1.step S2).rep, r2.rep, e2, okE.flat (p := .new1 []) hq I2 (S1.trans S2) (.bl _)⟩
      · rw [evE] at e
        obtain ⟨_, _, _, e⟩ := R.bind_eq e
        obtain ⟨_, _, _, e⟩ := R.bind_eq e
        obtain ⟨b, e2, rfl⟩ := Option.map_eq_some_iff.mp (R.ofO_eq e).1
        exact ⟨b, rfl⟩
    | [], _, h => simp [mE] at h
    | _ :: _ :: _, _, h => simp [mE] at h
    | [_], [], h => simp [mE] at h
    | [_], _ :: _ :: _, h => simp [mE] at h
  | _ => simp [mE] at h
theorem sndt_cmp2 {op op2 : CmpOp} (ha : Snd m g k a p) (hb : Snd m g k b q) (hd : Snd m g k d r) : SndT m g k (.cmp2 op op2 a b d) := by
  intro c sc X x hg ok h ht
  obtain ⟨y, z, w, pos, rfl, h1, h2, h3, h4⟩ := cmp2_shape h
  refine pt_cmp_of (pt_chain (op_cmp_v ok.room.units op) (op_cmp_v ok.room.units op2) (ha c sc X y hg ok h1) (hb c sc X z hg ok h2) (hd c sc X w hg ok h3) (show behindInMarks op2 w = false from h4)) (fun σ H Q ⟨env, st, μ, G, I, hq⟩ => ?_) fun env st x st1 e => ?_
  · rw [evE] at hq
    refine TEv.fst I hq fun x1 st1 v1 H1 μ1 t1 F1 I1 S1 r1 hq => ?_
    refine TEv.nxt S1 I1 hq fun x2 st2 v2 H2 μ2 t2 F2 I2 S2 r2 hq => ?_
    cases e1 : cmpD op x1 x2 with
    | none => rw [e1] at hq; exact hq.elim
    | some b =>
      rw [e1] at hq
      refine ⟨_, _, _, _, _, _, _, _, (r1.step S2).rep, r2.rep, e1, b, rfl, ?_⟩
      cases b with
      | false => exact okE.flat (p := .new1 []) hq I2 (S1.trans S2) (.bl _)
      | true =>
        simp only [ite_true]
        refine TEv.nxt (S1.trans S2) I2 hq fun x3 st3 v3 H3 μ3 t3 F3 I3 S3 r3 hq => ?_
        obtain ⟨z, e2, hq⟩ := Fin.ofO hq
        obtain ⟨b, e3, rfl⟩ := Option.map_eq_some_iff.mp e2
        exact ⟨_, _, _, _, _, _, _, _, (r2.step S3).rep, r3.rep, e3, okE.flat (p := .new1 []) hq I3 ((S1.trans S2).trans S3) (.bl _)⟩
  · rw [evE] at e
    obtain ⟨x1, _, _, e⟩ := R.bind_eq e
    obtain ⟨x2, _, _, e⟩ := R.bind_eq e
    cases e1 : cmpD op x1 x2 with
    | none => rw [e1] at e; cases e
    | some b =>
      rw [e1] at e
      cases b with
      | false => cases e; exact ⟨_, rfl⟩
      | true =>
        obtain ⟨_, _, _, e⟩ := R.bind_eq e
        obtain ⟨b, e2, rfl⟩ := Option.map_eq_some_iff.mp (R.ofO_eq e).1
        exact ⟨b, rfl⟩
end
end WT
end

section
set_option Elab.async false
set_option linter.all false
set_option maxRecDepth 100000
set_option autoImplicit false
/-! K10: what is walked. -/
namespace WT
open PySem PySem.Spec PyProof.Rows L2

section
variable {K : PySem.W.Frag} {H H' H1 H2 : Hp} {μ μ' μ1 μ2 : List Addr} {L L' : Addr → Prop}
/-- a step that keeps the lists of L -/
structure SL (L : Addr → Prop) (μ : List Addr) (H : Hp) (μ' : List Addr) (H' : Hp) : Prop where
  keep : ∀ a o, H a = some o → a ∉ μ → L a → H' a = some o
  tups : ∀ a xs, H a = some (.tup xs) → H' a = some (.tup xs)
  frzs : ∀ a o u, H a = some (.frz o u) → H' a = some (.frz o u)
  dom : ∀ a, H a ≠ none → H' a ≠ none
  ext : ∃ ν, μ' = μ ++ ν ∧ ∀ a ∈ ν, H a = none
theorem Step.sl (s : Step μ H μ' H') : SL L μ H μ' H' := ⟨fun a o h n _ => s.keep a o h n, s.tups, s.frzs, s.dom, s.ext⟩
theorem SL.refl : SL L μ H μ H := Step.refl.sl
theorem SL.notin (s : SL L μ H μ' H') {a : Addr} (h : H a ≠ none) (n : a ∉ μ) : a ∉ μ' := by
  obtain ⟨ν, rfl, hν⟩ := s.ext
  intro z
  rcases List.mem_append.mp z with z | z
  · exact n z
  · exact h (hν a z)
theorem SL.trans (s : SL L μ H μ1 H1) (r : SL L' μ1 H1 μ2 H2) (hL : ∀ a, H a ≠ none → a ∉ μ → L a → L' a) : SL L μ H μ2 H2 where
  keep := fun a o h n l => r.keep a o (s.keep a o h n l) (s.notin (by rw [h]; simp) n) (hL a (by rw [h]; simp) n l)
  tups := fun a xs h => r.tups a xs (s.tups a xs h)
  frzs := fun a o u h => r.frzs a o u (s.frzs a o u h)
  dom := fun a h => r.dom a (s.dom a h)
  ext := by
    obtain ⟨ν, rfl, hν⟩ := s.ext
    obtain ⟨ν', rfl, hν'⟩ := r.ext
    refine ⟨ν ++ ν', by simp, fun a h => ?_⟩
    rcases List.mem_append.mp h with h | h
    · exact hν a h
    · cases e : H a with
      | none => rfl
      | some o => exact absurd (hν' a h) (s.dom a (by rw [e]; simp))
theorem SL.weak (s : SL L μ H μ' H') (h : ∀ a, L' a → L a) : SL L' μ H μ' H' := ⟨fun a o e n l => s.keep a o e n (h a l), s.tups, s.frzs, s.dom, s.ext⟩
theorem SL.wasNone (s : SL L μ H μ' H') {a : Addr} (h : H' a = none) : H a = none := by
  cases e : H a with
  | none => rfl
  | some o => exact absurd h (s.dom a (by rw [e]; simp))
theorem SqT.sl {a : Addr} {vs : List V} (h : SqT K H a vs) (s : SL L μ H μ' H') : SqT K H' a vs := by
  rcases h with (h | ⟨o, h⟩) | h
  · exact .inl (.inl (s.tups _ _ h))
  · exact .inl (.inr ⟨o, s.frzs _ _ _ h⟩)
  · exact .inr h
theorem Fz.sl {a : Addr} {ns : List Int} (h : Fz K H a ns) (s : SL L μ H μ' H') : Fz K H' a ns := by
  rcases h with ⟨o, h⟩ | h
  · exact .inl ⟨o, s.frzs _ _ _ h⟩
  · exact .inr h
mutual
theorem Rep.sl : ∀ {d : D} {v : V} {t F : List Addr}, Rep K H μ d v t F → SL L μ H μ' H' → (∀ a ∈ t ++ F, a ∉ μ ∧ L a) → Rep K H' μ' d v t F
  | _, _, _, _, .non, _, _ => .non
  | _, _, _, _, .bl b, _, _ => .bl b
  | _, _, _, _, .int b, _, _ => .int b
  | _, _, _, _, .str b, _, _ => .str b
  | _, _, _, _, .tup e r, s, n => .tup (SqT.sl e s) (Reps.sl r s fun a h => n a (by simpa using h))
  | _, _, _, _, .lst e r, s, n => .lst (s.keep _ _ e (n _ (by simp)).1 (n _ (by simp)).2) (Reps.sl r s fun a h => n a (by simp [h]))
  | _, _, _, _, .frz e, s, _ => .frz (Fz.sl e s)
  | _, _, _, _, .dT e h1 h2 h3 h4 h5 r hF, s, n => .dT (s.keep _ _ e (n _ (by simp)).1 (n _ (by simp)).2) h1 h2 h3 (h4.mono fun _ _ z => SqT.sl z s) h5 (Reps.sl r s fun a h => by rw [hF] at h; simp at h) hF
  | _, _, _, _, .dK e h1 h2 r hF, s, n => .dK (s.keep _ _ e (n _ (by simp)).1 (n _ (by simp)).2) h1 h2 (Reps.sl r s fun a h => by rw [hF] at h; simp at h) hF
  | _, _, _, _, .ref e, s, _ => .ref (by
      obtain ⟨ν, rfl, _⟩ := s.ext
      rw [List.getElem?_append_left (List.getElem?_eq_some_iff.mp e).1]
      exact e)
theorem Reps.sl : ∀ {ds : List D} {vs : List V} {F : List Addr}, Reps K H μ ds vs F → SL L μ H μ' H' → (∀ a ∈ F, a ∉ μ ∧ L a) → Reps K H' μ' ds vs F
  | _, _, _, .nil, _, _ => .nil
  | _, _, _, .cons r t, s, n => .cons (Rep.sl r s fun a h => n a (List.mem_append_left _ h)) (Reps.sl t s fun a h => n a (List.mem_append_right _ h))
end
theorem SL.new {p : Addr} {o : HO} (h : H p = none) : SL L μ H μ (upd H p o) := (Step.new h).sl
end

/-- an iterator walks xs: L are its lists, l says whose the items' lists may be -/
structure Wk (K : PySem.W.Frag) (ok : Addr → Prop) (G : Addr → Option Nat) (l : List Nat) (J : L2.It) (xs : List D) (L : List Addr) (μ1 : List Addr) (H1 : Hp) : Prop where
  there : ∀ a ∈ L, H1 a ≠ none ∧ a ∉ μ1
  stop : ∀ μ H i, SL (· ∈ L) μ1 H1 μ H → xs.length ≤ i → J.stop i H
  go : ∀ μ H i x, SL (· ∈ L) μ1 H1 μ H → xs[i]? = some x → J.go i H ∧ ∀ v H', J.yld i H v H' → New1 H H' ∧ ∃ t F, Rep K H' μ x v t F ∧ ∀ a ∈ t ++ F, a ∈ L ∧ (G a = none ∨ ∃ i ∈ l, G a = some i) ∧ ok a
def okI (c : Cfg) (K : PySem.W.Frag) (l lt : List Nat) (env : Env) (μ : List Addr) (G : Addr → Option Nat) (σ : St) (H : Hp) (R : L2.It → Hp → Prop) : List D → Sto → Prop := fun xs st' =>
  ∀ J H' μ' L, SI K c.ow c.Ok env st' μ' G σ H' → Step μ H μ' H' → Wk K c.Ok G l J xs L μ' H' → (∀ a ∈ L, (G a = none ∨ ∃ i ∈ lt, G a = some i) ∧ c.Ok a) → R J H'
def TIv (c : Cfg) (K : PySem.W.Frag) (l lt : List Nat) (s : Env → Sto → WT.R (List D)) : TI := fun σ H R => ∃ env st μ G, SI K c.ow c.Ok env st μ G σ H ∧ Fin (okI c K l lt env μ G σ H R) (exE c K env μ G σ H) (s env st)
def itP : WT.It → Bool
  | .enum _ => true
  | .zip _ _ => true
  | _ => false
def SndI (m : MC) (g : GE) (k : Nat) (it : WT.It) (l lt : List Nat) : Prop := ∀ (c : Cfg) (sc : Scope) (X : Cx) (tg x : Expr), c.g = g → XOk m c k sc X → mIt m it sc x = true → (itP it = true → ∃ elts kk tpos, tg = .Tuple elts kk tpos) → PI X tg x (TIv c X.K l lt (evIt g it))
theorem _root_.L2.PI.mono {X : Cx} {tg e : Expr} {t t' : TI} (h : PI X tg e t) (m : ∀ σ H Q, t' σ H Q → t σ H Q) : PI X tg e t' := ⟨fun pins s σ H Q I q => h.run pins s σ H Q I (m σ H Q q)⟩

/-! ### the walkers -/
section
variable {K : PySem.W.Frag} {ok : Addr → Prop} {G : Addr → Option Nat} {l : List Nat} {xs ys : List D} {vs ws : List V} {F F' : List Addr} {μ1 : List Addr} {H1 : Hp} {a b : Addr}
theorem Wk.mu {J : L2.It} {L : List Addr} (w : Wk K ok G l J xs L μ1 H1) {μ : List Addr} {H : Hp} (s : SL (· ∈ L) μ1 H1 μ H) : ∀ a ∈ L, a ∉ μ := fun a ha => s.notin (w.there a ha).1 (w.there a ha).2
theorem wk_list (h : H1 a = some (.lst vs)) (r : Reps K H1 μ1 xs vs F) (n : ∀ b ∈ a :: F, b ∉ μ1) (hF : ∀ b ∈ F, (G b = none ∨ ∃ i ∈ l, G b = some i) ∧ ok b) : Wk K ok G l (Itl K a) xs (a :: F) μ1 H1 where
  there := fun b hb => ⟨by
    rcases List.mem_cons.mp hb with hb | hb
    · rw [hb, h]; simp
    · exact r.there b hb, n b hb⟩
  stop := fun μ H i s hl => ⟨vs, .inl (.inl (s.keep a _ h (n a (by simp)) (by simp))), by rw [← r.length]; exact hl⟩
  go := fun μ H i x s hx => by
    have hq : SqL K H a vs := .inl (.inl (s.keep a _ h (n a (by simp)) (by simp)))
    have r2 := r.sl s fun b hb => ⟨n b (List.mem_cons_of_mem _ hb), List.mem_cons_of_mem _ hb⟩
    obtain ⟨v, t, F2, e, rv, hs⟩ := r2.get hx
    refine ⟨⟨vs, v, hq, e⟩, fun v' H' hy => ?_⟩
    obtain ⟨rfl, hy⟩ := hy
    have e2 := hy vs hq
    rw [e] at e2
    cases e2
    exact ⟨.inl rfl, t, F2, rv, fun b hb => ⟨List.mem_cons_of_mem _ (hs b hb), hF b (hs b hb)⟩⟩
theorem wk_tup (h : SqT K H1 a vs) (r : Reps K H1 μ1 xs vs F) (n : ∀ b ∈ F, b ∉ μ1) (hF : ∀ b ∈ F, (G b = none ∨ ∃ i ∈ l, G b = some i) ∧ ok b) : Wk K ok G l (Itt K a) xs F μ1 H1 where
  there := fun b hb => ⟨r.there b hb, n b hb⟩
  stop := fun μ H i s hl => ⟨vs, SqT.sl h s, by rw [← r.length]; exact hl⟩
  go := fun μ H i x s hx => by
    have hq : SqT K H a vs := SqT.sl h s
    have r2 := r.sl s fun b hb => ⟨n b hb, hb⟩
    obtain ⟨v, t, F2, e, rv, hs⟩ := r2.get hx
    refine ⟨⟨vs, v, hq, e⟩, fun v' H' hy => ?_⟩
    obtain ⟨rfl, hy⟩ := hy
    have e2 := hy vs hq
    rw [e] at e2
    cases e2
    exact ⟨.inl rfl, t, F2, rv, fun b hb => ⟨hs b hb, hF b (hs b hb)⟩⟩
theorem wk_rng {lo : Int} {n : Nat} : Wk K ok G l (Itr lo n) ((List.range n).map fun (k : Nat) => D.int (lo + k)) [] μ1 H1 where
  there := fun b hb => by simp at hb
  stop := fun μ H i s hl => (by simpa using hl : n ≤ i)
  go := fun μ H i x s hx => by
    have hi : i < n := Nat.lt_of_not_le fun z => by
      rw [List.getElem?_eq_none (by simpa using z)] at hx
      cases hx
    rw [List.getElem?_map, List.getElem?_range] at hx
    · cases hx
      refine ⟨hi, fun v H' hy => ?_⟩
      obtain ⟨rfl, rfl⟩ := hy
      exact ⟨.inl rfl, [], [], .int _, fun b hb => by simp at hb⟩
    · exact hi
theorem wk_rngC {lo : Int} {n : Nat} : Wk K ok G l (Itc lo (-1) n) ((List.range n).map fun (k : Nat) => D.int (lo - k)) [] μ1 H1 where
  there := fun b hb => by simp at hb
  stop := fun μ H i s hl => (by simpa using hl : n ≤ i)
  go := fun μ H i x s hx => by
    have hi : i < n := Nat.lt_of_not_le fun z => by
      rw [List.getElem?_eq_none (by simpa using z)] at hx
      cases hx
    rw [List.getElem?_map, List.getElem?_range] at hx
    · cases hx
      refine ⟨hi, fun v H' hy => ?_⟩
      obtain ⟨rfl, rfl⟩ := hy
      refine ⟨.inl rfl, [], [], ?_, fun b hb => by simp at hb⟩
      rw [show lo + (i : Int) * -1 = lo - i by omega]
      exact .int _
    · exact hi
theorem wk_enum (h : H1 a = some (.lst vs)) (r : Reps K H1 μ1 xs vs F) (n : ∀ b ∈ a :: F, b ∉ μ1) (hF : ∀ b ∈ F, (G b = none ∨ ∃ i ∈ l, G b = some i) ∧ ok b) : Wk K ok G l (Ite K a) (enumD xs) (a :: F) μ1 H1 where
  there := fun b hb => ⟨by
    rcases List.mem_cons.mp hb with hb | hb
    · rw [hb, h]; simp
    · exact r.there b hb, n b hb⟩
  stop := fun μ H i s hl => ⟨vs, .inl (.inl (s.keep a _ h (n a (by simp)) (by simp))), by rw [← r.length]; simpa [enumD] using hl⟩
  go := fun μ H i x s hx => by
    have hq : SqL K H a vs := .inl (.inl (s.keep a _ h (n a (by simp)) (by simp)))
    have r2 := r.sl s fun b hb => ⟨n b (List.mem_cons_of_mem _ hb), List.mem_cons_of_mem _ hb⟩
    rw [enumD, List.getElem?_mapIdx] at hx
    obtain ⟨x, hx2, rfl⟩ := Option.map_eq_some_iff.mp hx
    have hx := hx2
    obtain ⟨v, t, F2, e, rv, hs⟩ := r2.get hx
    refine ⟨⟨vs, v, hq, e⟩, fun v' H' hy => ?_⟩
    obtain ⟨T, y, rfl, hT, rfl, hy⟩ := hy
    have e2 := hy vs hq
    rw [e] at e2
    cases e2
    have n1 : New1 H (upd H T (.tup [.int (i : Nat), v])) := .inr ⟨T, _, hT, rfl⟩
    have rr : Reps K (upd H T (.tup [.int (i : Nat), v])) μ [.int i, x] [.int (i : Nat), v] ([] ++ [] ++ (t ++ F2 ++ [])) := .cons (.int _) (.cons (rv.ext n1.keep) .nil)
    refine ⟨n1, [], _, .tup (.inl (.inl upd_same)) rr, fun b hb => ?_⟩
    have hb : b ∈ t ++ F2 := by simpa using hb
    exact ⟨List.mem_cons_of_mem _ (hs b hb), hF b (hs b hb)⟩
theorem wk_zip (h : H1 a = some (.lst vs)) (r : Reps K H1 μ1 xs vs F) (h' : H1 b = some (.lst ws)) (r' : Reps K H1 μ1 ys ws F') (n : ∀ x ∈ a :: b :: (F ++ F'), x ∉ μ1) (hF : ∀ b ∈ F ++ F', (G b = none ∨ ∃ i ∈ l, G b = some i) ∧ ok b) :
    Wk K ok G l (Itz K a b) (zipD xs ys) (a :: b :: (F ++ F')) μ1 H1 where
  there := fun x hb => ⟨by
    rcases List.mem_cons.mp hb with hb | hb
    · rw [hb, h]; simp
    · rcases List.mem_cons.mp hb with hb | hb
      · rw [hb, h']; simp
      · rcases List.mem_append.mp hb with hb | hb
        · exact r.there x hb
        · exact r'.there x hb, n x hb⟩
  stop := fun μ H i s hl => ⟨vs, ws, .inl (.inl (s.keep a _ h (n a (by simp)) (by simp))), .inl (.inl (s.keep b _ h' (n b (by simp)) (by simp))), by
    rw [← r.length, ← r'.length]
    have : min xs.length ys.length ≤ i := by simpa [zipD] using hl
    omega⟩
  go := fun μ H i x s hx => by
    have hq : SqL K H a vs := .inl (.inl (s.keep a _ h (n a (by simp)) (by simp)))
    have hq' : SqL K H b ws := .inl (.inl (s.keep b _ h' (n b (by simp)) (by simp)))
    have r2 := r.sl s fun b hb => ⟨n b (by simp [hb]), by simp [hb]⟩
    have r2' := r'.sl s fun b hb => ⟨n b (by simp [hb]), by simp [hb]⟩
    rw [zipD, List.getElem?_zipWith] at hx
    cases hx1 : xs[i]? with
    | none => rw [hx1] at hx; cases ys[i]? <;> cases hx
    | some x1 =>
      cases hx2 : ys[i]? with
      | none => rw [hx1, hx2] at hx; cases hx
      | some x2 =>
        rw [hx1, hx2] at hx
        cases hx
        obtain ⟨v, t, F2, e, rv, hs⟩ := r2.get hx1
        obtain ⟨v', t', F2', e', rv', hs'⟩ := r2'.get hx2
        refine ⟨⟨vs, ws, v, v', hq, hq', e, e'⟩, fun w H' hy => ?_⟩
        obtain ⟨T, y, y', rfl, hT, rfl, hy, hy'⟩ := hy
        have e2 := hy vs hq
        rw [e] at e2
        cases e2
        have e2 := hy' ws hq'
        rw [e'] at e2
        cases e2
        have n1 : New1 H (upd H T (.tup [v, v'])) := .inr ⟨T, _, hT, rfl⟩
        have rr : Reps K (upd H T (.tup [v, v'])) μ [x1, x2] [v, v'] (t ++ F2 ++ (t' ++ F2' ++ [])) := .cons (rv.ext n1.keep) (.cons (rv'.ext n1.keep) .nil)
        refine ⟨n1, [], _, .tup (.inl (.inl upd_same)) rr, fun b hb => ?_⟩
        have hb : b ∈ F ++ F' := by
          rcases List.mem_append.mp (show b ∈ t ++ F2 ++ (t' ++ F2' ++ []) from hb) with hb | hb
          · exact List.mem_append_left _ (hs b hb)
          · exact List.mem_append_right _ (hs' b (by simpa using hb))
        exact ⟨List.mem_cons_of_mem _ (List.mem_cons_of_mem _ hb), hF b hb⟩
theorem wk_zipT (h : SqT K H1 a vs) (r : Reps K H1 μ1 xs vs F) (h' : SqT K H1 b ws) (r' : Reps K H1 μ1 ys ws F') (n : ∀ x ∈ F ++ F', x ∉ μ1) (hF : ∀ b ∈ F ++ F', (G b = none ∨ ∃ i ∈ l, G b = some i) ∧ ok b) :
    Wk K ok G l (RZ.ItzT K a b) (zipD xs ys) (F ++ F') μ1 H1 where
  there := fun x hb => ⟨by
    rcases List.mem_append.mp hb with hb | hb
    · exact r.there x hb
    · exact r'.there x hb, n x hb⟩
  stop := fun μ H i s hl => ⟨vs, ws, SqT.sl h s, SqT.sl h' s, by
    rw [← r.length, ← r'.length]
    have : min xs.length ys.length ≤ i := by simpa [zipD] using hl
    omega⟩
  go := fun μ H i x s hx => by
    have hq : SqT K H a vs := SqT.sl h s
    have hq' : SqT K H b ws := SqT.sl h' s
    have r2 := r.sl s fun b hb => ⟨n b (by simp [hb]), by simp [hb]⟩
    have r2' := r'.sl s fun b hb => ⟨n b (by simp [hb]), by simp [hb]⟩
    rw [zipD, List.getElem?_zipWith] at hx
    cases hx1 : xs[i]? with
    | none => rw [hx1] at hx; cases ys[i]? <;> cases hx
    | some x1 =>
      cases hx2 : ys[i]? with
      | none => rw [hx1, hx2] at hx; cases hx
      | some x2 =>
        rw [hx1, hx2] at hx
        cases hx
        obtain ⟨v, t, F2, e, rv, hs⟩ := r2.get hx1
        obtain ⟨v', t', F2', e', rv', hs'⟩ := r2'.get hx2
        refine ⟨⟨vs, ws, v, v', hq, hq', e, e'⟩, fun w H' hy => ?_⟩
        obtain ⟨T, y, y', rfl, hT, rfl, hy, hy'⟩ := hy
        have e2 := hy vs hq
        rw [e] at e2
        cases e2
        have e2 := hy' ws hq'
        rw [e'] at e2
        cases e2
        have n1 : New1 H (upd H T (.tup [v, v'])) := .inr ⟨T, _, hT, rfl⟩
        have rr : Reps K (upd H T (.tup [v, v'])) μ [x1, x2] [v, v'] (t ++ F2 ++ (t' ++ F2' ++ [])) := .cons (rv.ext n1.keep) (.cons (rv'.ext n1.keep) .nil)
        refine ⟨n1, [], _, .tup (.inl (.inl upd_same)) rr, fun b hb => ?_⟩
        have hb : b ∈ F ++ F' := by
          rcases List.mem_append.mp (show b ∈ t ++ F2 ++ (t' ++ F2' ++ []) from hb) with hb | hb
          · exact List.mem_append_left _ (hs b hb)
          · exact List.mem_append_right _ (hs' b (by simpa using hb))
        exact ⟨hb, hF b hb⟩
end
end WT
end

section
set_option Elab.async false
set_option linter.all false
set_option maxRecDepth 100000
set_option maxHeartbeats 1000000
set_option autoImplicit false
/-! K10e: enumerate over a tuple. -/
namespace WT
open PySem PySem.Spec PyProof.Rows L2
open PySem.Sem (wp)
theorem meets_enumerate_newT (l : Addr) (items : Array Value) :
    Meets (Builtin.«enumerate.__new__» ⟨[.type "enumerate", .ref l], []⟩) (fun _ R s => s.heap.IsTuple l items ∧
      R (.ok (.ret (.ref (s.heap.push { cls := .type "tuple_iterator", data := .fields #[.ref l, .int 0 0] }).objs.size)))
        { s with heap := (s.heap.push { cls := .type "tuple_iterator", data := .fields #[.ref l, .int 0 0] }).push { cls := .type "enumerate", data := .fields #[.none, .bool false, .ref s.heap.objs.size, rawInt 0, .none, .none] } }) :=
  .of_wp fun prog w A R s h => by
    obtain ⟨hp, g, d, tk, os⟩ := s; obtain ⟨hl, h⟩ := h
    have hsub := sub_enumerate
    have hL : Heap.IsTuple (Shared.heap ⟨hp, g, d, tk, os⟩) l items := hl
    obtain ⟨⟨c, dct, dt, sl⟩, hq, hc, n, hd⟩ := hl
    replace hc : c = .type "tuple" := hc
    replace hd : dt = .seq items n := hd
    subst hc hd
    wp_walk using AutoSeq1.wpAny_loadPart' hq
    refine wpAny_stack_any fun st => wpAny_pure ?_
    split
    · rename_i c _ _ _ _ _
      cases (c == Value.type "enumerate")
      · wp_walk using AutoSeq1.wpAny_loadPart' hq, wpAny_pyIter_tuple hL
        exact ⟨_, rfl, h⟩
      · wp_walk using AutoSeq1.wpAny_loadPart' hq, wpAny_pyIter_tuple hL
        exact ⟨_, rfl, h⟩
    · wp_walk using AutoSeq1.wpAny_loadPart' hq, wpAny_pyIter_tuple hL
      exact ⟨_, rfl, h⟩
section
variable {prog : Program} {w : World} {A : Around} {E : Value → Shared → Prop} {s : Shared}
theorem call_enumerate_tuple {l : Addr} {items : Array Value} {Q : Value → Shared → Prop} (hL : s.heap.IsTuple l items)
    (h : ∀ h', IsEnum h' (s.heap.objs.size + 1) s.heap.objs.size 0 .none → h'.IsTupleIter s.heap.objs.size l 0 → h'.objs.size = s.heap.objs.size + 2 →
      (∀ b o, s.heap.get? b = some o → h'.get? b = some o) → Q (.ref (s.heap.objs.size + 1)) { s with heap := h' }) :
    wpAny (model prog w) A (call (.type "enumerate") [.ref l]) Q E s := by
  refine callType_new F.called_enumerate (by decide) (F.typeCall_enumerate_1 _) (F.newCall_enumerate_1 _) (fun obj => F.args_object_init_2 obj _) F.entry_enumerate_new
    (meets_enumerate_newT l items) ⟨hL, ?_⟩
  have hz : (s.heap.push { cls := .type "tuple_iterator", data := .fields #[.ref l, .int 0 0] }).objs.size = s.heap.objs.size + 1 := Heap.size_push ..
  show _ ∧ _
  rw [hz]
  have he : IsEnum ((s.heap.push { cls := .type "tuple_iterator", data := .fields #[.ref l, .int 0 0] }).push
      { cls := .type "enumerate", data := .fields #[.none, .bool false, .ref s.heap.objs.size, rawInt 0, .none, .none] }) (s.heap.objs.size + 1) s.heap.objs.size 0 .none := by
    have := Heap.get?_push_size (s.heap.push { cls := .type "tuple_iterator", data := .fields #[.ref l, .int 0 0] })
      (o := { cls := .type "enumerate", data := .fields #[.none, .bool false, .ref s.heap.objs.size, rawInt 0, .none, .none] }) rfl
    rw [hz] at this; exact this
  refine ⟨⟨_, he, rfl⟩, h _ he ⟨_, Heap.get?_push_of_some _ (Heap.get?_push_size _ rfl), rfl, rfl⟩ (by rw [Heap.size_push, hz]) fun b o x => Heap.get?_push_of_some _ (Heap.get?_push_of_some _ x)⟩
end
theorem draws_tuple {prog : Program} {w : World} {A : Around} (hh : A.handled = none) (it l : Addr) (hne : l ≠ it) (items : Array Value) :
    Draws prog w A it [it, l] items.size (fun i v => items[i]? = some v) (fun i h => h.IsTupleIter it l i ∧ h.IsTuple l items) where
  live := fun _ _ st => let ⟨o, ho, _⟩ := st.1; ⟨o, ho⟩
  frame := fun _ _ _ st hk => ⟨st.1.at fun o e => hk it (by simp) o e, let ⟨o, ho, r⟩ := st.2; ⟨o, hk l (by simp) o ho, r⟩⟩
  item := fun i s Q E hi st hQ => by
    refine RZ.nextOf_tuple_item st.1 st.2 (x := items[i]) (by simp [hi]) fun h' hit' hs' => ?_
    exact hQ _ h' s.toks (by simp [hi]) ⟨hit', let ⟨o, ho, r⟩ := st.2; ⟨o, (hs'.2 l hne).trans ho, r⟩⟩ hs'
  done := fun s Q E st hE => RZ.nextOf_tuple_end hh st.1 st.2 (by simp) hE
/-- the tuple at a, each item in a new pair -/
def IteT (K : PySem.W.Frag) (a : Addr) : L2.It :=
  ⟨fun i H => ∃ (xs : List V) (x : V), SqT K H a xs ∧ xs[i]? = some x, fun i H v H' => ∃ T x, v = .ref T ∧ H T = none ∧ H' = upd H T (.tup [.int (i : Nat), x]) ∧ ∀ xs, SqT K H a xs → xs[i]? = some x, fun i H => ∃ xs : List V, SqT K H a xs ∧ xs.length ≤ i⟩
theorem turn_enumT {P : Program} {w : World} {K : PySem.W.Frag} {elts : List Expr} {kk : Nat} {tpos : Pos} (a e it : Addr) :
    Turn P w K (.Tuple elts kk tpos) (IteT K a) [e, it] e (fun i h => (∃ old, IsEnum h e it ((i : Nat) : Int) old) ∧ h.IsTupleIter it a i ∧ e ≠ it) where
  mem := by simp
  obj := fun i h st b hb => by
    obtain ⟨⟨old, he⟩, ⟨o, ho, hc, hd⟩, _⟩ := st
    have e' : b = e ∨ b = it := by simpa using hb
    rcases e' with z | z
    · rw [z]; exact ⟨_, he, fun v q => nomatch q⟩
    · rw [z]; exact ⟨o, ho, fun v q => by rw [hd] at q; cases q⟩
  keep := fun i h h' st k => let ⟨⟨old, he⟩, hi, hne⟩ := st; ⟨⟨old, k e (by simp) _ he⟩, hi.at fun o q => k it (by simp) o q, hne⟩
  item := by
    intro X hP hw hK hc i pins s σ H E I hf st hg
    subst hP hw hK
    obtain ⟨⟨old, he⟩, hit, hne⟩ := st
    obtain ⟨xs, x, hq, hx⟩ := hg
    obtain ⟨its, rv, p, hz⟩ := I.tuple hq
    obtain ⟨u, hu, ru⟩ := rv.get hx
    have hel : e < s.heap.objs.size := Heap.lt_size he
    have hil : it < s.heap.objs.size := by obtain ⟨_, q, _⟩ := hit; exact Heap.lt_size q
    have hea : e ≠ a := fun z => by
      obtain ⟨o, ho, hc, _⟩ := p
      rw [← z, he] at ho; cases ho; simp at hc
    have hia : a ≠ it := fun z => by
      obtain ⟨o, ho, hc, _⟩ := p
      obtain ⟨o', ho', hc', _⟩ := hit
      rw [z, ho'] at ho; cases ho; rw [hc'] at hc; simp at hc
    have D : Draws X.prog X.w X.A.in1 it [it, a] its.toArray.size _ _ := draws_tuple (show X.A.in1.handled = none from I.ok.hd hc) it a hia its.toArray
    have hlt : i < its.toArray.size := by
      have := (List.getElem?_eq_some_iff.mp hu).1
      simpa using this
    refine wpAny_pyNext_enum_itemD D he ⟨hit, p⟩ hlt hne (by simp [hne, hea]) fun x' h' tk hx' ho hst' hT hsz hk => ?_
    obtain rfl : x' = u := by
      have h1 : its.toArray[i]? = some x' := hx'
      simp only [List.getElem?_toArray] at h1
      rw [hu] at h1
      exact (Option.some.inj h1).symm
    have hit' := hst'.1
    refine ⟨_, rfl, wpAny_letOwnedTupleGo_enum (s := { s with heap := h', toks := tk + 1 }) ho fun h'' he' sb => ?_⟩
    have hT2 : h''.get? s.heap.objs.size = some { cls := .type "tuple", data := .seq #[.int i tk, x'] } := (sb.2 _ (Nat.ne_of_gt hel)).trans hT
    have new : ObjOk X.prog X.w (upd H s.heap.objs.size (.tup [.int (i : Nat), x])) h'' s.heap.objs.size (.tup [.int (i : Nat), x]) :=
      ⟨by show 2 ≤ sizeLine; decide, [.int i tk, x'], .cons ⟨_, rfl⟩ (.cons ru .nil), ⟨_, hT2, rfl, _, rfl⟩⟩
    have I1 : Inv X pins σ (upd H s.heap.objs.size (.tup [.int (i : Nat), x])) { s with heap := h'', toks := tk + 1 } :=
      I.turnedNew (ch := [e, it]) (fun b ob hb q => (sb.2 b (fun z => hb (by simp [z]))).trans (hk b ob (fun z => hb (by simp [z])) (fun z => hb (by simp [z])) q)) hf (Nat.le_refl _) new
    refine ⟨.ref s.heap.objs.size, _, I1, rfl, ⟨_, x, rfl, I.hok.fresh (Nat.le_refl _), rfl, fun ys hy => by rw [I.tuple_inj hy hq]; exact hx⟩, ⟨⟨x', ?_⟩, hit'.at fun o q => (sb.2 it (Ne.symm hne)).trans q, hne⟩, fun b hb => ?_⟩
    · have e1 : ((i + 1 : Nat) : Int) = (i : Int) + 1 := by omega
      rw [e1]; exact he'
    · have hb' : b < s.heap.objs.size := by
        have e' : b = e ∨ b = it := by simpa using hb
        rcases e' with z | z
        · rw [z]; exact hel
        · rw [z]; exact hil
      rw [upd_ne (Nat.ne_of_lt hb')]
      exact (hf b hb).1
  done := by
    intro X hP hw hK hc i pins s σ H E I hf st hg
    subst hP hw hK
    obtain ⟨⟨old, he⟩, hit, hne⟩ := st
    obtain ⟨xs, hq, hx⟩ := hg
    obtain ⟨its, rv, p, hz⟩ := I.tuple hq
    obtain ⟨f0, f1, f2, f3, f4, f5⟩ := hf it (by simp)
    have hl := rv.length
    have hT : s.TypeIs (.ref e) "enumerate" := ⟨_, he, rfl⟩
    unfold pyNext
    refine wpAny_bind (wpAny_attempt (wpAny_callSpecial?_slot (name := Str.ofString "__next__") hT F.slot_enumerate_next
      (wpAny_call_entry F.slot_enumerate_next hT F.entry_enumerate_next ?_ (F.args_enumerate_next_1 _))))
    show wpAny _ _ (field (.ref e) 2 >>= _) _ _ _
    refine wpAny_bind (wpAny_field he rfl (x := .ref it) rfl ?_)
    refine wpAny_bind (RZ.nextOf_tuple_end (I.ok.hd hc) hit p (by simp; omega) fun h' x he' hx' => ?_)
    obtain ⟨o, ho, hc⟩ := hx'
    refine wpAny_bind (wpAny_isInstance (T := "StopIteration") (b := true) ⟨o, ho, hc⟩ isSubtype_stop ?_)
    exact wpAny_pure ⟨rfl, I.turned (t' := s.toks) (fun b o hb q => he' b o hb q) f0 f1 f3 f4 f5⟩
  self := fun A i s Q E st h => let ⟨⟨_, he⟩, _⟩ := st; wpAny_pyIter_enum he h
def iEnumA (K : PySem.W.Frag) (ta : TA) : TI := fun σ H R => ta σ H fun vs H1 => ∃ a xs, vs = [.ref a] ∧ ((SqL K H1 a xs ∧ R (Ite K a) H1) ∨ (SqT K H1 a xs ∧ R (IteT K a) H1))
theorem pi_enumA {X : Cx} {e : Expr} {ta : TA} {p pos tpos : Pos} {elts : List Expr} {kk : Nat} (hg : Gl X "enumerate") (hm : X.mg "enumerate" = none) (ha : PA X [e] ta) (hs : starEach [e] X.env = [(false, eval e X.env)] := by rfl) :
    PI X (.Tuple elts kk tpos) (.Call (.Name "enumerate" p) [e] [] pos) (iEnumA X.K ta) := by
  refine ⟨fun pins s σ H R I h => ?_⟩
  refine Call_ (ld_blt I hg hm boot_enumerate (PyProof.Rows.callWith_type1 (thn (ha.run pos pins s σ H _ I h) fun us s1 ⟨vs, H1, I1, r1, q1⟩ => ?_) hs rfl))
  obtain ⟨a, xs, ex, hq⟩ := q1
  subst ex
  cases r1 with
  | cons r rr =>
    cases rr
    cases r
    have fin : ∀ b, b = s1.heap.objs.size + 1 ∨ b = s1.heap.objs.size → FpOk X pins H1 b := fun b e' => by
      have hle : s1.heap.objs.size ≤ b := by
        rcases e' with z | z
        · rw [z]; exact Nat.le_add_right _ _
        · rw [z]; exact Nat.le_refl _
      exact I1.fpOk hle (I1.hok.fresh hle)
    rcases hq with ⟨hq, q⟩ | ⟨hq, q⟩
    · obtain ⟨its, rv, p', hz⟩ := I1.list hq
      refine call_enumerate_list p'.isList fun h' he hit hsz hk => wpAny_pyIter_enum he ?_
      have I2 : Inv X pins σ H1 { s1 with heap := h' } := I1.kept (t' := s1.toks) hk
      exact ⟨s1.heap.objs.size + 1, [s1.heap.objs.size + 1, s1.heap.objs.size], _, _, H1, rfl, I2, turn_enum a (s1.heap.objs.size + 1) s1.heap.objs.size, ⟨⟨.none, he⟩, hit, Nat.succ_ne_self _⟩, fun b hb => fin b (by simpa using hb), q⟩
    · obtain ⟨its, rv, p', hz⟩ := I1.tuple hq
      refine call_enumerate_tuple p' fun h' he hit hsz hk => wpAny_pyIter_enum he ?_
      have I2 : Inv X pins σ H1 { s1 with heap := h' } := I1.kept (t' := s1.toks) hk
      exact ⟨s1.heap.objs.size + 1, [s1.heap.objs.size + 1, s1.heap.objs.size], _, _, H1, rfl, I2, turn_enumT a (s1.heap.objs.size + 1) s1.heap.objs.size, ⟨⟨.none, he⟩, hit, Nat.succ_ne_self _⟩, fun b hb => fin b (by simpa using hb), q⟩
section
variable {K : PySem.W.Frag} {ok : Addr → Prop} {G : Addr → Option Nat} {l : List Nat} {a : Addr} {xs : List WT.D} {vs : List V} {F : List Addr} {μ1 : List Addr} {H1 : Hp}
theorem wk_enumT (h : SqT K H1 a vs) (r : Reps K H1 μ1 xs vs F) (n : ∀ b ∈ F, b ∉ μ1) (hF : ∀ b ∈ F, (G b = none ∨ ∃ i ∈ l, G b = some i) ∧ ok b) : Wk K ok G l (IteT K a) (enumD xs) F μ1 H1 where
  there := fun b hb => ⟨r.there b hb, n b hb⟩
  stop := fun μ H i s hl => ⟨vs, SqT.sl h s, by rw [← r.length]; simpa [enumD] using hl⟩
  go := fun μ H i x s hx => by
    have hq : SqT K H a vs := SqT.sl h s
    have r2 := r.sl s fun b hb => ⟨n b hb, hb⟩
    rw [enumD, List.getElem?_mapIdx] at hx
    obtain ⟨x, hx2, rfl⟩ := Option.map_eq_some_iff.mp hx
    have hx := hx2
    obtain ⟨v, t, F2, e, rv, hs⟩ := r2.get hx
    refine ⟨⟨vs, v, hq, e⟩, fun v' H' hy => ?_⟩
    obtain ⟨T, y, rfl, hT, rfl, hy⟩ := hy
    have e2 := hy vs hq
    rw [e] at e2
    cases e2
    have n1 : New1 H (upd H T (.tup [.int (i : Nat), v])) := .inr ⟨T, _, hT, rfl⟩
    have rr : Reps K (upd H T (.tup [.int (i : Nat), v])) μ [.int i, x] [.int (i : Nat), v] ([] ++ [] ++ (t ++ F2 ++ [])) := .cons (.int _) (.cons (rv.ext n1.keep) .nil)
    refine ⟨n1, [], _, .tup (.inl (.inl upd_same)) rr, fun b hb => ?_⟩
    have hb : b ∈ t ++ F2 := by simpa using hb
    exact ⟨hs b hb, hF b (hs b hb)⟩
end
end WT
end

section
set_option Elab.async false
set_option linter.all false
set_option maxRecDepth 100000
set_option autoImplicit false
/-! K11: what is walked, as it is written; targets. -/
namespace WT
open PySem PySem.Spec PyProof.Rows L2

section
variable {X : Cx} {tg : Expr}
theorem pi_seq {l : Expr} {tl : TE} (hl : PE X l tl) : PI X tg l (fun σ H R => tl σ H fun x H1 => ∃ a, x = .ref a ∧ (((∃ xs, SqL X.K H1 a xs) ∧ R (Itl X.K a) H1) ∨ ((∃ xs, SqT X.K H1 a xs) ∧ R (Itt X.K a) H1))) := by
  refine ⟨fun pins s σ H R I h => ?_⟩
  refine thn (hl.run pins s σ H _ I h) fun v s1 ⟨x, H1, I1, r1, q1⟩ => ?_
  obtain ⟨a, e, q⟩ := q1
  subst e
  cases r1
  rcases q with ⟨⟨xs, hq⟩, q⟩ | ⟨⟨xs, hq⟩, q⟩
  · obtain ⟨its, rv, p, hz⟩ := I1.list hq
    refine wpAny_pyIter_list p.isList ?_
    refine ⟨s1.heap.objs.size, [s1.heap.objs.size], _, _, H1, rfl, I1.kept (t' := s1.toks) fun b o e => Heap.get?_push_of_some _ e, turn_list a _, ⟨_, Heap.get?_push_size _ rfl, rfl, rfl⟩, fun b hb => ?_, q⟩
    have e : b = s1.heap.objs.size := by simpa using hb
    subst e
    exact I1.fpOk (Nat.le_refl _) (I1.hok.fresh (Nat.le_refl _))
  · obtain ⟨its, rv, p, hz⟩ := I1.tuple hq
    refine wpAny_pyIter_tuple (show s1.heap.IsTuple a its.toArray from p) ?_
    refine ⟨s1.heap.objs.size, [s1.heap.objs.size], _, _, H1, rfl, I1.kept (t' := s1.toks) fun b o e => Heap.get?_push_of_some _ e, turn_tuple a _, ⟨_, Heap.get?_push_size _ rfl, rfl, rfl⟩, fun b hb => ?_, q⟩
    have e : b = s1.heap.objs.size := by simpa using hb
    subst e
    exact I1.fpOk (Nat.le_refl _) (I1.hok.fresh (Nat.le_refl _))
end
section
variable {c : Cfg} {K : PySem.W.Frag} {p : Pv} {env : Env} {st : Sto} {μ : List Addr} {G : Addr → Option Nat} {σ : St} {H : Hp}
theorem TEv.fst' {α : Type} {okk : α → Sto → Prop} {s : Env → Sto → R D} {f : D → Sto → R α} {R' : VK} (I : SI K c.ow c.Ok env st μ G σ H) (h : Fin okk (exE c K env μ G σ H) ((s env st).bind f))
    (k : ∀ x st1 v H1 μ1 t F, SI K c.ow c.Ok env st1 μ1 G σ H1 → Step μ H μ1 H1 → Held K c G p H x v t F μ1 H1 → Fin okk (exE c K env μ G σ H) (f x st1) → R' v H1) : TEv c K p s σ H R' := by
  rw [Fin.bind] at h
  exact ⟨env, st, μ, G, I, h.mono (fun x st1 _ hx v H1 μ1 t F I1 S1 r po => k x st1 v H1 μ1 t F I1 S1 ⟨r, po⟩ hx) fun _ _ _ hx => hx⟩
theorem TEv.nxt' {α : Type} {okk : α → Sto → Prop} {s : Env → Sto → R D} {f : D → Sto → R α} {R' : VK} {μ1 : List Addr} {H1 : Hp} {st1 : Sto} (S1 : Step μ H μ1 H1) (I : SI K c.ow c.Ok env st1 μ1 G σ H1) (h : Fin okk (exE c K env μ G σ H) ((s env st1).bind f))
    (k : ∀ x st2 v H2 μ2 t F, SI K c.ow c.Ok env st2 μ2 G σ H2 → Step μ1 H1 μ2 H2 → Held K c G p H x v t F μ2 H2 → Fin okk (exE c K env μ G σ H) (f x st2) → R' v H2) : TEv c K p s σ H1 R' := by
  rw [Fin.bind] at h
  exact ⟨env, st1, μ1, G, I, h.mono (fun x st1 _ hx v H1 μ1 t F I1 S2 r po => k x st1 v H1 μ1 t F I1 S2 ⟨r, po.back S1⟩ hx) fun _ _ _ hx => hx.step S1⟩
end
section
variable {m : MC} {g : GE} {k : Nat} {a b d e : E} {p q r : Pv}
theorem sndi_seq (he : Snd m g k e p) : SndI m g k (.seq e) p.inn (p.top ++ p.inn) := by
  intro c sc X tg x hg ok h ht
  simp only [mIt, Bool.and_eq_true] at h
  refine (pi_seq (he c sc X x hg ok h.1)).mono fun σ H R ⟨env, st, μ, G, I, hq⟩ => ?_
  rw [evIt] at hq
  refine TEv.fst' I hq fun x1 st1 v1 H1 μ1 t1 F1 I1 S1 r1 hq => ?_
  obtain ⟨xs, e1, hq⟩ := Fin.ofO hq
  have all := r1.all (G := G) I.gdom
  cases x1 <;> first | (cases e1; done) | skip
  · obtain ⟨rp, po⟩ := r1
    cases rp
    rename_i hs rs
    cases e1
    exact ⟨_, rfl, .inr ⟨⟨_, hs⟩, hq _ H1 μ1 _ I1 S1 (wk_tup hs rs (fun b hb => (all b (by simpa using hb)).2.1) fun b hb => ⟨po.inn b hb, (all b (by simpa using hb)).2.2⟩) fun b hb => ⟨(all b (by simpa using hb)).1, (all b (by simpa using hb)).2.2⟩⟩⟩
  · obtain ⟨rp, po⟩ := r1
    cases rp
    rename_i hs rs
    cases e1
    exact ⟨_, rfl, .inl ⟨⟨_, .inl (.inl hs)⟩, hq _ H1 μ1 _ I1 S1 (wk_list hs rs (fun b hb => (all b (by simpa using hb)).2.1) fun b hb => ⟨po.inn b hb, (all b (by simp [hb])).2.2⟩) fun b hb => ⟨(all b (by simpa using hb)).1, (all b (by simpa using hb)).2.2⟩⟩⟩
theorem sndi_range1 (ha : Snd m g k a p) : SndI m g k (.range1 a) [] [] := by
  intro c sc X tg x hg ok h ht
  cases x with
  | Call f args kws pos =>
    cases f with
    | Name f fp =>
      match args, kws, h with
      | [x], [], h =>
        simp only [mIt, Bool.and_eq_true, beq_iff_eq] at h
        obtain ⟨⟨rfl, h1⟩, h2⟩ := h
        refine (pi_range1 (ok.gl h1) (ok.free _ (by decide +kernel)) (pa_cons (ha c sc X x hg ok h2) pa_nil (star_of (mE_plain h2) _ _)) (star_of (mE_plain h2) _ _)).mono fun σ H R ⟨env, st, μ, G, I, hq⟩ => ?_
        rw [evIt] at hq
        refine TEv.fst' I hq fun x1 st1 v1 H1 μ1 t1 F1 I1 S1 r1 hq => ?_
        cases x1 <;> first | exact hq.elim | skip
        rename_i n
        obtain ⟨rp, po⟩ := r1
        cases rp
        obtain ⟨z, e1, hq⟩ := Fin.ofO hq
        unfold rangeD at e1
        split at e1
        · rename_i hb
          rw [if_pos rfl] at e1
          cases e1
          dsimp only [tNil]
          refine ⟨n, rfl, hb.2.2.1, hb.2.2.2, hq _ H1 μ1 [] I1 S1 ?_ fun _ h => by simp at h⟩
          rw [show n - 0 = n by omega]
          exact wk_rng
        · cases e1
      | [], _, h => simp [mIt] at h
      | _ :: _ :: _, _, h => simp [mIt] at h
      | [_], _ :: _, h => simp [mIt] at h
    | _ => simp [mIt] at h
  | _ => simp [mIt] at h
theorem sndi_range2 (ha : Snd m g k a p) (hb : Snd m g k b q) : SndI m g k (.range2 a b) [] [] := by
  intro c sc X tg x hg ok h ht
  cases x with
  | Call f args kws pos =>
    cases f with
    | Name f fp =>
      match args, kws, h with
      | [x, y], [], h =>
        simp only [mIt, Bool.and_eq_true, beq_iff_eq] at h
        obtain ⟨⟨⟨rfl, h1⟩, h2⟩, h3⟩ := h
        refine (pi_range2 (ok.gl h1) (ok.free _ (by decide +kernel)) (pa_cons (ha c sc X x hg ok h2) (pa_cons (hb c sc X y hg ok h3) pa_nil (star_of (mE_plain h3) _ _)) (star_of (mE_plain h2) _ _))
          (by rw [star_of (mE_plain h2), star_of (mE_plain h3)]; rfl) (star_of (mE_plain h3) _ _)).mono fun σ H R ⟨env, st, μ, G, I, hq⟩ => ?_
        rw [evIt] at hq
        refine TEv.fst' I hq fun x1 st1 v1 H1 μ1 t1 F1 I1 S1 r1 hq => ?_
        refine TEv.nxt' S1 I1 hq fun x2 st2 v2 H2 μ2 t2 F2 I2 S2 r2 hq => ?_
        cases x1 <;> first | exact hq.elim | skip
        rename_i lo
        cases x2 <;> first | exact hq.elim | skip
        rename_i hi
        obtain ⟨rp, po⟩ := r1
        obtain ⟨rp2, po2⟩ := r2
        cases rp
        cases rp2
        obtain ⟨z, e1, hq⟩ := Fin.ofO hq
        unfold rangeD at e1
        split at e1
        · rename_i hb
          rw [if_pos rfl] at e1
          cases e1
          dsimp only [tNil]
          exact ⟨_, _, rfl, hb, hq _ H2 μ2 _ I2 (S1.trans S2) wk_rng fun _ h => by simp at h⟩
        · cases e1
      | [], _, h => simp [mIt] at h
      | [_], _, h => simp [mIt] at h
      | _ :: _ :: _ :: _, _, h => simp [mIt] at h
      | [_, _], _ :: _, h => simp [mIt] at h
    | _ => simp [mIt] at h
  | _ => simp [mIt] at h
theorem sndi_range3 (ha : Snd m g k a p) (hb : Snd m g k b q) (hd : Snd m g k d r) : SndI m g k (.range3 a b d) [] [] := by
  intro c sc X tg x hg ok h ht
  cases x with
  | Call f args kws pos =>
    cases f with
    | Name f fp =>
      match args, kws, h with
      | [x, y, z], [], h =>
        simp only [mIt, Bool.and_eq_true, beq_iff_eq] at h
        obtain ⟨⟨⟨⟨rfl, h1⟩, h2⟩, h3⟩, h4⟩ := h
        refine (pi_range3 (ok.gl h1) (ok.free _ (by decide +kernel)) (pa_cons (ha c sc X x hg ok h2) (pa_cons (hb c sc X y hg ok h3) (pa_cons (hd c sc X z hg ok h4) pa_nil (star_of (mE_plain h4) _ _)) (star_of (mE_plain h3) _ _)) (star_of (mE_plain h2) _ _))
          (star_of (mE_plain h2) _ _) (by rw [star_of (mE_plain h3), star_of (mE_plain h4)]; rfl)).mono fun σ H R ⟨env, st, μ, G, I, hq⟩ => ?_
        rw [evIt] at hq
        refine TEv.fst' I hq fun x1 st1 v1 H1 μ1 t1 F1 I1 S1 r1 hq1 => ?_
        refine TEv.nxt' S1 I1 hq1 fun x2 st2 v2 H2 μ2 t2 F2 I2 S2 r2 hq2 => ?_
        refine TEv.nxt' (S1.trans S2) I2 hq2 fun x3 st3 v3 H3 μ3 t3 F3 I3 S3 r3 hq3 => ?_
        clear hq hq1 hq2
        obtain ⟨lo, rfl⟩ : ∃ i, x1 = .int i := by cases x1 <;> first | exact ⟨_, rfl⟩ | exact hq3.elim
        obtain ⟨hi, rfl⟩ : ∃ i, x2 = .int i := by cases x2 <;> first | exact ⟨_, rfl⟩ | exact hq3.elim
        obtain ⟨cc, rfl⟩ : ∃ i, x3 = .int i := by cases x3 <;> first | exact ⟨_, rfl⟩ | exact hq3.elim
        obtain ⟨rp, po⟩ := r1
        obtain ⟨rp2, po2⟩ := r2
        obtain ⟨rp3, po3⟩ := r3
        cases rp
        cases rp2
        cases rp3
        obtain ⟨z, e1, hq⟩ := Fin.ofO hq3
        unfold rangeD at e1
        split at e1
        · rename_i hb
          split at e1
          · rename_i hc
            cases e1
            subst hc
            dsimp only [tNil]
            refine ⟨_, _, _, (hi - lo).toNat, rfl, ⟨by decide, by decide, small_one hb.1 hb.2.1 hb.2.2.1 hb.2.2.2, ?_⟩, hq _ H3 μ3 [] I3 ((S1.trans S2).trans S3) ?_ fun _ h => by simp at h⟩
            · rw [rangeSize_one]; split <;> omega
            · have z : Itc lo 1 (hi - lo).toNat = Itr lo (hi - lo).toNat := by
                unfold Itc Itr
                simp
              rw [z]
              exact wk_rng
          · split at e1
            · rename_i hc
              cases e1
              subst hc
              dsimp only [tNil]
              exact ⟨_, _, _, _, rfl, RgC.neg hb.1 hb.2.1 hb.2.2.1 hb.2.2.2, hq _ H3 μ3 _ I3 ((S1.trans S2).trans S3) wk_rngC fun _ h => by simp at h⟩
            · cases e1
        · cases e1
      | [], _, h => simp [mIt] at h
      | [_], _, h => simp [mIt] at h
      | [_, _], _, h => simp [mIt] at h
      | _ :: _ :: _ :: _ :: _, _, h => simp [mIt] at h
      | [_, _, _], _ :: _, h => simp [mIt] at h
    | _ => simp [mIt] at h
  | _ => simp [mIt] at h
theorem sndi_enum (ha : Snd m g k a p) : SndI m g k (.enum a) p.inn (p.top ++ p.inn) := by
  intro c sc X tg x hg ok h ht
  obtain ⟨elts, kk, tpos, rfl⟩ := ht rfl
  cases x with
  | Call f args kws pos =>
    cases f with
    | Name f fp =>
      match args, kws, h with
      | [x], [], h =>
        simp only [mIt, Bool.and_eq_true, beq_iff_eq] at h
        obtain ⟨⟨rfl, h1⟩, h2⟩ := h
        refine (pi_enumA (ok.gl h1) (ok.free _ (by decide +kernel)) (pa_cons (ha c sc X x hg ok h2) pa_nil (star_of (mE_plain h2) _ _)) (star_of (mE_plain h2) _ _)).mono fun σ H R ⟨env, st, μ, G, I, hq⟩ => ?_
        rw [evIt] at hq
        refine TEv.fst' I hq fun x1 st1 v1 H1 μ1 t1 F1 I1 S1 r1 hq => ?_
        have all := r1.all (G := G) I.gdom
        cases x1 <;> first | exact hq.elim | skip
        · obtain ⟨rp, po⟩ := r1
          cases rp
          rename_i hs rs
          dsimp only [tNil]
          exact ⟨_, _, rfl, .inr ⟨hs, hq _ H1 μ1 _ I1 S1 (wk_enumT hs rs (fun b hb => (all b (by simpa using hb)).2.1) fun b hb => ⟨po.inn b hb, (all b (by simpa using hb)).2.2⟩) fun b hb => ⟨(all b (by simpa using hb)).1, (all b (by simpa using hb)).2.2⟩⟩⟩
        · obtain ⟨rp, po⟩ := r1
          cases rp
          rename_i hs rs
          dsimp only [tNil]
          exact ⟨_, _, rfl, .inl ⟨.inl (.inl hs), hq _ H1 μ1 _ I1 S1 (wk_enum hs rs (fun b hb => (all b (by simpa using hb)).2.1) fun b hb => ⟨po.inn b hb, (all b (by simp [hb])).2.2⟩) fun b hb => ⟨(all b (by simpa using hb)).1, (all b (by simpa using hb)).2.2⟩⟩⟩
      | [], _, h => simp [mIt] at h
      | _ :: _ :: _, _, h => simp [mIt] at h
      | [_], _ :: _, h => simp [mIt] at h
    | _ => simp [mIt] at h
  | _ => simp [mIt] at h
theorem sndi_zip (ha : Snd m g k a p) (hb : Snd m g k b q) : SndI m g k (.zip a b) (p.inn ++ q.inn) ((p.top ++ p.inn) ++ (q.top ++ q.inn)) := by
  intro c sc X tg x hg ok h ht
  obtain ⟨elts, kk, tpos, rfl⟩ := ht rfl
  cases x with
  | Call f args kws pos =>
    cases f with
    | Name f fp =>
      match args, kws, h with
      | [x, y], [], h =>
        simp only [mIt, Bool.and_eq_true, beq_iff_eq] at h
        obtain ⟨⟨⟨rfl, h1⟩, h2⟩, h3⟩ := h
        refine (RZ.pi_zipA (ok.gl h1) (ok.free _ (by decide +kernel)) (pa_cons (ha c sc X x hg ok h2) (pa_cons (hb c sc X y hg ok h3) pa_nil (star_of (mE_plain h3) _ _)) (star_of (mE_plain h2) _ _))
          (star_of (mE_plain h2) _ _) (by rw [star_of (mE_plain h3)]; rfl)).mono fun σ H R ⟨env, st, μ, G, I, hq⟩ => ?_
        rw [evIt] at hq
        refine TEv.fst' I hq fun x1 st1 v1 H1 μ1 t1 F1 I1 S1 r1 hq => ?_
        refine TEv.nxt' S1 I1 hq fun x2 st2 v2 H2 μ2 t2 F2 I2 S2 r2 hq => ?_
        have r1 := r1.step S2
        have all1 := r1.all (G := G) I.gdom
        have all2 := r2.all (G := G) I.gdom
        obtain ⟨rp, po⟩ := r1
        obtain ⟨rp2, po2⟩ := r2
        have inn : ∀ b ∈ F1 ++ F2, (G b = none ∨ ∃ i ∈ p.inn ++ q.inn, G b = some i) ∧ c.Ok b := fun b hb => by
          rcases List.mem_append.mp hb with hb | hb
          · exact ⟨(po.inn b hb).imp id fun ⟨i, hi, e⟩ => ⟨i, List.mem_append_left _ hi, e⟩, (all1 b (List.mem_append_right _ hb)).2.2⟩
          · exact ⟨(po2.inn b hb).imp id fun ⟨i, hi, e⟩ => ⟨i, List.mem_append_right _ hi, e⟩, (all2 b (List.mem_append_right _ hb)).2.2⟩
        have all : ∀ b ∈ (t1 ++ F1) ++ (t2 ++ F2), b ∉ μ2 ∧ (G b = none ∨ ∃ i ∈ (p.top ++ p.inn) ++ (q.top ++ q.inn), G b = some i) ∧ c.Ok b := fun b hb => by
          rcases List.mem_append.mp hb with hb | hb
          · exact ⟨(all1 b hb).2.1, (all1 b hb).1.imp id fun ⟨i, hi, e⟩ => ⟨i, List.mem_append_left _ hi, e⟩, (all1 b hb).2.2⟩
          · exact ⟨(all2 b hb).2.1, (all2 b hb).1.imp id fun ⟨i, hi, e⟩ => ⟨i, List.mem_append_right _ hi, e⟩, (all2 b hb).2.2⟩
        cases x1 <;> first | exact hq.elim | skip
        · cases x2 <;> first | exact hq.elim | skip
          cases rp
          rename_i hs1 rs1
          cases rp2
          rename_i hs2 rs2
          dsimp only [tNil]
          exact ⟨_, _, _, _, rfl, .inr ⟨hs1, hs2, hq _ H2 μ2 _ I2 (S1.trans S2) (wk_zipT hs1 rs1 hs2 rs2 (fun b hb => (all b (by simpa using hb)).1) inn) fun b hb => (all b (by simpa using hb)).2⟩⟩
        · cases x2 <;> first | exact hq.elim | skip
          cases rp
          rename_i hs1 rs1
          cases rp2
          rename_i hs2 rs2
          have hin : ∀ {z x y : Addr}, z ∈ x :: y :: (F1 ++ F2) → z ∈ ([x] ++ F1) ++ ([y] ++ F2) := fun {z x y} hz => by
            simp only [List.mem_cons, List.mem_append, List.mem_singleton] at hz ⊢
            rcases hz with hz | hz | hz | hz <;> simp [hz]
          dsimp only [tNil]
          exact ⟨_, _, _, _, rfl, .inl ⟨.inl (.inl hs1), .inl (.inl hs2), hq _ H2 μ2 _ I2 (S1.trans S2) (wk_zip hs1 rs1 hs2 rs2 (fun b hb => (all b (hin hb)).1) inn) fun b hb => (all b (hin hb)).2⟩⟩
      | [], _, h => simp [mIt] at h
      | [_], _, h => simp [mIt] at h
      | _ :: _ :: _ :: _, _, h => simp [mIt] at h
      | [_, _], _ :: _, h => simp [mIt] at h
    | _ => simp [mIt] at h
  | _ => simp [mIt] at h
end
end WT
end

section
set_option Elab.async false
set_option linter.all false
set_option maxRecDepth 100000
set_option autoImplicit false
/-! K12: targets, comprehensions, every expression. -/
namespace WT
open PySem PySem.Spec PyProof.Rows L2

mutual
def tgG (K : PySem.W.Frag) : Tg → TG
  | .name i => gName i
  | .tup ts => gTup K ts.len (tgGs K ts)
def tgGs (K : PySem.W.Frag) : Tgs → TGs
  | .nil => gNil
  | .cons t ts => gCons (tgG K t) (tgGs K ts)
end
theorem slot_set {env : Env} {i j : Nat} {o : Option D} {d : D} (h : slot (env.set i o) j = some d) : (j = i ∧ j < env.length ∧ o = some d) ∨ (j ≠ i ∧ slot env j = some d) := by
  unfold slot at h ⊢
  by_cases e : j = i
  · subst e
    by_cases hl : j < env.length
    · rw [List.getElem?_set_self hl] at h
      exact .inl ⟨rfl, hl, h⟩
    · rw [List.getElem?_eq_none (by simpa using hl)] at h
      cases h
  · rw [List.getElem?_set_ne (Ne.symm e)] at h
    exact .inr ⟨e, h⟩
mutual
theorem bindTg_len : ∀ {tg : Tg} {x : D} {env env' : Env}, bindTg tg x env = some env' → env'.length = env.length
  | .name i, x, env, env', h => by
    unfold bindTg at h
    cases h
    simp
  | .tup ts, x, env, env', h => by
    unfold bindTg at h
    split at h
    · exact bindTgs_len h
    · cases h
theorem bindTgs_len : ∀ {ts : Tgs} {ds : List D} {env env' : Env}, bindTgs ts ds env = some env' → env'.length = env.length
  | .nil, ds, env, env', h => by
    unfold bindTgs at h
    split at h
    · cases h; rfl
    · cases h
  | .cons t ts, ds, env, env', h => by
    unfold bindTgs at h
    split at h
    · obtain ⟨e1, h1, h2⟩ := Option.bind_eq_some_iff.mp h
      rw [bindTgs_len h2, bindTg_len h1]
    · cases h
end
theorem bindTgs_args : ∀ {ts : Tgs} {ds : List D} {env env' : Env}, bindTgs ts ds env = some env' → ds.length = ts.len
  | .nil, ds, env, env', h => by
    unfold bindTgs at h
    split at h
    · rfl
    · cases h
  | .cons t ts, ds, env, env', h => by
    unfold bindTgs at h
    split at h
    · obtain ⟨e1, h1, h2⟩ := Option.bind_eq_some_iff.mp h
      rw [List.length_cons, bindTgs_args h2, Tgs.len]
    · cases h
theorem slot_none {env : Env} {i : Nat} (h : ¬ i < env.length) : slot env i = none := by
  unfold slot
  rw [List.getElem?_eq_none (by omega)]
  rfl
section
variable {K : PySem.W.Frag} {ow : Nat → Bool} {Ok : Addr → Prop} {env env0 env' : Env} {st : Sto} {μ : List Addr} {G : Addr → Option Nat} {σ σ0 : St} {H : Hp} {x : D} {v : V} {t F : List Addr}
/-- one name more: a value that no name owns -/
theorem SI.put (I : SI K ow Ok env st μ G σ H) {i : Nat} (hi : ow i = false) (r : Rep K H μ x v t F) (hp : ∀ a ∈ t ++ F, G a = none ∧ a ∉ μ ∧ Ok a) : SI K ow Ok (env.set i (some x)) st μ G (σ.set i (some v)) H := by
  refine ⟨fun j d e => ?_, I.box, I.muLen, I.muNd, I.gmu, I.gdom, I.okn, by simpa using I.len⟩
  rcases slot_set e with ⟨rfl, hl, e⟩ | ⟨hne, e⟩
  · cases e
    · refine ⟨v, t, F, by rw [List.getElem?_set_self (Nat.lt_of_lt_of_le hl I.len)], r, fun a ha => ?_, fun a ha => (hp a (List.mem_append_right _ ha)).1, fun a ha => (hp a ha).2⟩
      rw [hi]
      exact (hp a (List.mem_append_left _ ha)).1
  · obtain ⟨v', t', F', e1, r', g1, g2, g3⟩ := I.slot j d e
    exact ⟨v', t', F', by rw [List.getElem?_set_ne (Ne.symm hne)]; exact e1, r', g1, g2, g3⟩
end
mutual
theorem SI.tg {K : PySem.W.Frag} {ow : Nat → Bool} {Ok : Addr → Prop} {st : Sto} {μ : List Addr} {G : Addr → Option Nat} {H : Hp} : ∀ {tg : Tg} {env env' : Env} {σ : St} {x : D} {v : V} {t F : List Addr} {Q : St → Hp → Prop}, SI K ow Ok env st μ G σ H → (∀ i ∈ tg.slots, ow i = false) → bindTg tg x env = some env' → Rep K H μ x v t F → (∀ a ∈ t ++ F, G a = none ∧ a ∉ μ ∧ Ok a) →
    (∀ σ', SI K ow Ok env' st μ G σ' H → σ'.length = σ.length → (∀ j, j ∉ tg.slots → σ'[j]? = σ[j]?) → Q σ' H) → tgG K tg v σ H Q
  | .name i, env, env', σ, x, v, t, F, Q, I, ho, hb, r, hp, k => by
    unfold bindTg at hb
    cases hb
    exact k _ (I.put (ho i (by simp [Tg.slots])) r hp) (by simp) fun j hj => List.getElem?_set_ne fun e => hj (by simp [Tg.slots, e])
  | .tup ts, env, env', σ, x, v, t, F, Q, I, ho, hb, r, hp, k => by
    unfold bindTg at hb
    split at hb
    · cases r with
      | tup hs rs =>
        refine ⟨_, _, rfl, hs, ?_, ?_⟩
        · rw [← rs.length]
          exact (bindTgs_args hb).symm ▸ rfl
        · exact SI.tgs I (fun i hi => ho i (by simpa [Tg.slots] using hi)) hb rs (fun a ha => hp a (by simpa using ha)) fun σ' I' hl hj => k σ' I' hl fun j hn => hj j (by simpa [Tg.slots] using hn)
    · cases hb
theorem SI.tgs {K : PySem.W.Frag} {ow : Nat → Bool} {Ok : Addr → Prop} {st : Sto} {μ : List Addr} {G : Addr → Option Nat} {H : Hp} : ∀ {ts : Tgs} {env env' : Env} {σ : St} {ds : List D} {vs : List V} {F : List Addr} {Q : St → Hp → Prop}, SI K ow Ok env st μ G σ H → (∀ i ∈ ts.slots, ow i = false) → bindTgs ts ds env = some env' → Reps K H μ ds vs F → (∀ a ∈ F, G a = none ∧ a ∉ μ ∧ Ok a) →
    (∀ σ', SI K ow Ok env' st μ G σ' H → σ'.length = σ.length → (∀ j, j ∉ ts.slots → σ'[j]? = σ[j]?) → Q σ' H) → tgGs K ts vs σ H Q
  | .nil, env, env', σ, ds, vs, F, Q, I, ho, hb, r, hp, k => by
    unfold bindTgs at hb
    split at hb
    · cases hb
      cases r
      exact ⟨rfl, k _ I rfl fun _ _ => rfl⟩
    · cases hb
  | .cons t ts, env, env', σ, ds, vs, F, Q, I, ho, hb, r, hp, k => by
    unfold bindTgs at hb
    split at hb
    · obtain ⟨e1, h1, h2⟩ := Option.bind_eq_some_iff.mp hb
      cases r with
      | cons r1 rs =>
        refine ⟨_, _, rfl, SI.tg I (fun i hi => ho i (by simp [Tgs.slots, hi])) h1 r1 (fun a ha => hp a (List.mem_append_left _ ha)) fun σ1 I1 hl1 hj1 => ?_⟩
        refine SI.tgs I1 (fun i hi => ho i (by simp [Tgs.slots, hi])) h2 rs (fun a ha => hp a (List.mem_append_right _ ha)) fun σ2 I2 hl2 hj2 => k σ2 I2 (by rw [hl2, hl1]) fun j hn => ?_
        rw [hj2 j fun z => hn (by simp [Tgs.slots, z]), hj1 j fun z => hn (by simp [Tgs.slots, z])]
    · cases hb
end
/-- names forgotten -/
theorem clrs_len {env : Env} : ∀ is : List Nat, (clrs env is).length = env.length
  | [] => rfl
  | i :: is => by rw [clrs, List.length_set, clrs_len is]
theorem clrs_slot {env : Env} {j : Nat} {d : D} : ∀ {is : List Nat}, slot (clrs env is) j = some d → j ∉ is ∧ slot env j = some d
  | [], h => ⟨by simp, h⟩
  | i :: is, h => by
    rcases slot_set h with ⟨_, _, e⟩ | ⟨hne, e⟩
    · cases e
    · obtain ⟨h1, h2⟩ := clrs_slot e
      exact ⟨by simp [hne, h1], h2⟩
theorem clrs_get {env : Env} {j : Nat} : ∀ {is : List Nat}, j ∉ is → (clrs env is)[j]? = env[j]?
  | [], _ => rfl
  | i :: is, h => by
    rw [clrs, List.getElem?_set_ne fun e => h (by simp [e])]
    exact clrs_get fun m => h (by simp [m])
/-- environments that agree but at S: behind a target they agree there too -/
def Agr (S : Nat → Prop) (e1 e2 : Env) : Prop := e1.length = e2.length ∧ ∀ j, ¬ S j → e1[j]? = e2[j]?
theorem agr_set {S : Nat → Prop} {e1 e2 : Env} {i : Nat} {o : Option D} (h : Agr S e1 e2) : Agr (fun j => S j ∧ j ≠ i) (e1.set i o) (e2.set i o) := by
  refine ⟨by simp [h.1], fun j hj => ?_⟩
  by_cases e : j = i
  · subst e
    by_cases hk : j < e1.length
    · rw [List.getElem?_set_self hk, List.getElem?_set_self (by rw [← h.1]; exact hk)]
    · rw [List.getElem?_eq_none (by simpa using hk), List.getElem?_eq_none (by rw [List.length_set, ← h.1]; omega)]
  · rw [List.getElem?_set_ne (Ne.symm e), List.getElem?_set_ne (Ne.symm e)]
    exact h.2 j fun z => hj ⟨z, e⟩
mutual
theorem bindTg_agr : ∀ {tg : Tg} {x : D} {e1 e2 e1' : Env} {S : Nat → Prop}, Agr S e1 e2 → bindTg tg x e1 = some e1' → ∃ e2', bindTg tg x e2 = some e2' ∧ Agr (fun j => S j ∧ j ∉ tg.slots) e1' e2'
  | .name i, x, e1, e2, e1', S, h, hb => by
    unfold bindTg at hb
    cases hb
    refine ⟨_, by rw [bindTg], ?_⟩
    have z := agr_set (i := i) (o := some x) h
    exact ⟨z.1, fun j hj => z.2 j fun q => hj ⟨q.1, by simpa [Tg.slots] using q.2⟩⟩
  | .tup ts, x, e1, e2, e1', S, h, hb => by
    unfold bindTg at hb
    split at hb
    · obtain ⟨e2', h1, h2⟩ := bindTgs_agr h hb
      exact ⟨e2', by rw [bindTg]; exact h1, h2⟩
    · cases hb
theorem bindTgs_agr : ∀ {ts : Tgs} {ds : List D} {e1 e2 e1' : Env} {S : Nat → Prop}, Agr S e1 e2 → bindTgs ts ds e1 = some e1' → ∃ e2', bindTgs ts ds e2 = some e2' ∧ Agr (fun j => S j ∧ j ∉ ts.slots) e1' e2'
  | .nil, ds, e1, e2, e1', S, h, hb => by
    unfold bindTgs at hb
    split at hb
    · cases hb
      exact ⟨e2, by rw [bindTgs], h.1, fun j hj => h.2 j fun q => hj ⟨q, by simp [Tgs.slots]⟩⟩
    · cases hb
  | .cons t ts, ds, e1, e2, e1', S, h, hb => by
    unfold bindTgs at hb
    split at hb
    · obtain ⟨e3, h1, h2⟩ := Option.bind_eq_some_iff.mp hb
      obtain ⟨e4, h3, h4⟩ := bindTg_agr h h1
      obtain ⟨e5, h5, h6⟩ := bindTgs_agr h4 h2
      refine ⟨e5, by rw [bindTgs]; exact Option.bind_eq_some_iff.mpr ⟨e4, h3, h5⟩, h6.1, fun j hj => h6.2 j fun q => hj ⟨q.1.1, ?_⟩⟩
      rw [Tgs.slots, List.mem_append]
      exact fun z => z.elim q.1.2 q.2
    · cases hb
end
theorem bindTg_clrs {tg : Tg} {x : D} {env env' : Env} {is : List Nat} (hs : ∀ i ∈ is, i ∈ tg.slots) (h : bindTg tg x env = some env') : bindTg tg x (clrs env is) = some env' := by
  obtain ⟨e2, h1, h2⟩ := bindTg_agr (S := fun j => j ∈ is) (e2 := clrs env is) ⟨(clrs_len is).symm, fun j hj => (clrs_get hj).symm⟩ h
  rw [h1]
  refine congrArg some (List.ext_getElem? fun j => (h2.2 j fun q => q.2 (hs j q.1)).symm)
theorem wipe_in {σ : St} {i : Nat} : ∀ {vs : List Nat}, i ∈ vs → i < σ.length → (wipe σ vs)[i]? = some none
  | v :: vs, h, hl => by
    unfold wipe
    by_cases e : v = i
    · subst e
      rw [List.getElem?_set_self (by rw [wipe_length]; exact hl)]
    · rw [List.getElem?_set_ne e]
      exact wipe_in (by rcases List.mem_cons.mp h with h | h; exact absurd h.symm e; exact h) hl
theorem wipe_eq {σ σ' : St} {vs : List Nat} (hl : σ'.length = σ.length) (h : ∀ j, j ∉ vs → σ'[j]? = (wipe σ vs)[j]?) : wipe σ' vs = wipe σ vs := by
  apply List.ext_getElem?
  intro j
  by_cases e : j ∈ vs
  · by_cases hj : j < σ.length
    · rw [wipe_in e hj, wipe_in e (by omega)]
    · rw [List.getElem?_eq_none (by rw [wipe_length]; omega), List.getElem?_eq_none (by rw [wipe_length]; omega)]
  · rw [wipe_out e, h j e]
theorem SI.wipe {K : PySem.W.Frag} {ow : Nat → Bool} {Ok : Addr → Prop} {env : Env} {st : Sto} {μ : List Addr} {G : Addr → Option Nat} {σ : St} {H : Hp} (I : SI K ow Ok env st μ G σ H) (vs : List Nat) : SI K ow Ok (clrs env vs) st μ G (L2.wipe σ vs) H := by
  refine ⟨fun j d e => ?_, I.box, I.muLen, I.muNd, I.gmu, I.gdom, I.okn, by rw [clrs_len, wipe_length]; exact I.len⟩
  obtain ⟨h1, h2⟩ := clrs_slot e
  obtain ⟨v', t', F', e1, r'⟩ := I.slot j d h2
  exact ⟨v', t', F', by rw [wipe_out h1]; exact e1, r'⟩
theorem Fin.nox {α : Type} {ok : α → Sto → Prop} {ex ex' : Str → D → Sto → Prop} {r : R α} (h : Fin ok ex r.nox) : Fin ok ex' r := by
  cases r with
  | ok a st => exact h
  | exn _ _ _ => exact h.elim
  | bad => exact h
theorem clrs_ext {env : Env} {is js : List Nat} (h : ∀ j, j ∈ is ↔ j ∈ js) : clrs env is = clrs env js := by
  have key : ∀ (is : List Nat) (j : Nat), j ∈ is → (clrs env is)[j]? = if j < env.length then some none else none := by
    intro is
    induction is with
    | nil => intro j hj; simp at hj
    | cons i is ih =>
      intro j hj
      rw [clrs]
      by_cases e : i = j
      · subst e
        by_cases hl : i < env.length
        · rw [if_pos hl, List.getElem?_set_self (by rw [clrs_len]; exact hl)]
        · rw [if_neg hl, List.getElem?_eq_none (by rw [List.length_set, clrs_len]; omega)]
      · rw [List.getElem?_set_ne e]
        exact ih j ((List.mem_cons.mp hj).resolve_left fun z => e z.symm)
  refine List.ext_getElem? fun j => ?_
  by_cases hj : j ∈ is
  · rw [key is j hj, key js j ((h j).mp hj)]
  · rw [clrs_get hj, clrs_get fun z => hj ((h j).mpr z)]
theorem compCat_nox {f : D → Sto → R (List D)} (hf : ∀ x st, f x st = (f x st).nox) : ∀ (xs : List D) (st : Sto), compCat f xs st = (compCat f xs st).nox
  | [], st => rfl
  | x :: xs, st => by
    rw [compCat]
    have h1 := hf x st
    cases e : f x st with
    | bad => rfl
    | exn _ _ _ => rw [e] at h1; cases h1
    | ok y st1 =>
      have h2 := compCat_nox hf xs st1
      simp only [R.bind_ok]
      cases e2 : compCat f xs st1 with
      | bad => rfl
      | exn _ _ _ => rw [e2] at h2; cases h2
      | ok ys st2 => rfl
theorem compLoop_nox {f : D → Sto → R (Option D)} (hf : ∀ x st, f x st = (f x st).nox) : ∀ (xs : List D) (st : Sto), compLoop f xs st = (compLoop f xs st).nox
  | [], st => rfl
  | x :: xs, st => by
    rw [compLoop]
    have h1 := hf x st
    cases e : f x st with
    | bad => rfl
    | exn _ _ _ => rw [e] at h1; cases h1
    | ok y st1 =>
      have h2 := compLoop_nox hf xs st1
      simp only [R.bind_ok]
      cases e2 : compLoop f xs st1 with
      | bad => rfl
      | exn _ _ _ => rw [e2] at h2; cases h2
      | ok ys st2 => rfl
theorem foldedSet {m : MC} {it : WT.It} {sc : Scope} {x : Expr} {env : PySem.Env} (h : mIt m it sc x = true) : ∀ v, foldedSetIterable x env v = pure v := by
  intro v
  cases x with
  | Set _ _ _ => cases it <;> simp [mIt] at h
  | _ => rfl
end WT
end

section
set_option Elab.async false
set_option linter.all false
set_option maxRecDepth 100000
set_option autoImplicit false
/-! K13: comprehensions; every expression. -/
namespace WT
open PySem PySem.Spec PyProof.Rows L2

def Cfg.calmed (c : Cfg) : Cfg := { c with W := fun _ _ _ _ => False }
section
variable {m : MC} {c : Cfg} {g : GE} {k : Nat} {sc : Scope} {X : Cx} {a b d e : E} {p q r : Pv}
theorem XOk.blk (ok : XOk m c k sc X) (s : Shared) (H : Hp) (scope : Scope) (cl : List (Str × Addr)) (C : Addr) (fp : List Addr) : XOk m c.calmed k (relS scope sc) (X.blk s H scope (compEnvC scope cl C X.env) fp) where
  hN := ok.hN
  nd := ok.nd
  sc := by
    show relabel scope X.env = _
    rw [← ok.sc]
    rfl
  ow := ok.ow
  calm := ok.calm
  room := ok.room
  tk := fun u s' ⟨_, _, _, _, _, _, _, _, _, _, _, _, _, _, _, _, w⟩ => w.elim
  fns := ok.fns
  cons := ok.cons
  free := ok.free
  mth := ok.mth
  cls := ok.cls
  exm := ok.exm
theorem relS_loc {scope sc : Scope} {x : Str} {k : NameKind} (hk : k ≠ .free) (h : scope.names.lookup x = some k) : (relS scope sc).names.lookup x = some k := lookup_relS_keep hk h
theorem locB_k {scope : Scope} {x : Str} (h : locB scope x = true) : scope.names.lookup x = some .local ∨ scope.names.lookup x = some .cell := by
  unfold locB at h
  split at h
  · exact .inl (by assumption)
  · exact .inr (by assumption)
  · cases h
theorem pg_one {K : PySem.W.Frag} {N : List Str} {sc scope : Scope} {i : Nat} {x : Str} {pos : Pos} {X : Cx} (hN : X.N.Nodup) (hi : X.N[i]? = some x) (hl : locB scope x = true) (hs : X.env.scope = relS scope sc) (hf : ∀ x, scope.names.lookup x = some .cell → X.fn x = true) : PG X (.Name x pos) (gName i) := by
  rcases locB_k hl with h | h
  · exact pg_name hN hi (.inl (by rw [hs]; exact relS_loc (by simp) h)) (.inr (by rw [hs]; exact relS_loc (by simp) h))
  · exact pg_name hN hi (.inr (by rw [hs]; exact relS_loc (by simp) h)) (.inl (hf x h))
theorem each_tgs {m : MC} {scope : Scope} {env : PySem.Env} : ∀ {ts : Tgs} {es : List Expr}, mTgs m scope ts es = true → assignEach es env = es.map (fun e => (false, assign e env)) ∧ es.length = ts.len
  | .nil, [], _ => ⟨rfl, rfl⟩
  | .nil, _ :: _, h => by simp [mTgs] at h
  | .cons _ _, [], h => by simp [mTgs] at h
  | .cons t ts, e :: es, h => by
    rw [mTgs, Bool.and_eq_true] at h
    obtain ⟨h1, h2⟩ := each_tgs (env := env) h.2
    have e1 : assignEach (e :: es) env = (false, assign e env) :: assignEach es env := by
      cases e with
      | Name _ _ => rfl
      | Tuple _ _ _ => rfl
      | _ => cases t <;> simp [mTg] at h
    exact ⟨by rw [e1, h1]; rfl, by rw [List.length_cons, h2, Tgs.len]⟩
mutual
theorem pg_tgT {X : Cx} {scope : Scope} (hc : X.calm = true) (one : ∀ (i : Nat) (x : Str) (pos : Pos), m.N[i]? = some x → locB scope x = true → PG X (.Name x pos) (gName i)) : ∀ {tg : Tg} {t : Expr}, mTg m scope tg t = true → PG X t (tgG X.K tg)
  | .name i, t, h => by
    cases t with
    | Name x pos =>
      simp only [mTg, Bool.and_eq_true, decide_eq_true_eq] at h
      exact one i x pos h.1 h.2
    | _ => simp [mTg] at h
  | .tup ts, t, h => by
    cases t with
    | Tuple es kk pos =>
      rw [mTg] at h
      obtain ⟨h1, h2⟩ := each_tgs (env := X.env) h
      refine pg_tup hc (pgs_tgT hc one h) (by rw [h1, List.length_map]; exact h2) (by rw [h1, List.findIdx?_map]; exact List.findIdx?_eq_none_iff.mpr fun x _ => rfl)
    | _ => simp [mTg] at h
theorem pgs_tgT {X : Cx} {scope : Scope} (hc : X.calm = true) (one : ∀ (i : Nat) (x : Str) (pos : Pos), m.N[i]? = some x → locB scope x = true → PG X (.Name x pos) (gName i)) : ∀ {ts : Tgs} {es : List Expr}, mTgs m scope ts es = true → PGs X es (tgGs X.K ts)
  | .nil, [], _ => pgs_nil
  | .nil, _ :: _, h => by simp [mTgs] at h
  | .cons _ _, [], h => by simp [mTgs] at h
  | .cons t ts, e :: es, h => by
    have h0 := h
    rw [mTgs, Bool.and_eq_true] at h
    refine pgs_cons (pg_tgT hc one h.1) (pgs_tgT hc one h.2) ?_
    rw [(each_tgs (env := X.env) h0).1, (each_tgs (env := X.env) h.2).1]
    rfl
end
/-- a target within a comprehension's block -/
theorem pg_blk {tg : Tg} {t : Expr} (ok : XOk m c k sc X) {s : Shared} {H : Hp} {scope : Scope} {cl : List (Str × Addr)} {C : Addr} {fp : List Addr} (h : mTg m scope tg t = true) : PG (X.blk s H scope (compEnvC scope cl C X.env) fp) t (tgG X.K tg) := by
  have ok2 := ok.blk s H scope cl C fp
  have hN : (X.blk s H scope (compEnvC scope cl C X.env) fp).N.Nodup := by rw [ok2.hN]; exact ok2.nd
  refine pg_tgT (X := X.blk s H scope (compEnvC scope cl C X.env) fp) ok.calm (fun i x pos hi hl => ?_) h
  exact pg_one (K := X.K) (N := []) hN (by rw [ok2.hN]; exact hi) hl ok2.sc fun x hx => by
      show (scope.names.lookup x == some NameKind.cell) = true
      rw [hx]
      rfl
theorem comp2_shape {tg tg1 : Tg} {it it1 : WT.It} {elt : E} {x : Expr} (h : mE m (.comp2 tg it tg1 it1 elt) sc x = true) : ∃ y t i t1 i1 scope pos, x = .ListComp y [⟨t, i, [], 0⟩, ⟨t1, i1, [], 0⟩] scope pos ∧
    blkC m.N sc scope (ownOf m.N scope) = true ∧ (∀ j ∈ (ownOf m.N scope).map (·.2), j ∈ tg.slots ++ tg1.slots) ∧ (∀ j ∈ tg.slots ++ tg1.slots, j ∈ (ownOf m.N scope).map (·.2)) ∧ mTg m scope tg t = true ∧ mIt m it sc i = true ∧
    mTg m scope tg1 t1 = true ∧ mIt m it1 (relS scope sc) i1 = true ∧ mE m elt (relS scope sc) y = true := by
  cases x with
  | ListComp y gs scope pos =>
    match gs, h with
    | [⟨t, i, [], n⟩, ⟨t1, i1, [], n1⟩], h =>
      simp only [mE, Bool.and_eq_true, List.all_eq_true, decide_eq_true_eq] at h
      obtain ⟨⟨⟨⟨⟨⟨⟨⟨⟨rfl, rfl⟩, h1⟩, h2⟩, h3⟩, h4⟩, h5⟩, h6⟩, h7⟩, h8⟩ := h
      refine ⟨y, t, i, t1, i1, scope, pos, rfl, h1, fun j hj => ?_, h3, h4, h5, h6, h7, h8⟩
      obtain ⟨q, hq, rfl⟩ := List.mem_map.mp hj
      exact h2 q hq
    | [⟨t, i, _ :: _, n⟩, _], h => simp [mE] at h
    | [⟨t, i, [], n⟩, ⟨t1, i1, _ :: _, n1⟩], h => simp [mE] at h
    | [], h => simp [mE] at h
    | [_], h => simp [mE] at h
    | _ :: _ :: _ :: _, h => simp [mE] at h
  | _ => simp [mE] at h
theorem comp_shape {tg : Tg} {it : WT.It} {hi : Bool} {cond elt : E} {x : Expr} (h : mE m (.comp tg it hi cond elt) sc x = true) : ∃ y t i ifs scope pos, x = .ListComp y [⟨t, i, ifs, 0⟩] scope pos ∧
    blkC m.N sc scope (ownOf m.N scope) = true ∧ (∀ j ∈ (ownOf m.N scope).map (·.2), j ∈ tg.slots) ∧ (∀ j ∈ tg.slots, j ∈ (ownOf m.N scope).map (·.2)) ∧ mTg m scope tg t = true ∧ mIt m it sc i = true ∧
    ((hi = false ∧ ifs = []) ∨ ∃ z, hi = true ∧ ifs = [z] ∧ mE m cond (relS scope sc) z = true ∧ tOk cond = true) ∧ mE m elt (relS scope sc) y = true := by
  cases x with
  | ListComp y gs scope pos =>
    match gs, h with
    | [⟨t, i, ifs, n⟩], h =>
      simp only [mE, Bool.and_eq_true, List.all_eq_true, decide_eq_true_eq] at h
      obtain ⟨⟨⟨⟨⟨⟨⟨rfl, h1⟩, h2⟩, h3⟩, h4⟩, h5⟩, h6⟩, h7⟩ := h
      refine ⟨y, t, i, ifs, scope, pos, rfl, h1, fun j hj => ?_, h3, h4, h5, ?_, h7⟩
      · obtain ⟨q, hq, rfl⟩ := List.mem_map.mp hj
        exact h2 q hq
      · cases hi with
        | false =>
          cases ifs with
          | nil => exact .inl ⟨rfl, rfl⟩
          | cons _ _ => cases h6
        | true =>
          match ifs, h6 with
          | [], h6 => cases h6
          | [z], h6 =>
            simp only [Bool.and_eq_true] at h6
            exact .inr ⟨z, rfl, rfl, h6.1, h6.2⟩
          | _ :: _ :: _, h6 => cases h6
    | [], h => simp [mE] at h
    | _ :: _ :: _, h => simp [mE] at h
  | _ => simp [mE] at h
/-- a list of one's own changed -/
theorem SL.upd {L : Addr → Prop} {μ : List Addr} {H : Hp} {p : Addr} {xs ys : List V} (h : H p = some (.lst xs)) (hL : ¬ L p) : SL L μ H μ (upd H p (.lst ys)) where
  keep := fun a o e n l => by rw [upd_ne (fun z => hL (by rw [← z]; exact l) : a ≠ p)]; exact e
  tups := fun a u e => by
    rw [upd_ne fun z => ?_]
    · exact e
    · rw [z, h] at e; cases e
  frzs := fun a o u e => by
    rw [upd_ne fun z => ?_]
    · exact e
    · rw [z, h] at e; cases e
  dom := fun a e => by
    by_cases q : a = p
    · rw [q, upd_same]; simp
    · rw [upd_ne q]; exact e
  ext := ⟨[], by simp, fun _ h => by simp at h⟩
theorem BoxOk.sl {K : PySem.W.Frag} {L : Addr → Prop} {μ : List Addr} {H H' : Hp} {st : Sto} (b : BoxOk K H μ st) (s : SL L μ H μ H') (k : ∀ a ∈ μ, ∀ vs, H a = some (.lst vs) → H' a = some (.lst vs)) : BoxOk K H' μ st := fun j xs e => by
  obtain ⟨a, vs, e1, e2, r⟩ := b j xs e
  exact ⟨a, vs, e1, k a (List.mem_of_getElem? e1) vs e2, r.sl s fun _ h => by simp at h⟩
end
end WT
end

section
set_option Elab.async false
set_option linter.all false
set_option maxRecDepth 100000
set_option autoImplicit false
/-! K14: comprehensions; every expression. -/
namespace WT
open PySem PySem.Spec PyProof.Rows L2

def Cfg.blk (c : Cfg) (o : Addr → Prop) : Cfg := { c with W := fun _ _ _ _ => False, Ok := o }
theorem New1.step {H H' : Hp} {μ : List Addr} (n : New1 H H') : Step μ H μ H' := by
  rcases n with rfl | ⟨p, o, hp, rfl⟩
  · exact .refl
  · exact .new hp
theorem SI.new1 {K : PySem.W.Frag} {ow : Nat → Bool} {Ok : Addr → Prop} {env : Env} {st : Sto} {μ : List Addr} {G : Addr → Option Nat} {σ : St} {H H' : Hp} (I : SI K ow Ok env st μ G σ H) (n : New1 H H') : SI K ow Ok env st μ G σ H' := by
  rcases n with rfl | ⟨p, o, hp, rfl⟩
  · exact I
  · exact I.new hp
theorem Step.updNew {μ1 μ : List Addr} {H1 H : Hp} {p : Addr} {xs ys : List V} (s : Step μ1 H1 μ H) (h1 : H1 p = none) (h : H p = some (.lst xs)) : Step μ1 H1 μ (upd H p (.lst ys)) where
  keep := fun a o e n => by rw [upd_ne (ne_of_none e h1)]; exact s.keep a o e n
  tups := fun a u e => by rw [upd_ne (ne_of_none e h1)]; exact s.tups a u e
  frzs := fun a o u e => by rw [upd_ne (ne_of_none e h1)]; exact s.frzs a o u e
  dom := fun a e => by
    by_cases q : a = p
    · rw [q, upd_same]; simp
    · rw [upd_ne q]; exact s.dom a e
  ext := s.ext
/-- a list of one's own comes that no name holds -/
theorem SI.fresh {K : PySem.W.Frag} {ow : Nat → Bool} {Ok : Addr → Prop} {env : Env} {st : Sto} {μ : List Addr} {G : Addr → Option Nat} {σ : St} {H : Hp} (I : SI K ow Ok env st μ G σ H) {p : Addr} {xs : List V} (h : H p = none) : SI K ow (fun a => Ok a ∧ a ≠ p) env st μ G σ (upd H p (.lst xs)) := by
  have J := I.new (o := .lst xs) h
  refine ⟨fun i d e => ?_, J.box, J.muLen, J.muNd, J.gmu, J.gdom, fun a ha => ⟨J.okn a ha, fun e => by rw [e, upd_same] at ha; cases ha⟩, J.len⟩
  obtain ⟨v, t, F, e1, r, g1, g2, g3⟩ := I.slot i d e
  exact ⟨v, t, F, e1, r.step (.new h) fun a ha => (g3 a ha).1, g1, g2, fun a ha => ⟨(g3 a ha).1, (g3 a ha).2, fun e => r.there a ha (by rw [e]; exact h)⟩⟩
theorem SI.afterL {K : PySem.W.Frag} {ow : Nat → Bool} {Ok L : Addr → Prop} {env : Env} {st st' : Sto} {μ μ' : List Addr} {G : Addr → Option Nat} {σ : St} {H H' : Hp} (I : SI K ow Ok env st μ G σ H) (hL : ∀ a, Ok a → L a) (s : SL L μ H μ' H') (b : BoxOk K H' μ' st') (l : μ'.length = st'.length) (nd : μ'.Nodup) :
    SI K ow Ok env st' μ' G σ H' where
  slot := fun i d e => by
    obtain ⟨v, t, F, e1, r, g1, g2, g3⟩ := I.slot i d e
    exact ⟨v, t, F, e1, r.sl s fun a ha => ⟨(g3 a ha).1, hL a (g3 a ha).2⟩, g1, g2, fun a ha => ⟨s.notin (r.there a ha) (g3 a ha).1, (g3 a ha).2⟩⟩
  box := b
  muLen := l
  muNd := nd
  gmu := fun a ha => by
    obtain ⟨k, hk, e⟩ := List.mem_iff_getElem.mp ha
    obtain ⟨a', vs, e1, e2, _⟩ := b k _ (List.getElem?_eq_getElem (by rw [← l]; exact hk))
    rw [List.getElem?_eq_getElem hk] at e1
    cases e1
    refine ⟨?_, by rw [← e, e2]; simp⟩
    obtain ⟨ν, rfl, hν⟩ := s.ext
    rcases List.mem_append.mp ha with ha | ha
    · exact (I.gmu a ha).1
    · cases q : G a with
      | none => rfl
      | some i => exact absurd (hν a ha) (I.gdom a (by rw [q]; simp))
  gdom := fun a ha => s.dom a (I.gdom a ha)
  okn := fun a ha => I.okn a (s.wasNone ha)
  len := I.len
theorem sl_own {μ1 μ : List Addr} {H1 H : Hp} {p : Addr} {xs ys : List V} (s : Step μ1 H1 μ H) (h1 : H1 p = none) (h : H p = some (.lst xs)) (n : p ∉ μ) : SL (· ≠ p) μ1 (upd H1 p (.lst ys)) μ H where
  keep := fun a o e m l => by rw [upd_ne l] at e; exact s.keep a o e m
  tups := fun a u e => by
    by_cases q : a = p
    · rw [q, upd_same] at e; cases e
    · rw [upd_ne q] at e; exact s.tups a u e
  frzs := fun a o u e => by
    by_cases q : a = p
    · rw [q, upd_same] at e; cases e
    · rw [upd_ne q] at e; exact s.frzs a o u e
  dom := fun a e => by
    by_cases q : a = p
    · rw [q, h]; simp
    · rw [upd_ne q] at e; exact s.dom a e
  ext := by
    obtain ⟨ν, rfl, hν⟩ := s.ext
    exact ⟨ν, rfl, fun a ha => by rw [upd_ne fun e => n (by rw [← e]; exact List.mem_append_right _ ha)]; exact hν a ha⟩
theorem _root_.L2.PE.ex {ι : Type} {X : Cx} {e : Expr} {t : ι → TE} (h : ∀ i, PE X e (t i)) : PE X e fun σ H Q => ∃ i, t i σ H Q := ⟨fun pins s σ H Q I ⟨i, q⟩ => (h i).run pins s σ H Q I q⟩
theorem _root_.L2.PT.ex {ι : Type} {X : Cx} {e : Expr} {t : ι → TT} (h : ∀ i, PT X e (t i)) : PT X e fun σ H Q => ∃ i, t i σ H Q := ⟨fun pins s σ H Q I ⟨i, q⟩ => (h i).run pins s σ H Q I q⟩
section
variable {m : MC} {c : Cfg} {g : GE} {k : Nat} {sc : Scope} {X : Cx} {a b d e : E} {p q r : Pv}
theorem XOk.blk' (ok : XOk m c k sc X) (o : Addr → Prop) (s : Shared) (H : Hp) (scope : Scope) (cl : List (Str × Addr)) (C : Addr) (fp : List Addr) : XOk m (c.blk o) k (relS scope sc) (X.blk s H scope (compEnvC scope cl C X.env) fp) :=
  let z := ok.blk s H scope cl C fp
  { hN := z.hN, nd := z.nd, sc := z.sc, ow := z.ow, calm := z.calm, room := z.room, tk := z.tk, fns := z.fns, cons := z.cons, free := z.free, mth := z.mth, cls := z.cls, exm := z.exm }
theorem bdy_if {cond elt : E} {env : Env} {st : Sto} : ((evE g cond env st).bind fun c st3 => match truD st3 c with
            | some true => (evE g elt env st3).bind fun y st4 => R.ok (some y) st4
            | some false => .ok none st3
            | none => .bad) = (evC g cond env st).bind fun b st3 => if b = true then (evE g elt env st3).bind fun y st4 => .ok (some y) st4 else .ok none st3 := by
  unfold evC
  cases evE g cond env st with
  | ok x st1 =>
    simp only [R.bind_ok]
    cases truD st1 x with
    | none => rfl
    | some b => cases b <;> rfl
  | exn _ _ _ => rfl
  | bad => rfl
theorem comp_parts {tg : Tg} {it : WT.It} {hif : Bool} {cond elt : E} {lt : List Nat} {x : Expr} (hI : SndI m g k it [] lt) (hC : SndT m g k cond) (hE : Snd m g k elt p) (ho : ∀ i ∈ tg.slots, m.ow i = false) (hP : itTg it tg = true) (hg : c.g = g) (ok : XOk m c k sc X) (h : mE m (.comp tg it hif cond elt) sc x = true) :
    ∃ (y t i : Expr) (ifs : List Expr) (scope : Scope) (pos : Pos) (own : List (Str × Nat)) (wi : TI) (gT : TG) (tt : TT) (te : TE), x = .ListComp y [⟨t, i, ifs, 0⟩] scope pos ∧ PI X t i wi ∧ BlkOk X.N X.env.scope scope own ∧
      (∀ (s : Shared) (H : Hp) (C : Addr) (cl : List (Str × Addr)) (fp : List Addr), PG (X.blk s H scope (compEnvC scope cl C X.env) fp) t gT) ∧ (∀ (s : Shared) (H : Hp) (C : Addr) (cl : List (Str × Addr)) (fp : List Addr), PTs (X.blk s H scope (compEnvC scope cl C X.env) fp) ifs tt) ∧
      (∀ (s : Shared) (H : Hp) (C : Addr) (cl : List (Str × Addr)) (fp : List Addr), PE (X.blk s H scope (compEnvC scope cl C X.env) fp) y te) ∧ (∀ v, foldedSetIterable i X.env v = pure v) ∧
      ∀ σ H Q, TEv c X.K (.new1 (p.top ++ p.inn)) (evE g (.comp tg it hif cond elt)) σ H Q → tLc wi gT tt te (own.map (·.2)) σ H Q := by
  obtain ⟨y, t, i, ifs, scope, pos, rfl, h1, h2, h3, h4, h5, h6, h7⟩ := comp_shape h
  have htup : itP it = true → ∃ elts kk tpos, t = .Tuple elts kk tpos := fun z => by
    cases tg with
    | name _ => cases it <;> simp [itP, itTg] at z hP
    | tup _ =>
      cases t with
      | Tuple e k p => exact ⟨e, k, p, rfl⟩
      | _ => simp [mTg] at h4
  let tt : TT := if hif = true then fun σ H Q => ∃ o, TTv (c.blk o) X.K (evC g cond) σ H Q else tYes
  have ht : ∀ (s : Shared) (H : Hp) (C : Addr) (cl : List (Str × Addr)) (fp : List Addr), PTs (X.blk s H scope (compEnvC scope cl C X.env) fp) ifs tt := fun s H C cl fp => by
    rcases h6 with ⟨rfl, rfl⟩ | ⟨z, rfl, rfl, h6, h8⟩
    · exact pts_nil
    · exact pts_one (PT.ex fun o => hC (c.blk o) _ _ z hg (ok.blk' o s H scope cl C fp) h6 h8)
  have he : ∀ (s : Shared) (H : Hp) (C : Addr) (cl : List (Str × Addr)) (fp : List Addr), PE (X.blk s H scope (compEnvC scope cl C X.env) fp) y fun σ H Q => ∃ o, TEv (c.blk o) X.K p (evE g elt) σ H Q := fun s H C cl fp =>
    PE.ex fun o => hE (c.blk o) _ _ y hg (ok.blk' o s H scope cl C fp) h7
  have hbk : BlkOk X.N X.env.scope scope (ownOf m.N scope) := by
    rw [ok.hN, ok.sc]
    exact blkOk_by h1
  refine ⟨y, t, i, ifs, scope, pos, ownOf m.N scope, _, _, tt, _, rfl, hI c sc X t i hg ok h5 htup, hbk, fun s H C cl fp => pg_blk ok h4, ht, he, foldedSet h5, fun σ H Q ⟨env, st, μ, G, I, hq⟩ => ?_⟩
  generalize hvs : (ownOf m.N scope).map (·.2) = vs at h2 h3
  rw [evE, Fin.bind] at hq
  refine ⟨env, st, μ, G, I, hq.mono (fun xs st1 _ hx J H1 μ1 L I1 S1 wk hL Dd hD => ?_) fun _ _ _ hx => hx⟩
  generalize hbdy : (fun x st2 => match bindTg tg x env with
        | some env' => (if hif = true then (evE g cond env' st2).bind fun c st3 => match truD st3 c with
            | some true => (evE g elt env' st3).bind fun y st4 => R.ok (some y) st4
            | some false => .ok none st3
            | none => .bad
          else (evE g elt env' st2).bind fun y st3 => .ok (some y) st3).nox
        | none => .bad : D → Sto → R (Option D)) = bdy at hx
  have hnox : ∀ x st, bdy x st = (bdy x st).nox := fun x st => by
    rw [← hbdy]
    simp only
    cases bindTg tg x env with
    | none => rfl
    | some env' =>
      simp only
      generalize (if hif = true then _ else _ : R (Option D)) = z
      cases z <;> rfl
  have hx2 : Fin (fun ys st5 => ys.length ≤ sizeLine ∧ okE c X.K (.new1 (p.top ++ p.inn)) env μ G σ H Q (.lst ys) st5) (fun _ _ _ => False) (compLoop bdy xs st1) := by
    rw [Fin.bind, compLoop_nox hnox] at hx
    refine (Fin.nox hx).mono (fun ys st5 _ hy => ?_) fun _ _ _ z => z
    obtain ⟨z, e1, hy⟩ := Fin.ofO hy
    unfold guardO at e1
    split at e1
    · cases e1
      exact ⟨by assumption, hy⟩
    · cases e1
  clear hx hq
  have nDL : ∀ a, H1 a ≠ none → a ≠ Dd := fun a ha e => ha (by rw [e]; exact hD)
  refine ⟨fun i n Hh => n = xs.length - i ∧ i ≤ xs.length ∧ ∃ (st' : Sto) (μ' : List Addr) (acc : List V) (accd : List D) (F : List Addr), Step μ1 H1 μ' Hh ∧ BoxOk X.K Hh μ' st' ∧ μ'.length = st'.length ∧ μ'.Nodup ∧ Hh Dd = some (.lst acc) ∧ Dd ∉ μ' ∧ Reps X.K Hh μ' accd acc F ∧
      (∀ a ∈ F, a ≠ Dd ∧ (G a = none ∨ ∃ i ∈ p.top ++ p.inn, G a = some i) ∧ a ∉ μ' ∧ c.Ok a) ∧ Fin (fun ys st5 => (accd ++ ys).length ≤ sizeLine ∧ okE c X.K (.new1 (p.top ++ p.inn)) env μ G σ H Q (.lst (accd ++ ys)) st5) (fun _ _ _ => False) (compLoop bdy (xs.drop i) st'), ⟨xs.length, by simp, Nat.zero_le _, st1, μ1, [], [], [], .new hD, (I1.new hD).box, I1.muLen, I1.muNd, upd_same, fun z => (I1.gmu _ z).2 hD, .nil, fun _ h => by simp at h, hx2⟩, ?_⟩
  rintro i n Hh ⟨rfl, hi, st', μ', acc, accd, F, S, bx, ml, md, hDd, nD, rs, hF, hfin⟩
  have I2 := I1.after S bx ml md
  by_cases hlt : i < xs.length
  · refine .inr ?_
    have hx : xs[i]? = some xs[i] := List.getElem?_eq_getElem hlt
    obtain ⟨go, yl⟩ := wk.go μ' Hh i _ S.sl hx
    refine ⟨go, fun Hh => xs.length - (i + 1) = xs.length - (i + 1) ∧ i + 1 ≤ xs.length ∧ ∃ (st' : Sto) (μ' : List Addr) (acc : List V) (accd : List D) (F : List Addr), Step μ1 H1 μ' Hh ∧ BoxOk X.K Hh μ' st' ∧ μ'.length = st'.length ∧ μ'.Nodup ∧ Hh Dd = some (.lst acc) ∧ Dd ∉ μ' ∧ Reps X.K Hh μ' accd acc F ∧
      (∀ a ∈ F, a ≠ Dd ∧ (G a = none ∨ ∃ i ∈ p.top ++ p.inn, G a = some i) ∧ a ∉ μ' ∧ c.Ok a) ∧ Fin (fun ys st5 => (accd ++ ys).length ≤ sizeLine ∧ okE c X.K (.new1 (p.top ++ p.inn)) env μ G σ H Q (.lst (accd ++ ys)) st5) (fun _ _ _ => False) (compLoop bdy (xs.drop (i + 1)) st'), fun H' w => ⟨xs.length - (i + 1), by omega, w⟩, fun v H' hy => ?_⟩
    obtain ⟨n1, tv, Fv, rv, hv⟩ := yl v H' hy
    rw [List.drop_eq_getElem_cons hlt, compLoop, Fin.bind, ← hbdy] at hfin
    simp only at hfin
    rw [hbdy] at hfin
    cases eb : bindTg tg xs[i] env with
    | none => rw [eb] at hfin; exact hfin.elim
    | some env' =>
      rw [eb] at hfin
      simp only at hfin
      have hfin := Fin.nox (ex' := fun _ _ _ => False) hfin
      have I3 := I2.new1 n1
      have S3 : Step μ1 H1 μ' H' := S.trans n1.step
      have hDd3 : H' Dd = some (.lst acc) := n1.step.keep Dd _ hDd nD
      have I4 : SI X.K c.ow (fun a => c.Ok a ∧ a ≠ Dd) env st' μ' G σ H' :=
        ((I1.fresh (xs := []) hD).afterL (fun a h => h.2) (sl_own S hD hDd nD) bx ml md).new1 n1
      -- the element, appended
      have elt_ok : ∀ {σ' : St} {st2 : Sto} {μ2 : List Addr} {H3 : Hp}, SI X.K c.ow (fun a => c.Ok a ∧ a ≠ Dd) env' st2 μ2 G σ' H3 → Step μ' H' μ2 H3 →
          Fin (fun oy st4 => Fin (fun ys st5 => (accd ++ ys).length ≤ sizeLine ∧ okE c X.K (.new1 (p.top ++ p.inn)) env μ G σ H Q (.lst (accd ++ ys)) st5) (fun _ _ _ => False) ((compLoop bdy (xs.drop (i + 1)) st4).bind fun ys st2 => .ok (match oy with | some z => z :: ys | none => ys) st2)) (fun _ _ _ => False) ((evE g elt env' st2).bind fun y st3 => .ok (some y) st3) →
          TEv (c.blk fun a => c.Ok a ∧ a ≠ Dd) X.K p (evE g elt) σ' H3 fun y H4 => ∃ acc, H4 Dd = some (.lst acc) ∧ acc.length < sizeLine ∧ (xs.length - (i + 1) = xs.length - (i + 1) ∧ i + 1 ≤ xs.length ∧ ∃ (st' : Sto) (μ' : List Addr) (acc' : List V) (accd : List D) (F : List Addr), Step μ1 H1 μ' (upd H4 Dd (.lst (acc ++ [y]))) ∧ BoxOk X.K (upd H4 Dd (.lst (acc ++ [y]))) μ' st' ∧ μ'.length = st'.length ∧ μ'.Nodup ∧ (upd H4 Dd (.lst (acc ++ [y]))) Dd = some (.lst acc') ∧ Dd ∉ μ' ∧ Reps X.K (upd H4 Dd (.lst (acc ++ [y]))) μ' accd acc' F ∧
      (∀ a ∈ F, a ≠ Dd ∧ (G a = none ∨ ∃ i ∈ p.top ++ p.inn, G a = some i) ∧ a ∉ μ' ∧ c.Ok a) ∧ Fin (fun ys st5 => (accd ++ ys).length ≤ sizeLine ∧ okE c X.K (.new1 (p.top ++ p.inn)) env μ G σ H Q (.lst (accd ++ ys)) st5) (fun _ _ _ => False) (compLoop bdy (xs.drop (i + 1)) st')) := fun {σ' st2 μ2 H3} I6 S6 hq => by
        rw [Fin.bind] at hq
        refine ⟨env', st2, μ2, G, I6, hq.mono (fun y st4 _ hy vy H4 μ4 ty Fy I7 S7 ry py => ?_) fun _ _ _ z => z.elim⟩
        have hy : Fin (fun ys st5 => (accd ++ ys).length ≤ sizeLine ∧ okE c X.K (.new1 (p.top ++ p.inn)) env μ G σ H Q (.lst (accd ++ ys)) st5) (fun _ _ _ => False) ((compLoop bdy (xs.drop (i + 1)) st4).bind fun ys st2 => .ok (y :: ys) st2) := hy
        rw [Fin.bind] at hy
        have hy : Fin (fun ys st5 => (accd ++ [y] ++ ys).length ≤ sizeLine ∧ okE c X.K (.new1 (p.top ++ p.inn)) env μ G σ H Q (.lst (accd ++ [y] ++ ys)) st5) (fun _ _ _ => False) (compLoop bdy (xs.drop (i + 1)) st4) := hy.mono (fun ys st5 _ z => by
          have z : (accd ++ (y :: ys)).length ≤ sizeLine ∧ okE c X.K (.new1 (p.top ++ p.inn)) env μ G σ H Q (.lst (accd ++ (y :: ys))) st5 := z
          rw [List.append_assoc, List.singleton_append]
          exact z) fun _ _ _ z => z
        have hlen : accd.length < sizeLine := by
          cases e : compLoop bdy (xs.drop (i + 1)) st4 with
          | ok ys st5 =>
            rw [e] at hy
            have := hy.1
            simp at this
            omega
          | exn _ _ _ => rw [e] at hy; exact hy.elim
          | bad => rw [e] at hy; exact hy.elim
        have Sa : Step μ' Hh μ4 H4 := (n1.step.trans S6).trans S7
        have Sb : Step μ1 H1 μ4 H4 := S.trans Sa
        have hD4 : H4 Dd = some (.lst acc) := Sa.keep Dd _ hDd nD
        have nD4 : Dd ∉ μ4 := Sa.notin (by rw [hDd]; simp) nD
        have hh : Held X.K (c.blk fun a => c.Ok a ∧ a ≠ Dd) G p H3 y vy ty Fy μ4 H4 := ⟨ry, py⟩
        have all := hh.all I6.gdom
        have sl : SL (· ≠ Dd) μ4 H4 μ4 (upd H4 Dd (.lst (acc ++ [vy]))) := SL.upd hD4 fun z => z rfl
        have rs4 := rs.step Sa fun a ha => (hF a ha).2.2.1
        have rs5 := rs4.sl sl fun a ha => ⟨Sa.notin (rs.there a ha) (hF a ha).2.2.1, (hF a ha).1⟩
        have ry5 := ry.sl sl fun a ha => ⟨(all a ha).2.1, (all a ha).2.2.2⟩
        obtain ⟨F', rs6, hF'⟩ := rs5.append (.cons ry5 .nil)
        refine ⟨acc, hD4, by rw [← rs.length]; exact hlen, rfl, hlt, st4, μ4, acc ++ [vy], accd ++ [y], F', Sb.updNew hD hD4, I7.box.sl sl fun a ha vs e => ?_, I7.muLen, I7.muNd, upd_same, nD4, rs6, fun a ha => ?_, hy⟩
        · rw [upd_ne fun e => nD4 (by rw [← e]; exact ha)]
          exact e
        · rcases hF' a ha with ha | ha
          · exact ⟨(hF a ha).1, (hF a ha).2.1, Sa.notin (rs.there a ha) (hF a ha).2.2.1, (hF a ha).2.2.2⟩
          · have ha : a ∈ ty ++ Fy := by simpa using ha
            exact ⟨(all a ha).2.2.2, (all a ha).1, (all a ha).2.1, (all a ha).2.2.1⟩
      refine SI.tg (I4.wipe vs) (x := xs[i]) (env' := env') (fun i hi => by rw [ok.ow]; exact ho i hi) (bindTg_clrs h2 eb) rv (fun a ha => ?_) fun σ' I5 hl hj => ⟨wipe_eq (by rw [hl, wipe_length]) fun j hn => hj j fun z => hn (h3 j z), ?_⟩
      · obtain ⟨z1, z2, z3⟩ := hv a ha
        refine ⟨z2.elim id fun ⟨i, hi, _⟩ => by simp at hi, wk.mu S.sl a z1, z3, fun e => (wk.there a z1).1 (by rw [e]; exact hD)⟩
      · cases hif with
        | false =>
          have hfin := (show Fin _ _ ((evE g elt env' st').bind fun y st3 => .ok (some y) st3) from hfin)
          have z := elt_ok I5 .refl hfin
          exact ⟨_, z⟩
        | true =>
          simp only [if_true] at hfin
          rw [bdy_if, Fin.bind] at hfin
          refine ⟨_, env', st', μ', G, I5, hfin.mono (fun b st3 _ hb H3 μ3 I6 S6 => ?_) fun _ _ _ z => z.elim⟩
          cases b with
          | true =>
            rw [if_pos rfl]
            rw [if_pos rfl] at hb
            have z := elt_ok I6 S6 hb
            exact ⟨_, z⟩
          | false =>
            rw [if_neg (by simp)]
            have hb : Fin (fun ys st5 => (accd ++ ys).length ≤ sizeLine ∧ okE c X.K (.new1 (p.top ++ p.inn)) env μ G σ H Q (.lst (accd ++ ys)) st5) (fun _ _ _ => False) ((compLoop bdy (xs.drop (i + 1)) st3).bind fun ys st2 => .ok ys st2) := hb
            rw [Fin.bind] at hb
            have Sa : Step μ' Hh μ3 H3 := n1.step.trans S6
            exact ⟨rfl, hlt, st3, μ3, acc, accd, F, S.trans Sa, I6.box, I6.muLen, I6.muNd, Sa.keep Dd _ hDd nD, Sa.notin (by rw [hDd]; simp) nD, rs.step Sa fun a ha => (hF a ha).2.2.1, fun a ha => ⟨(hF a ha).1, (hF a ha).2.1, Sa.notin (rs.there a ha) (hF a ha).2.2.1, (hF a ha).2.2.2⟩, hb⟩
  · refine .inl ?_
    have e : i = xs.length := by omega
    subst e
    refine ⟨wk.stop μ' Hh _ S.sl (Nat.le_refl _), ?_⟩
    rw [List.drop_length, compLoop] at hfin
    obtain ⟨_, hfin⟩ := hfin
    rw [List.append_nil] at hfin
    refine hfin (.ref Dd) Hh μ' [Dd] F I2 (S1.trans S) (.lst hDd rs) ⟨fun a ha => ?_, fun a ha => (hF a ha).2.1, fun a ha => ?_⟩
    · rw [List.mem_singleton.mp ha]
      exact ⟨S1.wasNone hD, fun z => (hF _ z).1 rfl⟩
    · rcases List.mem_append.mp ha with ha | ha
      · rw [List.mem_singleton.mp ha]
        exact ⟨nD, I1.okn _ hD⟩
      · exact (hF a ha).2.2
theorem snd_comp {tg : Tg} {it : WT.It} {hif : Bool} {cond elt : E} {lt : List Nat} (hI : SndI m g k it [] lt) (hC : SndT m g k cond) (hE : Snd m g k elt p) (ho : ∀ i ∈ tg.slots, m.ow i = false) (hP : itTg it tg = true) : Snd m g k (.comp tg it hif cond elt) (.new1 (p.top ++ p.inn)) := by
  intro c sc X x hg ok h
  obtain ⟨y, t, i, ifs, scope, pos, own, wi, gT, tt, te, rfl, h1, h2, h3, h4, h5, h6, h7⟩ := comp_parts hI hC hE ho hP hg ok h
  exact (pe_lc ok.calm (by rw [ok.hN]; exact ok.nd) h1 h2 h3 h4 h5 h6).mono h7
end
end WT
end

section
set_option Elab.async false
set_option linter.all false
set_option maxRecDepth 100000
set_option autoImplicit false
/-! K14c: list comprehensions of two clauses. Own work. -/
namespace WT
open PySem PySem.Spec PyProof.Rows L2
theorem _root_.L2.PI.ex {ι : Type} {X : Cx} {tg e : Expr} {t : ι → TI} (h : ∀ i, PI X tg e (t i)) : PI X tg e fun σ H R => ∃ i, t i σ H R := ⟨fun pins s σ H R I ⟨i, q⟩ => (h i).run pins s σ H R I q⟩
section
variable {m : MC} {c : Cfg} {g : GE} {k : Nat} {sc : Scope} {X : Cx} {a b d e : E} {p q r : Pv}
theorem tup_of {m : MC} {scope : Scope} {tg : Tg} {it : WT.It} {t : Expr} (hP : itTg it tg = true) (h : mTg m scope tg t = true) : itP it = true → ∃ elts kk tpos, t = .Tuple elts kk tpos := fun z => by
  cases tg with
  | name _ => cases it <;> simp [itP, itTg] at z hP
  | tup _ =>
    cases t with
    | Tuple e k p => exact ⟨e, k, p, rfl⟩
    | _ => simp [mTg] at h
theorem snd_comp2 {tg tg1 : Tg} {it it1 : WT.It} {elt : E} {lt lt1 : List Nat} (hI : SndI m g k it [] lt) (hI1 : SndI m g k it1 [] lt1) (hE : Snd m g k elt p) (ho : ∀ i ∈ tg.slots, m.ow i = false) (ho1 : ∀ i ∈ tg1.slots, m.ow i = false) (hP : itTg it tg = true) (hP1 : itTg it1 tg1 = true) : Snd m g k (.comp2 tg it tg1 it1 elt) (.new1 (p.top ++ p.inn)) := by
  intro c sc X x hg ok h
  obtain ⟨y, t, i, t1, i1, scope, pos, rfl, h1, h2, h3, h4, h5, h6, h7, h8⟩ := comp2_shape h
  have he : ∀ (s : Shared) (H : Hp) (C : Addr) (cl : List (Str × Addr)) (fp : List Addr), PE (X.blk s H scope (compEnvC scope cl C X.env) fp) y fun σ H Q => ∃ o, TEv (c.blk o) X.K p (evE g elt) σ H Q := fun s H C cl fp =>
    PE.ex fun o => hE (c.blk o) _ _ y hg (ok.blk' o s H scope cl C fp) h8
  have hi1 : ∀ (s : Shared) (H : Hp) (C : Addr) (cl : List (Str × Addr)) (fp : List Addr), PI (X.blk s H scope (compEnvC scope cl C X.env) fp) t1 i1 fun σ H R => ∃ o, TIv (c.blk o) X.K [] lt1 (evIt g it1) σ H R := fun s H C cl fp =>
    PI.ex fun o => hI1 (c.blk o) _ _ t1 i1 hg (ok.blk' o s H scope cl C fp) h7 (tup_of hP1 h6)
  have hbk : BlkOk X.N X.env.scope scope (ownOf m.N scope) := by
    rw [ok.hN, ok.sc]
    exact blkOk_by h1
  refine (pe_lc2 (vs1 := tg1.slots) ok.calm (by rw [ok.hN]; exact ok.nd) (hI c sc X t i hg ok h5 (tup_of hP h4)) hbk (fun j hj => h3 j (List.mem_append_right _ hj)) (fun s H C cl fp => pg_blk ok h4) (fun _ _ _ _ _ => pts_nil) hi1 (fun s H C cl fp => pg_blk ok h6) (fun _ _ _ _ _ => pts_nil) he (foldedSet h5) (fun env => foldedSet (env := env) h7)).mono fun σ H Q ⟨env, st, μ, G, I, hq⟩ => ?_
  generalize hvs : (ownOf m.N scope).map (·.2) = vs at h2 h3
  rw [evE, Fin.bind] at hq
  refine ⟨env, st, μ, G, I, hq.mono (fun xs st1 _ hx J H1 μ1 L I1 S1 wk hL Dd hD => ?_) fun _ _ _ hx => hx⟩
  have hcl : clrs env (tg.slots ++ tg1.slots) = clrs env vs := clrs_ext fun j => ⟨fun z => h3 j z, fun z => h2 j z⟩
  rw [hcl] at hx
  generalize hb1 : (fun (env' : Env) (y : D) (st4 : Sto) => match bindTg tg1 y env' with
          | some env2 => ((evE g elt env2 st4).bind fun z st5 => R.ok (some z) st5).nox
          | none => .bad : Env → D → Sto → R (Option D)) = bdy1
  have hx : Fin (okE c X.K (.new1 (p.top ++ p.inn)) env μ G σ H Q) (exE c X.K env μ G σ H) ((compCat (fun x st2 => match bindTg tg x (clrs env vs) with
        | some env' => ((evIt g it1 env' st2).bind fun ys st3 => compLoop (bdy1 env') ys st3).nox
        | none => .bad) xs st1).bind fun ys st5 => .ofO st5 (guardO (ys.length ≤ sizeLine) (.lst ys))) := by
    rw [← hb1]; exact hx
  generalize hbdy : (fun x st2 => match bindTg tg x (clrs env vs) with
        | some env' => ((evIt g it1 env' st2).bind fun ys st3 => compLoop (bdy1 env') ys st3).nox
        | none => .bad : D → Sto → R (List D)) = bdy at hx
  have hnox : ∀ x st, bdy x st = (bdy x st).nox := fun x st => by
    rw [← hbdy]
    simp only
    cases bindTg tg x (clrs env vs) with
    | none => rfl
    | some env' =>
      simp only
      generalize ((evIt g it1 env' st).bind fun ys st3 => compLoop (bdy1 env') ys st3) = z
      cases z <;> rfl
  have hx2 : Fin (fun ys st5 => ys.length ≤ sizeLine ∧ okE c X.K (.new1 (p.top ++ p.inn)) env μ G σ H Q (.lst ys) st5) (fun _ _ _ => False) (compCat bdy xs st1) := by
    rw [Fin.bind, compCat_nox hnox] at hx
    refine (Fin.nox hx).mono (fun ys st5 _ hy => ?_) fun _ _ _ z => z
    obtain ⟨z, e1, hy⟩ := Fin.ofO hy
    unfold guardO at e1
    split at e1
    · cases e1
      exact ⟨by assumption, hy⟩
    · cases e1
  clear hx hq
  generalize hA : (fun (accd ys : List D) (st5 : Sto) => (accd ++ ys).length ≤ sizeLine ∧ okE c X.K (.new1 (p.top ++ p.inn)) env μ G σ H Q (.lst (accd ++ ys)) st5) = A
  have hA2 : ∀ accd ys st5, A accd ys st5 → (accd ++ ys).length ≤ sizeLine := fun accd ys st5 z => by
    rw [← hA] at z; exact z.1
  have hA3 : ∀ accd ys zs st5, A accd (ys ++ zs) st5 → A (accd ++ ys) zs st5 := fun accd ys zs st5 z => by
    rw [← hA] at z ⊢
    simp only [List.append_assoc]
    exact z
  -- what stands so far
  let Pz : (Sto → List D → List Addr → Prop) → Hp → Prop := fun φ Hh => ∃ (st' : Sto) (μ' : List Addr) (acc : List V) (accd : List D) (F : List Addr), Step μ1 H1 μ' Hh ∧ BoxOk X.K Hh μ' st' ∧ μ'.length = st'.length ∧ μ'.Nodup ∧ Hh Dd = some (.lst acc) ∧ Dd ∉ μ' ∧ Reps X.K Hh μ' accd acc F ∧
      (∀ a ∈ F, a ≠ Dd ∧ (G a = none ∨ ∃ i ∈ p.top ++ p.inn, G a = some i) ∧ a ∉ μ' ∧ c.Ok a) ∧ φ st' accd μ'
  have ebd : ∀ x st, bdy x st = (match bindTg tg x (clrs env vs) with
        | some env' => ((evIt g it1 env' st).bind fun ys st3 => compLoop (bdy1 env') ys st3).nox
        | none => .bad) := fun x st => by rw [← hbdy]
  have eb1 : ∀ env' y st, bdy1 env' y st = (match bindTg tg1 y env' with
          | some env2 => ((evE g elt env2 st).bind fun z st5 => R.ok (some z) st5).nox
          | none => .bad) := fun env' y st => by rw [← hb1]
  clear hbdy hb1 hnox
  refine ⟨fun i n Hh => n = xs.length - i ∧ i ≤ xs.length ∧ Pz (fun st' accd _ => Fin (A accd) (fun _ _ _ => False) (compCat bdy (xs.drop i) st')) Hh, ⟨xs.length, by simp, Nat.zero_le _, st1, μ1, [], [], [], .new hD, (I1.new hD).box, I1.muLen, I1.muNd, upd_same, fun z => (I1.gmu _ z).2 hD, .nil, fun _ h => by simp at h, by rw [← hA]; exact hx2⟩, ?_⟩
  rintro i n Hh ⟨rfl, hi, st', μ', acc, accd, F, S, bx, ml, md, hDd, nD, rs, hF, hfin⟩
  have I2 := I1.after S bx ml md
  by_cases hlt : i < xs.length
  · refine .inr ?_
    have hx : xs[i]? = some xs[i] := List.getElem?_eq_getElem hlt
    obtain ⟨go, yl⟩ := wk.go μ' Hh i _ S.sl hx
    refine ⟨go, fun Hh => xs.length - (i + 1) = xs.length - (i + 1) ∧ i + 1 ≤ xs.length ∧ Pz (fun st' accd _ => Fin (A accd) (fun _ _ _ => False) (compCat bdy (xs.drop (i + 1)) st')) Hh, fun H' w => ⟨xs.length - (i + 1), by omega, w⟩, fun v H' hy => ?_⟩
    obtain ⟨n1, tv, Fv, rv, hv⟩ := yl v H' hy
    rw [List.drop_eq_getElem_cons hlt, compCat, Fin.bind, ebd] at hfin
    cases eb : bindTg tg xs[i] (clrs env vs) with
    | none => rw [eb] at hfin; exact hfin.elim
    | some env' =>
      rw [eb] at hfin
      simp only at hfin
      have hfin := Fin.nox (ex' := fun _ _ _ => False) hfin
      rw [Fin.bind] at hfin
      have I4 : SI X.K c.ow (fun a => c.Ok a ∧ a ≠ Dd) env st' μ' G σ H' :=
        ((I1.fresh (xs := []) hD).afterL (fun a h => h.2) (sl_own S hD hDd nD) bx ml md).new1 n1
      refine SI.tg (I4.wipe vs) (x := xs[i]) (env' := env') (fun i hi => by rw [ok.ow]; exact ho i hi) eb rv (fun a ha => ?_) fun σ2 I5 hl hj => ⟨wipe_eq (by rw [hl, wipe_length]) fun j hn => hj j fun z => hn (h3 j (List.mem_append_left _ z)), ?_⟩
      · obtain ⟨z1, z2, z3⟩ := hv a ha
        refine ⟨z2.elim id fun ⟨i, hi, _⟩ => by simp at hi, wk.mu S.sl a z1, z3, fun e => (wk.there a z1).1 (by rw [e]; exact hD)⟩
      · refine ⟨fun a => c.Ok a ∧ a ≠ Dd, env', st', μ', G, I5, hfin.mono (fun ys st4 _ hyl J1 H4 μ4 L1 I6 S6 wk1 hL1 => ?_) fun _ _ _ z => z.elim⟩
        have Sa : Step μ' Hh μ4 H4 := n1.step.trans S6
        have Sb : Step μ1 H1 μ4 H4 := S.trans Sa
        have hD4 : H4 Dd = some (.lst acc) := Sa.keep Dd _ hDd nD
        have nD4 : Dd ∉ μ4 := Sa.notin (by rw [hDd]; simp) nD
        have L1D : ∀ a ∈ L1, a ≠ Dd := fun a ha => (hL1 a ha).2.2
        have hyl2 : Fin (fun zs st6 => Fin (A (accd ++ zs)) (fun _ _ _ => False) (compCat bdy (xs.drop (i + 1)) st6)) (fun _ _ _ => False) (compLoop (bdy1 env') ys st4) := hyl.mono (fun zs st6 _ z => by
          rw [Fin.bind] at z
          exact z.mono (fun ws st7 _ w => hA3 _ _ _ _ w) fun _ _ _ w => w) fun _ _ _ w => w
        refine ⟨fun j n Hh => n = ys.length - j ∧ j ≤ ys.length ∧ Pz (fun st' accd' μ'' => SL (· ≠ Dd) μ4 H4 μ'' Hh ∧ Fin (fun zs st6 => Fin (A (accd' ++ zs)) (fun _ _ _ => False) (compCat bdy (xs.drop (i + 1)) st6)) (fun _ _ _ => False) (compLoop (bdy1 env') (ys.drop j) st')) Hh,
          ⟨ys.length, by simp, Nat.zero_le _, st4, μ4, acc, accd, F, Sb, I6.box, I6.muLen, I6.muNd, hD4, nD4, rs.step Sa fun a ha => (hF a ha).2.2.1, fun a ha => ⟨(hF a ha).1, (hF a ha).2.1, Sa.notin (rs.there a ha) (hF a ha).2.2.1, (hF a ha).2.2.2⟩, .refl, hyl2⟩, ?_⟩
        rintro j n Hh2 ⟨rfl, hj1, st5, μ5, acc5, accd5, F5, S5, bx5, ml5, md5, hD5, nD5, rs5, hF5, sl5, hfin5⟩
        have slL : SL (· ∈ L1) μ4 H4 μ5 Hh2 := sl5.weak fun a ha => L1D a ha
        by_cases hlt1 : j < ys.length
        · refine .inr ?_
          have hy1 : ys[j]? = some ys[j] := List.getElem?_eq_getElem hlt1
          obtain ⟨go1, yl1⟩ := wk1.go μ5 Hh2 j _ slL hy1
          refine ⟨go1, fun Hh => ys.length - (j + 1) = ys.length - (j + 1) ∧ j + 1 ≤ ys.length ∧ Pz (fun st' accd' μ'' => SL (· ≠ Dd) μ4 H4 μ'' Hh ∧ Fin (fun zs st6 => Fin (A (accd' ++ zs)) (fun _ _ _ => False) (compCat bdy (xs.drop (i + 1)) st6)) (fun _ _ _ => False) (compLoop (bdy1 env') (ys.drop (j + 1)) st')) Hh, fun H' w => ⟨ys.length - (j + 1), by omega, w⟩, fun v1 H5 hyy => ?_⟩
          obtain ⟨n2, tv1, Fv1, rv1, hv1⟩ := yl1 v1 H5 hyy
          rw [List.drop_eq_getElem_cons hlt1, compLoop, Fin.bind, eb1] at hfin5
          cases eb2 : bindTg tg1 ys[j] env' with
          | none => rw [eb2] at hfin5; exact hfin5.elim
          | some env2 =>
            rw [eb2] at hfin5
            simp only at hfin5
            have hfin5 := Fin.nox (ex' := fun _ _ _ => False) hfin5
            have I7 : SI X.K c.ow (fun a => c.Ok a ∧ a ≠ Dd) env' st5 μ5 G σ2 H5 := (SI.afterL (L := (· ≠ Dd)) I6 (fun a h => h.2) sl5 bx5 ml5 md5).new1 n2
            refine SI.tg (I7.wipe tg1.slots) (x := ys[j]) (env' := env2) (fun i hi => by rw [ok.ow]; exact ho1 i hi) (bindTg_clrs (fun _ h => h) eb2) rv1 (fun a ha => ?_) fun σ3 I9 hl3 hj3 => ⟨wipe_eq (by rw [hl3, wipe_length]) fun j hn => hj3 j hn, ?_⟩
            · obtain ⟨z1, z2, z3⟩ := hv1 a ha
              exact ⟨z2.elim id fun ⟨i, hi, _⟩ => by simp at hi, wk1.mu slL a z1, z3⟩
            · rw [Fin.bind] at hfin5
              refine ⟨fun a => c.Ok a ∧ a ≠ Dd, env2, st5, μ5, G, I9, hfin5.mono (fun yv st7 _ hyv vy H7 μ7 ty Fy I10 S10 ry py => ?_) fun _ _ _ z => z.elim⟩
              have hyv : Fin (fun zs st6 => Fin (A (accd5 ++ zs)) (fun _ _ _ => False) (compCat bdy (xs.drop (i + 1)) st6)) (fun _ _ _ => False) ((compLoop (bdy1 env') (ys.drop (j + 1)) st7).bind fun ys st2 => .ok (yv :: ys) st2) := hyv
              rw [Fin.bind] at hyv
              have hyv : Fin (fun zs st6 => Fin (A (accd5 ++ [yv] ++ zs)) (fun _ _ _ => False) (compCat bdy (xs.drop (i + 1)) st6)) (fun _ _ _ => False) (compLoop (bdy1 env') (ys.drop (j + 1)) st7) := hyv.mono (fun zs st6 _ z => by
                have z : Fin (A (accd5 ++ (yv :: zs))) (fun _ _ _ => False) (compCat bdy (xs.drop (i + 1)) st6) := z
                rw [List.append_assoc, List.singleton_append]
                exact z) fun _ _ _ z => z
              have hlen : accd5.length < sizeLine := by
                cases e : compLoop (bdy1 env') (ys.drop (j + 1)) st7 with
                | ok zs st8 =>
                  rw [e] at hyv
                  have hyv : Fin (A (accd5 ++ [yv] ++ zs)) (fun _ _ _ => False) (compCat bdy (xs.drop (i + 1)) st8) := hyv
                  cases e2 : compCat bdy (xs.drop (i + 1)) st8 with
                  | ok ws st9 =>
                    rw [e2] at hyv
                    have := hA2 _ _ _ hyv
                    simp at this
                    omega
                  | exn _ _ _ => rw [e2] at hyv; exact hyv.elim
                  | bad => rw [e2] at hyv; exact hyv.elim
                | exn _ _ _ => rw [e] at hyv; exact hyv.elim
                | bad => rw [e] at hyv; exact hyv.elim
              have Sa5 : Step μ5 Hh2 μ7 H7 := n2.step.trans S10
              have Sb5 : Step μ1 H1 μ7 H7 := S5.trans Sa5
              have hD7 : H7 Dd = some (.lst acc5) := Sa5.keep Dd _ hD5 nD5
              have nD7 : Dd ∉ μ7 := Sa5.notin (by rw [hD5]; simp) nD5
              have hh : Held X.K (c.blk fun a => c.Ok a ∧ a ≠ Dd) G p H5 yv vy ty Fy μ7 H7 := ⟨ry, py⟩
              have all := hh.all I9.gdom
              have sl : SL (· ≠ Dd) μ7 H7 μ7 (upd H7 Dd (.lst (acc5 ++ [vy]))) := SL.upd hD7 fun z => z rfl
              have rs6 := rs5.step Sa5 fun a ha => (hF5 a ha).2.2.1
              have rs7 := rs6.sl sl fun a ha => ⟨Sa5.notin (rs5.there a ha) (hF5 a ha).2.2.1, (hF5 a ha).1⟩
              have ry5 := ry.sl sl fun a ha => ⟨(all a ha).2.1, (all a ha).2.2.2⟩
              obtain ⟨F', rs8, hF'⟩ := rs7.append (.cons ry5 .nil)
              refine ⟨acc5, hD7, by rw [← rs5.length]; exact hlen, rfl, hlt1, st7, μ7, acc5 ++ [vy], accd5 ++ [yv], F', Sb5.updNew hD hD7, I10.box.sl sl fun a ha vs e => ?_, I10.muLen, I10.muNd, upd_same, nD7, rs8, fun a ha => ?_, (sl5.trans (Sa5.sl (L := (· ≠ Dd))) fun _ _ _ h => h).trans sl fun _ _ _ h => h, hyv⟩
              · rw [upd_ne fun e => nD7 (by rw [← e]; exact ha)]
                exact e
              · rcases hF' a ha with ha | ha
                · exact ⟨(hF5 a ha).1, (hF5 a ha).2.1, Sa5.notin (rs5.there a ha) (hF5 a ha).2.2.1, (hF5 a ha).2.2.2⟩
                · have ha : a ∈ ty ++ Fy := by simpa using ha
                  exact ⟨(all a ha).2.2.2, (all a ha).1, (all a ha).2.1, (all a ha).2.2.1⟩
        · refine .inl ?_
          have e : j = ys.length := by omega
          subst e
          rw [List.drop_length, compLoop] at hfin5
          have hfin5 : Fin (A (accd5 ++ [])) (fun _ _ _ => False) (compCat bdy (xs.drop (i + 1)) st5) := hfin5
          rw [List.append_nil] at hfin5
          exact ⟨wk1.stop μ5 Hh2 _ slL (Nat.le_refl _), rfl, hlt, st5, μ5, acc5, accd5, F5, S5, bx5, ml5, md5, hD5, nD5, rs5, hF5, hfin5⟩
  · refine .inl ?_
    have e : i = xs.length := by omega
    subst e
    refine ⟨wk.stop μ' Hh _ S.sl (Nat.le_refl _), ?_⟩
    rw [List.drop_length, compCat] at hfin
    have hfin : A accd [] st' := hfin
    rw [← hA] at hfin
    obtain ⟨_, hfin⟩ := hfin
    rw [List.append_nil] at hfin
    refine hfin (.ref Dd) Hh μ' [Dd] F I2 (S1.trans S) (.lst hDd rs) ⟨fun a ha => ?_, fun a ha => (hF a ha).2.1, fun a ha => ?_⟩
    · rw [List.mem_singleton.mp ha]
      exact ⟨S1.wasNone hD, fun z => (hF _ z).1 rfl⟩
    · rcases List.mem_append.mp ha with ha | ha
      · rw [List.mem_singleton.mp ha]
        exact ⟨nD, I1.okn _ hD⟩
      · exact (hF a ha).2.2
end
end WT
end

section
set_option Elab.async false
set_option linter.all false
set_option maxRecDepth 100000
set_option autoImplicit false
/-! K14d: expressions on dicts, xs.index(x). -/
namespace WT
open PySem PySem.Spec PyProof.Rows L2
theorem meth_desc_index : typeOf (.builtin "list.index") = pure (.type "method_descriptor") := by show builtinType _ = _; rw [builtinType_eq_fast]; kernel_rfl
section
variable {m : MC} {g : GE} {k : Nat} {a b d e : E} {p q r : Pv}
theorem pe_dnewX {X : Cx} {pos : Pos} : PE X (.Dict [] [] pos) (fun σ H Q => ∀ p, (p == sysModules) = false → H p = none → Q (.ref p) (upd H p (DTo p []))) := ⟨fun pins s σ H Q I h =>
  wpAny_Dict_empty ⟨.ref s.heap.objs.size, _, I.laid (a := s.heap.objs.size) (o := DTo s.heap.objs.size []) (t' := s.toks) (fun _ _ q => Heap.get?_push_of_some _ q) (Nat.le_refl _)
    ⟨⟨_, #[], 0, Heap.get?_push_size _ rfl, ⟨rfl, rfl, rfl⟩, rfl, rfl, List.nodup_nil⟩, ⟨_, Heap.get?_push_size _ rfl⟩, fun h1 h2 ⟨o, es, ep, e1, e2⟩ k => ⟨o, es, ep, k _ e1, e2⟩⟩, rfl,
    h _ (beq_eq_false_iff_ne.mpr (Ne.symm (Nat.ne_of_lt I.big))) (I.hok.fresh (Nat.le_refl _))⟩⟩
theorem snd_dnew {t : Bool} : Snd m g k (.dnew t) (.new1 []) := by
  intro c sc X x hg ok h
  cases x with
  | Dict ks vs pos =>
    match ks, vs, h with
    | [], [], h =>
      cases t with
      | false =>
        refine pe_dnewK.mono fun σ H Q ⟨env, st, μ, G, I, hq⟩ => ?_
        rw [evE] at hq
        exact fun n hn => (okE.out hq I .refl (B := fun _ => False) fun a h => h.elim) (.ref n) (upd H n (.dK [])) [n] [] (.inr ⟨n, _, hn, rfl⟩) (.dK upd_same rfl rfl .nil rfl) (fun a ha => by
          have e := List.mem_singleton.mp ha
          subst e
          exact ⟨hn, by simp⟩) fun a h => by simp at h
      | true =>
        refine pe_dnewX.mono fun σ H Q ⟨env, st, μ, G, I, hq⟩ => ?_
        rw [evE] at hq
        exact fun n hs hn => (okE.out hq I .refl (B := fun _ => False) fun a h => h.elim) (.ref n) (upd H n (DTo n [])) [n] [] (.inr ⟨n, _, hn, rfl⟩) (.dT (xs := []) upd_same hs (Nat.zero_le _) rfl (fun _ h => by simp at h) .nil .nil rfl) (fun a ha => by
          have e := List.mem_singleton.mp ha
          subst e
          exact ⟨hn, by simp⟩) fun a h => by simp at h
    | _ :: _, _, h => simp [mE] at h
    | [], _ :: _, h => simp [mE] at h
  | _ => simp [mE] at h
theorem snd_dgeto (ha : Snd m g k a p) (hb : Snd m g k b q) (hd : Snd m g k d r) : Snd m g k (.dgeto a b d) (.new1 []) := by
  intro c sc X x hg ok h
  cases x with
  | Call f args kws pos =>
    cases f with
    | Attribute o f ap =>
      cases o with
      | Name x xp =>
        match args, kws, h with
        | [y, z], [], h =>
          simp only [mE, Bool.and_eq_true, beq_iff_eq] at h
          obtain ⟨⟨⟨⟨rfl, h1⟩, h2⟩, h3⟩, h4⟩ := h
          have hst : starEach [y, z] X.env = [(false, eval y X.env), (false, eval z X.env)] := by rw [star_of (mE_plain h3), star_of (mE_plain h4)]; rfl
          refine (pe_dget2 (by have := ok.room.units; omega) (ha c sc X _ hg ok h2) (hb c sc X y hg ok h3) (hd c sc X z hg ok h4) ⟨rfl, by rw [hst]; rfl, by simpa using h1, by rw [hst]; rfl⟩).mono fun σ H Q ⟨env, st, μ, G, I, hq⟩ => ?_
          rw [evE] at hq
          refine TEv.fst I hq fun x1 st1 v1 H1 μ1 t1 F1 I1 S1 r1 hq => ?_
          cases hi : isDK x1 with
          | false => rw [hi] at hq; exact hq.elim
          | true =>
            rw [hi, if_pos rfl] at hq
            obtain ⟨rp, po⟩ := r1
            cases rp <;> first | (cases hi; done) | skip
            rename_i n kvs ks vs ds F e1 e2 e3 r1 hF
            refine ⟨n, rfl, .inl ⟨kvs, .inl e1⟩, ?_⟩
            refine TEv.nxt S1 I1 hq fun x2 st2 v2 H2 μ2 t2 F2 I2 S2 r2 hq => ?_
            refine TEv.nxt (S1.trans S2) I2 hq fun x3 st3 v3 H3 μ3 t3 F3 I3 S3 r3 hq => ?_
            obtain ⟨w, e4, hq⟩ := Fin.ofO hq
            simp only [dgetoD] at e4
            split at e4
            · rename_i hn
              obtain ⟨kk, e5, rfl⟩ := Option.map_eq_some_iff.mp e4
              have k2 := r2.rep.key e5
              subst k2
              have hm : n ∉ μ1 := (po.out n (by simp)).1
              have e1' : H3 n = some (.dK kvs) := S3.keep _ _ (S2.keep _ _ e1 hm) (S2.notin (by rw [e1]; simp) hm)
              have r1' : Reps X.K H3 μ3 ds vs F := (r1.step S2 fun a h => by rw [hF] at h; simp at h).step S3 fun a h => by rw [hF] at h; simp at h
              obtain ⟨n1, n2⟩ := r3.rep.noL hn
              subst n1 n2
              refine ⟨valV kvs kk, .k e1', ?_⟩
              rcases Reps.valP kk e2 e3 r1' with ⟨d', v', t', G', a1, a2, a3, a4⟩ | ⟨a1, a2⟩
              · rw [a1] at hq
                rw [a2]
                have ht : t' = [] ∧ G' = [] := by
                  rw [hF] at a4
                  cases t' with
                  | cons z t' => exact absurd (a4 z (by simp)) (by simp)
                  | nil => cases G' with
                    | cons z t' => exact absurd (a4 z (by simp)) (by simp)
                    | nil => exact ⟨rfl, rfl⟩
                obtain ⟨rfl, rfl⟩ := ht
                exact okE.flat (p := .new1 []) hq I3 ((S1.trans S2).trans S3) a3
              · rw [a1] at hq
                rw [a2]
                exact okE.flat (p := .new1 []) hq I3 ((S1.trans S2).trans S3) r3.rep
            · cases e4
        | [], _, h => simp [mE] at h
        | [_], _, h => simp [mE] at h
        | [_, _], _ :: _, h => simp [mE] at h
        | _ :: _ :: _ :: _, _, h => simp [mE] at h
      | _ => simp [mE] at h
    | _ => simp [mE] at h
  | _ => simp [mE] at h
theorem findIdx_first {α : Type} {f : α → Bool} : ∀ {l : List α} {j : Nat}, l.findIdx? f = some j → ∃ z, l[j]? = some z ∧ f z = true ∧ ∀ (i : Nat) (y : α), i < j → l[i]? = some y → f y = false := by
  intro l j h
  rw [List.findIdx?_eq_some_iff_getElem] at h
  obtain ⟨h1, h2, h3⟩ := h
  refine ⟨l[j], List.getElem?_eq_getElem h1, h2, fun i y hi hy => ?_⟩
  have := h3 i hi
  obtain ⟨hl, rfl⟩ := List.getElem?_eq_some_iff.mp hy
  simpa using this
theorem snd_midx (ha : Snd m g k a p) (hb : Snd m g k b q) : Snd m g k (.midx a b) (.new1 []) := by
  intro c sc X x hg ok h
  cases x with
  | Call f args kws pos =>
    cases f with
    | Attribute o f ap =>
      cases o with
      | Name x xp =>
        match args, kws, h with
        | [y], [], h =>
          simp only [mE, Bool.and_eq_true, beq_iff_eq] at h
          obtain ⟨⟨⟨rfl, h1⟩, h2⟩, h3⟩ := h
          have hst := star_of (mE_plain h3) ([] : List Expr) X.env
          refine (pe_bm PySem.F.plainAttrs_list PySem.F.slot_list_index meth_desc_index (mt_indexD (by have := ok.room.un; omega)) (ha c sc X _ hg ok h2) (pa_cons (hb c sc X y hg ok h3) pa_nil hst) rfl (by rw [hst]; rfl) (by simpa using h1) hst rfl).mono fun σ H Q ⟨env, st, μ, G, I, hq⟩ => ?_
          rw [evE] at hq
          refine TEv.fst I hq fun x1 st1 v1 H1 μ1 t1 F1 I1 S1 r1 hq => ?_
          cases hi : isLst x1 with
          | false => rw [hi] at hq; exact hq.elim
          | true =>
            rw [hi, if_pos rfl] at hq
            obtain ⟨rp, po⟩ := r1
            cases rp <;> first | (cases hi; done) | skip
            rename_i n vs ds e1 rs
            refine ⟨.inl ⟨rfl, vs, .inl (.inl e1)⟩, ?_⟩
            refine TEv.nxt S1 I1 hq fun x2 st2 v2 H2 μ2 t2 F2 I2 S2 r2 hq => ?_
            obtain ⟨w, e4, hq⟩ := Fin.ofO hq
            have hm : ∀ b ∈ n :: F1, b ∉ μ1 := fun b hb => (po.out b hb).1
            have rl := (Rep.lst (μ := μ1) e1 rs).step S2 hm
            unfold midxD at e4
            split at e4
            · rename_i ps pd q1 q2
              split at e4
              · rename_i hs
                obtain ⟨j, e5, rfl⟩ := Option.map_eq_some_iff.mp e4
                obtain ⟨z, z1, z2, z3⟩ := findIdx_first e5
                refine ⟨_, _, pd, ps, j, z, rfl, rfl, rl.dp q1, r2.rep.dp q2, hs.1, hs.2, z1, z2, fun i y hi hy => z3 i y hi hy, ?_⟩
                exact okE.flat (p := .new1 []) hq I2 (S1.trans S2) (.int _)
              · cases e4
            · cases e4
        | [], _, h => simp [mE] at h
        | [_], _ :: _, h => simp [mE] at h
        | _ :: _ :: _, _, h => simp [mE] at h
      | _ => simp [mE] at h
    | _ => simp [mE] at h
  | _ => simp [mE] at h
end
end WT
end

section
set_option Elab.async false
set_option linter.all false
set_option maxRecDepth 100000
set_option autoImplicit false
/-! K14e: operations of one argument. -/
namespace WT
open PySem PySem.Spec PyProof.Rows L2
theorem met_take (ns : List Int) : ∀ i, i ≤ ns.length → firstMet (fun j => ns.getD j 0) i = nubI (ns.take i)
  | 0, _ => rfl
  | i + 1, h => by
    have h1 : i < ns.length := h
    rw [firstMet_succ, met_take ns i (by omega), List.take_add_one, List.getElem?_eq_getElem h1]
    have e : ns.getD i 0 = ns[i] := by simp [List.getD_eq_getElem?_getD, h1]
    unfold nubI
    rw [e, Option.toList, List.foldl_append]
    rfl
theorem met_all (ns : List Int) : firstMet (fun j => ns.getD j 0) ns.length = nubI ns := by
  rw [met_take ns ns.length (Nat.le_refl _), List.take_length]
theorem nub_len (ns : List Int) : (nubI ns).length ≤ ns.length := by
  rw [← met_all]
  exact firstMet_length_le _ _
/-- len(set(xs)) of integers, some twice -/
theorem pe_nub {X : Cx} {a : Expr} {t : TE} {p p2 q pos : Pos} (hc : X.calm = true) (g1 : Gl X "len") (m1 : X.mg "len" = none) (g2 : Gl X "set") (m2 : X.mg "set" = none) (ha : PE X a t) (hs : starEach [a] X.env = [(false, eval a X.env)]) :
    PE X (.Call (.Name "len" p) [.Call (.Name "set" p2) [a] [] q] [] pos) (fun σ H Q => t σ H fun x H1 => ∃ (l : Addr) (ns : List Int), x = .ref l ∧ SqL X.K H1 l (ns.map V.int) ∧ ns.length ≤ 4000 ∧ Q (.int ((nubI ns).length : Nat)) H1) := by
  refine ⟨fun pins s σ H Q I h => Call_ (ld_blt I g1 m1 boot_len (callWith_builtin1 (args_cons (Call_ (ld_blt I g2 m2 boot_set (callWith_type1 (args_cons (thn (ha.run pins s σ H _ I h) fun u s1 hu => args_nil ?_) hs) hs rfl))) rfl) rfl rfl))⟩
  obtain ⟨x, H1, I1, rx, l, ns, rfl, sq, hl, hq⟩ := hu
  cases rx
  obtain ⟨us, rs, pl, _⟩ := I1.list sq
  have hz : us.toArray.size = ns.length := by have := rs.length; simp at this; simp [this]
  refine call_set_list (I1.ok.hd hc) pl.isList (RZ.intsAre_vals rs) (by rw [hz]; unfold scanBound; omega) fun g tk S old => args_nil ?_
  rw [hz, met_all] at S
  obtain ⟨o, es, ep, tb, ho, hx, hd, _, _, _, ft, hn⟩ := S
  have hb := nub_len ns
  exact call_len_set ho hx hd ft (by rw [hn]; omega) ⟨.int (nubI ns).length, H1, (I1.kept fun b o e => old b o (Heap.lt_size e) e).tok _, ⟨_, by rw [hn]⟩, hq⟩
section
variable {m : MC} {g : GE} {k : Nat} {a : E} {p : Pv}
theorem snd_op1 {o : Op1} (ha : Snd m g k a p) : Snd m g k (.op1 o a) (.new1 []) := by
  intro c sc X x hg ok h
  rw [mE] at h
  cases o with
  | bits =>
    unfold mOp1 mBits at h
    simp only at h
    split at h
    · rename_i y n ap cp
      simp only [Bool.and_eq_true, beq_iff_eq] at h
      obtain ⟨⟨⟨rfl, h1⟩, h2⟩, h3⟩ := h
      refine (pe_bits (ha c sc X y hg ok h3) ?_ (by simpa using h1)).mono fun σ H Q ⟨env, st, μ, G, I, hq⟩ => ?_
      · unfold isNC at h2
        split at h2 <;> first | rfl | (cases h2; done)
      · rw [evE] at hq
        refine TEv.fst I hq fun x1 st1 v1 H1 μ1 t1 F1 I1 S1 r1 hq => ?_
        obtain ⟨z, e1, hq⟩ := Fin.ofO hq
        obtain ⟨rp, po⟩ := r1
        cases x1 <;> first | (cases e1; done) | skip
        cases rp
        cases e1
        exact ⟨_, rfl, okE.flat (p := .new1 []) hq I1 S1 (.int _)⟩
    · cases h
  | lenSet =>
    unfold mOp1 mLenSet at h
    simp only at h
    split at h
    · rename_i n np r rp y cp cp2
      simp only [Bool.and_eq_true, beq_iff_eq] at h
      obtain ⟨⟨⟨⟨rfl, h1⟩, rfl⟩, h2⟩, h3⟩ := h
      refine (pe_nub ok.calm (ok.gl h1) (ok.free _ (by decide +kernel)) (ok.gl h2) (ok.free _ (by decide +kernel)) (ha c sc X y hg ok h3) (star_of (mE_plain h3) _ _)).mono fun σ H Q ⟨env, st, μ, G, I, hq⟩ => ?_
      rw [evE] at hq
      refine TEv.fst I hq fun x1 st1 v1 H1 μ1 t1 F1 I1 S1 r1 hq => ?_
      obtain ⟨z, e1, hq⟩ := Fin.ofO hq
      obtain ⟨rp, po⟩ := r1
      cases x1 <;> first | (cases e1; done) | skip
      obtain ⟨ns, h4, h5⟩ := Option.bind_eq_some_iff.mp e1
      obtain ⟨h6, rfl⟩ := guardO_some h5
      cases rp
      rename_i l vs e r1
      have e2 := r1.ints h4
      subst e2
      exact ⟨l, ns, rfl, .of e, h6, okE.flat (p := .new1 []) hq I1 S1 (.int _)⟩
    · cases h
end
end WT
end

section
set_option Elab.async false
set_option linter.all false
set_option maxRecDepth 100000
set_option autoImplicit false
set_option maxHeartbeats 4000000
/-! K15: every expression. -/
namespace WT
open PySem PySem.Spec PyProof.Rows L2

def pvTop (m : MC) (e : E) : List Nat := match pvE m e with
  | some p => p.top ++ p.inn
  | none => []
/-- whose lists may be met in what is walked -/
def pvAll (m : MC) : WT.It → List Nat
  | .seq e => pvTop m e
  | .enum e => pvTop m e
  | .zip a b => pvTop m a ++ pvTop m b
  | _ => []
section
variable {m : MC} {g : GE} {k : Nat}
theorem snd_dead {p : Pv} : Snd m g k .dead p := fun c sc X x hg ok h => ⟨fun pins s σ H Q I ⟨env, st, μ, G, J, hq⟩ => hq.elim⟩
theorem sndt_dead : SndT m g k .dead := fun c sc X x hg ok h ht => ⟨fun pins s σ H Q I ⟨env, st, μ, G, J, hq⟩ => hq.elim⟩
theorem sndt_of {e : E} {p : Pv} (h : Snd m g k e p) (hp : ∀ sc x, mE m e sc x = true → plainT x = true) : SndT m g k e := sndt_val h hp
theorem eq_mp {α : Type} {a b : Option α} {c : α} (h : a = b) (h2 : b = some c) : a = some c := h.trans h2
mutual
theorem snd : ∀ (e : E) {p : Pv}, pvE m e = some p → Snd m g k e p
  | .var i, p, h => by
    rw [pvE] at h
    cases h
    exact snd_var
  | .int i, p, h => by rw [pvE] at h; cases h; exact snd_int
  | .bl i, p, h => by rw [pvE] at h; cases h; exact snd_bl
  | .non, p, h => by rw [pvE] at h; cases h; exact snd_non
  | .str i, p, h => by rw [pvE] at h; cases h; exact snd_str
  | .glob i, p, h => by rw [pvE] at h; cases h; exact snd_glob
  | .dead, p, h => snd_dead
  | .dnew _, p, h => by rw [pvE] at h; cases h; exact snd_dnew
  | .op1 o a, p, h => by
    rw [pvE] at h
    obtain ⟨pa, ea, rfl⟩ := Option.map_eq_some_iff.mp h
    exact snd_op1 (snd a ea)
  | .dgeto a b d, p, h => by
    rw [pvE] at h
    cases ea : pvE m a with
    | none => rw [ea] at h; cases h
    | some pa =>
      cases eb : pvE m b with
      | none => rw [ea, eb] at h; cases h
      | some pb =>
        cases ed : pvE m d with
        | none => rw [ea, eb, ed] at h; cases h
        | some pd =>
          rw [ea, eb, ed] at h
          cases h
          exact snd_dgeto (snd a ea) (snd b eb) (snd d ed)
  | .midx a b, p, h => by
    rw [pvE] at h
    cases ea : pvE m a with
    | none => rw [ea] at h; cases h
    | some pa =>
      cases eb : pvE m b with
      | none => rw [ea, eb] at h; cases h
      | some pb =>
        rw [ea, eb] at h
        cases h
        exact snd_midx (snd a ea) (snd b eb)
  | .bin op a b, p, h => by
    rw [pvE] at h
    cases ea : pvE m a with
    | none => rw [ea] at h; cases h
    | some pa =>
      cases eb : pvE m b with
      | none => rw [ea, eb] at h; cases h
      | some pb =>
        rw [ea, eb] at h
        cases h
        exact snd_bin (snd a ea) (snd b eb)
  | .neg a, p, h => by
    rw [pvE] at h
    obtain ⟨pa, ea, rfl⟩ := Option.map_eq_some_iff.mp h
    exact snd_neg (snd a ea)
  | .not a, p, h => by
    rw [pvE] at h
    obtain ⟨pa, ea, rfl⟩ := Option.map_eq_some_iff.mp h
    exact snd_not (snd a ea)
  | .cmp op a b, p, h => by
    rw [pvE] at h
    cases ea : pvE m a with
    | none => rw [ea] at h; cases h
    | some pa =>
      cases eb : pvE m b with
      | none => rw [ea, eb] at h; cases h
      | some pb =>
        rw [ea, eb] at h
        cases h
        exact snd_cmp (snd a ea) (snd b eb)
  | .cmp2 op op2 a b d, p, h => by
    rw [pvE] at h
    cases ea : pvE m a with
    | none => rw [ea] at h; cases h
    | some pa =>
      cases eb : pvE m b with
      | none => rw [ea, eb] at h; cases h
      | some pb =>
        cases ed : pvE m d with
        | none => rw [ea, eb, ed] at h; cases h
        | some pd =>
          rw [ea, eb, ed] at h
          cases h
          exact snd_cmp2 (snd a ea) (snd b eb) (snd d ed)
  | .and a b, p, h => by
    rw [pvE] at h
    cases ea : pvE m a with
    | none => rw [ea] at h; cases h
    | some pa =>
      cases eb : pvE m b with
      | none => rw [ea, eb] at h; cases h
      | some pb =>
        rw [ea, eb] at h
        cases h
        exact snd_and (snd a ea) (snd b eb)
  | .or a b, p, h => by
    rw [pvE] at h
    cases ea : pvE m a with
    | none => rw [ea] at h; cases h
    | some pa =>
      cases eb : pvE m b with
      | none => rw [ea, eb] at h; cases h
      | some pb =>
        rw [ea, eb] at h
        cases h
        exact snd_or (snd a ea) (snd b eb)
  | .ife d a b, p, h => by
    rw [pvE] at h
    cases ed : pvE m d with
    | none => rw [ed] at h; cases h
    | some pd =>
      cases ea : pvE m a with
      | none => rw [ed, ea] at h; cases h
      | some pa =>
        cases eb : pvE m b with
        | none => rw [ed, ea, eb] at h; cases h
        | some pb =>
          rw [ed, ea, eb] at h
          cases h
          exact snd_ife (sndt d ed) (snd a ea) (snd b eb)
  | .tup es, p, h => by
    rw [pvE] at h
    obtain ⟨l, e, rfl⟩ := Option.map_eq_some_iff.mp h
    exact snd_tup (snda es e)
  | .lst es, p, h => by
    rw [pvE] at h
    obtain ⟨l, e, rfl⟩ := Option.map_eq_some_iff.mp h
    exact snd_lst (snda es e)
  | .idx a b, p, h => by
    rw [pvE] at h
    cases ea : pvE m a with
    | none => rw [ea] at h; cases h
    | some pa =>
      cases eb : pvE m b with
      | none => rw [ea, eb] at h; cases h
      | some pb =>
        rw [ea, eb] at h
        cases h
        exact snd_idx (snd a ea) (snd b eb)
  | .slice a lo hi, p, h => by
    rw [pvE] at h
    cases ea : pvE m a with
    | none => rw [ea] at h; cases h
    | some pa =>
      cases eb : pvEo m lo with
      | false => rw [ea, eb] at h; cases h
      | true =>
        cases ed : pvEo m hi with
        | false => rw [ea, eb, ed] at h; cases h
        | true =>
          rw [ea, eb, ed] at h
          cases h
          exact snd_slice (snd a ea) (sndo lo eb) (sndo hi ed)
  | .isi a ts tb, p, h => by
    rw [pvE] at h
    obtain ⟨l, e, rfl⟩ := Option.map_eq_some_iff.mp h
    exact snd_isi (snd a e)
  | .rev a, p, h => by
    rw [pvE] at h
    obtain ⟨pa, ea, rfl⟩ := Option.map_eq_some_iff.mp h
    exact snd_rev (snd a ea)
  | .rg1 l b, p, h => by
    rw [pvE] at h
    obtain ⟨pa, ea, rfl⟩ := Option.map_eq_some_iff.mp h
    exact snd_rg1 (snd b ea)
  | .rg2 l a b, p, h => by
    rw [pvE] at h
    cases ea : pvE m a with
    | none => rw [ea] at h; cases h
    | some pa =>
      cases eb : pvE m b with
      | none => rw [ea, eb] at h; cases h
      | some pb =>
        rw [ea, eb] at h
        cases h
        exact snd_rg2 (snd a ea) (snd b eb)
  | .bi f es, p, h => by
    rw [pvE] at h
    obtain ⟨l, e, rfl⟩ := Option.map_eq_some_iff.mp h
    exact snd_bi (snda es e)
  | .call f es kes ord, p, h => by
    rw [pvE] at h
    cases ea : pvEs m es with
    | none => rw [ea] at h; cases h
    | some pa =>
      cases eb : pvEs m kes with
      | none => rw [ea, eb] at h; cases h
      | some pb =>
        rw [ea, eb] at h
        cases h
        exact snd_call (snda es ea) (snda kes eb)
  | .box e, p, h => by
    rw [pvE] at h
    cases ea : pvE m e with
    | none => rw [ea] at h; cases h
    | some pa =>
      rw [ea] at h
      simp only at h
      split at h
      · rename_i hn
        cases h
        exact snd_box (snd e ea) hn
      · cases h
  | .comp tg it hif cond elt, p, h => by
    rw [pvE] at h
    cases ei : pvIt m it with
    | none => rw [ei] at h; cases h
    | some l =>
      cases ec : pvE m cond with
      | none => rw [ei, ec] at h; cases h
      | some pc =>
        cases ee : pvE m elt with
        | none => rw [ei, ec, ee] at h; cases h
        | some pe =>
          rw [ei, ec, ee] at h
          simp only at h
          split at h
          · rename_i hn
            cases h
            simp only [Bool.and_eq_true, List.all_eq_true, Bool.not_eq_true', List.isEmpty_iff] at hn
            obtain ⟨⟨h1, h2⟩, h3⟩ := hn
            subst h1
            exact snd_comp (sndi it ei) (sndt cond ec) (snd elt ee) h2 h3
          · cases h
  | .comp2 tg it tg1 it1 elt, p, h => by
    rw [pvE] at h
    cases ei : pvIt m it with
    | none => rw [ei] at h; cases h
    | some l =>
      cases ec : pvIt m it1 with
      | none => rw [ei, ec] at h; cases h
      | some l1 =>
        cases ee : pvE m elt with
        | none => rw [ei, ec, ee] at h; cases h
        | some pe =>
          rw [ei, ec, ee] at h
          simp only at h
          split at h
          · rename_i hn
            cases h
            simp only [Bool.and_eq_true, List.all_eq_true, Bool.not_eq_true', List.isEmpty_iff] at hn
            obtain ⟨⟨⟨⟨⟨h1, h2⟩, h3⟩, h4⟩, h5⟩, h6⟩ := hn
            subst h1
            subst h2
            exact snd_comp2 (sndi it ei) (sndi it1 ec) (snd elt ee) h3 h4 h5 h6
          · cases h
theorem sndt : ∀ (e : E) {p : Pv}, pvE m e = some p → SndT m g k e
  | .var i, p, h => sndt_of (snd (.var i) h) fun sc x h => by cases x <;> first | rfl | (simp [mE] at h; done)
  | .int i, p, h => sndt_of (snd (.int i) h) fun sc x h => by cases x <;> first | rfl | (simp [mE] at h; done)
  | .bl i, p, h => sndt_of (snd (.bl i) h) fun sc x h => by cases x <;> first | rfl | (simp [mE] at h; done)
  | .non, p, h => sndt_of (snd .non h) fun sc x h => by cases x <;> first | rfl | (simp [mE] at h; done)
  | .str i, p, h => sndt_of (snd (.str i) h) fun sc x h => by cases x <;> first | rfl | (simp [mE] at h; done)
  | .glob i, p, h => sndt_of (snd (.glob i) h) fun sc x h => by cases x <;> first | rfl | (simp [mE] at h; done)
  | .dead, p, h => sndt_dead
  | .dnew _, p, h => sndt_of (snd (.dnew _) h) fun sc x h => by cases x <;> first | rfl | (simp [mE] at h; done)
  | .dgeto a b d, p, h => sndt_of (snd (.dgeto a b d) h) fun sc x h => by cases x <;> first | rfl | (simp [mE] at h; done)
  | .op1 o a, p, h => sndt_of (snd (.op1 o a) h) fun sc x h => by
    cases x <;> first | rfl | skip
    all_goals (cases o <;> simp [mE, mOp1, mBits, mLenSet] at h)
  | .midx a b, p, h => sndt_of (snd (.midx a b) h) fun sc x h => by cases x <;> first | rfl | (simp [mE] at h; done)
  | .bin op a b, p, h => sndt_of (snd (.bin op a b) h) fun sc x h => by cases x <;> first | rfl | (simp [mE] at h; done)
  | .neg a, p, h => sndt_of (snd (.neg a) h) fun sc x h => by
    cases x with
    | UnaryOp o _ _ => cases o <;> first | rfl | (simp [mE] at h; done)
    | _ => first | rfl | (simp [mE] at h; done)
  | .not a, p, h => by
    rw [pvE] at h
    obtain ⟨pa, ea, rfl⟩ := Option.map_eq_some_iff.mp h
    exact sndt_not (sndt a ea)
  | .cmp op a b, p, h => by
    rw [pvE] at h
    cases ea : pvE m a with
    | none => rw [ea] at h; cases h
    | some pa =>
      cases eb : pvE m b with
      | none => rw [ea, eb] at h; cases h
      | some pb => exact sndt_cmp (snd a ea) (snd b eb)
  | .cmp2 op op2 a b d, p, h => by
    rw [pvE] at h
    cases ea : pvE m a with
    | none => rw [ea] at h; cases h
    | some pa =>
      cases eb : pvE m b with
      | none => rw [ea, eb] at h; cases h
      | some pb =>
        cases ed : pvE m d with
        | none => rw [ea, eb, ed] at h; cases h
        | some pd => exact sndt_cmp2 (snd a ea) (snd b eb) (snd d ed)
  | .and a b, p, h => by
    rw [pvE] at h
    cases ea : pvE m a with
    | none => rw [ea] at h; cases h
    | some pa =>
      cases eb : pvE m b with
      | none => rw [ea, eb] at h; cases h
      | some pb => exact sndt_and (sndt a ea) (sndt b eb)
  | .or a b, p, h => by
    rw [pvE] at h
    cases ea : pvE m a with
    | none => rw [ea] at h; cases h
    | some pa =>
      cases eb : pvE m b with
      | none => rw [ea, eb] at h; cases h
      | some pb => exact sndt_or (sndt a ea) (sndt b eb)
  | .ife d a b, p, h => fun c sc X x hg ok hm ht => by cases ht
  | .tup es, p, h => sndt_of (snd (.tup es) h) fun sc x h => by cases x <;> first | rfl | (simp [mE] at h; done)
  | .lst es, p, h => sndt_of (snd (.lst es) h) fun sc x h => by cases x <;> first | rfl | (simp [mE] at h; done)
  | .idx a b, p, h => sndt_of (snd (.idx a b) h) fun sc x h => by cases x <;> first | rfl | (simp [mE] at h; done)
  | .slice a lo hi, p, h => sndt_of (snd (.slice a lo hi) h) fun sc x h => by cases x <;> first | rfl | (simp [mE] at h; done)
  | .isi a ts tb, p, h => sndt_of (snd (.isi a ts tb) h) fun sc x h => by
    obtain ⟨_, _, _, _, _, rfl, _⟩ := isi_shape h
    rfl
  | .rev a, p, h => sndt_of (snd (.rev a) h) fun sc x h => by
    obtain ⟨_, _, _, _, _, _, rfl, _⟩ := rev_shape h
    rfl
  | .rg1 l b, p, h => sndt_of (snd (.rg1 l b) h) fun sc x h => by
    obtain ⟨_, _, _, _, _, rfl, _⟩ := rg1_shape h
    rfl
  | .rg2 l a b, p, h => sndt_of (snd (.rg2 l a b) h) fun sc x h => by
    obtain ⟨_, _, _, _, _, _, rfl, _⟩ := rg2_shape h
    rfl
  | .bi f es, p, h => sndt_of (snd (.bi f es) h) fun sc x h => by cases x <;> first | rfl | (simp [mE] at h; done)
  | .call f es kes ord, p, h => sndt_of (snd (.call f es kes ord) h) fun sc x h => by cases x <;> first | rfl | (simp [mE] at h; done)
  | .box e, p, h => fun c sc X x hg ok hm ht => by cases ht
  | .comp2 tg it tg1 it1 elt, p, h => sndt_of (snd (.comp2 tg it tg1 it1 elt) h) fun sc x h => by
    obtain ⟨_, _, _, _, _, _, _, rfl, _⟩ := comp2_shape h
    rfl
  | .comp tg it hif cond elt, p, h => sndt_of (snd (.comp tg it hif cond elt) h) fun sc x h => by cases x <;> first | rfl | (simp [mE] at h; done)
theorem snda : ∀ (es : Es) {l : List Nat}, pvEs m es = some l → SndA m g k es l
  | .nil, l, h => by rw [pvEs] at h; cases h; exact snda_nil
  | .cons e es, l, h => by
    rw [pvEs] at h
    cases ea : pvE m e with
    | none => rw [ea] at h; cases h
    | some pa =>
      cases eb : pvEs m es with
      | none => rw [ea, eb] at h; cases h
      | some pb =>
        rw [ea, eb] at h
        cases h
        exact snda_cons (snd e ea) (snda es eb)
theorem sndo : ∀ (o : Eo), pvEo m o = true → SndO m g k o
  | .no, _ => sndo_no
  | .yes e, h => by
    rw [pvEo] at h
    cases ea : pvE m e with
    | none => rw [ea] at h; cases h
    | some pa => exact sndo_yes (snd e ea)
theorem sndi : ∀ (it : WT.It) {l : List Nat}, pvIt m it = some l → SndI m g k it l (pvAll m it)
  | .seq e, l, h => by
    rw [pvIt] at h
    obtain ⟨p, ea, rfl⟩ := Option.map_eq_some_iff.mp h
    rw [pvAll, pvTop, ea]
    exact sndi_seq (snd e ea)
  | .range1 a, l, h => by
    rw [pvIt] at h
    obtain ⟨p, ea, rfl⟩ := Option.map_eq_some_iff.mp h
    exact sndi_range1 (snd a ea)
  | .range2 a b, l, h => by
    rw [pvIt] at h
    cases ea : pvE m a with
    | none => rw [ea] at h; cases h
    | some pa =>
      cases eb : pvE m b with
      | none => rw [ea, eb] at h; cases h
      | some pb =>
        rw [ea, eb] at h
        cases h
        exact sndi_range2 (snd a ea) (snd b eb)
  | .range3 a b d, l, h => by
    rw [pvIt] at h
    cases ea : pvE m a with
    | none => rw [ea] at h; cases h
    | some pa =>
      cases eb : pvE m b with
      | none => rw [ea, eb] at h; cases h
      | some pb =>
        cases ed : pvE m d with
        | none => rw [ea, eb, ed] at h; cases h
        | some pd =>
          rw [ea, eb, ed] at h
          cases h
          exact sndi_range3 (snd a ea) (snd b eb) (snd d ed)
  | .enum e, l, h => by
    rw [pvIt] at h
    obtain ⟨p, ea, rfl⟩ := Option.map_eq_some_iff.mp h
    rw [pvAll, pvTop, ea]
    exact sndi_enum (snd e ea)
  | .zip a b, l, h => by
    rw [pvIt] at h
    cases ea : pvE m a with
    | none => rw [ea] at h; cases h
    | some pa =>
      cases eb : pvE m b with
      | none => rw [ea, eb] at h; cases h
      | some pb =>
        rw [ea, eb] at h
        cases h
        rw [pvAll, pvTop, pvTop, ea, eb]
        exact sndi_zip (snd a ea) (snd b eb)
end
end
end WT
end

section
set_option Elab.async false
set_option linter.all false
set_option maxRecDepth 100000
set_option autoImplicit false
/-! K16: statements: readings. -/
namespace WT
open PySem PySem.Spec PyProof.Rows L2

/-- what statements may change: boxes, the lists of the names M, new things -/
structure StepS (M : List Nat) (μ : List Addr) (G : Addr → Option Nat) (H : Hp) (μ' : List Addr) (G' : Addr → Option Nat) (H' : Hp) : Prop where
  sl : SL (fun a => ∀ i ∈ M, G a ≠ some i) μ H μ' H'
  agr : ∀ a, H a ≠ none → (∀ i ∈ M, G a ≠ some i) → G' a = G a
section
variable {M M' M1 M2 : List Nat} {μ μ1 μ2 : List Addr} {G G1 G2 : Addr → Option Nat} {H H1 H2 : Hp}
theorem StepS.refl : StepS M μ G H μ G H := ⟨.refl, fun _ _ _ => rfl⟩
theorem StepS.weak (s : StepS M μ G H μ1 G1 H1) (h : ∀ i ∈ M, i ∈ M') : StepS M' μ G H μ1 G1 H1 := ⟨s.sl.weak fun a l i hi => l i (h i hi), fun a e l => s.agr a e fun i hi => l i (h i hi)⟩
theorem StepS.trans (s : StepS M μ G H μ1 G1 H1) (r : StepS M μ1 G1 H1 μ2 G2 H2) : StepS M μ G H μ2 G2 H2 :=
  ⟨s.sl.trans r.sl fun a e n l i hi => by rw [s.agr a e l]; exact l i hi, fun a e l => by
    rw [r.agr a (s.sl.dom a e) fun i hi => by rw [s.agr a e l]; exact l i hi]
    exact s.agr a e l⟩
theorem Step.ss (s : Step μ H μ1 H1) : StepS M μ G H μ1 G H1 := ⟨s.sl, fun _ _ _ => rfl⟩
end
def okS (c : Cfg) (K : PySem.W.Frag) (M : List Nat) (rn : Bool) (μ : List Addr) (G : Addr → Option Nat) (H : Hp) (D : Ends) : RS → Prop
  | .nx env st => ∀ σ' H' μ' G', SI K c.ow c.Ok env st μ' G' σ' H' → StepS M μ G H μ' G' H' → D.nx σ' H'
  | .bk env st => ∀ σ' H' μ' G', SI K c.ow c.Ok env st μ' G' σ' H' → StepS M μ G H μ' G' H' → D.bk σ' H'
  | .ct env st => ∀ σ' H' μ' G', SI K c.ow c.Ok env st μ' G' σ' H' → StepS M μ G H μ' G' H' → D.ct σ' H'
  | .rt d st => ∀ v H' μ' G' t F, BoxOk K H' μ' st → μ'.length = st.length → μ'.Nodup → StepS M μ G H μ' G' H' → Rep K H' μ' d v t F → (∀ a ∈ t ++ F, a ∉ μ' ∧ c.Ok a) → (rn = true → ∀ a ∈ t, (H a = none ∨ G' a ≠ none) ∧ a ∉ F) → D.rt v H'
  | .exn x d env st => ∀ cls dd σ' H' μ' G', SI K c.ow c.Ok env st μ' G' σ' H' → StepS M μ G H μ' G' H' → XR c.CA K H' μ' c.Ok x d cls dd → c.W cls dd σ' H'
  | .bad => False
def TSv (c : Cfg) (K : PySem.W.Frag) (M : List Nat) (rn : Bool) (s : Env → Sto → RS) : TS := fun D σ H => ∃ env st μ G, SI K c.ow c.Ok env st μ G σ H ∧ okS c K M rn μ G H D (s env st)
section
variable {c : Cfg} {K : PySem.W.Frag} {M M' : List Nat} {rn : Bool} {μ μ1 : List Addr} {G G1 : Addr → Option Nat} {H H1 : Hp} {D : Ends} {r : RS} {p : Pv} {env : Env} {st st1 : Sto} {σ : St} {Q : VK}
theorem okS.step (h : okS c K M rn μ G H D r) (s : StepS M μ G H μ1 G1 H1) : okS c K M rn μ1 G1 H1 D r := by
  cases r with
  | nx env st => exact fun σ' H' μ' G' I s' => h σ' H' μ' G' I (s.trans s')
  | bk env st => exact fun σ' H' μ' G' I s' => h σ' H' μ' G' I (s.trans s')
  | ct env st => exact fun σ' H' μ' G' I s' => h σ' H' μ' G' I (s.trans s')
  | rt d st => exact fun v H' μ' G' t F b l n s' r po nw => h v H' μ' G' t F b l n (s.trans s') r po fun e a ha => ⟨(nw e a ha).1.imp s.sl.wasNone id, (nw e a ha).2⟩
  | exn x d env st => exact fun cls dd σ' H' μ' G' I s' x => h cls dd σ' H' μ' G' I (s.trans s') x
  | bad => exact h
theorem okS.less (h : okS c K M rn μ G H D r) (hm : ∀ i ∈ M', i ∈ M) : okS c K M' rn μ G H D r := by
  cases r with
  | nx env st => exact fun σ' H' μ' G' I s' => h σ' H' μ' G' I (s'.weak hm)
  | bk env st => exact fun σ' H' μ' G' I s' => h σ' H' μ' G' I (s'.weak hm)
  | ct env st => exact fun σ' H' μ' G' I s' => h σ' H' μ' G' I (s'.weak hm)
  | rt d st => exact fun v H' μ' G' t F b l n s' r po nw => h v H' μ' G' t F b l n (s'.weak hm) r po nw
  | exn x d env st => exact fun cls dd σ' H' μ' G' I s' x => h cls dd σ' H' μ' G' I (s'.weak hm) x
  | bad => exact h
/-- other ends -/
theorem okS.ends {D' : Ends} (h : okS c K M rn μ G H D r) (h1 : ∀ env st, r = .nx env st → okS c K M rn μ G H D' r) (h2 : ∀ env st, r = .bk env st → okS c K M rn μ G H D' r) (h3 : ∀ env st, r = .ct env st → okS c K M rn μ G H D' r) (h4 : D'.rt = D.rt) : okS c K M rn μ G H D' r := by
  cases r with
  | nx env st => exact h1 env st rfl
  | bk env st => exact h2 env st rfl
  | ct env st => exact h3 env st rfl
  | rt d st => exact fun v H' μ' G' t F b l n s' r po nw => by rw [h4]; exact h v H' μ' G' t F b l n s' r po nw
  | exn x d env st => exact h
  | bad => exact h
theorem okS.toS {α : Type} {r : R α} {f : α → Sto → RS} (I : SI K c.ow c.Ok env st μ G σ H) (h : okS c K M rn μ G H D (r.toS env f)) : Fin (fun a st1 => okS c K M rn μ G H D (f a st1)) (exE c K env μ G σ H) r := by
  cases r with
  | ok a st1 => exact h
  | exn x d st1 => exact fun cls dd H' μ' I' S' e => h cls dd σ H' μ' G I' S'.ss e
  | bad => exact h
/-- an expression at the head of a statement -/
theorem TEv.ofS {s : Env → Sto → WT.R WT.D} {f : WT.D → Sto → RS} {R' : VK} (I : SI K c.ow c.Ok env st μ G σ H) (h : okS c K M rn μ G H D ((s env st).toS env f))
    (k : ∀ x st1 v H1 μ1 t F, SI K c.ow c.Ok env st1 μ1 G σ H1 → Step μ H μ1 H1 → Held K c G p H x v t F μ1 H1 → okS c K M rn μ G H D (f x st1) → R' v H1) : TEv c K p s σ H R' :=
  ⟨env, st, μ, G, I, (h.toS I).mono (fun x st1 _ hx v H1 μ1 t F I1 S1 r po => k x st1 v H1 μ1 t F I1 S1 ⟨r, po⟩ hx) fun _ _ _ hx => hx⟩
/-- a further one -/
theorem TEv.nxtS {s : Env → Sto → WT.R WT.D} {f : WT.D → Sto → RS} {R' : VK} (S1 : Step μ H μ1 H1) (I : SI K c.ow c.Ok env st1 μ1 G σ H1) (h : okS c K M rn μ G H D ((s env st1).toS env f))
    (k : ∀ x st2 v H2 μ2 t F, SI K c.ow c.Ok env st2 μ2 G σ H2 → Step μ1 H1 μ2 H2 → Held K c G p H x v t F μ2 H2 → okS c K M rn μ G H D (f x st2) → R' v H2) : TEv c K p s σ H1 R' := by
  have h1 := (h.step S1.ss).toS I
  refine ⟨env, st1, μ1, G, I, ?_⟩
  cases e : s env st1 with
  | bad => rw [e] at h; exact h.elim
  | exn x d st2 => rw [e] at h1; exact h1
  | ok x st2 =>
    rw [e] at h
    exact fun v H2 μ2 t F I2 S2 r po => k x st2 v H2 μ2 t F I2 S2 ⟨r, po.back S1⟩ h
theorem TTv.ofS {s : Env → Sto → R Bool} {f : Bool → Sto → RS} {R' : Bool → Hp → Prop} (I : SI K c.ow c.Ok env st μ G σ H) (h : okS c K M rn μ G H D ((s env st).toS env f))
    (k : ∀ b st1 H1 μ1, SI K c.ow c.Ok env st1 μ1 G σ H1 → Step μ H μ1 H1 → okS c K M rn μ G H D (f b st1) → R' b H1) : TTv c K s σ H R' :=
  ⟨env, st, μ, G, I, (h.toS I).mono (fun b st1 _ hx H1 μ1 I1 S1 => k b st1 H1 μ1 I1 S1 hx) fun _ _ _ hx => hx⟩
theorem TIv.ofS {l lt : List Nat} {s : Env → Sto → WT.R (List WT.D)} {f : List WT.D → Sto → RS} {R' : L2.It → Hp → Prop} (I : SI K c.ow c.Ok env st μ G σ H) (h : okS c K M rn μ G H D ((s env st).toS env f))
    (k : ∀ xs st1 J H1 μ1 L, SI K c.ow c.Ok env st1 μ1 G σ H1 → Step μ H μ1 H1 → Wk K c.Ok G l J xs L μ1 H1 → (∀ a ∈ L, G a = none ∨ ∃ i ∈ lt, G a = some i) → okS c K M rn μ G H D (f xs st1) → R' J H1) : TIv c K l lt s σ H R' :=
  ⟨env, st, μ, G, I, (h.toS I).mono (fun xs st1 _ hx J H1 μ1 L I1 S1 w hl => k xs st1 J H1 μ1 L I1 S1 w (fun a ha => (hl a ha).1) hx) fun _ _ _ hx => hx⟩
end

/-! ### a name is set -/
section
variable {K : PySem.W.Frag} {ow : Nat → Bool} {Ok : Addr → Prop} {env : Env} {st : Sto} {μ : List Addr} {G : Addr → Option Nat} {σ : St} {H : Hp} {x : WT.D} {v : V} {t F : List Addr}
/-- the owner of these lists -/
def gset (G : Addr → Option Nat) (t : List Addr) (i : Nat) : Addr → Option Nat := fun a => if a ∈ t then some i else G a
theorem gset_ne {a : Addr} {i : Nat} (h : a ∉ t) : gset G t i a = G a := if_neg h
theorem gset_in {a : Addr} {i : Nat} (h : a ∈ t) : gset G t i a = some i := if_pos h
/-- a name of lists of its own gets one that is new -/
theorem SI.own {st1 : Sto} {μ1 : List Addr} {H1 : Hp} (I : SI K ow Ok env st μ G σ H) (S : Step μ H μ1 H1) (I1 : SI K ow Ok env st1 μ1 G σ H1) {i : Nat} (hi : ow i = true) (r : Rep K H1 μ1 x v t F) (h1 : ∀ a ∈ t, H a = none ∧ a ∉ F) (h2 : ∀ a ∈ F, G a = none) (h3 : ∀ a ∈ t ++ F, a ∉ μ1 ∧ Ok a) :
    SI K ow Ok (env.set i (some x)) st1 μ1 (gset G t i) (σ.set i (some v)) H1 := by
  refine ⟨fun j d e => ?_, I1.box, I1.muLen, I1.muNd, fun a ha => ⟨?_, (I1.gmu a ha).2⟩, fun a ha => ?_, I1.okn, by simpa using I.len⟩
  · rcases slot_set e with ⟨rfl, hl, e⟩ | ⟨hne, e⟩
    · cases e
      exact ⟨v, t, F, by rw [List.getElem?_set_self (Nat.lt_of_lt_of_le hl I.len)], r, fun a ha => by rw [hi, gset_in ha]; rfl, fun a ha => by rw [gset_ne fun z => (h1 a z).2 ha]; exact h2 a ha, h3⟩
    · obtain ⟨v', t', F', e1, r', g1, g2, g3⟩ := I.slot j d e
      have n : ∀ a ∈ t' ++ F', a ∉ t := fun a ha z => r'.there a ha (h1 a z).1
      refine ⟨v', t', F', by rw [List.getElem?_set_ne (Ne.symm hne)]; exact e1, r'.step S fun a ha => (g3 a ha).1, fun a ha => ?_, fun a ha => ?_, fun a ha => ⟨S.notin (r'.there a ha) (g3 a ha).1, (g3 a ha).2⟩⟩
      · rw [gset_ne (n a (List.mem_append_left _ ha))]; exact g1 a ha
      · rw [gset_ne (n a (List.mem_append_right _ ha))]; exact g2 a ha
  · rw [gset_ne fun z => (h3 a (List.mem_append_left _ z)).1 ha]
    exact (I1.gmu a ha).1
  · by_cases z : a ∈ t
    · exact r.there a (List.mem_append_left _ z)
    · rw [gset_ne z] at ha
      exact I1.gdom a ha
theorem gset_ss {M : List Nat} {μ1 : List Addr} {H1 : Hp} {i : Nat} (S : Step μ H μ1 H1) (h : ∀ a ∈ t, H a = none) : StepS M μ G H μ1 (gset G t i) H1 := ⟨S.sl, fun a ha _ => gset_ne fun z => ha (h a z)⟩
/-- what a name gets where it holds no lists -/
theorem SI.flat (I : SI K ow Ok env st μ G σ H) {i : Nat} (r : Rep K H μ x v [] []) : SI K ow Ok (env.set i (some x)) st μ G (σ.set i (some v)) H := by
  refine ⟨fun j d e => ?_, I.box, I.muLen, I.muNd, I.gmu, I.gdom, I.okn, by simpa using I.len⟩
  rcases slot_set e with ⟨rfl, hl, e⟩ | ⟨hne, e⟩
  · cases e
    exact ⟨v, [], [], by rw [List.getElem?_set_self (Nat.lt_of_lt_of_le hl I.len)], r, fun _ h => by simp at h, fun _ h => by simp at h, fun _ h => by simp at h⟩
  · obtain ⟨v', t', F', e1, r'⟩ := I.slot j d e
    exact ⟨v', t', F', by rw [List.getElem?_set_ne (Ne.symm hne)]; exact e1, r'⟩
theorem SI.kill (I : SI K ow Ok env st μ G σ H) {i : Nat} : SI K ow Ok (env.set i none) st μ G σ H := by
  refine ⟨fun j d e => ?_, I.box, I.muLen, I.muNd, I.gmu, I.gdom, I.okn, by simpa using I.len⟩
  rcases slot_set e with ⟨_, _, e⟩ | ⟨hne, e⟩
  · cases e
  · exact I.slot j d e
end
end WT
end

section
set_option Elab.async false
set_option linter.all false
set_option maxRecDepth 100000
set_option autoImplicit false
/-! K17: values go to names. -/
namespace WT
open PySem PySem.Spec PyProof.Rows L2

def Cfg.ok (c : Cfg) (o : Addr → Prop) : Cfg := { c with Ok := o }
theorem XOk.ok {m : MC} {c : Cfg} {k : Nat} {sc : Scope} {X : Cx} (x : XOk m c k sc X) (o : Addr → Prop) : XOk m (c.ok o) k sc X :=
  { hN := x.hN, nd := x.nd, sc := x.sc, ow := x.ow, calm := x.calm, room := x.room, tk := x.tk, fns := x.fns, cons := x.cons, free := x.free, mth := x.mth, cls := x.cls, exm := x.exm }
theorem SI.less {K : PySem.W.Frag} {ow : Nat → Bool} {Ok Ok' : Addr → Prop} {env : Env} {st : Sto} {μ : List Addr} {G : Addr → Option Nat} {σ : St} {H : Hp} (I : SI K ow Ok env st μ G σ H) (h : ∀ a, Ok a → Ok' a) : SI K ow Ok' env st μ G σ H := by
  refine ⟨fun i d e => ?_, I.box, I.muLen, I.muNd, I.gmu, I.gdom, fun a ha => h a (I.okn a ha), I.len⟩
  obtain ⟨v, t, F, e1, r, g1, g2, g3⟩ := I.slot i d e
  exact ⟨v, t, F, e1, r, g1, g2, fun a ha => ⟨(g3 a ha).1, h a (g3 a ha).2⟩⟩
/-- does the kind fit what is known? -/
def akC (m : MC) (i : Nat) (k : Ak) (p : Pv) : Bool := match k with
  | .own => m.ow i && p.new && p.inn.isEmpty
  | .pln => !m.ow i && (p.new || p.top.isEmpty) && p.inn.isEmpty
  | .nl => true
  | .n1 => !m.ow i && p.new
theorem Rep.noI {K : PySem.W.Frag} {H : Hp} {μ : List Addr} {d : WT.D} {v : V} {t F : List Addr} (r : Rep K H μ d v t F) (h : WT.noI d = true) : F = [] := by
  cases d with
  | lst xs => cases r with
    | lst _ s => exact Reps.noL s h
  | _ => exact (Rep.noL r h).2
section
variable {m : MC} {c : Cfg} {K : PySem.W.Frag} {M : List Nat} {rn : Bool} {μ μ1 μ2 : List Addr} {G GA : Addr → Option Nat} {H H1 H2 : Hp} {D : Ends} {p : Pv} {env envA : Env} {st st1 st2 : Sto} {σ σA : St} {x : WT.D} {v : V} {t F : List Addr}
theorem Held.pln (h : Held K c G p H x v t F μ1 H1) (gd : ∀ a, G a ≠ none → H a ≠ none) (h1 : (p.new || p.top.isEmpty) = true) (h2 : p.inn = []) : ∀ a ∈ t ++ F, G a = none ∧ a ∉ μ1 ∧ c.Ok a := fun a ha => by
  refine ⟨?_, h.po.out a ha⟩
  rcases List.mem_append.mp ha with ha | ha
  · have z := h.po.top a ha
    cases e : p.new with
    | true =>
      rw [e, if_pos rfl] at z
      cases q : G a with
      | none => rfl
      | some i => exact absurd z.1 (gd a (by rw [q]; simp))
    | false =>
      rw [e, if_neg (by simp)] at z
      rw [e, Bool.false_or, List.isEmpty_iff] at h1
      rw [h1] at z
      exact z.elim id fun ⟨i, hi, _⟩ => by simp at hi
  · have z := h.po.inn a ha
    rw [h2] at z
    exact z.elim id fun ⟨i, hi, _⟩ => by simp at hi
/-- a name set, as its kind says; T' are the lists that got an owner -/
theorem SI.putK (how : c.ow = m.ow) (I : SI K c.ow c.Ok env st μ G σ H) (S : Step μ H μ1 H1) (I1 : SI K c.ow c.Ok env st1 μ1 G σ H1) {i : Nat} {k : Ak} (h : Held K c G p H x v t F μ1 H1) (hk : akC m i k p = true) (hd : akOk k x = true) :
    ∃ (G' : Addr → Option Nat) (T : List Addr), SI K c.ow c.Ok (env.set i (some x)) st1 μ1 G' (σ.set i (some v)) H1 ∧ (∀ a ∈ T, H a = none ∧ H1 a ≠ none) ∧ (∀ a, a ∉ T → G' a = G a) := by
  cases k with
  | own =>
    simp only [akC, Bool.and_eq_true, List.isEmpty_iff] at hk
    obtain ⟨⟨h1, h2⟩, h3⟩ := hk
    have ht : ∀ a ∈ t, H a = none ∧ a ∉ F := fun a ha => by
      have z := h.po.top a ha
      rw [if_pos h2] at z
      exact z
    refine ⟨gset G t i, t, I.own S I1 (by rw [how]; exact h1) h.rep ht (fun a ha => ?_) h.po.out, fun a ha => ⟨(ht a ha).1, h.rep.there a (List.mem_append_left _ ha)⟩, fun a ha => gset_ne ha⟩
    have z := h.po.inn a ha
    rw [h3] at z
    exact z.elim id fun ⟨i, hi, _⟩ => by simp at hi
  | pln =>
    simp only [akC, Bool.and_eq_true, List.isEmpty_iff, Bool.not_eq_true'] at hk
    obtain ⟨⟨h1, h2⟩, h3⟩ := hk
    exact ⟨G, [], I1.put (by rw [how]; exact h1) h.rep (h.pln I.gdom h2 h3), fun _ h => by simp at h, fun _ _ => rfl⟩
  | nl =>
    obtain ⟨e1, e2⟩ := h.rep.noL hd
    subst e1
    subst e2
    exact ⟨G, [], I1.flat h.rep, fun _ h => by simp at h, fun _ _ => rfl⟩
  | n1 =>
    simp only [akC, Bool.and_eq_true, Bool.not_eq_true'] at hk
    obtain ⟨h1, h2⟩ := hk
    have hF : F = [] := Rep.noI h.rep hd
    subst hF
    refine ⟨G, [], I1.put (by rw [how]; exact h1) h.rep (fun a ha => ?_), fun _ h => by simp at h, fun _ _ => rfl⟩
    have ha' : a ∈ t := by simpa using ha
    have z := h.po.top a ha'
    rw [if_pos h2] at z
    refine ⟨?_, h.po.out a ha⟩
    cases q : G a with
    | none => rfl
    | some i => exact absurd z.1 (I.gdom a (by rw [q]; simp))
/-- values come one after another, and go to their names only then: σA, envA, GA as if they had gone -/
structure Acc (c : Cfg) (K : PySem.W.Frag) (env : Env) (μ : List Addr) (G : Addr → Option Nat) (σ : St) (H : Hp) (st1 : Sto) (μ1 : List Addr) (H1 : Hp) (envA : Env) (GA : Addr → Option Nat) (σA : St) (T : List Addr) : Prop where
  act : SI K c.ow c.Ok env st1 μ1 G σ H1
  vir : SI K c.ow c.Ok envA st1 μ1 GA σA H1
  step : Step μ H μ1 H1
  tn : ∀ a ∈ T, H a = none ∧ H1 a ≠ none
  ga : ∀ a, a ∉ T → GA a = G a
theorem Acc.nil (I : SI K c.ow c.Ok env st μ G σ H) : Acc c K env μ G σ H st μ H env G σ [] := ⟨I, I, .refl, fun _ h => by simp at h, fun _ _ => rfl⟩
theorem Acc.ss {T : List Addr} (A : Acc c K env μ G σ H st1 μ1 H1 envA GA σA T) : StepS M μ G H μ1 GA H1 := ⟨A.step.sl, fun a ha _ => A.ga a fun z => ha (A.tn a z).1⟩
theorem Acc.put {T : List Addr} (how : c.ow = m.ow) (A : Acc c K env μ G σ H st1 μ1 H1 envA GA σA T) {i : Nat} {k : Ak} (I2 : SI K c.ow c.Ok env st2 μ2 G σ H2) (S2 : Step μ1 H1 μ2 H2) (h : Held K c G p H1 x v t F μ2 H2) (hT : ∀ a ∈ t ++ F, a ∉ T) (hk : akC m i k p = true) (hd : akOk k x = true) :
    ∃ (GB : Addr → Option Nat) (T' : List Addr), Acc c K env μ G σ H st2 μ2 H2 (envA.set i (some x)) GB (σA.set i (some v)) T' := by
  have V2 := A.vir.after S2 I2.box I2.muLen I2.muNd
  have h' : Held K c GA p H1 x v t F μ2 H2 := by
    refine ⟨h.rep, fun a ha => ?_, fun a ha => ?_, h.po.out⟩
    · have z := h.po.top a ha
      rw [A.ga a (hT a (List.mem_append_left _ ha))]
      exact z
    · rw [A.ga a (hT a (List.mem_append_right _ ha))]
      exact h.po.inn a ha
  obtain ⟨GB, T2, J, t2, g2⟩ := A.vir.putK how S2 V2 h' hk hd
  refine ⟨GB, T2 ++ T, I2, J, A.step.trans S2, fun a ha => ?_, fun a ha => ?_⟩
  · rcases List.mem_append.mp ha with ha | ha
    · exact ⟨A.step.wasNone (t2 a ha).1, (t2 a ha).2⟩
    · exact ⟨(A.tn a ha).1, S2.dom a (A.tn a ha).2⟩
  · rw [g2 a fun z => ha (List.mem_append_left _ z), A.ga a fun z => ha (List.mem_append_right _ z)]
/-- a further value, away from those -/
theorem Acc.eval {T : List Addr} {s : Env → Sto → WT.R WT.D} {f : WT.D → Sto → RS} {R' : VK} (I : SI K c.ow c.Ok env st μ G σ H) (A : Acc c K env μ G σ H st1 μ1 H1 envA GA σA T) (h : okS c K M rn μ G H D ((s env st1).toS env f))
    (k : ∀ x st2 v H2 μ2 t F, SI K c.ow c.Ok env st2 μ2 G σ H2 → Step μ1 H1 μ2 H2 → Held K c G p H1 x v t F μ2 H2 → (∀ a ∈ t ++ F, a ∉ T) → okS c K M rn μ G H D (f x st2) → R' v H2) : ∃ o, TEv (c.ok o) K p s σ H1 R' := by
  refine ⟨fun a => c.Ok a ∧ a ∉ T, env, st1, μ1, G, ?_, ?_⟩
  · refine ⟨fun i d e => ?_, A.act.box, A.act.muLen, A.act.muNd, A.act.gmu, A.act.gdom, fun a ha => ⟨A.act.okn a ha, fun z => (A.tn a z).2 ha⟩, A.act.len⟩
    obtain ⟨v, t, F, e1, r, g1, g2, g3⟩ := I.slot i d e
    exact ⟨v, t, F, e1, r.step A.step fun a ha => (g3 a ha).1, g1, g2, fun a ha => ⟨A.step.notin (r.there a ha) (g3 a ha).1, (g3 a ha).2, fun z => r.there a ha (A.tn a z).1⟩⟩
  · have h1 := (h.step A.step.ss).toS A.act
    cases e : s env st1 with
    | bad => rw [e] at h; exact h.elim
    | exn x d st2 =>
      rw [e] at h1
      exact fun cls dd H' μ' I' S' xr => h1 cls dd H' μ' (I'.less fun a z => z.1) S' (xr.mono fun a z => z.1)
    | ok x st2 =>
      rw [e] at h
      exact fun v H2 μ2 t F I2 S2 r po => k x st2 v H2 μ2 t F (I2.less fun a z => z.1) S2 ⟨r, po.top, po.inn, fun a ha => ⟨(po.out a ha).1, (po.out a ha).2.1⟩⟩ (fun a ha => (po.out a ha).2.2) h
end
end WT
end

section
set_option Elab.async false
set_option linter.all false
set_option maxRecDepth 100000
set_option autoImplicit false
/-! K18: lists are changed; which text a statement is. -/
namespace WT
open PySem PySem.Spec PyProof.Rows L2

section
variable {K : PySem.W.Frag} {ow : Nat → Bool} {Ok : Addr → Prop} {env : Env} {st : Sto} {μ : List Addr} {G : Addr → Option Nat} {σ : St} {H : Hp} {M : List Nat}
theorem Reps.flatMu {ds : List D} {vs : List V} (r : Reps K H μ ds vs []) {L : Addr → Prop} {μ' : List Addr} {H' : Hp} (s : SL L μ H μ' H') : Reps K H' μ' ds vs [] := r.sl s fun _ h => by simp at h
theorem SI.chgOwn (I : SI K ow Ok env st μ G σ H) {i : Nat} (hi : ow i = true) (hM : i ∈ M) {xs ys : List D} (e : WT.slot env i = some (.lst xs)) :
    ∃ a vs F, σ[i]? = some (some (.ref a)) ∧ H a = some (.lst vs) ∧ Reps K H μ xs vs F ∧ (∀ b ∈ F, G b = none ∧ b ∉ μ ∧ Ok b) ∧ ∀ vs' F', Reps K H μ ys vs' F' → (∀ b ∈ F', G b = none ∧ b ∉ μ ∧ Ok b) →
      SI K ow Ok (env.set i (some (.lst ys))) st μ G σ (upd H a (.lst vs')) ∧ StepS M μ G H μ G (upd H a (.lst vs')) := by
  obtain ⟨v, t, F, e1, r, g1, g2, g3⟩ := I.slot i _ e
  cases r with
  | lst ha rs =>
    rename_i a vs
    have ga : G a = some i := by rw [g1 a (by simp), hi]; rfl
    have na : a ∉ μ := (g3 a (by simp)).1
    refine ⟨a, vs, F, e1, ha, rs, fun b hb => ⟨g2 b hb, g3 b (by simp [hb])⟩, fun vs' F' rs' hF' => ?_⟩
    have sl : SL (· ≠ a) μ H μ (upd H a (.lst vs')) := SL.upd ha fun z => z rfl
    have ne : ∀ b, G b ≠ some i → b ≠ a := fun b hb z => hb (by rw [z]; exact ga)
    refine ⟨⟨fun j d ej => ?_, I.box.sl sl fun b hb ws eb => ?_, I.muLen, I.muNd, fun b hb => ⟨(I.gmu b hb).1, sl.dom b (I.gmu b hb).2⟩, fun b hb => sl.dom b (I.gdom b hb), fun b hb => I.okn b (sl.wasNone hb), by simpa using I.len⟩, SL.upd ha fun z => z i hM ga, fun _ _ _ => rfl⟩
    · rcases slot_set ej with ⟨rfl, hl, ej⟩ | ⟨hne, ej⟩
      · cases ej
        refine ⟨.ref a, [a], F', e1, .lst upd_same (rs'.sl sl fun b hb => ⟨(hF' b hb).2.1, ne b (by rw [(hF' b hb).1]; simp)⟩), fun b hb => g1 b hb, fun b hb => (hF' b hb).1, fun b hb => ?_⟩
        rcases List.mem_append.mp hb with hb | hb
        · exact g3 b (List.mem_append_left _ hb)
        · exact (hF' b hb).2
      · obtain ⟨v', t', F2, e2, r2, k1, k2, k3⟩ := I.slot j d ej
        refine ⟨v', t', F2, e2, r2.sl sl fun b hb => ⟨(k3 b hb).1, ne b ?_⟩, k1, k2, k3⟩
        rcases List.mem_append.mp hb with hb | hb
        · rw [k1 b hb]
          split
          · exact fun z => hne (Option.some.inj z)
          · simp
        · rw [k2 b hb]; simp
    · rw [upd_ne fun z => na (by rw [← z]; exact hb)]
      exact eb
theorem SI.chgRef (I : SI K ow Ok env st μ G σ H) {i k : Nat} {xs ys : List D} (e : WT.slot env i = some (.ref k)) (ex : st[k]? = some xs) :
    ∃ a vs, σ[i]? = some (some (.ref a)) ∧ H a = some (.lst vs) ∧ Reps K H μ xs vs [] ∧ ∀ vs', Reps K H μ ys vs' [] →
      SI K ow Ok env (st.set k ys) μ G σ (upd H a (.lst vs')) ∧ StepS M μ G H μ G (upd H a (.lst vs')) := by
  obtain ⟨v, t, F, e1, r, g1, g2, g3⟩ := I.slot i _ e
  cases r with
  | ref hk =>
    rename_i a
    obtain ⟨a', vs, hk', ha, rs⟩ := I.box k xs ex
    rw [hk] at hk'
    cases hk'
    have ma : a ∈ μ := List.mem_of_getElem? hk
    refine ⟨a, vs, e1, ha, rs, fun vs' rs' => ?_⟩
    have sl : SL (· ≠ a) μ H μ (upd H a (.lst vs')) := SL.upd ha fun z => z rfl
    refine ⟨⟨fun j d ej => ?_, fun j zs ej => ?_, by rw [List.length_set]; exact I.muLen, I.muNd, fun b hb => ⟨(I.gmu b hb).1, sl.dom b (I.gmu b hb).2⟩, fun b hb => sl.dom b (I.gdom b hb), fun b hb => I.okn b (sl.wasNone hb), I.len⟩, ⟨fun b o eb nb _ => ?_, sl.tups, sl.frzs, sl.dom, sl.ext⟩, fun _ _ _ => rfl⟩
    · obtain ⟨v', t', F2, e2, r2, k1, k2, k3⟩ := I.slot j d ej
      exact ⟨v', t', F2, e2, r2.sl sl fun b hb => ⟨(k3 b hb).1, fun z => (k3 b hb).1 (by rw [z]; exact ma)⟩, k1, k2, k3⟩
    · by_cases hj : j = k
      · subst hj
        rw [List.getElem?_set_self (List.getElem?_eq_some_iff.mp ex).1] at ej
        cases ej
        exact ⟨a, vs', hk, upd_same, rs'.flatMu sl⟩
      · rw [List.getElem?_set_ne (Ne.symm hj)] at ej
        obtain ⟨b, ws, hb, eb, rb⟩ := I.box j zs ej
        refine ⟨b, ws, hb, ?_, rb.flatMu sl⟩
        rw [upd_ne ?_]
        · exact eb
        · intro z
          subst z
          have h1 := (List.getElem?_eq_some_iff.mp hb).1
          have h2 := (List.getElem?_eq_some_iff.mp hk).1
          have h3 := (List.getElem?_eq_some_iff.mp hb).2
          have h4 := (List.getElem?_eq_some_iff.mp hk).2
          exact hj ((List.getElem_inj I.muNd).mp (h3.trans h4.symm))
    · rw [upd_ne fun z => nb (by rw [z]; exact ma)]
      exact eb
end

/-! ### which text a statement is, and what must be known of it -/
def fnB (sc : Scope) : Bool := match sc.kind with | .function => true | _ => false
def lclB (sc : Scope) (x : Str) : Bool := match sc.names.lookup x with | some .local => true | _ => false
def isLC : Expr → Bool
  | .ListComp _ _ _ _ => true
  | .SetComp _ _ _ _ => true
  | .DictComp _ _ _ _ _ => true
  | _ => false
def isComp : E → Bool
  | .comp _ _ _ _ _ => true
  | _ => false
def swL (sc : Scope) (x : Str) (p : Pos) : Expr → Bool
  | .ListComp _ _ scope pos => p.line == pos.line && lclB sc x && !(scope.names.any fun (n, k) => n == x && (k == .local || k == .cell))
  | _ => false
def isTupX : Expr → Bool
  | .Tuple _ _ _ => true
  | _ => false
def stars : List Expr → Bool := fun vs => vs.any fun | .Starred .. => true | _ => false
/-- a tuple display is taken apart as it stands: no stores from the right -/
def swNone (t y : Expr) : Bool := match t, y with
  | .Tuple ts _ _, .Tuple vs _ _ => !(ts.length == 2 || ts.length == 3) || vs.length != ts.length || vs.all (foldedForSure 8)
  | _, _ => true
def swPair (sc : Scope) (x y : Str) (px py : Pos) (vs : List Expr) : Bool := lclB sc x && lclB sc y && py.line == px.line && !(vs.all (foldedForSure 8)) && !(vs.all (constantsAlone 8))
def swTri (sc : Scope) (x y z : Str) (px py pz : Pos) (vs : List Expr) : Bool := lclB sc x && lclB sc y && lclB sc z && py.line == px.line && pz.line == px.line && !(vs.all (foldedForSure 8)) && !(vs.all (constantsAlone 8))
def pvK (m : MC) (e : E) (f : Pv → Bool) : Bool := match pvE m e with
  | some p => f p
  | none => false
def plnP (p : Pv) : Bool := (p.new || p.top.isEmpty) && p.inn.isEmpty
def ownVar (m : MC) : E → Bool
  | .var i => m.ow i
  | _ => false
def nmC (m : MC) (sc : Scope) (i : Nat) (x : Str) : Bool := decide (m.N[i]? = some x) && locB sc x
def isKill : S → Option Nat
  | .kill i => some i
  | _ => none
def isDead : S → Bool
  | .dead => true
  | _ => false
mutual
/-- whose lists are changed -/
def tchs : S → List Nat
  | .move _ j => [j]
  | .setIx i o _ _ _ => if o then [i] else []
  | .augIx i o _ _ _ => if o then [i] else []
  | .app i o _ _ => if o then [i] else []
  | .mth i o _ _ => if o then [i] else []
  | .dput i _ _ => [i]
  | .ite _ a b => tchss a ++ tchss b
  | .whl _ b => tchss b
  | .for_ _ _ b => tchss b
  | .popApp i j oi oj _ => (if oi then [i] else []) ++ (if oj then [j] else [])
  | .popDrop j o _ => if o then [j] else []
  | .try_ _ b _ => tchss b
  | _ => []
def tchss : Ss → List Nat
  | .nil => []
  | .cons s ss => tchs s ++ tchss ss
end
def augOp : Operator → Bool
  | .Add => true
  | .Sub => true
  | .Mult => true
  | _ => false
def cRet (m : MC) (sc : Scope) (rn : Bool) (e : E) (st : Stmt) : Bool := match st with
  | .Return (some x) _ => mE m e sc x && pvK m e fun p => !rn || p.new || ownVar m e
  | _ => false
def cRetN (st : Stmt) : Bool := match st with
  | .Return none _ => true
  | _ => false
def cSet (m : MC) (sc : Scope) (i : Nat) (k : Ak) (e : E) (st : Stmt) : Bool := match st with
  | .Assign [.Name x p] y _ => nmC m sc i x && mE m e sc y && pvK m e (akC m i k) && (!isLC y || (isComp e && swL sc x p y))
  | _ => false
def cSetT (m : MC) (sc : Scope) (tg : Tg) (e : E) (st : Stmt) : Bool := match st with
  | .Assign [t] y _ => isTupX t && mTg m sc tg t && mE m e sc y && pvK m e plnP && (tg.slots.all fun i => !m.ow i) && swNone t y
  | _ => false
def cPar (m : MC) (sc : Scope) (i j : Nat) (ki kj : Ak) (a b : E) (st : Stmt) : Bool := match st with
  | .Assign [.Tuple [.Name x px, .Name y py] _ _] (.Tuple [u, v] _ _) _ => nmC m sc i x && nmC m sc j y && decide (i ≠ j) && mE m a sc u && mE m b sc v && pvK m a (akC m i ki) && pvK m b (akC m j kj) && (swPair sc x y px py [u, v] || ([u, v].all (foldedForSure 8) || (!lclB sc x || !lclB sc y)))
  | _ => false
def cPar3 (m : MC) (sc : Scope) (i j l : Nat) (ki kj kl : Ak) (a b c : E) (st : Stmt) : Bool := match st with
  | .Assign [.Tuple [.Name x px, .Name y py, .Name z pz] _ _] (.Tuple [u, v, w] _ _) _ => nmC m sc i x && nmC m sc j y && nmC m sc l z && decide (i ≠ j) && decide (i ≠ l) && decide (j ≠ l) && mE m a sc u && mE m b sc v && mE m c sc w &&
      pvK m a (akC m i ki) && pvK m b (akC m j kj) && pvK m c (akC m l kl) && (swTri sc x y z px py pz [u, v, w] || [u, v, w].all (foldedForSure 8))
  | _ => false
def cMove (m : MC) (sc : Scope) (i j : Nat) (st : Stmt) : Bool := match st with
  | .Assign [.Name x _] (.Name y _) _ => nmC m sc i x && decide (m.N[j]? = some y) && visB sc y && plB y && decide (m.ow i = m.ow j) && decide (i ≠ j)
  | _ => false
def cAug (m : MC) (sc : Scope) (i : Nat) (op : Operator) (e : E) (st : Stmt) : Bool := match st with
  | .AugAssign (.Name x _) op' y _ => nmC m sc i x && decide (op = op') && augOp op && mE m e sc y && pvK m e fun _ => true
  | _ => false
def cSetIx (m : MC) (sc : Scope) (i : Nat) (o nl : Bool) (ix e : E) (st : Stmt) : Bool := match st with
  | .Assign [.Subscript (.Name x _) z _] y _ => decide (m.N[i]? = some x) && visB sc x && plB x && mE m ix sc z && mE m e sc y && (!o || m.ow i) && (pvK m e fun p => nl || plnP p) && pvK m ix fun _ => true
  | _ => false
def cAugIx (m : MC) (sc : Scope) (i : Nat) (o : Bool) (op : Operator) (ix e : E) (st : Stmt) : Bool := match st with
  | .AugAssign (.Subscript (.Name x _) z _) op' y _ => decide (m.N[i]? = some x) && visB sc x && plB x && mE m ix sc z && mE m e sc y && decide (op = op') && augOp op && (!o || m.ow i) && (pvK m e fun _ => true) && pvK m ix fun _ => true
  | _ => false
def cApp (m : MC) (sc : Scope) (i : Nat) (o nl : Bool) (e : E) (st : Stmt) : Bool := match st with
  | .Expr (.Call (.Attribute (.Name x _) f ap) [y] [] cp) _ => f == ("append" : Str) && decide (m.N[i]? = some x) && visB sc x && plB x && mE m e sc y && (!o || m.ow i) && (pvK m e fun p => nl || plnP p) && ap.endLine == cp.line
  | _ => false
def Mth.nm : Mth → Str
  | .extend => "extend"
  | .insert => "insert"
  | .reverse => "reverse"
def cMth (m : MC) (sc : Scope) (i : Nat) (o : Bool) (f : Mth) (es : Es) (st : Stmt) : Bool := match st with
  | .Expr (.Call (.Attribute (.Name x _) n ap) (y :: ys) [] cp) _ => n == f.nm && decide (m.N[i]? = some x) && visB sc x && plB x && mEs m es sc (y :: ys) && (!o || m.ow i) && (pvEs m es).isSome && ap.endLine == cp.line && decide (ys.length ≤ 1) && !decide (f = .reverse)
  | _ => false
def cDput (m : MC) (sc : Scope) (i : Nat) (k e : E) (st : Stmt) : Bool := match st with
  | .Assign [.Subscript (.Name x _) z _] y _ => decide (m.N[i]? = some x) && visB sc x && plB x && mE m k sc z && mE m e sc y && m.ow i && !isLC y && (pvK m e fun _ => true) && pvK m k fun _ => true
  | _ => false
def cDrop (m : MC) (sc : Scope) (e : E) (st : Stmt) : Bool := match st with
  | .Expr x _ => mE m e sc x && !isLC x && pvK m e fun _ => true
  | _ => false
def cBrk (st : Stmt) : Bool := match st with
  | .Break _ => true
  | _ => false
def cCont (st : Stmt) : Bool := match st with
  | .Continue _ => true
  | _ => false
def cPass (st : Stmt) : Bool := match st with
  | .Pass _ => true
  | _ => false
def cIf (m : MC) (sc : Scope) (e : E) (f f' : List Stmt → Bool) (st : Stmt) : Bool := match st with
  | .If x p q _ => mE m e sc x && tOk e && (pvK m e fun _ => true) && f p && f' q
  | _ => false
def cWh (m : MC) (sc : Scope) (e : E) (f : List Stmt → Bool) (st : Stmt) : Bool := match st with
  | .While x p [] _ => mE m e sc x && tOk e && (pvK m e fun _ => true) && f p
  | _ => false
def cFor (m : MC) (sc : Scope) (tg : Tg) (it : It) (M : List Nat) (f : List Stmt → Bool) (st : Stmt) : Bool := match st with
  | .For t i p [] _ => mTg m sc tg t && mIt m it sc i && itTg it tg && (match pvIt m it with | some l => l.isEmpty | none => false) && (tg.slots.all fun i => !m.ow i) && ((pvAll m it).all fun i => decide (i ∉ M)) && f p
  | _ => false
def cCons (d : Bool) (k : Bool) (f : List Stmt → Bool) (f1 : Stmt → Bool) (f2 : List Stmt → Bool) (stmts : List Stmt) : Bool := d || (if k then f stmts else match stmts with
    | st :: r => f1 st && f2 r
    | [] => false)
def cRaise (m : MC) (sc : Scope) (c : Str) (e : E) (st : Stmt) : Bool := match st with
  | .Raise (some (.Call (.Name x _) [y] [] _)) none _ => x == c && glB sc x && plB x && decide (x ∈ m.cls) && mE m e sc y && pvK m e fun _ => true
  | _ => false
def cPopApp (m : MC) (sc : Scope) (i j : Nat) (oi oj : Bool) (e : E) (st : Stmt) : Bool := match st with
  | .Expr (.Call (.Attribute (.Name x _) f ap) [.Call (.Attribute (.Name z _) f2 ap2) [y] [] cp2] [] cp) _ => f == ("append" : Str) && f2 == ("pop" : Str) && decide (m.N[i]? = some x) && visB sc x && plB x && decide (m.N[j]? = some z) && visB sc z && plB z &&
      mE m e sc y && (!oi || m.ow i) && oj && m.ow j && decide (i ≠ j) && ap.endLine == cp.line && ap2.endLine == cp2.line && pvK m e fun _ => true
  | _ => false
def cPopDrop (m : MC) (sc : Scope) (j : Nat) (o : Bool) (e : E) (st : Stmt) : Bool := match st with
  | .Expr (.Call (.Attribute (.Name z _) f2 ap2) [y] [] cp2) _ => f2 == ("pop" : Str) && decide (m.N[j]? = some z) && visB sc z && plB z && mE m e sc y && o && m.ow j && ap2.endLine == cp2.line && pvK m e fun _ => true
  | _ => false
def xaM (m : MC) (nm : Nat) (a : Xa) (x : Expr) : Bool := match a with
  | .str s => (match x with
    | .Constant (.str y) _ _ => s == y
    | _ => false)
  | .bl s => (match x with
    | .Constant (.bool y) _ _ => s == y
    | _ => false)
  | .non => (match x with
    | .Constant .none _ _ => true
    | _ => false)
  | .val => (match x with
    | .Attribute (.Name n _) f _ => f == ("value" : Str) && decide (m.N[nm]? = some n) && plB n
    | _ => false)
def xasM (m : MC) (nm : Nat) : List Xa → List Expr → Bool
  | [], es => es.isEmpty
  | a :: as, es => (match es with
    | [] => false
    | e :: es => xaM m nm a e && xasM m nm as es)
def xsM (m : MC) (nm : Nat) (e : Xs) (x : Expr) : Bool := match e with
  | .atom a => xaM m nm a x
  | .tup as => (match x with
    | .Tuple es _ _ => decide (as.length ≤ 100) && xasM m nm as es
    | _ => false)
  | .lst as => (match x with
    | .List es _ => decide (as.length ≤ 100) && xasM m nm as es
    | _ => false)
def xsNew : Xs → Bool
  | .atom .val => false
  | _ => true
def sxM (m : MC) (sc : Scope) (rn : Bool) (nm : Nat) (s : Sx) (st : Stmt) : Bool := match s with
  | .set j e => (match st with
    | .Assign [.Name y _] z _ => nmC m sc j y && decide (j ≠ nm) && xsM m nm e z
    | _ => false)
  | .ret e => (match st with
    | .Return (some z) _ => xsM m nm e z && (!rn || xsNew e)
    | _ => false)
def clM (m : MC) (sc : Scope) (rn : Bool) (c : Cls) (h : ExceptHandler) : Bool := match h with
  | .ExceptHandler (some (.Name x _)) (some n) [s] _ => x == c.cls && glB sc x && plB x && decide (x ∈ m.cls) && (c.all == (x == m.base)) && decide (m.N[c.nm]? = some n) && lclB sc n && plB n && sxM m sc rn c.nm c.body s
  | _ => false
def clsM (m : MC) (sc : Scope) (rn : Bool) : List Cls → List ExceptHandler → Bool
  | [], hs => hs.isEmpty
  | c :: cs, hs => (match hs with
    | [] => false
    | h :: hs => clM m sc rn c h && clsM m sc rn cs hs)
def noOwn (m : MC) : Bool := (List.range m.N.length).all fun i => !m.ow i
def cTry (m : MC) (sc : Scope) (rn : Bool) (n : Nat) (f : List Stmt → Bool) (cs : List Cls) (st : Stmt) : Bool := match st with
  | .Try body (h :: hs) [] [] _ => decide (n ≤ m.N.length) && f body && noOwn m && clsM m sc rn cs (h :: hs)
  | _ => false
mutual
def cS (m : MC) (sc : Scope) (rn : Bool) : S → Stmt → Bool
  | .ret e, st => cRet m sc rn e st
  | .retN, st => cRetN st
  | .set i k e, st => cSet m sc i k e st
  | .setT tg e, st => cSetT m sc tg e st
  | .par i j ki kj a b, st => cPar m sc i j ki kj a b st
  | .par3 i j l ki kj kl a b c, st => cPar3 m sc i j l ki kj kl a b c st
  | .move i j, st => cMove m sc i j st
  | .aug i op e, st => cAug m sc i op e st
  | .setIx i o nl ix e, st => cSetIx m sc i o nl ix e st
  | .augIx i o op ix e, st => cAugIx m sc i o op ix e st
  | .app i o nl e, st => cApp m sc i o nl e st
  | .mth i o f es, st => cMth m sc i o f es st
  | .dput i k e, st => cDput m sc i k e st
  | .ite e a b, st => cIf m sc e (fun p => cSs m sc rn a p) (fun q => cSs m sc rn b q) st
  | .whl e a, st => cWh m sc e (fun p => cSs m sc rn a p) st
  | .for_ tg it a, st => cFor m sc tg it (tchss a) (fun p => cSs m sc rn a p) st
  | .brk, st => cBrk st
  | .cont, st => cCont st
  | .pass, st => cPass st
  | .drop e, st => cDrop m sc e st
  | .kill _, _ => false
  | .raise_ c e, st => cRaise m sc c e st
  | .popApp i j oi oj e, st => cPopApp m sc i j oi oj e st
  | .popDrop j o e, st => cPopDrop m sc j o e st
  | .try_ n b cs, st => cTry m sc rn n (fun p => cSs m sc rn b p) cs st
  | .dead, _ => true
def cSs (m : MC) (sc : Scope) (rn : Bool) : Ss → List Stmt → Bool
  | .nil, stmts => stmts.isEmpty
  | .cons s ss, stmts => cCons (isDead s) (isKill s).isSome (fun l => cSs m sc rn ss l) (fun st => cS m sc rn s st) (fun l => cSs m sc rn ss l) stmts
end
end WT
end

section
set_option Elab.async false
set_option linter.all false
set_option maxRecDepth 100000
set_option autoImplicit false
/-! K19: statements do what they are evaluated to. -/
namespace WT
open PySem PySem.Spec PyProof.Rows L2

structure XS (m : MC) (c : Cfg) (k : Nat) (sc : Scope) (X : Cx) : Prop where
  ok : XOk m c k sc X
  fn : ∀ x, X.fn x = true
  po : PassesOwn (model X.prog X.w) X.A X.env X.xe
  kind : sc.kind = .function
  stk : X.stack = X.env :: X.outer
  fr : X.env.frame = some X.env.locals
def SndS (m : MC) (g : GE) (k : Nat) (rn : Bool) (s : S) : Prop := ∀ (c : Cfg) (sc : Scope) (X : Cx) (st : Stmt), c.g = g → XS m c k sc X → cS m sc rn s st = true → PS X st (TSv c X.K (tchs s) rn (evS g s))
def SndSs (m : MC) (g : GE) (k : Nat) (rn : Bool) (s : Ss) : Prop := ∀ (c : Cfg) (sc : Scope) (X : Cx) (st : List Stmt), c.g = g → XS m c k sc X → cSs m sc rn s st = true → PSs X st (TSv c X.K (tchss s) rn (evSs g s))
theorem pvK_of {m : MC} {e : E} {f : Pv → Bool} (h : pvK m e f = true) : ∃ p, pvE m e = some p ∧ f p = true := by
  unfold pvK at h
  split at h
  · exact ⟨_, by assumption, h⟩
  · cases h
theorem sw_plain {y : Expr} {t : Option Expr} {l : Nat} {env : PySem.Env} (h : isLC y = false) : swapsWith y t l env = pure false := by
  cases y <;> first | rfl | (cases h; done)
theorem sw_tup {y t : Expr} {l : Nat} {env : PySem.Env} (h : isTupX t = true) : swapsWithSole [t] y l env = pure false := by
  cases t <;> first | (cases h; done) | skip
  cases y <;> rfl
theorem sw_none {t y : Expr} {env : PySem.Env} (ht : isTupX t = true) (h : swNone t y = true) : swappedStores [t] y env = pure none := by
  cases t with
  | Tuple ts k p =>
    cases y with
    | Tuple vs k2 p2 =>
      simp only [swNone, Bool.or_eq_true] at h
      unfold swappedStores
      simp only [pure_bind]
      rcases h with (h | h) | h
      · rw [if_pos (by rw [h]; rfl)]
      · rw [if_pos (by rw [h]; simp)]
      · split
        · rfl
        · split
          · rfl
          · split
            · rfl
            · rfl
    | _ => rfl
  | _ => cases ht
theorem lclB_of {sc : Scope} {x : Str} (h : lclB sc x = true) : sc.names.lookup x = some .local := by
  unfold lclB at h
  split at h
  · assumption
  · cases h
theorem blkFn {env : PySem.Env} (h : env.scope.kind = .function) : env.blockKind = .function := by
  unfold Env.blockKind
  rw [h]
  rfl
theorem kindOf_lcl {env : PySem.Env} {x : Str} (h : lclB env.scope x = true) : env.kindOf x = some .local := lclB_of h
theorem sw_pair {x y : Str} {px py pt pt2 : Pos} {kt k2 : Nat} {u v : Expr} {env : PySem.Env} (hk : env.scope.kind = .function) (hne : x ≠ y) (hu : plainX u = true) (hv : plainX v = true) (h : swPair env.scope x y px py [u, v] = true) :
    swappedStores [.Tuple [.Name x px, .Name y py] kt pt] (.Tuple [u, v] k2 pt2) env = pure (some [x, y]) := by
  simp only [swPair, Bool.and_eq_true, Bool.not_eq_true'] at h
  obtain ⟨⟨⟨⟨h1, h2⟩, h3⟩, h4⟩, h5⟩ := h
  have e1 : (x == y) = false := by simpa using hne
  unfold swappedStores
  simp only [pure_bind, blkFn hk, List.any_cons, List.any_nil, Expr.pos, List.head?, Option.map_some, Option.getD_some, List.filterMap_cons, List.filterMap_nil, kindOf_lcl h1, kindOf_lcl h2, h3, h4, h5, beq_self_eq_true, Bool.and_self, if_true, List.length_cons, List.length_nil]
  rw [if_neg (by simp), if_neg ?_, if_neg (by simp [List.eraseDups_cons, hne.symm, e1])]
  · rfl
  · have hs : ∀ w : Expr, plainX w = true → (match w with | .Starred .. => true | _ => false) = false := fun w hw => by cases w <;> first | rfl | (cases hw; done)
    intro z
    rw [Bool.or_eq_true, Bool.or_eq_true] at z
    rcases z with z | z | z
    · have := hs u hu
      exact absurd (this.symm.trans z) (by decide)
    · have := hs v hv
      exact absurd (this.symm.trans z) (by decide)
    · cases z
theorem kindOf_ncl {env : PySem.Env} {x : Str} (h : lclB env.scope x = false) : (env.kindOf x == some .local) = false := by
  refine Bool.eq_false_iff.mpr fun e => ?_
  have e2 : env.scope.names.lookup x = some .local := eq_of_beq e
  unfold lclB at h
  rw [e2] at h
  cases h
theorem sw_cell {x y : Str} {px py pt pt2 : Pos} {kt k2 : Nat} {u v : Expr} {env : PySem.Env} (h : (!lclB env.scope x || !lclB env.scope y) = true) :
    swappedStores [.Tuple [.Name x px, .Name y py] kt pt] (.Tuple [u, v] k2 pt2) env = pure none := by
  unfold swappedStores
  simp only [pure_bind]
  split
  · rfl
  · split
    · rfl
    · rw [Bool.or_eq_true, Bool.not_eq_true', Bool.not_eq_true'] at h
      refine if_pos ?_
      rcases h with h | h
      · simp only [List.filterMap_cons, List.filterMap_nil, kindOf_ncl h, Bool.false_and]
        split <;> split <;> simp_all
      · simp only [List.filterMap_cons, List.filterMap_nil, kindOf_ncl h, Bool.false_and]
        split <;> split <;> simp_all
theorem sw_tri {x y z : Str} {px py pz pt pt2 : Pos} {kt k2 : Nat} {u v w : Expr} {env : PySem.Env} (hk : env.scope.kind = .function) (hxy : x ≠ y) (hxz : x ≠ z) (hyz : y ≠ z) (hu : plainX u = true) (hv : plainX v = true) (hw : plainX w = true) (h : swTri env.scope x y z px py pz [u, v, w] = true) :
    swappedStores [.Tuple [.Name x px, .Name y py, .Name z pz] kt pt] (.Tuple [u, v, w] k2 pt2) env = pure (some [x, y, z]) := by
  simp only [swTri, Bool.and_eq_true, Bool.not_eq_true'] at h
  obtain ⟨⟨⟨⟨⟨⟨h1, h2⟩, h3⟩, h6⟩, h7⟩, h4⟩, h5⟩ := h
  have e1 : (x == y) = false := by simpa using hxy
  have e2 : (x == z) = false := by simpa using hxz
  have e3 : (y == z) = false := by simpa using hyz
  unfold swappedStores
  simp only [pure_bind, blkFn hk, List.any_cons, List.any_nil, Expr.pos, List.head?, Option.map_some, Option.getD_some, List.filterMap_cons, List.filterMap_nil, kindOf_lcl h1, kindOf_lcl h2, kindOf_lcl h3, h6, h7, h4, h5, beq_self_eq_true, Bool.and_self, if_true, List.length_cons, List.length_nil]
  rw [if_neg (by simp), if_neg ?_, if_neg (by simp [List.eraseDups_cons, hxy.symm, hxz.symm, hyz.symm, e1, e2, e3])]
  · rfl
  · have hs : ∀ w : Expr, plainX w = true → (match w with | .Starred .. => true | _ => false) = false := fun w hw => by cases w <;> first | rfl | (cases hw; done)
    intro z
    rw [Bool.or_eq_true, Bool.or_eq_true, Bool.or_eq_true] at z
    rcases z with z | z | z | z
    · exact absurd ((hs u hu).symm.trans z) (by decide)
    · exact absurd ((hs v hv).symm.trans z) (by decide)
    · exact absurd ((hs w hw).symm.trans z) (by decide)
    · cases z
end WT
end

section
set_option Elab.async false
set_option linter.all false
set_option maxRecDepth 100000
set_option autoImplicit false
/-! K19t: try with several clauses that name the error. -/
namespace WT
open PySem PySem.Spec PyProof.Rows L2

abbrev SuR := Addr → Value → Option Addr → TS
/-- behind a suite the clause's name is gone -/
def cutE (D : Ends) (i : Nat) : Ends := { nx := fun σ H => D.nx (σ.set i none) H, rt := D.rt, bk := fun σ H => D.bk (σ.set i none) H, ct := fun σ H => D.ct (σ.set i none) H }
def wCl (K : PySem.W.Frag) (out : WX) (D : Ends) : List (Value × Nat × SuR) → WX
  | [] => out
  | q :: r => fun cls d σ H => ∃ b, PySem.W.exmOne K cls q.1 = some b ∧ if b = true then ∀ a, H a = none → q.2.2 a cls d (cutE D q.2.1) (σ.set q.2.1 (some (.ref a))) H else wCl K out D r cls d σ H
inductive ClsAs (X : Cx) : List ExceptHandler → List (Value × Nat × SuR) → Prop
  | nil : ClsAs X [] []
  | cons {x n : Str} {c : Value} {i : Nat} {ts : SuR} {s0 : Stmt} {su : List Stmt} {p1 p2 : Pos} {hs : List ExceptHandler} {l : List (Value × Nat × SuR)} (h1 : X.N[i]? = some n) (h2 : X.env.kindOf n = some .local) (h3 : Names X x c)
      (h4 : ∀ (a : Addr) (oe : Obj) (cls : Value) (d : Option Addr) (pn : List (Addr × Obj)), Zc cls d oe → (∃ vs, oe.data = .fields vs) → PSs (X.suite a ((a, oe) :: pn)) (s0 :: su) (ts a cls d)) (h5 : ClsAs X hs l) :
      ClsAs X (.ExceptHandler (some (.Name x p1)) (some n) (s0 :: su) p2 :: hs) ((c, i, ts) :: l)
section
variable {X : Cx} {pins : List (Addr × Obj)} {out : WX} {D : Ends} {B : Heap} {a : Addr} {sI s : Shared} {σ : St} {H : Hp} {cls : Value} {d : Option Addr}
/-- the error has landed: the clauses are asked -/
theorem cls_run (ok : X.Ok) (hN : X.N.Nodup) (hs : X.stack = X.env :: X.outer) (hf : X.env.frame = some X.env.locals) (tk : Takes X out) (J : Inv X pins σ H sI) (nb : ∀ b o, sI.heap.get? b = some o → b ∉ frs X.stack → B.get? b = some o)
    (os : s.os = sI.os) (ag : AllBare s.gens) (na : H a = none) (fl : HandSPX.FlyingZ B (X.env :: X.outer) a (Zc cls d) s.heap) (up : sI.heap.UpToSlots s.heap) :
    ∀ {hds : List ExceptHandler} {l : List (Value × Nat × SuR)}, ClsAs X hds l → wCl X.K out D l cls d σ H → wpAny (model X.prog X.w) X.A (handleBy (.ref a) X.env hds) (SP X pins D) X.xe s := by
  have J0 : Inv X pins σ H s := J.landed nb fl.1 up os ag
  -- the error is no frame of ours
  have notF : ∀ {g : Heap} {o : Obj} {fs : Array Value}, g.FunFrames B (X.env :: X.outer) → g.get? a = some o → o.data = .fields fs → a ∉ frs (X.env :: X.outer) := fun ff e de hm => by
    obtain ⟨_, o2, e2, nf⟩ := ff.mem hm
    rw [e] at e2
    exact nf _ (Option.some.inj e2 ▸ de)
  obtain ⟨oe, fs, he, hz, hd⟩ := fl.there
  have n1 := notF fl.2.2.1 he hd
  have nL : a ≠ X.env.locals := fun z => n1 (List.mem_filterMap.mpr ⟨X.env, List.mem_cons_self, by rw [hf, z]⟩)
  have nF : a ∉ X.fs := fun hm => by
    obtain ⟨e, h1, h2⟩ := List.mem_filterMap.mp hm
    exact n1 (List.mem_filterMap.mpr ⟨e, List.mem_cons_of_mem _ h1, h2⟩)
  have S0 := J0.suite he hd na nL nF
  intro hds l hc
  induction hc with
  | nil =>
    intro w
    refine wpAny_handleBy_nil ?_
    obtain ⟨_, _, _, o, vs, T, oT, ts, e1, _, e3, e4, _⟩ := id fl
    unfold PySem.passOn
    refine wpAny_bind (wpAny_field e1 e3 e4 ?_)
    rw [if_neg (show ¬ (Value.ref T == Value.none) = true by simp)]
    have last : wpAny (model X.prog X.w) X.A (setFlight (.ref a) X.env.frame) (fun _ s2 => wpAny (model X.prog X.w) X.A (throw (.ref a) : Sem Flow) (SP X pins D) X.xe s2) X.xe s := by
      rw [hf]
      exact HandSPX.setFlight_upZ fl fun g hg ug => wpAny_throw (tk _ _ ⟨a, B, sI, pins, σ, H, cls, d, rfl, J, nb, up.trans ug, .inr (.inr (by rw [hs]; exact hg)), na, os, ag, w⟩)
    first
      | exact wpAny_bind (wpAny_pure (wpAny_bind last))
      | exact wpAny_bind last
  | @cons x n c i ts s0 su p1 p2 hs2 l2 h1 h2 h3 h4 h5 ih =>
    intro w
    obtain ⟨b, hb, w⟩ := w
    refine wpAny_handleBy_cons (codeAny_handlers_test ?_) (by intro q; cases q)
    have ty : PySem.W.Looks (model X.prog X.w) s.heap (typeOf (.ref a)) cls := fun A Q E s2 k q => wpAny_typeOf_ref (k _ _ he) (by rw [hz.1]; exact q)
    have lk := PySem.W.exm_one (M := model X.prog X.w) J0.kIn ty hb
    have nm : ∀ {Q : Value → Shared → Prop} {E : Value → Shared → Prop}, Q c s → wpAny (model X.prog X.w) (X.A.mark (some (.ref a))) (eval (.Name x p1) X.env) Q E s := fun {Q E} q => by
      obtain ⟨hg, hdb, hm | ⟨hm, hv, hn⟩⟩ := h3
      · exact ld_glob (X := X.suite a ((a, oe) :: (X.pn ++ pins))) S0 hg hm q hdb
      · exact ld_blt (X := X.suite a ((a, oe) :: (X.pn ++ pins))) S0 hg hm hv q hn hdb
    refine nm (lk.here ?_)
    cases b with
    | false =>
      have w : wCl X.K out D l2 cls d σ H := w
      show wpAny _ X.A (handleBy (.ref a) X.env hs2) _ _ _
      exact ih w
    | true =>
      have w : ∀ a, H a = none → ts a cls d (cutE D i) (σ.set i (some (.ref a))) H := w
      refine codeAny_handlers_suite_as (HandSPX.lands_againZ fl fun g fg ug => ?_)
      have J1 : Inv X pins σ H { s with heap := g } := J.landed nb fg.1 (up.trans ug) os ag
      obtain ⟨o1, v1, e1, z1, d1⟩ := fg.there
      have S1 := J1.suite e1 d1 na nL nF
      refine store_ok (X := X.suite a ((a, o1) :: (X.pn ++ pins))) (v := .ref a) S1 hN h1 (.inl h2) rfl (fun s2 S2 => ?_) (.inr h2)
      refine wpAny_mono ((h4 a o1 cls d (X.pn ++ pins) z1 ⟨_, d1⟩).run [] s2 _ H _ S2 (w a na)) (fun f s3 h3 => ?_) (fun _ _ z => z.elim)
      have gone : ∀ {σ3 : St} {H3 : Hp} {Q : Shared → Prop}, Inv (X.suite a ((a, o1) :: (X.pn ++ pins))) [] σ3 H3 s3 → (∀ s4, Inv X pins (σ3.set i none) H3 s4 → Q s4) →
          wpAny (model X.prog X.w) X.A (do bindName X.env n .none; unbindBehindTheSuite X.env n p2) (fun _ s4 => Q s4) X.xe s3 := fun S3 hq => gone_ok (S3.unsuite ok) hN h1 h2 hq
      cases f with
      | ret u =>
        obtain ⟨v3, σ3, H3, S3, r3, q3⟩ := h3
        exact gone S3 fun s4 J4 => ⟨v3, _, H3, J4, r3, q3⟩
      | next =>
        obtain ⟨σ3, H3, S3, q3⟩ := h3
        exact gone S3 fun s4 J4 => ⟨_, H3, J4, q3⟩
      | brk =>
        obtain ⟨σ3, H3, S3, q3⟩ := h3
        exact gone S3 fun s4 J4 => ⟨_, H3, J4, q3⟩
      | cont =>
        obtain ⟨σ3, H3, S3, q3⟩ := h3
        exact gone S3 fun s4 J4 => ⟨_, H3, J4, q3⟩
theorem ps_try_cls {body : List Stmt} {h0 : ExceptHandler} {hds : List ExceptHandler} {l : List (Value × Nat × SuR)} {pos : Pos} {tb : WX → TS} (hs : X.stack = X.env :: X.outer) (hf : X.env.frame = some X.env.locals) (hN : X.N.Nodup) (tk : Takes X out)
    (hb : ∀ (W : WX) (pn : List (Addr × Obj)) (xe : Value → Shared → Prop), Takes (X.tr pn xe) W → PassesOwn (model X.prog X.w) X.A X.env xe → PSs (X.tr pn xe) body (tb W)) (hc : ClsAs X (h0 :: hds) l) :
    PS X (.Try body (h0 :: hds) [] [] pos) (fun D σ H => tb (wCl X.K out D l) D σ H) := by
  refine ⟨fun pins s σ H D I h => wpAny_Try_except ?_⟩
  have ok := I.ok
  have fr : X.A.frames = some (X.env :: X.outer) := by rw [ok.frames, hs]
  have run := hb (wCl X.K out D l) (X.pn ++ pins) (fun e s1 => wpAny (model X.prog X.w) X.A (noteFrame e X.env) (fun _ s2 => wpAny (model X.prog X.w) X.A (setFlight e none) (fun _ s3 => wpAny (model X.prog X.w) X.A (handleBy e X.env (h0 :: hds)) (SP X pins D) X.xe s3) X.xe s2) X.xe s1)
    (fun u s1 hx => by
      obtain ⟨a, B, sI, pins2, σ1, H1, cls, d, rfl, J1, nb, up, sky, na, os, ag, w⟩ := hx
      have J : Inv X pins σ1 H1 sI := J1.ofTry ok
      exact Sky.land Zc.steady fr hf (by rw [← hs]; exact sky) fun g fl ug => cls_run (s := { s1 with heap := g }) ok hN hs hf tk J nb os ag na fl (up.trans ug) hc w) PassesOwn.looking
  refine wpAny_mono (run.run [] s σ H D (I.toTry _) h) (fun f s1 hq => ?_) fun e s1 he => he
  cases f with
  | next =>
    obtain ⟨σ1, H1, J1, q⟩ := hq
    exact wpAny_execs_nil ⟨σ1, H1, J1.ofTry ok, q⟩
  | ret u =>
    obtain ⟨v, σ1, H1, J1, r, q⟩ := hq
    exact ⟨v, σ1, H1, J1.ofTry ok, r, q⟩
  | brk =>
    obtain ⟨σ1, H1, J1, q⟩ := hq
    exact ⟨σ1, H1, J1.ofTry ok, q⟩
  | cont =>
    obtain ⟨σ1, H1, J1, q⟩ := hq
    exact ⟨σ1, H1, J1.ofTry ok, q⟩
end
end WT
end

section
set_option Elab.async false
set_option linter.all false
set_option maxRecDepth 100000
set_option autoImplicit false
/-! K20: statements do what they are evaluated to. -/
namespace WT
open PySem PySem.Spec PyProof.Rows L2

section
variable {m : MC} {g : GE} {k : Nat} {rn : Bool} {a b d e : E}
theorem nmC_of {sc : Scope} {i : Nat} {x : Str} (h : nmC m sc i x = true) : m.N[i]? = some x ∧ locB sc x = true := by
  unfold nmC at h
  rw [Bool.and_eq_true, decide_eq_true_eq] at h
  exact h
theorem sm_ret : SndS m g k rn (.ret e) := by
  intro c sc X st hg xs h
  rw [cS] at h
  unfold cRet at h
  split at h
  · rename_i x pos
    rw [Bool.and_eq_true] at h
    obtain ⟨h1, h2⟩ := h
    obtain ⟨p, hp, h2⟩ := pvK_of h2
    cases ho : ownVar m e with
    | false =>
      refine (ps_ret (snd e hp c sc X x hg xs.ok h1)).mono fun D σ H ⟨env, st, μ, G, I, hq⟩ => ?_
      rw [evS] at hq
      refine TEv.ofS I hq fun x st1 v H1 μ1 t F I1 S1 r1 hq => ?_
      refine hq v H1 μ1 G t F I1.box I1.muLen I1.muNd S1.ss r1.rep r1.po.out fun hrn a ha => ?_
      rw [ho, hrn] at h2
      have hn : p.new = true := by simpa using h2
      have z := r1.po.top a ha
      rw [if_pos hn] at z
      exact ⟨.inl z.1, z.2⟩
    | true =>
      cases e with
      | var i =>
        cases x with
        | Name y ypos =>
          simp only [mE, Bool.and_eq_true, decide_eq_true_eq] at h1
          obtain ⟨⟨h3, h4⟩, h5⟩ := h1
          obtain ⟨d1, d2⟩ := plB_ok h5
          refine (ps_ret (pe_var (i := i) (by rw [xs.ok.hN]; exact h3) (xs.ok.vis h4) d1 d2)).mono fun D σ H ⟨env, st, μ, G, I, hq⟩ => ?_
          rw [evS, evE] at hq
          cases e1 : slot env i with
          | none => rw [e1] at hq; exact hq.elim
          | some d =>
            rw [e1] at hq
            obtain ⟨v, t, F, e2, r, g1, g2, g3⟩ := I.slot i d e1
            refine ⟨v, e2, hq v H μ G t F I.box I.muLen I.muNd .refl r g3 fun _ a ha => ?_⟩
            have z := g1 a ha
            rw [xs.ok.ow, show m.ow i = true from ho, if_pos rfl] at z
            exact ⟨.inr (by rw [z]; simp), fun hm => by rw [g2 a hm] at z; cases z⟩
        | _ => simp [mE] at h1
      | _ => cases ho
  · cases h
theorem sm_retN : SndS m g k rn .retN := by
  intro c sc X st hg xs h
  rw [cS] at h
  unfold cRetN at h
  split at h
  · exact ps_retN.mono fun D σ H ⟨env, st, μ, G, I, hq⟩ => by
      rw [evS] at hq
      exact hq .non H μ G [] [] I.box I.muLen I.muNd .refl .non (fun _ h => by simp at h) fun _ _ h => by simp at h
  · cases h
theorem comp_of {tg : Tg} {it : WT.It} {hif : Bool} {cond elt : E} {p : Pv} (h : pvE m (.comp tg it hif cond elt) = some p) : ∃ lt pe, SndI m g k it [] lt ∧ SndT m g k cond ∧ Snd m g k elt pe ∧ (∀ i ∈ tg.slots, m.ow i = false) ∧ itTg it tg = true ∧ p = .new1 (pe.top ++ pe.inn) := by
  rw [pvE] at h
  cases ei : pvIt m it with
  | none => rw [ei] at h; cases h
  | some l =>
    cases ec : pvE m cond with
    | none => rw [ei, ec] at h; cases h
    | some pc =>
      cases ee : pvE m elt with
      | none => rw [ei, ec, ee] at h; cases h
      | some pe =>
        rw [ei, ec, ee] at h
        simp only at h
        split at h
        · rename_i hn
          cases h
          simp only [Bool.and_eq_true, List.all_eq_true, Bool.not_eq_true', List.isEmpty_iff] at hn
          obtain ⟨⟨h1, h2⟩, h3⟩ := hn
          subst h1
          exact ⟨_, pe, sndi it ei, sndt cond ec, snd elt ee, h2, h3, rfl⟩
        · cases h
theorem sm_set {i : Nat} {kk : Ak} : SndS m g k rn (.set i kk e) := by
  intro c sc X st hg xs h
  have key : ∀ {p : Pv}, akC m i kk p = true → ∀ (D : Ends) (σ : St) (H : Hp), TSv c X.K (tchs (.set i kk e)) rn (evS g (.set i kk e)) D σ H → tAsg (TEv c X.K p (evE g e)) (gName i) D σ H := fun {p} hk D σ H ⟨env, st, μ, G, I, hq⟩ => by
    rw [evS] at hq
    refine TEv.ofS I hq fun x st1 v H1 μ1 t F I1 S1 r1 hq => ?_
    split at hq
    · rename_i hd
      obtain ⟨G', T, J, t1, g1⟩ := SI.putK xs.ok.ow I S1 I1 r1 hk hd
      exact hq _ H1 μ1 G' J ⟨S1.sl, fun a ha _ => g1 a fun z => ha (t1 a z).1⟩
    · exact hq.elim
  rw [cS] at h
  unfold cSet at h
  split at h
  · rename_i x px y pos
    simp only [Bool.and_eq_true, Bool.or_eq_true, Bool.not_eq_true'] at h
    obtain ⟨⟨⟨h1, h2⟩, h3⟩, h4⟩ := h
    obtain ⟨n1, n2⟩ := nmC_of h1
    obtain ⟨p, hp, hk⟩ := pvK_of h3
    have hN : X.N.Nodup := by rw [xs.ok.hN]; exact xs.ok.nd
    have hi : X.N[i]? = some x := by rw [xs.ok.hN]; exact n1
    rcases h4 with h4 | ⟨h4, h5⟩
    · exact (ps_set hN hi (xs.ok.loc n2) (snd e hp c sc X y hg xs.ok h2) (sw_plain h4) (.inl (xs.fn x))).mono (key hk)
    · cases e with
      | comp tg it hif cond elt =>
        obtain ⟨lt, pe, hI, hC, hE, ho, hP, rfl⟩ := comp_of (g := g) (k := k) hp
        obtain ⟨y1, t, i1, ifs, scope, cpos, own, wi, gT, tt, te, rfl, b1, b2, b3, b4, b5, b6, b7⟩ := comp_parts hI hC hE ho hP hg xs.ok h2
        simp only [swL, Bool.and_eq_true, Bool.not_eq_true'] at h5
        obtain ⟨⟨s1, s2⟩, s3⟩ := h5
        have hl : X.env.scope.names.lookup x = some .local := by rw [xs.ok.sc]; exact lclB_of s2
        exact (ps_setLc xs.ok.calm hN hi hl (sw_true (by rw [xs.ok.sc]; exact xs.kind) hl s1 s3) b1 b2 b3 b4 b5 b6).mono fun D σ H z => b7 σ H _ (key hk D σ H z)
      | _ => cases h4
  · cases h
theorem pg_st {c : Cfg} {sc : Scope} {X : Cx} {tg : Tg} {t : Expr} (xs : XS m c k sc X) (h : mTg m sc tg t = true) : PG X t (tgG X.K tg) :=
  pg_tgT xs.ok.calm (fun i x pos hi hl => pg_name (by rw [xs.ok.hN]; exact xs.ok.nd) (by rw [xs.ok.hN]; exact hi) (xs.ok.loc hl) (.inl (xs.fn x))) h
theorem plnP_of {p : Pv} (h : plnP p = true) : (p.new || p.top.isEmpty) = true ∧ p.inn = [] := by
  unfold plnP at h
  rw [Bool.and_eq_true, List.isEmpty_iff] at h
  exact h
theorem sm_setT {tg : Tg} : SndS m g k rn (.setT tg e) := by
  intro c sc X st hg xs h
  rw [cS] at h
  unfold cSetT at h
  split at h
  · rename_i t y pos
    simp only [Bool.and_eq_true, List.all_eq_true, Bool.not_eq_true'] at h
    obtain ⟨⟨⟨⟨⟨h1, h2⟩, h3⟩, h4⟩, h5⟩, h6⟩ := h
    obtain ⟨p, hp, hk⟩ := pvK_of h4
    obtain ⟨k1, k2⟩ := plnP_of hk
    refine (ps_asg (snd e hp c sc X y hg xs.ok h3) (pg_st xs h2) (sw_tup h1) (sw_none h1 h6) ?_).mono fun D σ H ⟨env, st, μ, G, I, hq⟩ => ?_
    · cases t with
      | Tuple _ _ _ => rfl
      | _ => cases h1
    · rw [evS] at hq
      refine TEv.ofS I hq fun x st1 v H1 μ1 t F I1 S1 r1 hq => ?_
      cases hb : bindTg tg x env with
      | none => rw [hb] at hq; exact hq.elim
      | some env' =>
        rw [hb] at hq
        exact SI.tg I1 (fun i hi => by rw [xs.ok.ow]; exact h5 i hi) hb r1.rep (r1.pln I.gdom k1 k2) fun σ' I' hl hj => hq σ' H1 μ1 G I' S1.ss
  · cases h
theorem sm_brk : SndS m g k rn .brk := by
  intro c sc X st hg xs h
  rw [cS] at h
  unfold cBrk at h
  split at h
  · exact ps_break.mono fun D σ H ⟨env, st, μ, G, I, hq⟩ => by
      rw [evS] at hq
      exact hq σ H μ G I .refl
  · cases h
theorem sm_cont : SndS m g k rn .cont := by
  intro c sc X st hg xs h
  rw [cS] at h
  unfold cCont at h
  split at h
  · exact ps_continue.mono fun D σ H ⟨env, st, μ, G, I, hq⟩ => by
      rw [evS] at hq
      exact hq σ H μ G I .refl
  · cases h
theorem sm_pass : SndS m g k rn .pass := by
  intro c sc X st hg xs h
  rw [cS] at h
  unfold cPass at h
  split at h
  · exact ps_pass.mono fun D σ H ⟨env, st, μ, G, I, hq⟩ => by
      rw [evS] at hq
      exact hq σ H μ G I .refl
  · cases h
theorem sm_dead : SndS m g k rn .dead := fun c sc X st hg xs h => ps_never.mono fun D σ H ⟨env, st, μ, G, I, hq⟩ => by
  rw [evS] at hq
  exact hq
theorem sm_drop : SndS m g k rn (.drop e) := by
  intro c sc X st hg xs h
  rw [cS] at h
  unfold cDrop at h
  split at h
  · rename_i x pos
    simp only [Bool.and_eq_true, Bool.not_eq_true'] at h
    obtain ⟨⟨h1, h2⟩, h3⟩ := h
    obtain ⟨p, hp, _⟩ := pvK_of h3
    refine (ps_expr (snd e hp c sc X x hg xs.ok h1) (sw_plain h2)).mono fun D σ H ⟨env, st, μ, G, I, hq⟩ => ?_
    rw [evS] at hq
    exact TEv.ofS I hq fun x st1 v H1 μ1 t F I1 S1 r1 hq => hq σ H1 μ1 G I1 S1.ss
  · cases h
end
end WT
end

section
set_option Elab.async false
set_option linter.all false
set_option maxRecDepth 100000
set_option autoImplicit false
/-! K21: statements: several names, changes of lists. -/
namespace WT
open PySem PySem.Spec PyProof.Rows L2

section
variable {m : MC} {g : GE} {k : Nat} {rn : Bool} {a b d e : E}
theorem Acc.new {c : Cfg} {K : PySem.W.Frag} {env envA : Env} {μ μ1 : List Addr} {G GA : Addr → Option Nat} {σ σA : St} {H H1 : Hp} {st1 : Sto} {T : List Addr} (A : Acc c K env μ G σ H st1 μ1 H1 envA GA σA T) {p : Addr} {o : HO} (hp : H1 p = none) : Acc c K env μ G σ H st1 μ1 (upd H1 p o) envA GA σA T :=
  ⟨A.act.new hp, A.vir.new hp, A.step.trans (.new hp), fun a ha => ⟨(A.tn a ha).1, (Step.new (μ := μ1) (o := o) hp).dom a (A.tn a ha).2⟩, A.ga⟩
theorem nodup_ne {N : List Str} {i j : Nat} {x y : Str} (hN : N.Nodup) (hi : N[i]? = some x) (hj : N[j]? = some y) (h : i ≠ j) : x ≠ y := fun e => by
  subst e
  have h1 := (List.getElem?_eq_some_iff.mp hi)
  have h2 := (List.getElem?_eq_some_iff.mp hj)
  obtain ⟨l1, e1⟩ := h1
  obtain ⟨l2, e2⟩ := h2
  exact h ((List.getElem_inj hN).mp (e1.trans e2.symm))
theorem folded_swNone {t1 t2 : List Expr} {k1 k2 : Nat} {p1 p2 : Pos} (h : t2.all (foldedForSure 8) = true) : swNone (.Tuple t1 k1 p1) (.Tuple t2 k2 p2) = true := by
  unfold swNone
  simp only [h, Bool.or_true]
theorem Acc.fit {c : Cfg} {K : PySem.W.Frag} {env envA : Env} {μ μ1 : List Addr} {G GA : Addr → Option Nat} {σ σA : St} {H H1 : Hp} {st1 : Sto} {T : List Addr} {M : List Nat} {D : Ends} (A : Acc c K env μ G σ H st1 μ1 H1 envA GA σA T) (h : okS c K M rn μ G H D (.nx envA st1)) : D.nx σA H1 := h σA H1 μ1 GA A.vir A.ss
theorem sm_par {i j : Nat} {ki kj : Ak} : SndS m g k rn (.par i j ki kj a b) := by
  intro c sc X st hg xs h
  rw [cS] at h
  unfold cPar at h
  split at h
  · rename_i x px y py kt pt u v k2 pt2 pos
    simp only [Bool.and_eq_true, Bool.or_eq_true, decide_eq_true_eq] at h
    obtain ⟨⟨⟨⟨⟨⟨⟨h1, h2⟩, h3⟩, h4⟩, h5⟩, h6⟩, h7⟩, h8⟩ := h
    obtain ⟨n1, n2⟩ := nmC_of h1
    obtain ⟨n3, n4⟩ := nmC_of h2
    obtain ⟨p, hp, hk⟩ := pvK_of h6
    obtain ⟨q, hq, hk2⟩ := pvK_of h7
    have hN : X.N.Nodup := by rw [xs.ok.hN]; exact xs.ok.nd
    have hi : X.N[i]? = some x := by rw [xs.ok.hN]; exact n1
    have hj : X.N[j]? = some y := by rw [xs.ok.hN]; exact n3
    have pa := pa_cons (snd (k := k) a hp c sc X u hg xs.ok h4) (pa_cons (PE.ex fun o => snd (k := k) b hq (c.ok o) sc X v hg (xs.ok.ok o) h5) pa_nil (star_of (mE_plain h5) _ _)) (star_of (mE_plain h4) _ _)
    have key : ∀ (D : Ends) (σ : St) (H : Hp) (Q : List V → Hp → Prop), (∀ v w H1, D.nx ((σ.set i (some v)).set j (some w)) H1 → True) → TSv c X.K (tchs (.par i j ki kj a b)) rn (evS g (.par i j ki kj a b)) D σ H →
        (∀ v w μ1 H1 st1 env μ G envA GA T, Acc c X.K env μ G σ H st1 μ1 H1 envA GA ((σ.set i (some v)).set j (some w)) T → okS c X.K [] rn μ G H D (.nx envA st1) → Q [v, w] H1) → tCons (TEv c X.K p (evE g a)) (tCons (fun σ H Q => ∃ o, TEv (c.ok o) X.K q (evE g b) σ H Q) tNil) σ H Q := fun D σ H Q _ ⟨env, st, μ, G, I, hw⟩ kk => by
      rw [evS] at hw
      refine TEv.ofS I hw fun x1 st1 v1 H1 μ1 t1 F1 I1 S1 r1 hw => ?_
      cases hd : akOk ki x1 with
      | false => rw [hd] at hw; exact hw.elim
      | true =>
        rw [hd, if_pos rfl] at hw
        obtain ⟨GB, T1, A1⟩ := (Acc.nil I).put xs.ok.ow I1 S1 r1 (fun _ _ h => by simp at h) hk hd
        refine A1.eval I hw fun x2 st2 v2 H2 μ2 t2 F2 I2 S2 r2 hT hw => ?_
        cases hd2 : akOk kj x2 with
        | false => rw [hd2] at hw; exact hw.elim
        | true =>
          rw [hd2, if_pos rfl] at hw
          obtain ⟨GC, T2, A2⟩ := A1.put xs.ok.ow I2 S2 r2 hT hk2 hd2
          exact kk v1 v2 μ2 H2 st2 env μ G _ _ _ A2 hw
    rcases h8 with h8 | h8
    · have h9 := h8
      simp only [swPair, Bool.and_eq_true] at h9
      refine (ps_par xs.ok.calm hN hi hj h3 (by rw [xs.ok.sc]; exact lclB_of h9.1.1.1.1) (by rw [xs.ok.sc]; exact lclB_of h9.1.1.1.2) pa (sw_pair (by rw [xs.ok.sc]; exact xs.kind) (nodup_ne hN hi hj h3) (mE_plain h4) (mE_plain h5) (by rw [xs.ok.sc]; exact h8)) (sw_tup rfl)).mono fun D σ H hw => ?_
      exact key D σ H _ (fun _ _ _ _ => trivial) hw fun v w μ1 H1 st1 env μ G envA GA T A hw => ⟨v, w, rfl, A.fit hw⟩
    · have hsw : ∀ env : PySem.Env, env.scope = sc → swappedStores [.Tuple [.Name x px, .Name y py] kt pt] (.Tuple [u, v] k2 pt2) env = pure none := fun env he => by
        rcases h8 with h8 | h8
        · exact sw_none rfl (folded_swNone h8)
        · exact sw_cell (by rw [he, Bool.or_eq_true]; exact h8)
      refine (ps_asg (pe_tup pa) (pg_tup xs.ok.calm (pgs_cons (pg_name hN hi (xs.ok.loc n2) (.inl (xs.fn x))) (pgs_cons (pg_name hN hj (xs.ok.loc n4) (.inl (xs.fn y))) pgs_nil))) (sw_tup rfl) (hsw _ xs.ok.sc)).mono fun D σ H hw => ?_
      exact key D σ H (fun vs H1 => vs.length ≤ sizeLine ∧ ∀ p, H1 p = none → gTup X.K 2 (gCons (gName i) (gCons (gName j) gNil)) (.ref p) σ (upd H1 p (.tup vs)) D.nx) (fun _ _ _ _ => trivial) hw fun v w μ1 H1 st1 env μ G envA GA T A hw =>
        ⟨by show 2 ≤ sizeLine; decide, fun p hp => ⟨p, [v, w], rfl, .inl (.inl upd_same), rfl, v, [w], rfl, w, [], rfl, rfl, (A.new hp).fit hw⟩⟩
  · cases h
theorem sm_par3 {i j l : Nat} {ki kj kl : Ak} : SndS m g k rn (.par3 i j l ki kj kl a b d) := by
  intro c sc X st hg xs h
  rw [cS] at h
  unfold cPar3 at h
  split at h
  · rename_i x px y py z pz kt pt u v w k2 pt2 pos
    simp only [Bool.and_eq_true, Bool.or_eq_true, decide_eq_true_eq] at h
    obtain ⟨⟨⟨⟨⟨⟨⟨⟨⟨⟨⟨⟨h1, h2⟩, h3⟩, n12⟩, n13⟩, n23⟩, h4⟩, h5⟩, h6⟩, h7⟩, h8⟩, h9⟩, h10⟩ := h
    obtain ⟨n1, n2⟩ := nmC_of h1
    obtain ⟨n3, n4⟩ := nmC_of h2
    obtain ⟨n5, n6⟩ := nmC_of h3
    obtain ⟨p, hp, hk⟩ := pvK_of h7
    obtain ⟨q, hq, hk2⟩ := pvK_of h8
    obtain ⟨r, hr, hk3⟩ := pvK_of h9
    have hN : X.N.Nodup := by rw [xs.ok.hN]; exact xs.ok.nd
    have hi : X.N[i]? = some x := by rw [xs.ok.hN]; exact n1
    have hj : X.N[j]? = some y := by rw [xs.ok.hN]; exact n3
    have hl : X.N[l]? = some z := by rw [xs.ok.hN]; exact n5
    have pa := pa_cons (snd (k := k) a hp c sc X u hg xs.ok h4) (pa_cons (PE.ex fun o => snd (k := k) b hq (c.ok o) sc X v hg (xs.ok.ok o) h5) (pa_cons (PE.ex fun o => snd (k := k) d hr (c.ok o) sc X w hg (xs.ok.ok o) h6) pa_nil (star_of (mE_plain h6) _ _)) (star_of (mE_plain h5) _ _)) (star_of (mE_plain h4) _ _)
    have key : ∀ (D : Ends) (σ : St) (H : Hp) (Q : List V → Hp → Prop), TSv c X.K (tchs (.par3 i j l ki kj kl a b d)) rn (evS g (.par3 i j l ki kj kl a b d)) D σ H →
        (∀ v w x μ1 H1 st1 env μ G envA GA T, Acc c X.K env μ G σ H st1 μ1 H1 envA GA (((σ.set i (some v)).set j (some w)).set l (some x)) T → okS c X.K [] rn μ G H D (.nx envA st1) → Q [v, w, x] H1) →
        tCons (TEv c X.K p (evE g a)) (tCons (fun σ H Q => ∃ o, TEv (c.ok o) X.K q (evE g b) σ H Q) (tCons (fun σ H Q => ∃ o, TEv (c.ok o) X.K r (evE g d) σ H Q) tNil)) σ H Q := fun D σ H Q ⟨env, st, μ, G, I, hw⟩ kk => by
      rw [evS] at hw
      refine TEv.ofS I hw fun x1 st1 v1 H1 μ1 t1 F1 I1 S1 r1 hw => ?_
      cases hd : akOk ki x1 with
      | false => rw [hd] at hw; exact hw.elim
      | true =>
        rw [hd, if_pos rfl] at hw
        obtain ⟨GB, T1, A1⟩ := (Acc.nil I).put xs.ok.ow I1 S1 r1 (fun _ _ h => by simp at h) hk hd
        refine A1.eval I hw fun x2 st2 v2 H2 μ2 t2 F2 I2 S2 r2 hT hw => ?_
        cases hd2 : akOk kj x2 with
        | false => rw [hd2] at hw; exact hw.elim
        | true =>
          rw [hd2, if_pos rfl] at hw
          obtain ⟨GC, T2, A2⟩ := A1.put xs.ok.ow I2 S2 r2 hT hk2 hd2
          refine A2.eval I hw fun x3 st3 v3 H3 μ3 t3 F3 I3 S3 r3 hT3 hw => ?_
          cases hd3 : akOk kl x3 with
          | false => rw [hd3] at hw; exact hw.elim
          | true =>
            rw [hd3, if_pos rfl] at hw
            obtain ⟨GD, T3, A3⟩ := A2.put xs.ok.ow I3 S3 r3 hT3 hk3 hd3
            exact kk v1 v2 v3 μ3 H3 st3 env μ G _ _ _ A3 hw
    rcases h10 with h10 | h10
    · have h11 := h10
      simp only [swTri, Bool.and_eq_true] at h11
      refine (ps_par3 xs.ok.calm hN hi hj hl n12 n13 n23 (by rw [xs.ok.sc]; exact lclB_of h11.1.1.1.1.1.1) (by rw [xs.ok.sc]; exact lclB_of h11.1.1.1.1.1.2) (by rw [xs.ok.sc]; exact lclB_of h11.1.1.1.1.2) pa
        (sw_tri (by rw [xs.ok.sc]; exact xs.kind) (nodup_ne hN hi hj n12) (nodup_ne hN hi hl n13) (nodup_ne hN hj hl n23) (mE_plain h4) (mE_plain h5) (mE_plain h6) (by rw [xs.ok.sc]; exact h10)) (sw_tup rfl)).mono fun D σ H hw => ?_
      exact key D σ H _ hw fun v w x μ1 H1 st1 env μ G envA GA T A hw => ⟨v, w, x, rfl, A.fit hw⟩
    · refine (ps_asg (pe_tup pa) (pg_tup xs.ok.calm (pgs_cons (pg_name hN hi (xs.ok.loc n2) (.inl (xs.fn x))) (pgs_cons (pg_name hN hj (xs.ok.loc n4) (.inl (xs.fn y))) (pgs_cons (pg_name hN hl (xs.ok.loc n6) (.inl (xs.fn z))) pgs_nil)))) (sw_tup rfl) (sw_none rfl (folded_swNone h10))).mono fun D σ H hw => ?_
      exact key D σ H (fun vs H1 => vs.length ≤ sizeLine ∧ ∀ p, H1 p = none → gTup X.K 3 (gCons (gName i) (gCons (gName j) (gCons (gName l) gNil))) (.ref p) σ (upd H1 p (.tup vs)) D.nx) hw fun v w x μ1 H1 st1 env μ G envA GA T A hw =>
        ⟨by show 3 ≤ sizeLine; decide, fun p hp => ⟨p, [v, w, x], rfl, .inl (.inl upd_same), rfl, v, [w, x], rfl, w, [x], rfl, x, [], rfl, rfl, (A.new hp).fit hw⟩⟩
  · cases h
theorem gset_owner {t : List Addr} {G : Addr → Option Nat} {i j : Nat} (h : ∀ a ∈ t, G a = some j) {a : Addr} : a ∈ t → G a = some j := h a
theorem sm_move {i j : Nat} : SndS m g k rn (.move i j) := by
  intro c sc X st hg xs h
  rw [cS] at h
  unfold cMove at h
  split at h
  · rename_i x px y py pos
    simp only [Bool.and_eq_true, decide_eq_true_eq] at h
    obtain ⟨⟨⟨⟨⟨h1, h2⟩, h3⟩, h4⟩, h5⟩, h6⟩ := h
    obtain ⟨n1, n2⟩ := nmC_of h1
    obtain ⟨d1, d2⟩ := plB_ok h4
    have hN : X.N.Nodup := by rw [xs.ok.hN]; exact xs.ok.nd
    refine (ps_set hN (by rw [xs.ok.hN]; exact n1) (xs.ok.loc n2) (pe_var (i := j) (by rw [xs.ok.hN]; exact h2) (xs.ok.vis h3) d1 d2) rfl (.inl (xs.fn x))).mono fun D σ H ⟨env, st, μ, G, I, hq⟩ => ?_
    rw [evS] at hq
    cases e1 : slot env j with
    | none => rw [e1] at hq; exact hq.elim
    | some d =>
      rw [e1] at hq
      obtain ⟨v, t, F, e2, r, g1, g2, g3⟩ := I.slot j d e1
      refine ⟨v, e2, ?_⟩
      rw [xs.ok.ow] at g1
      cases ho : m.ow j with
      | false =>
        rw [ho] at g1 h5
        have J := I.put (i := i) (by rw [xs.ok.ow]; exact h5) r fun a ha => ⟨by
          rcases List.mem_append.mp ha with ha | ha
          · simpa using g1 a ha
          · exact g2 a ha, g3 a ha⟩
        exact hq _ H μ G (J.kill (i := j)) .refl
      | true =>
        rw [ho] at g1 h5
        have gj : ∀ a ∈ t, G a = some j := fun a ha => by simpa using g1 a ha
        refine hq (σ.set i (some v)) H μ (gset G t i) ?_ ⟨.refl, fun a ha hM => gset_ne fun z => hM j (by simp [tchs]) (gj a z)⟩
        refine ⟨fun l d' e' => ?_, I.box, I.muLen, I.muNd, fun a ha => ⟨?_, (I.gmu a ha).2⟩, fun a ha => ?_, I.okn, by simpa using I.len⟩
        · rcases slot_set e' with ⟨_, _, e'⟩ | ⟨hlj, e'⟩
          · cases e'
          · rcases slot_set e' with ⟨rfl, hl, e'⟩ | ⟨hli, e'⟩
            · cases e'
              refine ⟨v, t, F, by rw [List.getElem?_set_self (Nat.lt_of_lt_of_le hl I.len)], r, fun a ha => by rw [xs.ok.ow, h5, gset_in ha]; rfl, fun a ha => ?_, g3⟩
              rw [gset_ne fun z => by have := gj a z; rw [g2 a ha] at this; cases this]
              exact g2 a ha
            · obtain ⟨v', t', F', k1, k2, k3, k4, k5⟩ := I.slot l d' e'
              refine ⟨v', t', F', by rw [List.getElem?_set_ne (Ne.symm hli)]; exact k1, k2, fun a ha => ?_, fun a ha => ?_, k5⟩
              · rw [gset_ne fun z => ?_]
                · exact k3 a ha
                · have h8 := gj a z
                  rw [k3 a ha] at h8
                  split at h8
                  · exact hlj (Option.some.inj h8)
                  · cases h8
              · rw [gset_ne fun z => by have := gj a z; rw [k4 a ha] at this; cases this]
                exact k4 a ha
        · rw [gset_ne fun z => by have := gj a z; rw [(I.gmu a ha).1] at this; cases this]
          exact (I.gmu a ha).1
        · by_cases z : a ∈ t
          · exact r.there a (List.mem_append_left _ z)
          · rw [gset_ne z] at ha
            exact I.gdom a ha
  · cases h
end
end WT
end

section
set_option Elab.async false
set_option linter.all false
set_option maxRecDepth 100000
set_option autoImplicit false
/-! K22: statements: changes. -/
namespace WT
open PySem PySem.Spec PyProof.Rows L2

section
variable {m : MC} {g : GE} {k : Nat} {rn : Bool} {a b d e : E}
def ipV (op : Operator) : TIp := fun x y H Q => ∃ i j z, x = .int i ∧ y = .int j ∧ binD op (.int i) (.int j) = some (.int z) ∧ Q (.int z) H
theorem mulD_int {i j z : Int} (h : mulD (.int i) (.int j) = some (.int z)) : mulOK i j ∧ z = i * j := by
  unfold mulD guardO at h
  simp only at h
  split at h
  · cases h; exact ⟨by assumption, rfl⟩
  · cases h
theorem ip_v {X : Cx} {op : Operator} (h : augOp op = true) : PIp X op (ipV op) := by
  intro pins s σ H x y v u Q I r1 r2 hq
  obtain ⟨i, j, z, rfl, rfl, hb, q⟩ := hq
  obtain ⟨t, rfl⟩ := r1
  obtain ⟨t', rfl⟩ := r2
  cases op with
  | Add =>
    cases hb
    exact iadd_int ⟨.int _, H, I.tok _, ⟨_, rfl⟩, q⟩
  | Sub =>
    cases hb
    exact isub_int ⟨.int _, H, I.tok _, ⟨_, rfl⟩, q⟩
  | Mult =>
    obtain ⟨h1, rfl⟩ := mulD_int hb
    exact imul_int ⟨.int _, H, I.tok _, ⟨_, rfl⟩, q⟩ h1.ok
  | _ => cases h
theorem sm_aug {i : Nat} {op : Operator} : SndS m g k rn (.aug i op e) := by
  intro c sc X st hg xs h
  rw [cS] at h
  unfold cAug at h
  split at h
  · rename_i x px op' y pos
    simp only [Bool.and_eq_true, decide_eq_true_eq] at h
    obtain ⟨⟨⟨⟨h1, rfl⟩, h2⟩, h3⟩, h4⟩ := h
    obtain ⟨n1, n2⟩ := nmC_of h1
    obtain ⟨p, hp, _⟩ := pvK_of h4
    refine (ps_aug (by rw [xs.ok.hN]; exact xs.ok.nd) (by rw [xs.ok.hN]; exact n1) (xs.ok.loc n2) (snd e hp c sc X y hg xs.ok h3) (ip_v h2) (.inl (xs.fn x))).mono fun D σ H ⟨env, st, μ, G, I, hq⟩ => ?_
    rw [evS] at hq
    cases e1 : slot env i with
    | none => rw [e1] at hq; exact hq.elim
    | some d =>
      rw [e1] at hq
      obtain ⟨v, t, F, e2, r, g1, g2, g3⟩ := I.slot i d e1
      refine ⟨v, e2, TEv.ofS I hq fun x1 st1 v1 H1 μ1 t1 F1 I1 S1 r1 hq => ?_⟩
      obtain ⟨i0, rfl⟩ : ∃ i0, d = .int i0 := by cases d <;> first | exact ⟨_, rfl⟩ | exact hq.elim
      obtain ⟨j0, rfl⟩ : ∃ j0, x1 = .int j0 := by cases x1 <;> first | exact ⟨_, rfl⟩ | exact hq.elim
      cases hb : binD op (.int i0) (.int j0) with
      | none => rw [hb] at hq; exact hq.elim
      | some z =>
        rw [hb] at hq
        obtain ⟨z0, rfl⟩ : ∃ z0, z = .int z0 := by
          cases op with
          | Add => cases hb; exact ⟨_, rfl⟩
          | Sub => cases hb; exact ⟨_, rfl⟩
          | Mult =>
            have hb : mulD (.int i0) (.int j0) = some z := hb
            unfold mulD guardO at hb
            simp only at hb
            split at hb
            · cases hb; exact ⟨_, rfl⟩
            · cases hb
          | _ => cases h2
        cases r
        obtain ⟨r2, po⟩ := r1
        cases r2
        exact ⟨i0, j0, z0, rfl, rfl, hb, hq _ H1 μ1 G (I1.flat (.int z0)) S1.ss⟩
  · cases h
/-- a name's list, changed -/
theorem chg_ok {c : Cfg} {K : PySem.W.Frag} {M : List Nat} {μ0 μ : List Addr} {G : Addr → Option Nat} {H0 H : Hp} {D : Ends} {i : Nat} {o ok : Bool} {env : Env} {st : Sto} {σ : St} {f : List WT.D → Option (List WT.D)} (how : c.ow = m.ow) (ho : o = true → m.ow i = true ∧ i ∈ M) (I : SI K c.ow c.Ok env st μ G σ H) (S : StepS M μ0 G H0 μ G H)
    (h : okS c K M rn μ0 G H0 D (chg i o ok env st f)) : ∃ a xs ys vs F, σ[i]? = some (some (.ref a)) ∧ H a = some (.lst vs) ∧ Reps K H μ xs vs F ∧ f xs = some ys ∧ (∀ b ∈ F, G b = none ∧ b ∉ μ ∧ c.Ok b) ∧
      ∀ vs' F', Reps K H μ ys vs' F' → (∀ b ∈ F', G b = none ∧ b ∉ μ ∧ c.Ok b) → (ok = true → F = [] → F' = []) → D.nx σ (upd H a (.lst vs')) := by
  unfold chg at h
  cases e1 : slot env i with
  | none => rw [e1] at h; exact h.elim
  | some d =>
    rw [e1] at h
    cases d with
    | lst xs =>
      simp only at h
      cases o with
      | false => exact h.elim
      | true =>
        rw [if_pos rfl] at h
        cases e2 : f xs with
        | none => rw [e2] at h; exact h.elim
        | some ys =>
          rw [e2] at h
          obtain ⟨h1, h2⟩ := ho rfl
          obtain ⟨a, vs, F, k1, k2, k3, k4, k5⟩ := I.chgOwn (ys := ys) (by rw [how]; exact h1) h2 e1
          refine ⟨a, xs, ys, vs, F, k1, k2, k3, e2, k4, fun vs' F' r hF _ => ?_⟩
          obtain ⟨J, S2⟩ := k5 vs' F' r hF
          exact h σ _ μ G J (S.trans S2)
    | ref j =>
      simp only at h
      cases ok with
      | false => exact h.elim
      | true =>
        rw [if_pos rfl] at h
        cases e2 : st[j]? with
        | none => rw [e2] at h; exact h.elim
        | some xs =>
          rw [e2] at h
          cases e3 : f xs with
          | none => rw [Option.bind_some, e3] at h; exact h.elim
          | some ys =>
            rw [Option.bind_some, e3] at h
            obtain ⟨a, vs, k1, k2, k3, k4⟩ := I.chgRef (M := M) (ys := ys) e1 e2
            refine ⟨a, xs, ys, vs, [], k1, k2, k3, e3, fun _ h => by simp at h, fun vs' F' r hF hf => ?_⟩
            have : F' = [] := hf rfl rfl
            subst this
            obtain ⟨J, S2⟩ := k4 vs' r
            exact h σ _ μ G J (S.trans S2)
    | _ => exact h.elim
theorem named {c : Cfg} {K : PySem.W.Frag} {M : List Nat} {μ : List Addr} {G : Addr → Option Nat} {H : Hp} {D : Ends} {i : Nat} {env : Env} {st : Sto} {σ : St} {r : RS} (I : SI K c.ow c.Ok env st μ G σ H) (h : okS c K M rn μ G H D (if (slot env i).isNone = true then .bad else r)) : ∃ v0, σ[i]? = some (some v0) ∧ okS c K M rn μ G H D r := by
  cases e1 : slot env i with
  | none => rw [e1] at h; exact h.elim
  | some d =>
    rw [e1] at h
    obtain ⟨v, t, F, e2, _⟩ := I.slot i d e1
    exact ⟨v, e2, h⟩
theorem own_tch {i : Nat} {o : Bool} (h : (!o || m.ow i) = true) : o = true → m.ow i = true ∧ i ∈ (if o = true then [i] else []) := fun e => by
  subst e
  exact ⟨by simpa using h, by simp⟩
theorem pln_or {c : Cfg} {K : PySem.W.Frag} {G : Addr → Option Nat} {p : Pv} {nl : Bool} {H H1 : Hp} {x : WT.D} {v : V} {t F μ1 : List Addr} (r : Held K c G p H x v t F μ1 H1) (gd : ∀ a, G a ≠ none → H a ≠ none) (h : (nl || plnP p) = true) (hd : (nl && !noL x) = false) : ∀ a ∈ t ++ F, G a = none ∧ a ∉ μ1 ∧ c.Ok a := by
  cases nl with
  | true =>
    have hn : noL x = true := by simpa using hd
    obtain ⟨rfl, rfl⟩ := r.rep.noL hn
    exact fun _ h => by simp at h
  | false =>
    obtain ⟨k1, k2⟩ := plnP_of (by simpa using h)
    exact r.pln gd k1 k2
theorem sm_setIx {i : Nat} {o nl : Bool} {ix : E} : SndS m g k rn (.setIx i o nl ix e) := by
  intro c sc X st hg xs h
  rw [cS] at h
  unfold cSetIx at h
  split at h
  · rename_i x px z sp y pos
    simp only [Bool.and_eq_true, decide_eq_true_eq] at h
    obtain ⟨⟨⟨⟨⟨⟨⟨n1, n2⟩, n3⟩, h1⟩, h2⟩, h3⟩, h4⟩, h5⟩ := h
    obtain ⟨d1, d2⟩ := plB_ok n3
    obtain ⟨p, hp, hk⟩ := pvK_of h4
    obtain ⟨q, hq, _⟩ := pvK_of h5
    have hz := mE_plain h1
    refine (ps_asg (snd e hp c sc X y hg xs.ok h2) (pg_sub (pe_var (i := i) (by rw [xs.ok.hN]; exact n1) (xs.ok.vis n2) d1 d2) (snd ix hq c sc X z hg xs.ok h1) set_list (fun v => ?_)) ?_ ?_ rfl).mono fun D σ H ⟨env, st, μ, G, I, hw⟩ => ?_
    · cases z <;> first | rfl | (cases hz; done)
    · cases y <;> rfl
    · cases y <;> rfl
    · rw [evS] at hw
      obtain ⟨v0, hv0, hw⟩ := named I hw
      refine TEv.ofS I hw fun x1 st1 v1 H1 μ1 t1 F1 I1 S1 r1 hw => ?_
      -- the name's list, then the index
      have go : TEv c X.K q (evE g ix) σ H1 fun kv H2 => ∀ v0, σ[i]? = some (some v0) → rSetL v0 kv v1 H2 fun H3 => D.nx σ H3 := by
        refine TEv.nxtS S1 I1 hw fun x2 st2 v2 H2 μ2 t2 F2 I2 S2 r2 hw v0 hv0 => ?_
        cases hd : (nl && !noL x1) with
        | true => rw [hd] at hw; exact hw.elim
        | false =>
          rw [hd, if_neg (by simp)] at hw
          have r1' := r1.step S2
          have pl := pln_or r1' I.gdom hk hd
          obtain ⟨a0, xs0, ys0, vs0, F0, k1, k2, k3, k4, k5, k6⟩ := chg_ok xs.ok.ow (own_tch h3) I2 (S1.trans S2).ss hw
          rw [k1] at hv0
          cases hv0
          cases x2 with
          | int kk =>
            obtain ⟨r2, po⟩ := r2
            cases r2
            obtain ⟨j0, e1, rfl⟩ := Option.map_eq_some_iff.mp (show (ixN xs0.length kk).map (fun j => xs0.set j x1) = some ys0 from k4)
            rw [k3.length] at e1
            obtain ⟨F3, r3, hF3⟩ := k3.set j0 r1'.rep
            refine ⟨a0, vs0, kk, j0, rfl, rfl, k2, e1, k6 _ F3 r3 (fun b hb => ?_) fun hn hF0 => ?_⟩
            · rcases hF3 b hb with hb | hb
              · exact k5 b hb
              · exact pl b hb
            · obtain ⟨z1, z2⟩ := r1'.rep.noL hn
              cases F3 with
              | nil => rfl
              | cons b F3 =>
                rcases hF3 b (by simp) with hb | hb
                · rw [hF0] at hb; simp at hb
                · rw [z1, z2] at hb; simp at hb
          | _ => cases k4
      obtain ⟨env2, st2, μ2, G2, I', hf⟩ := go
      exact ⟨v0, hv0, env2, st2, μ2, G2, I', hf.mono (fun x2 st3 _ z v2 H2 μ2 t2 F2 I2 S2 r2 po2 => z v2 H2 μ2 t2 F2 I2 S2 r2 po2 v0 hv0) fun _ _ _ z => z⟩
  · cases h
end
end WT
end

section
set_option Elab.async false
set_option linter.all false
set_option maxRecDepth 100000
set_option autoImplicit false
/-! K23: statements: append, augmented items, if, while, for; every statement. -/
namespace WT
open PySem PySem.Spec PyProof.Rows L2

theorem meth_desc_append : typeOf (.builtin "list.append") = pure (.type "method_descriptor") := by show builtinType _ = _; rw [builtinType_eq_fast]; kernel_rfl
section
variable {m : MC} {g : GE} {k : Nat} {rn : Bool} {a b d e : E}
theorem attr_plain {x : Str} {p : Pos} {n : Str} {env : PySem.Env} (w : Sem Value) : attributeBase (.Name x p) n env w = w := rfl
theorem listed {c : Cfg} {K : PySem.W.Frag} {M : List Nat} {μ : List Addr} {G : Addr → Option Nat} {H : Hp} {D : Ends} {i : Nat} {env : Env} {st : Sto} {σ : St} {r : RS} (I : SI K c.ow c.Ok env st μ G σ H) (h : okS c K M rn μ G H D (if (!isLs env st i) = true then .bad else r)) :
    ∃ a vs, σ[i]? = some (some (.ref a)) ∧ H a = some (.lst vs) ∧ okS c K M rn μ G H D r := by
  cases hl : isLs env st i with
  | false => rw [hl] at h; exact h.elim
  | true =>
    rw [hl] at h
    unfold isLs at hl
    cases e1 : slot env i with
    | none => rw [e1] at hl; cases hl
    | some d =>
      rw [e1] at hl
      obtain ⟨v, t, F, e2, r1, _⟩ := I.slot i d e1
      cases d with
      | lst xs =>
        cases r1 with
        | lst ha _ => exact ⟨_, _, e2, ha, h⟩
      | ref j =>
        cases r1 with
        | ref hj =>
          obtain ⟨a, vs, k1, k2, _⟩ := I.box j _ (List.getElem?_eq_getElem (by simpa using hl))
          rw [hj] at k1
          cases k1
          exact ⟨_, vs, e2, k2, h⟩
      | _ => cases hl
theorem sm_app {i : Nat} {o nl : Bool} : SndS m g k rn (.app i o nl e) := by
  intro c sc X st hg xs h
  rw [cS] at h
  unfold cApp at h
  split at h
  · rename_i x px f ap y cp pos
    simp only [Bool.and_eq_true, decide_eq_true_eq, beq_iff_eq] at h
    obtain ⟨⟨⟨⟨⟨⟨⟨rfl, n1⟩, n2⟩, n3⟩, h1⟩, h2⟩, h3⟩, h4⟩ := h
    obtain ⟨d1, d2⟩ := plB_ok n3
    obtain ⟨p, hp, hk⟩ := pvK_of h3
    have hy := mE_plain h1
    have hst := star_of hy ([] : List Expr) X.env
    refine (ps_expr (pe_bm F.plainAttrs_list F.slot_list_append meth_desc_append mt_append (pe_var (i := i) (by rw [xs.ok.hN]; exact n1) (xs.ok.vis n2) d1 d2) (pa_cons (snd e hp c sc X y hg xs.ok h1) pa_nil hst) rfl ?_ (by rw [h4]; simp) hst rfl) rfl).mono fun D σ H ⟨env, st, μ, G, I, hw⟩ => ?_
    · rw [hst]
      rfl
    · rw [evS] at hw
      obtain ⟨a0, vs0, hv0, ha0, hw⟩ := listed I hw
      refine ⟨_, hv0, .inl ⟨rfl, vs0, .inl (.inl ha0)⟩, ?_⟩
      refine TEv.ofS I hw fun x1 st1 v1 H1 μ1 t1 F1 I1 S1 r1 hw => ?_
      cases hd : (nl && !noL x1) with
      | true => rw [hd] at hw; exact hw.elim
      | false =>
        rw [hd, if_neg (by simp)] at hw
        have pl := pln_or r1 I.gdom hk hd
        obtain ⟨a1, xs0, ys0, vs1, F0, k1, k2, k3, k4, k5, k6⟩ := chg_ok xs.ok.ow (own_tch h2) I1 S1.ss hw
        rw [k1] at hv0
        cases hv0
        obtain ⟨hz, rfl⟩ := guardO_some k4
        obtain ⟨F3, r3, hF3⟩ := k3.append (.cons r1.rep .nil)
        refine ⟨_, vs1, v1, rfl, rfl, k2, by rw [← k3.length]; exact hz, ?_⟩
        refine k6 _ F3 r3 (fun b hb => ?_) fun hn hF0 => ?_
        · rcases hF3 b hb with hb | hb
          · exact k5 b hb
          · exact pl b (by simpa using hb)
        · obtain ⟨z1, z2⟩ := r1.rep.noL hn
          cases F3 with
          | nil => rfl
          | cons b F3 =>
            rcases hF3 b (by simp) with hb | hb
            · rw [hF0] at hb; simp at hb
            · rw [z1, z2] at hb; simp at hb
  · cases h
end
end WT
end

section
set_option Elab.async false
set_option linter.all false
set_option maxRecDepth 100000
set_option autoImplicit false
/-! K24: augmented items, if, while, for; every statement. -/
namespace WT
open PySem PySem.Spec PyProof.Rows L2

section
variable {m : MC} {g : GE} {k : Nat} {rn : Bool} {a b d e : E}
theorem SndSs.nil : SndSs m g k rn .nil := by
  intro c sc X st hg xs h
  rw [cSs] at h
  have : st = [] := List.isEmpty_iff.mp h
  subst this
  exact pss_nil.mono fun D σ H ⟨env, st, μ, G, I, hq⟩ => by
    rw [evSs] at hq
    exact hq σ H μ G I .refl
theorem SndSs.cons {s : S} {ss : Ss} (h1 : SndS m g k rn s) (h2 : SndSs m g k rn ss) : SndSs m g k rn (.cons s ss) := by
  intro c sc X st hg xs h
  rw [cSs] at h
  unfold cCons at h
  rw [Bool.or_eq_true] at h
  rcases h with h | h
  · cases s <;> first | (cases h; done) | skip
    exact pss_never.mono fun D σ H ⟨env, st, μ, G, I, hq⟩ => by
      rw [evSs, evS] at hq
      exact hq
  · cases hk : isKill s with
    | some i =>
      rw [hk, if_pos (by rfl)] at h
      have e : s = .kill i := by
        cases s <;> first | (cases hk; done) | skip
        cases hk
        rfl
      subst e
      refine (h2 c sc X st hg xs h).mono fun D σ H ⟨env, st, μ, G, I, hq⟩ => ?_
      rw [evSs, evS] at hq
      exact ⟨_, st, μ, G, I.kill (i := i), hq⟩
    | none =>
      rw [hk, if_neg (by simp)] at h
      cases st with
      | nil => cases h
      | cons x r =>
        rw [Bool.and_eq_true] at h
        refine (pss_cons (h1 c sc X x hg xs h.1) (h2 c sc X r hg xs h.2)).mono fun D σ H ⟨env, st, μ, G, I, hq⟩ => ?_
        rw [evSs] at hq
        rw [tchss] at hq
        refine ⟨env, st, μ, G, I, ?_⟩
        cases es : evS g s env st with
        | nx env' st' =>
          rw [es] at hq
          exact fun σ' H' μ' G' I' S' => ⟨env', st', μ', G', I', (hq.step (S'.weak fun i hi => List.mem_append_left _ hi)).less fun i hi => List.mem_append_right _ hi⟩
        | bk env' st' =>
          rw [es] at hq
          exact okS.less (D := D) (r := .bk env' st') hq fun i hi => List.mem_append_left _ hi
        | ct env' st' =>
          rw [es] at hq
          exact okS.less (D := D) (r := .ct env' st') hq fun i hi => List.mem_append_left _ hi
        | rt d st' =>
          rw [es] at hq
          exact okS.less (D := D) (r := .rt d st') hq fun i hi => List.mem_append_left _ hi
        | exn x d env' st' =>
          rw [es] at hq
          exact okS.less (D := D) (r := .exn x d env' st') hq fun i hi => List.mem_append_left _ hi
        | bad => rw [es] at hq; exact hq
theorem sm_ite {p q : Ss} (h1 : SndSs m g k rn p) (h2 : SndSs m g k rn q) : SndS m g k rn (.ite e p q) := by
  intro c sc X st hg xs h
  rw [cS] at h
  unfold cIf at h
  split at h
  · rename_i x pp qq pos
    simp only [Bool.and_eq_true] at h
    obtain ⟨⟨⟨⟨e1, e2⟩, e3⟩, e4⟩, e5⟩ := h
    obtain ⟨pv, hp, _⟩ := pvK_of e3
    refine (ps_if (sndt e hp c sc X x hg xs.ok e1 e2) (h1 c sc X pp hg xs e4) (h2 c sc X qq hg xs e5)).mono fun D σ H ⟨env, st, μ, G, I, hq⟩ => ?_
    rw [evS] at hq
    refine TTv.ofS I hq fun b st1 H1 μ1 I1 S1 hq => ?_
    have hq := hq.step S1.ss
    cases b with
    | true => exact ⟨env, st1, μ1, G, I1, hq.less fun i hi => by rw [tchs]; exact List.mem_append_left _ hi⟩
    | false => exact ⟨env, st1, μ1, G, I1, hq.less fun i hi => by rw [tchs]; exact List.mem_append_right _ hi⟩
  · cases h
/-- behind a loop's body -/
theorem okS.again {c : Cfg} {K : PySem.W.Frag} {M : List Nat} {μ : List Addr} {G : Addr → Option Nat} {H : Hp} {D : Ends} {r : RS} {N : St → Hp → Prop} {f : RS}
    (h : okS c K M rn μ G H D f) (h1 : ∀ env st, r = .nx env st → ∀ σ' H' μ' G', SI K c.ow c.Ok env st μ' G' σ' H' → StepS M μ G H μ' G' H' → N σ' H') (h2 : ∀ env st, r = .ct env st → ∀ σ' H' μ' G', SI K c.ow c.Ok env st μ' G' σ' H' → StepS M μ G H μ' G' H' → N σ' H')
    (h3 : ∀ env st, r = .bk env st → f = .nx env st) (h4 : (∀ env st, r ≠ .nx env st) → (∀ env st, r ≠ .ct env st) → (∀ env st, r ≠ .bk env st) → f = r) : okS c K M rn μ G H { D with nx := N, ct := N, bk := D.nx } r := by
  cases r with
  | nx env st => exact h1 env st rfl
  | ct env st => exact h2 env st rfl
  | bk env st =>
    have := h3 env st rfl
    subst this
    exact h
  | rt d st =>
    have := h4 (fun _ _ z => by cases z) (fun _ _ z => by cases z) (fun _ _ z => by cases z)
    subst this
    exact h
  | exn x d env st =>
    have := h4 (fun _ _ z => by cases z) (fun _ _ z => by cases z) (fun _ _ z => by cases z)
    subst this
    exact h
  | bad =>
    have := h4 (fun _ _ z => by cases z) (fun _ _ z => by cases z) (fun _ _ z => by cases z)
    subst this
    exact h
theorem sm_whl {p : Ss} (h1 : SndSs m g k rn p) : SndS m g k rn (.whl e p) := by
  intro c sc X st hg xs h
  rw [cS] at h
  unfold cWh at h
  split at h
  · rename_i x pp pos
    · simp only [Bool.and_eq_true] at h
      obtain ⟨⟨⟨e1, e2⟩, e3⟩, e4⟩ := h
      obtain ⟨pv, hp, _⟩ := pvK_of e3
      refine (ps_while xs.po (sndt e hp c sc X x hg xs.ok e1 e2) (h1 c sc X pp hg xs e4)).mono fun D σ H ⟨env, st, μ, G, I, hq⟩ => ?_
      rw [evS] at hq
      rw [tchs] at hq
      have hne : whD (evC g e) (evSs g p) env st ≠ .bad := fun z => by rw [z] at hq; exact hq
      obtain ⟨n, hn⟩ := whD_ne hne
      rw [whD_of hn] at hq
      refine ⟨fun n σ' H' => ∃ env' st' μ' G', SI X.K c.ow c.Ok env' st' μ' G' σ' H' ∧ okS c X.K (tchss p) rn μ' G' H' D (whN (evC g e) (evSs g p) n env' st'), ⟨n, env, st, μ, G, I, hq⟩, ?_⟩
      rintro n σ' H' ⟨env', st', μ', G', I', hq⟩
      cases n with
      | zero => exact hq.elim
      | succ n =>
        rw [whN] at hq
        refine TTv.ofS I' hq fun b st1 H1 μ1 I1 S1 hq => ?_
        have hq := hq.step S1.ss
        cases b with
        | false =>
          rw [if_neg (by simp)]
          exact hq σ' H1 μ1 G' I1 .refl
        | true =>
          rw [if_pos rfl]
          refine ⟨fun σ2 H2 => ∃ env2 st2 μ2 G2, SI X.K c.ow c.Ok env2 st2 μ2 G2 σ2 H2 ∧ okS c X.K (tchss p) rn μ2 G2 H2 D (whN (evC g e) (evSs g p) n env2 st2), fun σ2 H2 z => ⟨n, by omega, z⟩, env', st1, μ1, G', I1, ?_⟩
          refine okS.again hq (fun env2 st2 e2 σ2 H2 μ2 G2 I2 S2 => ⟨env2, st2, μ2, G2, I2, ?_⟩) (fun env2 st2 e2 σ2 H2 μ2 G2 I2 S2 => ⟨env2, st2, μ2, G2, I2, ?_⟩) (fun env2 st2 e2 => by simp only [e2]) fun n1 n2 n3 => ?_
          · simp only [e2] at hq
            exact hq.step S2
          · simp only [e2] at hq
            exact hq.step S2
          · cases er : evSs g p env' st1 with
            | nx env2 st2 => exact absurd er (n1 env2 st2)
            | ct env2 st2 => exact absurd er (n2 env2 st2)
            | bk env2 st2 => exact absurd er (n3 env2 st2)
            | _ => rfl
  · cases h
theorem sm_for {tg : Tg} {it : WT.It} {p : Ss} (h1 : SndSs m g k rn p) : SndS m g k rn (.for_ tg it p) := by
  intro c sc X st hg xs h
  rw [cS] at h
  unfold cFor at h
  split at h
  · rename_i t i pp pos
    · simp only [Bool.and_eq_true, List.all_eq_true, decide_eq_true_eq, Bool.not_eq_true'] at h
      obtain ⟨⟨⟨⟨⟨⟨e1, e2⟩, e3⟩, e4⟩, e5⟩, e6⟩, e7⟩ := h
      cases el : pvIt m it with
      | none => rw [el] at e4; cases e4
      | some l =>
        rw [el] at e4
        have : l = [] := List.isEmpty_iff.mp e4
        subst this
        have htup : itP it = true → ∃ elts kk tpos, t = .Tuple elts kk tpos := fun z => by
          cases tg with
          | name _ => cases it <;> simp [itP, itTg] at z e3
          | tup _ =>
            cases t with
            | Tuple e k p => exact ⟨e, k, p, rfl⟩
            | _ => simp [mTg] at e1
        refine (ps_for xs.po xs.ok.calm (sndi it el c sc X t i hg xs.ok e2 htup) (pg_st xs e1) (h1 c sc X pp hg xs e7) (foldedSet e2)).mono fun D σ H ⟨env, st, μ, G, I, hq⟩ => ?_
        rw [evS, tchs] at hq
        refine TIv.ofS I hq fun ds st1 J H1 μ1 L I1 S1 wk hL hq => ?_
        have hq := hq.step S1.ss
        refine ⟨fun i n σ' H' => n = ds.length - i ∧ i ≤ ds.length ∧ ∃ env' st' μ' G', SI X.K c.ow c.Ok env' st' μ' G' σ' H' ∧ StepS (tchss p) μ1 G H1 μ' G' H' ∧ okS c X.K (tchss p) rn μ' G' H' D (forD tg (evSs g p) (ds.drop i) env' st'), ⟨ds.length, by simp, Nat.zero_le _, env, st1, μ1, G, I1, .refl, hq⟩, ?_⟩
        rintro i n σ' H' ⟨rfl, hi, env', st', μ', G', I', S', hq⟩
        have sl : SL (· ∈ L) μ1 H1 μ' H' := S'.sl.weak fun a ha i hi e => (hL a ha).elim (fun z => by rw [z] at e; cases e) fun ⟨j, hj, z⟩ => by
          rw [z] at e
          cases e
          exact e6 _ hj hi
        have nL : ∀ a ∈ L, ∀ i ∈ tchss p, G a ≠ some i := fun a ha i hi e => (hL a ha).elim (fun z => by rw [z] at e; cases e) fun ⟨j, hj, z⟩ => by
          rw [z] at e
          cases e
          exact e6 _ hj hi
        by_cases hlt : i < ds.length
        · obtain ⟨go, yl⟩ := wk.go μ' H' i _ sl (List.getElem?_eq_getElem hlt)
          refine .inr ⟨go, fun σ2 H2 => ∃ env' st' μ' G', SI X.K c.ow c.Ok env' st' μ' G' σ2 H2 ∧ StepS (tchss p) μ1 G H1 μ' G' H2 ∧ okS c X.K (tchss p) rn μ' G' H2 D (forD tg (evSs g p) (ds.drop (i + 1)) env' st'), fun σ2 H2 z => ⟨ds.length - (i + 1), by omega, rfl, hlt, z⟩, fun v H2 hy => ?_⟩
          obtain ⟨n1, tv, Fv, rv, hv⟩ := yl v H2 hy
          rw [List.drop_eq_getElem_cons hlt, forD] at hq
          cases eb : bindTg tg ds[i] env' with
          | none => rw [eb] at hq; exact hq.elim
          | some env1 =>
            rw [eb] at hq
            simp only at hq
            have hq := hq.step (n1.step (μ := μ')).ss
            refine SI.tg (I'.new1 n1) (fun i hi => by rw [xs.ok.ow]; exact e5 i hi) eb rv (fun a ha => ?_) fun σ2 I2 hl hj => ?_
            · obtain ⟨z1, z2, z3⟩ := hv a ha
              refine ⟨?_, wk.mu sl a z1, z3⟩
              rw [S'.agr a (wk.there a z1).1 (nL a z1)]
              exact z2.elim id fun ⟨i, hi, _⟩ => by simp at hi
            · have S2 : StepS (tchss p) μ1 G H1 μ' G' H2 := S'.trans (n1.step (μ := μ')).ss
              refine ⟨env1, st', μ', G', I2, ?_⟩
              refine okS.again hq (fun env2 st2 e2 σ3 H3 μ3 G3 I3 S3 => ⟨env2, st2, μ3, G3, I3, S2.trans S3, ?_⟩) (fun env2 st2 e2 σ3 H3 μ3 G3 I3 S3 => ⟨env2, st2, μ3, G3, I3, S2.trans S3, ?_⟩) (fun env2 st2 e2 => by simp only [e2]) fun n1 n2 n3 => ?_
              · simp only [e2] at hq
                exact hq.step S3
              · simp only [e2] at hq
                exact hq.step S3
              · cases er : evSs g p env1 st' with
                | nx env2 st2 => exact absurd er (n1 env2 st2)
                | ct env2 st2 => exact absurd er (n2 env2 st2)
                | bk env2 st2 => exact absurd er (n3 env2 st2)
                | _ => rfl
        · refine .inl ?_
          have e : i = ds.length := by omega
          subst e
          rw [List.drop_length, forD] at hq
          exact ⟨wk.stop μ' H' _ sl (Nat.le_refl _), hq σ' H' μ' G' I' .refl⟩
  · cases h
end
end WT
end

section
set_option Elab.async false
set_option linter.all false
set_option maxRecDepth 100000
set_option autoImplicit false
/-! K24m: statements: extend, insert; d[k] = v. -/
namespace WT
open PySem PySem.Spec PyProof.Rows L2
theorem meth_desc_extend : typeOf (.builtin "list.extend") = pure (.type "method_descriptor") := by show builtinType _ = _; rw [builtinType_eq_fast]; kernel_rfl
theorem meth_desc_insert : typeOf (.builtin "list.insert") = pure (.type "method_descriptor") := by show builtinType _ = _; rw [builtinType_eq_fast]; kernel_rfl
section
variable {m : MC} {g : GE} {k : Nat} {rn : Bool} {a b d e : E}
theorem TAv.ofS {c : Cfg} {K : PySem.W.Frag} {M : List Nat} {μ : List Addr} {G : Addr → Option Nat} {H : Hp} {D : Ends} {env : Env} {st : Sto} {σ : St} {l : List Nat} {s : Env → Sto → WT.R (List WT.D)} {f : List WT.D → Sto → RS} {R' : List V → Hp → Prop} (I : SI K c.ow c.Ok env st μ G σ H) (h : okS c K M rn μ G H D ((s env st).toS env f))
    (kk : ∀ xs st1 vs H1 μ1 F, SI K c.ow c.Ok env st1 μ1 G σ H1 → Step μ H μ1 H1 → Reps K H1 μ1 xs vs F → okS c K M rn μ G H D (f xs st1) → R' vs H1) : TAv c K l s σ H R' :=
  ⟨env, st, μ, G, I, (h.toS I).mono (fun xs st1 _ hx vs H1 μ1 F I1 S1 r po => kk xs st1 vs H1 μ1 F I1 S1 r hx) fun _ _ _ hx => hx⟩
theorem few_of {m : MC} {sc : Scope} {es : Es} {y : Expr} {ys : List Expr} (h : mEs m es sc (y :: ys) = true) (hl : ys.length ≤ 1) (env : PySem.Env) (cp : Pos) :
    ((backTo cp (starEach (y :: ys) env)).all (fun x => !x.1) && (backToKw cp (keywordEach [] env)).all (fun x => x.1.isSome) && decide ((y :: ys).length + ([] : List Keyword).length + (if ([] : List Keyword).isEmpty then 0 else 1) < 30)) = true := by
  have h1 := mEs_star h env cp
  have e1 : (backTo cp (starEach (y :: ys) env)).all (fun x => !x.1) = true := by
    rw [List.all_eq_true]
    intro x hx
    have : ¬ x.1 = true := fun z => by
      rw [List.any_eq_false] at h1
      exact h1 x hx z
    simpa using this
  rw [e1]
  match ys, hl with
  | [], _ => rfl
  | [_], _ => rfl
theorem noL_flat {K : PySem.W.Frag} {H : Hp} {μ : List Addr} {v : WT.D} {x : V} {t F : List Addr} (r : Rep K H μ v x t F) (h : noL v = true) : Rep K H μ v x [] [] := by
  obtain ⟨h1, h2⟩ := r.noL h
  subst h1 h2
  exact r
theorem Reps.nil_of {K : PySem.W.Frag} {H : Hp} {μ : List Addr} {ds : List WT.D} {vs : List V} {F : List Addr} (r : Reps K H μ ds vs F) (h : noLs ds = true) : Reps K H μ ds vs [] := by
  have := r.noL h
  subst this
  exact r
theorem mthD_ext {xs ds ys : List WT.D} (h : mthD .extend xs ds = some ys) : ∃ zs, ds = [.lst zs] ∧ noLs zs = true ∧ xs.length + zs.length ≤ sizeLine ∧ ys = xs ++ zs := by
  match ds, h with
  | [.lst zs], h =>
    obtain ⟨⟨hn, hz⟩, e⟩ := guardO_some (show guardO _ (xs ++ zs) = some ys from h)
    exact ⟨zs, rfl, hn, hz, e.symm⟩
  | [], h => cases h
  | _ :: _ :: _, h => simp [mthD] at h
theorem mthD_ins {xs ds ys : List WT.D} (h : mthD .insert xs ds = some ys) : ∃ i d, ds = [.int i, d] ∧ noL d = true ∧ xs.length < sizeLine ∧ 0 ≤ i ∧ i < 2 ^ 63 ∧ ys = xs.take i.toNat ++ [d] ++ xs.drop i.toNat := by
  match ds, h with
  | [.int i, d], h =>
    obtain ⟨⟨hn, hz, h0, h1⟩, e⟩ := guardO_some (show guardO _ (xs.take i.toNat ++ [d] ++ xs.drop i.toNat) = some ys from h)
    exact ⟨i, d, rfl, hn, hz, h0, h1, e.symm⟩
  | [], h => cases h
  | [x], h => cases x <;> cases h
  | x :: _ :: _ :: _, h => cases x <;> cases h
theorem sm_mth {i : Nat} {o : Bool} {f : Mth} {es : Es} : SndS m g k rn (.mth i o f es) := by
  intro c sc X st hg xs h
  rw [cS] at h
  unfold cMth at h
  split at h
  · rename_i x px n ap y ys cp pos
    simp only [Bool.and_eq_true, decide_eq_true_eq, beq_iff_eq, Bool.not_eq_true', decide_eq_false_iff_not] at h
    obtain ⟨⟨⟨⟨⟨⟨⟨⟨⟨rfl, n1⟩, n2⟩, n3⟩, h1⟩, h2⟩, h3⟩, h4⟩, h5⟩, h6⟩ := h
    obtain ⟨d1, d2⟩ := plB_ok n3
    obtain ⟨l, hl⟩ := Option.isSome_iff_exists.mp h3
    have hst : starEach (y :: ys) X.env = (false, eval y X.env) :: starEach ys X.env := by
      cases es with
      | nil => simp [mEs] at h1
      | cons e es => rw [mEs, Bool.and_eq_true] at h1; exact star_of (mE_plain h1.1) ys X.env
    have hpl : (backTo cp (starEach ys X.env)).any (·.1) = false := by
      cases es with
      | nil => simp [mEs] at h1
      | cons e es => rw [mEs, Bool.and_eq_true] at h1; exact mEs_star h1.2 X.env cp
    have few := few_of h1 h5 X.env cp
    cases f with
    | reverse => exact absurd rfl h6
    | extend =>
      refine (ps_expr (pe_bm F.plainAttrs_list F.slot_list_extend meth_desc_extend mt_extend (pe_var (i := i) (by rw [xs.ok.hN]; exact n1) (xs.ok.vis n2) d1 d2) (snda es hl c sc X (y :: ys) hg xs.ok h1).1 rfl few (by rw [h4]; simp) hst hpl) rfl).mono fun D σ H ⟨env, st, μ, G, I, hw⟩ => ?_
      rw [evS] at hw
      obtain ⟨a0, vs0, hv0, ha0, hw⟩ := listed I hw
      refine ⟨_, hv0, .inl ⟨rfl, vs0, .inl (.inl ha0)⟩, ?_⟩
      refine TAv.ofS I hw fun ds st1 ws H1 μ1 F1 I1 S1 r1 hw => ?_
      obtain ⟨a1, xs0, ys0, vs1, F0, k1, k2, k3, k4, k5, k6⟩ := chg_ok xs.ok.ow (own_tch h2) I1 S1.ss hw
      rw [k1] at hv0
      cases hv0
      obtain ⟨zs, rfl, hn, hz, rfl⟩ := mthD_ext k4
      cases r1 with
      | cons r1 r2 =>
        cases r2
        cases r1
        rename_i b zv e1 rz
        have rz := rz.nil_of hn
        obtain ⟨F3, r3, hF3⟩ := k3.append rz
        refine ⟨_, b, vs1, zv, rfl, rfl, k2, e1, by rw [← k3.length, ← rz.length]; exact hz, ?_⟩
        refine k6 _ F3 r3 (fun b hb => ?_) fun _ hF0 => ?_
        · rcases hF3 b hb with hb | hb
          · exact k5 b hb
          · simp at hb
        · cases F3 with
          | nil => rfl
          | cons b F3 =>
            rcases hF3 b (by simp) with hb | hb
            · rw [hF0] at hb; simp at hb
            · simp at hb
    | insert =>
      refine (ps_expr (pe_bm F.plainAttrs_list F.slot_list_insert meth_desc_insert mt_insert (pe_var (i := i) (by rw [xs.ok.hN]; exact n1) (xs.ok.vis n2) d1 d2) (snda es hl c sc X (y :: ys) hg xs.ok h1).1 rfl few (by rw [h4]; simp) hst hpl) rfl).mono fun D σ H ⟨env, st, μ, G, I, hw⟩ => ?_
      rw [evS] at hw
      obtain ⟨a0, vs0, hv0, ha0, hw⟩ := listed I hw
      refine ⟨_, hv0, .inl ⟨rfl, vs0, .inl (.inl ha0)⟩, ?_⟩
      refine TAv.ofS I hw fun ds st1 ws H1 μ1 F1 I1 S1 r1 hw => ?_
      obtain ⟨a1, xs0, ys0, vs1, F0, k1, k2, k3, k4, k5, k6⟩ := chg_ok xs.ok.ow (own_tch h2) I1 S1.ss hw
      rw [k1] at hv0
      cases hv0
      obtain ⟨j, w, rfl, hn, hz, hj, hj2, rfl⟩ := mthD_ins k4
      cases r1 with
      | cons r1 r2 =>
        cases r1
        cases r2 with
        | cons r2 r3 =>
          cases r3
          have r2 := noL_flat r2 hn
          obtain ⟨Fa, ra, hFa⟩ := k3.take j.toNat
          obtain ⟨Fb, rb, hFb⟩ := k3.drop j.toNat
          obtain ⟨Fc, rc, hFc⟩ := ra.append (.cons r2 .nil)
          obtain ⟨F3, r3, hF3⟩ := rc.append rb
          have hall : ∀ b ∈ F3, b ∈ F0 := fun b hb => by
            rcases hF3 b hb with hb | hb
            · rcases hFc b hb with hb | hb
              · exact hFa b hb
              · simp at hb
            · exact hFb b hb
          refine ⟨_, vs1, j, _, rfl, rfl, k2, by rw [← k3.length]; exact hz, hj, hj2, ?_⟩
          refine k6 _ F3 r3 (fun b hb => k5 b (hall b hb)) fun _ hF0 => ?_
          cases F3 with
          | nil => rfl
          | cons b F3 =>
            have := hall b (by simp)
            rw [hF0] at this; simp at this
  · cases h
/-! ### dicts -/
theorem repP_map {k : Key} {v : V} : ∀ {kvs : List (Key × V)}, (kvs.map fun kv => if kv.1 = k then (kv.1, v) else kv).map (·.1) = kvs.map (·.1) ∧ (kvs.map fun kv => if kv.1 = k then (kv.1, v) else kv).map (·.2) = repP k v (kvs.map (·.1)) (kvs.map (·.2))
  | [] => ⟨rfl, rfl⟩
  | p :: kvs => by
    obtain ⟨h1, h2⟩ := repP_map (k := k) (v := v) (kvs := kvs)
    refine ⟨?_, ?_⟩
    · rw [List.map_cons, List.map_cons, h1, List.map_cons]
      split <;> rfl
    · rw [List.map_cons, List.map_cons, h2, List.map_cons, List.map_cons]
      show _ = (if p.1 = k then v else p.2) :: _
      split <;> rfl
theorem Reps.repP {κ : Type} [DecidableEq κ] {K : PySem.W.Frag} {H : Hp} {μ : List Addr} {k : κ} {d : WT.D} {v : V} (rd : Rep K H μ d v [] []) : ∀ {ks : List κ} {ds : List WT.D} {vs : List V}, Reps K H μ ds vs [] → Reps K H μ (WT.repP k d ks ds) (WT.repP k v ks vs) []
  | [], _, _, _ => by unfold WT.repP; exact .nil
  | k' :: ks, [], vs, r => by
    cases r
    exact .nil
  | k' :: ks, d' :: ds, vs, r => by
    generalize hF : ([] : List Addr) = F at r
    cases r with
    | @cons _ v' t F1 _ vs' G r rs =>
      have h1 : t = [] ∧ F1 = [] ∧ G = [] := by
        have := hF.symm
        simp only [List.append_eq_nil_iff] at this
        exact ⟨this.1.1, this.1.2, this.2⟩
      obtain ⟨rfl, rfl, rfl⟩ := h1
      have ih := Reps.repP (k := k) rd (ks := ks) rs
      unfold WT.repP
      split
      · exact .cons rd ih
      · exact .cons r ih
theorem slUpdK {L : Addr → Prop} {μ : List Addr} {H : Hp} {p : Addr} {xs ys : List (Key × V)} (h : H p = some (.dK xs)) (hL : ¬ L p) : SL L μ H μ (upd H p (.dK ys)) where
  keep := fun a o e n l => by rw [upd_ne (fun z => hL (by rw [← z]; exact l) : a ≠ p)]; exact e
  tups := fun a u e => by
    rw [upd_ne fun z => ?_]
    · exact e
    · rw [z, h] at e; cases e
  frzs := fun a o u e => by
    rw [upd_ne fun z => ?_]
    · exact e
    · rw [z, h] at e; cases e
  dom := fun a e => by
    by_cases q : a = p
    · rw [q, upd_same]; simp
    · rw [upd_ne q]; exact e
  ext := ⟨[], by simp, fun _ h => by simp at h⟩
theorem SI.chgDict {K : PySem.W.Frag} {ow : Nat → Bool} {Ok : Addr → Prop} {env : Env} {st : Sto} {μ : List Addr} {G : Addr → Option Nat} {σ : St} {H : Hp} {M : List Nat} (I : SI K ow Ok env st μ G σ H) {i : Nat} (hi : ow i = true) (hM : i ∈ M) {ks : List Key} {ds : List WT.D} (e : WT.slot env i = some (.dK ks ds)) :
    ∃ a kvs, σ[i]? = some (some (.ref a)) ∧ H a = some (.dK kvs) ∧ kvs.map (·.1) = ks ∧ Reps K H μ ds (kvs.map (·.2)) [] ∧ ∀ kvs' ks' ds', kvs'.map (·.1) = ks' → Reps K H μ ds' (kvs'.map (·.2)) [] →
      SI K ow Ok (env.set i (some (.dK ks' ds'))) st μ G σ (upd H a (.dK kvs')) ∧ StepS M μ G H μ G (upd H a (.dK kvs')) := by
  obtain ⟨v, t, F, e1, r, g1, g2, g3⟩ := I.slot i _ e
  cases r with
  | dK ha hk hv rs hF =>
    rename_i a kvs vs F
    subst hv
    subst hF
    have ga : G a = some i := by rw [g1 a (by simp), hi]; rfl
    have na : a ∉ μ := (g3 a (by simp)).1
    refine ⟨a, kvs, e1, ha, hk, rs, fun kvs' ks' ds' hk' rs' => ?_⟩
    have sl : SL (· ≠ a) μ H μ (upd H a (.dK kvs')) := slUpdK ha fun z => z rfl
    have ne : ∀ b, G b ≠ some i → b ≠ a := fun b hb z => hb (by rw [z]; exact ga)
    refine ⟨⟨fun j d ej => ?_, I.box.sl sl fun b hb ws eb => ?_, I.muLen, I.muNd, fun b hb => ⟨(I.gmu b hb).1, sl.dom b (I.gmu b hb).2⟩, fun b hb => sl.dom b (I.gdom b hb), fun b hb => I.okn b (sl.wasNone hb), by simpa using I.len⟩, slUpdK ha fun z => z i hM ga, fun _ _ _ => rfl⟩
    · rcases slot_set ej with ⟨rfl, hl, ej⟩ | ⟨hne, ej⟩
      · cases ej
        exact ⟨.ref a, [a], [], e1, .dK upd_same hk' rfl (rs'.flatMu sl) rfl, fun b hb => g1 b hb, fun b hb => by simp at hb, fun b hb => g3 b (by simpa using hb)⟩
      · obtain ⟨v', t', F2, e2, r2, k1, k2, k3⟩ := I.slot j d ej
        refine ⟨v', t', F2, e2, r2.sl sl fun b hb => ⟨(k3 b hb).1, ne b ?_⟩, k1, k2, k3⟩
        rcases List.mem_append.mp hb with hb | hb
        · rw [k1 b hb]
          split
          · exact fun z => hne (Option.some.inj z)
          · simp
        · rw [k2 b hb]; simp
    · rw [upd_ne fun z => na (by rw [← z]; exact hb)]
      exact eb
/-! ### dicts with tuples for keys -/
theorem slUpdX {L : Addr → Prop} {μ : List Addr} {H : Hp} {p : Addr} {φ ψ : Heap → Prop} (h : H p = some (.ext φ)) (hL : ¬ L p) : SL L μ H μ (upd H p (.ext ψ)) where
  keep := fun a o e n l => by rw [upd_ne (fun z => hL (by rw [← z]; exact l) : a ≠ p)]; exact e
  tups := fun a u e => by
    rw [upd_ne fun z => ?_]
    · exact e
    · rw [z, h] at e; cases e
  frzs := fun a o u e => by
    rw [upd_ne fun z => ?_]
    · exact e
    · rw [z, h] at e; cases e
  dom := fun a e => by
    by_cases q : a = p
    · rw [q, upd_same]; simp
    · rw [upd_ne q]; exact e
  ext := ⟨[], by simp, fun _ h => by simp at h⟩
theorem SI.chgDictX {K : PySem.W.Frag} {ow : Nat → Bool} {Ok : Addr → Prop} {env : Env} {st : Sto} {μ : List Addr} {G : Addr → Option Nat} {σ : St} {H : Hp} {M : List Nat} (I : SI K ow Ok env st μ G σ H) {i : Nat} (hi : ow i = true) (hM : i ∈ M) {ks : List NestedKey} {ds : List WT.D} (e : WT.slot env i = some (.dT ks ds)) :
    ∃ a xs vs, σ[i]? = some (some (.ref a)) ∧ H a = some (DTo a xs) ∧ (a == sysModules) = false ∧ xs.map (·.1) = ks ∧ NKx K H xs ∧ Vals vs (xs.map (·.2.2)) ∧ Reps K H μ ds vs [] ∧ ∀ xs' ks' vs' ds', xs'.length ≤ sizeLine → xs'.map (·.1) = ks' → NKx K H xs' → Vals vs' (xs'.map (·.2.2)) → Reps K H μ ds' vs' [] →
      SI K ow Ok (env.set i (some (.dT ks' ds'))) st μ G σ (upd H a (DTo a xs')) ∧ StepS M μ G H μ G (upd H a (DTo a xs')) := by
  obtain ⟨v, t, F, e1, r, g1, g2, g3⟩ := I.slot i _ e
  cases r with
  | dT ha hs hl hk nk hv rs hF =>
    rename_i a xs vs F
    subst hF
    have ga : G a = some i := by rw [g1 a (by simp), hi]; rfl
    have na : a ∉ μ := (g3 a (by simp)).1
    refine ⟨a, xs, vs, e1, ha, hs, hk, nk, hv, rs, fun xs' ks' vs' ds' hl' hk' nk' hv' rs' => ?_⟩
    have sl : SL (· ≠ a) μ H μ (upd H a (DTo a xs')) := slUpdX ha fun z => z rfl
    have ne : ∀ b, G b ≠ some i → b ≠ a := fun b hb z => hb (by rw [z]; exact ga)
    refine ⟨⟨fun j d ej => ?_, I.box.sl sl fun b hb ws eb => ?_, I.muLen, I.muNd, fun b hb => ⟨(I.gmu b hb).1, sl.dom b (I.gmu b hb).2⟩, fun b hb => sl.dom b (I.gdom b hb), fun b hb => I.okn b (sl.wasNone hb), by simpa using I.len⟩, slUpdX ha fun z => z i hM ga, fun _ _ _ => rfl⟩
    · rcases slot_set ej with ⟨rfl, hl, ej⟩ | ⟨hne, ej⟩
      · cases ej
        exact ⟨.ref a, [a], [], e1, .dT upd_same hs hl' hk' (nk'.mono fun _ _ z => SqT.sl z sl) hv' (rs'.flatMu sl) rfl, fun b hb => g1 b hb, fun b hb => by simp at hb, fun b hb => g3 b (by simpa using hb)⟩
      · obtain ⟨v', t', F2, e2, r2, k1, k2, k3⟩ := I.slot j d ej
        refine ⟨v', t', F2, e2, r2.sl sl fun b hb => ⟨(k3 b hb).1, ne b ?_⟩, k1, k2, k3⟩
        rcases List.mem_append.mp hb with hb | hb
        · rw [k1 b hb]
          split
          · exact fun z => hne (Option.some.inj z)
          · simp
        · rw [k2 b hb]; simp
    · rw [upd_ne fun z => na (by rw [← z]; exact hb)]
      exact eb
theorem putAt_fst {k : NestedKey} {u : Value} : ∀ {xs : List (NestedKey × Addr × Value)}, (xs.map (putAt k u)).map (·.1) = xs.map (·.1)
  | [] => rfl
  | p :: xs => by
    rw [List.map_cons, List.map_cons, putAt_fst, List.map_cons]
    unfold putAt
    split <;> rfl
theorem putAt_vals {k : NestedKey} {v : V} {u : Value} (rv : RelV v u) : ∀ {xs : List (NestedKey × Addr × Value)} {vs : List V}, Vals vs (xs.map (·.2.2)) → Vals (WT.repP k v (xs.map (·.1)) vs) ((xs.map (putAt k u)).map (·.2.2))
  | [], _, r => by cases r; exact .nil
  | p :: xs, _, r => by
    rw [List.map_cons] at r
    cases r with
    | cons r rs =>
      have ih := putAt_vals (k := k) rv rs
      rw [List.map_cons, List.map_cons, List.map_cons]
      unfold WT.repP putAt
      split
      · exact .cons rv ih
      · exact .cons r ih
theorem mem_storedH {xs : List (NestedKey × Addr × Value)} {k : NestedKey} {b : Addr} {u : Value} {x : NestedKey × Addr × Value} (h : x ∈ storedH xs k b u) : (∃ y ∈ xs, y.1 = x.1 ∧ y.2.1 = x.2.1) ∨ x = (k, b, u) := by
  unfold storedH at h
  split at h
  · obtain ⟨y, hy, rfl⟩ := List.mem_map.mp h
    refine .inl ⟨y, hy, ?_⟩
    unfold putAt
    split <;> exact ⟨rfl, rfl⟩
  · rcases List.mem_append.mp h with h | h
    · exact .inl ⟨x, h, rfl, rfl⟩
    · exact .inr (List.mem_singleton.mp h)
theorem NKx.stored {K : PySem.W.Frag} {H : Hp} {xs : List (NestedKey × Addr × Value)} (h : NKx K H xs) {k : NestedKey} {b : Addr} (nk : NK K H k (.ref b)) (n2 : noTx k = true) (n3 : k.depth ≤ 8) (u : Value) : NKx K H (storedH xs k b u) := fun x hx => by
  rcases mem_storedH hx with ⟨y, hy, e1, e2⟩ | rfl
  · rw [← e1, ← e2]; exact h y hy
  · exact ⟨nk, n2, n3⟩
/-- what a write does -/
def DPX (K : PySem.W.Frag) (H : Hp) (a : Addr) (y v : V) (Q : Hp → Prop) : Prop := ∃ xs k b, H a = some (DTo a xs) ∧ (a == sysModules) = false ∧ xs.length < sizeLine ∧ NKx K H xs ∧ y = .ref b ∧ NK K H k (.ref b) ∧ noTx k = true ∧ k.depth ≤ 8 ∧
  ∀ u, RelV v u → Q (upd H a (DTo a (storedH xs k b u)))
def sDPutX (K : PySem.W.Frag) (td ty tv : TE) : TS := fun D σ H => tv σ H fun v H1 => td σ H1 fun x H2 => ty σ H2 fun y H3 => ∃ a, x = .ref a ∧ ((∃ H4, DPut H3 a y v H4 ∧ D.nx σ H4) ∨ DPX K H3 a y v (D.nx σ))
theorem ps_dputX {X : Cx} {o i value : Expr} {pos pos' : Pos} {td ty tv : TE} (hu : X.A.units + 64 < cLine) (ho : PE X o td) (hi : PE X i ty) (hv : PE X value tv) (hs : swapsWith value (some (.Subscript o i pos')) pos.line X.env = pure false) :
    PS X (.Assign [.Subscript o i pos'] value pos) (sDPutX X.K td ty tv) := by
  refine ⟨fun pins s σ H D I h => ?_⟩
  refine wpAny_Assign_Subscript (thn (hv.run pins s σ H _ I h) fun r s1 ⟨v, H1, I1, rv, q1⟩ => thn (ho.run pins s1 σ H1 _ I1 q1) fun u s2 ⟨x, H2, I2, rx, q2⟩ => thn (hi.run pins s2 σ H2 _ I2 q2) fun iv s3 ⟨y, H3, I3, ry, a, ex, g⟩ => ?_) hs
  subst ex
  obtain rfl : u = Value.ref a := rx
  rcases g with ⟨H4, g, q3⟩ | ⟨xs, k, b, e, hs, hl, nk, ey, n1, n2, n3, q3⟩
  · exact d_setItem (by omega) I3 g ry rv fun s4 I4 => ⟨σ, H4, I4, q3⟩
  · subst ey
    obtain rfl : iv = Value.ref b := ry
    refine wpAny_setItem_heap (knd := nestedKind X.prog X.w) (k := k) (hsz := by omega) (nk_room hu) ⟨n1.is I3 rfl, n3⟩ (dto_of I3 e nk) fun h' dd hsb => ?_
    obtain ⟨q, es, ep, hq, k2, k3, k4, _, k5⟩ := dd
    refine ⟨σ, _, d_write (ob := DTo a (storedH xs k b r)) I3 (by rw [e]; exact True.intro) hsb ⟨q, hq⟩ ⟨⟨q, es, ep, hq, k2, k3, ?_, k5⟩, ⟨q, hq⟩, fun h1 h2 ⟨o, es, ep, e1, e2⟩ k => ⟨o, es, ep, k _ e1, e2⟩⟩, q3 r rv⟩
    rw [k4]
    refine List.map_congr_left fun x hx => ?_
    unfold entryOfKey
    show (⟨x.1.hash X.w, .ref x.2.1, x.2.2⟩ : DictEntry) = _
    rw [hash0_eq X.w x.1 (nk.stored n1 n2 n3 r x hx).2.1]
theorem sm_dput {i : Nat} {kx : E} : SndS m g k rn (.dput i kx e) := by
  intro c sc X st hg xs h
  rw [cS] at h
  unfold cDput at h
  split at h
  · rename_i x px z sp y pos
    simp only [Bool.and_eq_true, decide_eq_true_eq, Bool.not_eq_true'] at h
    obtain ⟨⟨⟨⟨⟨⟨⟨⟨n1, n2⟩, n3⟩, h1⟩, h2⟩, h3⟩, h4⟩, h5⟩, h6⟩ := h
    obtain ⟨d1, d2⟩ := plB_ok n3
    obtain ⟨p, hp, _⟩ := pvK_of h5
    obtain ⟨q, hq, _⟩ := pvK_of h6
    refine (ps_dputX (by have := xs.ok.room.units; omega) (pe_var (i := i) (by rw [xs.ok.hN]; exact n1) (xs.ok.vis n2) d1 d2) (snd kx hq c sc X z hg xs.ok h1) (snd e hp c sc X y hg xs.ok h2) (sw_plain h4)).mono fun D σ H ⟨env, st, μ, G, I, hw⟩ => ?_
    rw [evS] at hw
    obtain ⟨v0, hv0, hw⟩ := named I hw
    refine TEv.ofS I hw fun x1 st1 v1 H1 μ1 t1 F1 I1 S1 r1 hw => ?_
    refine ⟨v0, hv0, TEv.nxtS S1 I1 hw fun x2 st2 v2 H2 μ2 t2 F2 I2 S2 r2 hw => ?_⟩
    cases e1 : slot env i with
    | none => rw [e1] at hw; exact hw.elim
    | some d =>
      rw [e1, Option.bind_some] at hw
      cases e2 : dputD d x2 x1 with
      | none => rw [e2] at hw; exact hw.elim
      | some d' =>
        rw [e2] at hw
        cases d with
        | dK ks ds =>
          simp only [dputD] at e2
          split at e2
          · rename_i hn
            simp only [Bool.and_eq_true, decide_eq_true_eq] at hn
            obtain ⟨kk, e3, e4⟩ := Option.map_eq_some_iff.mp e2
            obtain rfl := r2.rep.key e3
            have rv := noL_flat (r1.rep.step S2 fun a ha => (r1.po.out a ha).1) hn.1
            obtain ⟨a, kvs, k1, k2, k3, k4, k5⟩ := I2.chgDict (M := [i]) (by rw [xs.ok.ow]; exact h3) (by simp) e1
            rw [k1] at hv0
            cases hv0
            have hlen : kvs.length < sizeLine := by
              have := hn.2
              rw [← k3, List.length_map] at this
              exact this
            refine ⟨a, rfl, .inl ⟨_, .k k2 hlen, ?_⟩⟩
            have hany : (kvs.any fun kv => decide (kv.1 = kk)) = (valP ks ds kk).isSome := by
              rw [valV_any]
              rcases Reps.valP kk k3 rfl k4 with ⟨d0, v0, t0, G0, a1, a2, _, _⟩ | ⟨a1, a2⟩
              · rw [a1, a2]; rfl
              · rw [a1, a2]; rfl
            unfold putK
            rw [hany]
            cases hs : (valP ks ds kk).isSome with
            | true =>
              rw [hs, if_pos rfl] at e4
              subst e4
              rw [if_pos rfl]
              obtain ⟨m1, m2⟩ := repP_map (k := kk) (v := v1) (kvs := kvs)
              obtain ⟨J, S3⟩ := k5 (kvs.map fun kv => if kv.1 = kk then (kv.1, v1) else kv) ks (repP kk x1 ks ds) (m1.trans k3) (by rw [m2, k3]; exact Reps.repP rv k4)
              exact hw σ _ μ2 G J ((S1.trans S2).ss.trans S3)
            | false =>
              rw [hs, if_neg (by simp)] at e4
              subst e4
              rw [if_neg (by simp)]
              obtain ⟨L, r3, hL⟩ := k4.append (.cons rv .nil)
              have hL0 : L = [] := by
                cases L with
                | nil => rfl
                | cons b L =>
                  rcases hL b (by simp) with hb | hb
                  · simp at hb
                  · simp at hb
              subst hL0
              obtain ⟨J, S3⟩ := k5 (kvs ++ [(kk, v1)]) (ks ++ [kk]) (ds ++ [x1]) (by rw [List.map_append, k3]; rfl) (by rw [List.map_append]; exact r3)
              exact hw σ _ μ2 G J ((S1.trans S2).ss.trans S3)
          · cases e2
        | dT ks ds =>
          simp only [dputD] at e2
          split at e2
          · rename_i hn
            simp only [Bool.and_eq_true, decide_eq_true_eq] at hn
            obtain ⟨kk, e3, e4⟩ := Option.map_eq_some_iff.mp e2
            obtain ⟨b, rfl, n1, n2, n3⟩ := r2.rep.keyT e3
            have rv := noL_flat (r1.rep.step S2 fun a ha => (r1.po.out a ha).1) hn.1
            obtain ⟨a, ys, ws, k1, k2, ks0, k3, nk, kv, k4, k5⟩ := I2.chgDictX (M := [i]) (by rw [xs.ok.ow]; exact h3) (by simp) e1
            rw [k1] at hv0
            cases hv0
            have hlen : ys.length < sizeLine := by
              have := hn.2
              rw [← k3, List.length_map] at this
              exact this
            refine ⟨a, rfl, .inr ⟨ys, kk, b, k2, ks0, hlen, nk, rfl, n1, n2, n3, fun u ru => ?_⟩⟩
            have nk' := nk.stored n1 n2 n3 u
            rcases Reps.valT kk k3 kv k4 with ⟨d0, v0, t0, G0, b0, u0, a1, a2, _⟩ | ⟨a1, a2⟩
            · rw [a1, Option.isSome_some, if_pos rfl] at e4
              subst e4
              rw [storedH_old a2] at nk' ⊢
              obtain ⟨J, S3⟩ := k5 (ys.map (putAt kk u)) ks (repP kk v1 ks ws) (repP kk x1 ks ds) (by rw [List.length_map]; omega) (by rw [putAt_fst]; exact k3) nk' (by rw [← k3]; exact putAt_vals ru kv) (Reps.repP rv k4)
              exact hw σ _ μ2 G J ((S1.trans S2).ss.trans S3)
            · rw [a1, Option.isSome_none, if_neg (by simp)] at e4
              subst e4
              rw [storedH_new a2] at nk' ⊢
              obtain ⟨L, r3, hL⟩ := k4.append (.cons rv .nil)
              have hL0 : L = [] := by
                cases L with
                | nil => rfl
                | cons b L =>
                  rcases hL b (by simp) with hb | hb
                  · simp at hb
                  · simp at hb
              subst hL0
              obtain ⟨J, S3⟩ := k5 (ys ++ [(kk, b, u)]) (ks ++ [kk]) (ws ++ [v1]) (ds ++ [x1]) (by rw [List.length_append]; simp; omega) (by rw [List.map_append, k3]; rfl) nk' (by rw [List.map_append]; exact Vals.append kv (.cons ru .nil)) r3
              exact hw σ _ μ2 G J ((S1.trans S2).ss.trans S3)
          · cases e2
        | _ => cases e2
  · cases h
end
end WT
end

section
set_option Elab.async false
set_option linter.all false
set_option maxRecDepth 100000
set_option autoImplicit false
/-! K24x: raise, list.pop, try. -/
namespace WT
open PySem PySem.Spec PyProof.Rows L2
theorem meth_desc_pop : typeOf (.builtin "list.pop") = pure (.type "method_descriptor") := by show builtinType _ = _; rw [builtinType_eq_fast]; kernel_rfl
section
variable {m : MC} {g : GE} {k : Nat} {rn : Bool} {a b d e : E}
theorem sm_raise {y : Str} : SndS m g k rn (.raise_ y e) := by
  intro c sc X st hg xs h
  rw [cS] at h
  unfold cRaise at h
  split at h
  · rename_i x fp z cp pos
    simp only [Bool.and_eq_true, beq_iff_eq, decide_eq_true_eq] at h
    obtain ⟨⟨⟨⟨⟨rfl, h1⟩, h2⟩, h3⟩, h4⟩, h5⟩ := h
    obtain ⟨p, hp, _⟩ := pvK_of h5
    obtain ⟨hk, C, fI, fd, a1, a2, a3, a4, a5, a6, a7, a8⟩ := xs.ok.cls _ h3
    have hst := star_of (mE_plain h4) ([] : List Expr) X.env
    refine (ps_raise xs.ok.calm xs.ok.tk (pmk_oex (ds := []) (dvs := []) a3 a5 a6 a7 (xs.ok.room.mono hk) a8 .nil (passes_call xs.ok.tk fun _ _ _ _ h => h.elim) (xs.ok.gl h1) a2 (pa_cons (snd e hp c sc X z hg xs.ok h4) pa_nil hst) (plB_ok h2).1 hst rfl)).mono fun D σ H ⟨env, st, μ, G, I, hq⟩ => ?_
    rw [evS] at hq
    refine TEv.ofS I hq fun x1 st1 v1 H1 μ1 t1 F1 I1 S1 r1 hq => ?_
    refine ⟨(by decide : 1 ≤ 1000), fun q hn => ⟨q, C, v1, rfl, a3, a4, upd_same, fun dx hd ne => ⟨rfl, dx, [("value", v1)], upd_same, ?_, ?_, ?_⟩⟩⟩
    · rw [upd_ne ne, upd_same]
    · rw [upd_ne ne] at hd; exact hd
    · have hd1 : H1 dx = none := by rw [upd_ne ne] at hd; exact hd
      have e1 : upd (del (upd (upd (upd H1 q (exo q C none)) dx (exd dx [("value", v1)])) q (exo q C (some dx))) q) dx (.xd [("value", v1)]) = upd H1 dx (.xd [("value", v1)]) := by
        funext b
        by_cases hb : b = dx
        · rw [hb, upd_same, upd_same]
        · rw [upd_ne hb, upd_ne hb]
          by_cases hq : b = q
          · rw [hq, del_same, hn]
          · rw [del_ne hq, upd_ne hq, upd_ne hb, upd_ne hq]
      rw [e1]
      have sn := Step.new (μ := μ1) (o := .xd [("value", v1)]) hd1
      exact hq (.ref C) (some dx) σ _ μ1 G (I1.new hd1) (S1.trans sn).ss ⟨C, dx, v1, t1, F1, a1, rfl, rfl, upd_same, r1.rep.step sn fun a ha => (r1.po.out a ha).1, r1.po.out⟩
  · cases h
/-! ### an item is taken out -/
theorem Reps.erase {K : PySem.W.Frag} {H : Hp} {μ : List Addr} {ds : List WT.D} {vs : List V} {F : List Addr} (r : Reps K H μ ds vs F) (n : Nat) : ∃ L, Reps K H μ (ds.eraseIdx n) (vs.eraseIdx n) L ∧ ∀ a ∈ L, a ∈ F := by
  obtain ⟨L1, r1, h1⟩ := r.take n
  obtain ⟨L2, r2, h2⟩ := r.drop (n + 1)
  obtain ⟨L, r3, h3⟩ := r1.append r2
  rw [← List.eraseIdx_eq_take_drop_succ, ← List.eraseIdx_eq_take_drop_succ] at r3
  exact ⟨L, r3, fun a ha => (h3 a ha).elim (h1 a) (h2 a)⟩
theorem pop_ok {c : Cfg} {K : PySem.W.Frag} {M : List Nat} {μ0 μ : List Addr} {G : Addr → Option Nat} {H0 H : Hp} {D : Ends} {j : Nat} {o : Bool} {env : Env} {st : Sto} {σ : St} {x : WT.D} {f : WT.D → Env → Sto → RS} (hj : c.ow j = true) (hM : j ∈ M) (I : SI K c.ow c.Ok env st μ G σ H) (S : StepS M μ0 G H0 μ G H)
    (h : okS c K M rn μ0 G H0 D (popD j o x env st f)) : ∃ a ds i n y vs v t F env', x = .int i ∧ slot env j = some (.lst ds) ∧ σ[j]? = some (some (.ref a)) ∧ H a = some (.lst vs) ∧ -(2 ^ 63) ≤ i ∧ i < 2 ^ 63 ∧ seqIndex? i vs.length = some n ∧ vs[n]? = some v ∧ Rep K H μ y v t F ∧
      SI K c.ow c.Ok env' st μ G σ (upd H a (.lst (vs.eraseIdx n))) ∧ StepS M μ0 G H0 μ G (upd H a (.lst (vs.eraseIdx n))) ∧ okS c K M rn μ0 G H0 D (f y env' st) := by
  unfold popD at h
  cases e1 : slot env j with
  | none => rw [e1] at h; exact h.elim
  | some d =>
    rw [e1] at h
    cases d with
    | lst ds =>
      cases x with
      | int i =>
        simp only at h
        split at h
        · rename_i hb
          rw [Bool.and_eq_true, decide_eq_true_eq] at hb
          cases e2 : ixN ds.length i with
          | none => rw [e2] at h; exact h.elim
          | some n =>
            rw [e2] at h
            simp only at h
            cases e3 : ds[n]? with
            | none => rw [e3] at h; exact h.elim
            | some y =>
              rw [e3] at h
              simp only at h
              obtain ⟨a, vs, F, k1, k2, k3, k4, k5⟩ := I.chgOwn (M := M) (ys := ds.eraseIdx n) hj hM e1
              obtain ⟨v, t, F2, g1, g2, g3⟩ := k3.get e3
              obtain ⟨L, r3, hL⟩ := Reps.erase k3 n
              obtain ⟨J, S2⟩ := k5 _ L r3 fun b hb => k4 b (hL b hb)
              exact ⟨a, ds, i, n, y, vs, v, t, F2, _, rfl, rfl, k1, k2, hb.2.1, hb.2.2, by rw [← k3.length]; exact (ixN_seq e2).1, g1, g2, J, S.trans S2, h⟩
        · exact h.elim
      | _ => exact h.elim
    | _ => exact h.elim
theorem sm_popDrop {j : Nat} {o : Bool} : SndS m g k rn (.popDrop j o e) := by
  intro c sc X st hg xs h
  rw [cS] at h
  unfold cPopDrop at h
  split at h
  · rename_i z zp f2 ap2 y cp2 pos
    simp only [Bool.and_eq_true, decide_eq_true_eq, beq_iff_eq] at h
    obtain ⟨⟨⟨⟨⟨⟨⟨⟨rfl, n1⟩, n2⟩, n3⟩, h1⟩, rfl⟩, h2⟩, h3⟩, h4⟩ := h
    obtain ⟨d1, d2⟩ := plB_ok n3
    obtain ⟨p, hp, _⟩ := pvK_of h4
    have hst := star_of (mE_plain h1) ([] : List Expr) X.env
    refine (ps_expr (pe_bm F.plainAttrs_list F.slot_list_pop meth_desc_pop mt_popAt (pe_var (i := j) (by rw [xs.ok.hN]; exact n1) (xs.ok.vis n2) d1 d2) (pa_cons (snd e hp c sc X y hg xs.ok h1) pa_nil hst) rfl ?_ (by rw [h3]; simp) hst rfl) rfl).mono fun D σ H ⟨env, st, μ, G, I, hw⟩ => ?_
    · rw [hst]
      rfl
    · rw [evS] at hw
      obtain ⟨a0, vs0, hv0, ha0, hw⟩ := listed I hw
      refine ⟨_, hv0, .inl ⟨rfl, vs0, .inl (.inl ha0)⟩, ?_⟩
      refine TEv.ofS I hw fun x1 st1 v1 H1 μ1 t1 F1 I1 S1 r1 hw => ?_
      obtain ⟨a, ds, i, n, y, vs, v, t, F, env', rfl, q1, q2, q3, q4, q5, q6, q7, q8, J, S2, hw⟩ := pop_ok (by rw [xs.ok.ow]; exact h2) (show j ∈ tchs (.popDrop j true e) from by rw [tchs]; simp) I1 S1.ss hw
      rw [q2] at hv0
      cases hv0
      obtain ⟨r1, _⟩ := r1
      cases r1
      exact ⟨_, vs, i, n, v, rfl, rfl, q3, q4, q5, q6, q7, hw σ _ μ1 G J S2⟩
  · cases h
theorem sm_popApp {i j : Nat} {oi oj : Bool} : SndS m g k rn (.popApp i j oi oj e) := by
  intro c sc X st hg xs h
  rw [cS] at h
  unfold cPopApp at h
  split at h
  · rename_i x xp f ap z zp f2 ap2 y cp2 cp pos
    simp only [Bool.and_eq_true, decide_eq_true_eq, beq_iff_eq] at h
    obtain ⟨⟨⟨⟨⟨⟨⟨⟨⟨⟨⟨⟨⟨⟨⟨rfl, rfl⟩, l1⟩, l2⟩, l3⟩, n1⟩, n2⟩, n3⟩, h1⟩, h2⟩, rfl⟩, h4⟩, h5⟩, h6⟩, h7⟩, h8⟩ := h
    obtain ⟨d1, d2⟩ := plB_ok n3
    obtain ⟨d3, d4⟩ := plB_ok l3
    obtain ⟨p, hp, _⟩ := pvK_of h8
    have hst := star_of (mE_plain h1) ([] : List Expr) X.env
    have inner := pe_bm F.plainAttrs_list F.slot_list_pop meth_desc_pop mt_popAt (pe_var (X := X) (i := j) (pos := zp) (by rw [xs.ok.hN]; exact n1) (xs.ok.vis n2) d1 d2) (pa_cons (snd e hp c sc X y hg xs.ok h1) pa_nil hst) (apos := ap2) (cpos := cp2) rfl (by rw [hst]; rfl) (by rw [h7]; simp) hst rfl
    have hst2 : starEach [.Call (.Attribute (.Name z zp) "pop" ap2) [y] [] cp2] X.env = (false, eval (.Call (.Attribute (.Name z zp) "pop" ap2) [y] [] cp2) X.env) :: starEach [] X.env := rfl
    refine (ps_expr (pe_bm F.plainAttrs_list F.slot_list_append meth_desc_append mt_append (pe_var (i := i) (by rw [xs.ok.hN]; exact l1) (xs.ok.vis l2) d3 d4) (pa_cons inner pa_nil hst2) rfl (by rw [hst2]; rfl) (by rw [h6]; simp) hst2 rfl) rfl).mono fun D σ H ⟨env, st, μ, G, I, hw⟩ => ?_
    rw [evS] at hw
    obtain ⟨a0, vs0, hv0, ha0, hw⟩ := listed I hw
    refine ⟨_, hv0, .inl ⟨rfl, vs0, .inl (.inl ha0)⟩, ?_⟩
    obtain ⟨az, vz, hvz, haz, hw⟩ := listed I hw
    refine ⟨_, hvz, .inl ⟨rfl, vz, .inl (.inl haz)⟩, ?_⟩
    refine TEv.ofS I hw fun x1 st1 v1 H1 μ1 t1 F1 I1 S1 r1 hw => ?_
    obtain ⟨a, ds, n0, n, w, vs, v, t, F, env', rfl, q1, q2, q3, q4, q5, q6, q7, q8, J, S2, hw⟩ := pop_ok (by rw [xs.ok.ow]; exact h4) (show j ∈ tchs (.popApp i j oi true e) from by rw [tchs]; simp) I1 S1.ss hw
    rw [q2] at hvz
    cases hvz
    obtain ⟨r1, _⟩ := r1
    cases r1
    refine ⟨_, vs, n0, n, v, rfl, rfl, q3, q4, q5, q6, q7, ?_⟩
    split at hw
    · rename_i hn
      obtain ⟨rfl, rfl⟩ := q8.noL hn
      obtain ⟨a1, xs0, ys0, vs1, F0, k1, k2, k3, k4, k5, k6⟩ := chg_ok xs.ok.ow (fun z => ⟨by subst z; simpa using h2, by rw [tchs, z]; simp⟩) J S2 hw
      rw [k1] at hv0
      cases hv0
      obtain ⟨hz, rfl⟩ := guardO_some k4
      obtain ⟨F3, r3, hF3⟩ := k3.append (.cons (q8.sl (SL.upd (L := fun b => b ≠ az) (ys := vs.eraseIdx n) q3 fun z => z rfl) fun b hb => by simp at hb) .nil)
      refine ⟨_, vs1, v, rfl, rfl, k2, by rw [← k3.length]; exact hz, k6 _ F3 r3 (fun b hb => ?_) fun _ hF0 => ?_⟩
      · rcases hF3 b hb with hb | hb
        · exact k5 b hb
        · simp at hb
      · cases F3 with
        | nil => rfl
        | cons b F3 =>
          rcases hF3 b (by simp) with hb | hb
          · rw [hF0] at hb; simp at hb
          · simp at hb
    · exact hw.elim
  · cases h
end
end WT
end

section
set_option Elab.async false
set_option linter.all false
set_option maxRecDepth 100000
set_option autoImplicit false
/-! K24t: try. -/
namespace WT
open PySem PySem.Spec PyProof.Rows L2
/-- the error that a suite holds, and its value -/
def Er (K : PySem.W.Frag) (nm : Nat) (a : Addr) (cls : Value) (d : Option Addr) (σ : St) (H : Hp) (μ : List Addr) (dv : WT.D) (t F : List Addr) : Prop := ∃ (C dd : Addr) (v : V), cls = .ref C ∧ XfC K C ∧ PySem.W.findIn K (.ref C) "value" = some none ∧ σ[nm]? = some (some (.ref a)) ∧ d = some dd ∧ H dd = some (.xd [("value", v)]) ∧ Rep K H μ dv v t F ∧ ∀ b ∈ t ++ F, b ∉ μ
section
variable {m : MC} {X : Cx} {nm : Nat} {a : Addr} {oe : Obj} {cls : Value} {d : Option Addr} {pn : List (Addr × Obj)}
theorem xaM_plain {x : Xa} {z : Expr} (h : xaM m nm x z = true) : plainX z = true := by
  unfold xaM at h
  cases x <;> simp only at h <;> split at h <;> first | rfl | (cases h; done)
theorem pe_xa (hN : X.N = m.N) (hv : ∀ n, m.N[nm]? = some n → Vis X.env.scope n) (hz : Zc cls d oe) (hf : ∃ vs, oe.data = .fields vs) {x : Xa} {z : Expr} (h : xaM m nm x z = true) :
    PE (X.suite a ((a, oe) :: pn)) z (fun σ H Q => ∃ μ dv t F, Er X.K nm a cls d σ H μ dv t F ∧ ∀ v' t' F', Rep X.K H μ (evXa dv x) v' t' F' → (∀ b ∈ t' ++ F', b ∈ t ++ F) → Q v' H) := by
  unfold xaM at h
  cases x with
  | str s =>
    simp only at h
    split at h
    · have := eq_of_beq h
      subst this
      exact pe_str.mono fun σ H Q ⟨μ, dv, t, F, _, hq⟩ => hq _ [] [] (.str _) fun b hb => by simp at hb
    · cases h
  | bl s =>
    simp only at h
    split at h
    · have := eq_of_beq h
      subst this
      exact pe_bl.mono fun σ H Q ⟨μ, dv, t, F, _, hq⟩ => hq _ [] [] (.bl _) fun b hb => by simp at hb
    · cases h
  | non =>
    simp only at h
    split at h
    · exact pe_non.mono fun σ H Q ⟨μ, dv, t, F, _, hq⟩ => hq _ [] [] .non fun b hb => by simp at hb
    · cases h
  | val =>
    simp only at h
    split at h
    · rename_i n np f pos
      simp only [Bool.and_eq_true, beq_iff_eq, decide_eq_true_eq] at h
      obtain ⟨⟨rfl, h1⟩, h2⟩ := h
      obtain ⟨d1, d2⟩ := plB_ok h2
      refine (PE.ex (ι := { C : Addr // XfC X.K C ∧ PySem.W.findIn X.K (.ref C) "value" = some none }) fun C => pe_xf (d := d) C.2.1 C.2.2 hz hf (pe_var (X := X.suite a ((a, oe) :: pn)) (i := nm) (pos := np) (by show X.N[nm]? = some n; rw [hN]; exact h1) (hv n h1) d1 d2) rfl).mono fun σ H Q ⟨μ, dv, t, F, ⟨C, dd, v, e1, e2, e3, e4, e5, e6, e7, _⟩, hq⟩ => ?_
      refine ⟨⟨C, e2, e3⟩, .ref a, e4, rfl, e1, dd, _, v, e5, e6, by simp [List.lookup], hq v t F e7 fun b hb => hb⟩
    · cases h
theorem pa_xas (hN : X.N = m.N) (hv : ∀ n, m.N[nm]? = some n → Vis X.env.scope n) (hz : Zc cls d oe) (hf : ∃ vs, oe.data = .fields vs) : ∀ {xs : List Xa} {es : List Expr}, xasM m nm xs es = true →
    PA (X.suite a ((a, oe) :: pn)) es (fun σ H Q => ∃ μ dv t F, Er X.K nm a cls d σ H μ dv t F ∧ ∀ vs' F', Reps X.K H μ (xs.map (evXa dv)) vs' F' → (∀ b ∈ F', b ∈ t ++ F) → Q vs' H)
  | [], es, h => by
    unfold xasM at h
    have := List.isEmpty_iff.mp h
    subst this
    exact pa_nil.mono fun σ H Q ⟨μ, dv, t, F, _, hq⟩ => hq [] [] .nil fun b hb => by simp at hb
  | x :: xs, es, h => by
    unfold xasM at h
    cases es with
    | nil => cases h
    | cons e es =>
      simp only [Bool.and_eq_true] at h
      refine (pa_cons (pe_xa hN hv hz hf h.1) (pa_xas hN hv hz hf h.2) (star_of (xaM_plain h.1) _ _)).mono fun σ H Q ⟨μ, dv, t, F, er, hq⟩ => ?_
      refine ⟨μ, dv, t, F, er, fun v' t' F' r hb => ⟨μ, dv, t, F, er, fun vs' G' rs hg => hq _ _ (.cons r rs) fun b hm => ?_⟩⟩
      rcases List.mem_append.mp hm with hm | hm
      · exact hb b hm
      · exact hg b hm
theorem pe_xs (hN : X.N = m.N) (hv : ∀ n, m.N[nm]? = some n → Vis X.env.scope n) (hz : Zc cls d oe) (hf : ∃ vs, oe.data = .fields vs) {x : Xs} {z : Expr} (h : xsM m nm x z = true) :
    PE (X.suite a ((a, oe) :: pn)) z (fun σ H Q => ∃ μ dv t F, Er X.K nm a cls d σ H μ dv t F ∧ ∀ v' t' F' H', (H' = H ∨ ∃ p o, H p = none ∧ H' = upd H p o) → Rep X.K H' μ (evXs dv x) v' t' F' → (∀ b ∈ t' ++ F', b ∈ t ++ F ∨ H b = none) → (xsNew x = true → ∀ b ∈ t', H b = none ∧ b ∉ F') → Q v' H') := by
  unfold xsM at h
  cases x with
  | atom x =>
    refine (pe_xa hN hv hz hf h).mono fun σ H Q ⟨μ, dv, t, F, er, hq⟩ => ⟨μ, dv, t, F, er, fun v' t' F' r hb => hq v' t' F' H (.inl rfl) r (fun b hm => .inl (hb b hm)) fun hn b hm => ?_⟩
    cases x with
    | val => cases hn
    | _ => cases r; simp at hm
  | tup xs =>
    simp only at h
    split at h
    · rw [Bool.and_eq_true, decide_eq_true_eq] at h
      refine (pe_tup (pa_xas hN hv hz hf h.2)).mono fun σ H Q ⟨μ, dv, t, F, er, hq⟩ => ⟨μ, dv, t, F, er, fun vs F' rs hb => ⟨?_, fun p hp => ?_⟩⟩
      · have := rs.length
        rw [List.length_map] at this
        rw [← this, sizeLine_eq]
        omega
      · have sn := Step.new (μ := μ) (o := .tup vs) hp
        obtain ⟨_, _, _, _, _, _, _, _, _, _, nb⟩ := id er
        exact hq _ [] F' _ (.inr ⟨p, _, hp, rfl⟩) (.tup (.inl (.inl upd_same)) (rs.step sn fun b hm => nb b (hb b hm))) (fun b hm => .inl (hb b (by simpa using hm))) fun _ b hm => by simp at hm
    · cases h
  | lst xs =>
    simp only at h
    split at h
    · rw [Bool.and_eq_true, decide_eq_true_eq] at h
      refine (pe_lst (pa_xas hN hv hz hf h.2)).mono fun σ H Q ⟨μ, dv, t, F, er, hq⟩ => ⟨μ, dv, t, F, er, fun vs F' rs hb => ⟨?_, fun p hp => ?_⟩⟩
      · have := rs.length
        rw [List.length_map] at this
        rw [← this, sizeLine_eq]
        omega
      · have sn := Step.new (μ := μ) (o := .lst vs) hp
        obtain ⟨_, _, _, _, _, _, _, _, _, _, nb⟩ := id er
        refine hq _ [p] F' _ (.inr ⟨p, _, hp, rfl⟩) (.lst upd_same (rs.step sn fun b hm => nb b (hb b hm))) (fun b hm => ?_) fun _ b hm => ?_
        · rcases List.mem_append.mp hm with hm | hm
          · exact .inr (by rw [List.mem_singleton.mp hm]; exact hp)
          · exact .inl (hb b hm)
        · rw [List.mem_singleton.mp hm]
          exact ⟨hp, fun z => rs.there p z hp⟩
    · cases h
end
end WT
namespace WT
open PySem PySem.Spec PyProof.Rows L2
theorem _root_.L2.PSs.ex {ι : Type} {X : Cx} {b : List Stmt} {t : ι → TS} (h : ∀ i, PSs X b (t i)) : PSs X b fun D σ H => ∃ i, t i D σ H := ⟨fun pins s σ H D I ⟨i, q⟩ => (h i).run pins s σ H D I q⟩
section
variable {K : PySem.W.Frag} {ow : Nat → Bool} {Ok : Addr → Prop} {env : Env} {st : Sto} {μ : List Addr} {G G2 : Addr → Option Nat} {σ : St} {H : Hp}
/-- a name that is forgotten may hold anything -/
theorem SI.loose (I : SI K ow Ok env st μ G σ H) {i : Nat} {z : Option V} : SI K ow Ok (env.set i none) st μ G (σ.set i z) H := by
  refine ⟨fun j d e => ?_, I.box, I.muLen, I.muNd, I.gmu, I.gdom, I.okn, by simpa using I.len⟩
  rcases slot_set e with ⟨_, _, e⟩ | ⟨hne, e⟩
  · cases e
  · obtain ⟨v, t, F, e1, r⟩ := I.slot j d e
    exact ⟨v, t, F, by rw [List.getElem?_set_ne (Ne.symm hne)]; exact e1, r⟩
/-- without owners -/
theorem SI.reG (I : SI K ow Ok env st μ G σ H) (ho : ∀ i, i < env.length → ow i = false) (h : ∀ a, G2 a = none ∨ G2 a = G a) : SI K ow Ok env st μ G2 σ H := by
  have down : ∀ a, G a = none → G2 a = none := fun a z => (h a).elim id fun e => e.trans z
  refine ⟨fun j d e => ?_, I.box, I.muLen, I.muNd, fun a ha => ⟨down a (I.gmu a ha).1, (I.gmu a ha).2⟩, fun a ha => ?_, I.okn, I.len⟩
  · obtain ⟨v, t, F, e1, r, g1, g2, g3⟩ := I.slot j d e
    have hj : j < env.length := by
      unfold WT.slot at e
      cases q : env[j]? with
      | none => rw [q] at e; cases e
      | some z => exact (List.getElem?_eq_some_iff.mp q).1
    have h0 := ho j hj
    refine ⟨v, t, F, e1, r, fun a ha => ?_, fun a ha => down a (g2 a ha), g3⟩
    have := g1 a ha
    rw [h0, if_neg (by simp)] at this ⊢
    exact down a this
  · rcases h a with z | z
    · exact absurd z ha
    · exact I.gdom a (by rw [← z]; exact ha)
end
section
variable {m : MC} {g : GE} {k : Nat} {rn : Bool}
def tSu (K : PySem.W.Frag) (s : Sx) (nm : Nat) : SuR := fun a cls d D σ H => ∃ μ dv t F, Er K nm a cls d σ H μ dv t F ∧ match s with
  | .set j x => ∀ v' t' F' H', (H' = H ∨ ∃ p o, H p = none ∧ H' = upd H p o) → Rep K H' μ (evXs dv x) v' t' F' → (∀ b ∈ t' ++ F', b ∈ t ++ F ∨ H b = none) → D.nx (σ.set j (some v')) H'
  | .ret x => ∀ v' t' F' H', (H' = H ∨ ∃ p o, H p = none ∧ H' = upd H p o) → Rep K H' μ (evXs dv x) v' t' F' → (∀ b ∈ t' ++ F', b ∈ t ++ F ∨ H b = none) → (xsNew x = true → ∀ b ∈ t', H b = none ∧ b ∉ F') → D.rt v' H'
theorem xsM_nlc {nm : Nat} {x : Xs} {z : Expr} (h : xsM m nm x z = true) : isLC z = false := by
  unfold xsM at h
  cases x with
  | atom x =>
    have h : xaM m nm x z = true := h
    unfold xaM at h
    cases x <;> simp only at h <;> split at h <;> first | rfl | (cases h; done)
  | tup _ => simp only at h; split at h <;> first | rfl | (cases h; done)
  | lst _ => simp only at h; split at h <;> first | rfl | (cases h; done)
theorem suite_ok {c : Cfg} {sc : Scope} {X : Cx} (xs : XS m c k sc X) {s : Sx} {nm : Nat} {z : Stmt} (h : sxM m sc rn nm s z = true) (hv : ∀ n, m.N[nm]? = some n → Vis X.env.scope n) {a : Addr} {oe : Obj} {cls : Value} {d : Option Addr} {pn : List (Addr × Obj)} (hz : Zc cls d oe) (hf : ∃ vs, oe.data = .fields vs) :
    PSs (X.suite a ((a, oe) :: pn)) [z] (tSu X.K s nm a cls d) := by
  unfold sxM at h
  cases s with
  | set j x =>
    simp only at h
    split at h
    · rename_i y yp w pos
      simp only [Bool.and_eq_true, decide_eq_true_eq] at h
      obtain ⟨⟨h1, h2⟩, h3⟩ := h
      obtain ⟨n1, n2⟩ := nmC_of h1
      refine (pss_one (ps_set (X := X.suite a ((a, oe) :: pn)) (i := j) (by show X.N.Nodup; rw [xs.ok.hN]; exact xs.ok.nd) (by show X.N[j]? = _; rw [xs.ok.hN]; exact n1) (xs.ok.loc n2) (pe_xs xs.ok.hN hv hz hf h3) (sw_plain (xsM_nlc h3)) (.inl (xs.fn y)))).mono fun D σ H ⟨μ, dv, t, F, er, hq⟩ => ?_
      exact ⟨μ, dv, t, F, er, fun v' t' F' H' e r ho _ => hq v' t' F' H' e r ho⟩
    · cases h
  | ret x =>
    simp only at h
    split at h
    · rename_i w pos
      rw [Bool.and_eq_true] at h
      exact (pss_one (ps_ret (pe_xs xs.ok.hN hv hz hf h.1))).mono fun D σ H ⟨μ, dv, t, F, er, hq⟩ => ⟨μ, dv, t, F, er, hq⟩
    · cases h
theorem clauses_ok {c : Cfg} {sc : Scope} {X : Cx} (xs : XS m c k sc X) : ∀ {cs : List Cls} {hs : List ExceptHandler}, clsM m sc rn cs hs = true →
    ClsAs X hs (cs.map fun q => (Value.ref ((c.CA q.cls).getD 0), q.nm, tSu X.K q.body q.nm)) ∧ ∀ q ∈ cs, (∃ C, c.CA q.cls = some C) ∧ q.all = (q.cls == m.base) ∧ (rn = true → ∀ x, q.body = .ret x → xsNew x = true) ∧ (∀ j x, q.body = .set j x → j ≠ q.nm)
  | [], hs, h => by
    unfold clsM at h
    have := List.isEmpty_iff.mp h
    subst this
    exact ⟨.nil, fun _ h => by simp at h⟩
  | q :: cs, hs, h => by
    unfold clsM at h
    cases hs with
    | nil => cases h
    | cons z hs =>
      simp only [Bool.and_eq_true] at h
      obtain ⟨h1, h2⟩ := h
      obtain ⟨r1, r2⟩ := clauses_ok xs h2
      unfold clM at h1
      split at h1
      · rename_i x xp n s pos
        simp only [Bool.and_eq_true, beq_iff_eq, decide_eq_true_eq] at h1
        obtain ⟨⟨⟨⟨⟨⟨⟨⟨e1, e2⟩, e3⟩, e4⟩, e5⟩, e6⟩, e7⟩, e8⟩, e9⟩ := h1
        subst e1
        obtain ⟨_, C, _, _, a1, a2, _⟩ := xs.ok.cls _ e4
        have hl : X.env.kindOf n = some .local := by
          show X.env.scope.names.lookup n = _
          rw [xs.ok.sc]
          exact lclB_of e7
        refine ⟨.cons (by rw [xs.ok.hN]; exact e6) hl ⟨xs.ok.gl e2, (plB_ok e3).1, .inl (by rw [a1]; exact a2)⟩ (fun a oe cls d pn hz hf => suite_ok xs e9 (fun n' hn => .inl (by rw [e6] at hn; cases hn; exact hl)) hz hf) r1, fun q' hq => ?_⟩
        rcases List.mem_cons.mp hq with rfl | hq
        · refine ⟨⟨C, a1⟩, e5, fun hr x hx => ?_, fun j x hx => ?_⟩
          · unfold sxM at e9
            rw [hx] at e9
            simp only at e9
            split at e9
            · rw [Bool.and_eq_true, hr] at e9
              simpa using e9.2
            · cases e9
          · unfold sxM at e9
            rw [hx] at e9
            simp only at e9
            split at e9
            · simp only [Bool.and_eq_true, decide_eq_true_eq] at e9
              exact e9.1.2
            · cases e9
        · exact r2 q' hq
      · cases h1
end
end WT
end

section
set_option Elab.async false
set_option linter.all false
set_option maxRecDepth 100000
set_option autoImplicit false
/-! K24u: try, the whole statement. -/
namespace WT
open PySem PySem.Spec PyProof.Rows L2
section
variable {m : MC} {g : GE} {k : Nat} {rn : Bool}
theorem noOwn_lt (h : noOwn m = true) {n : Nat} (hn : n ≤ m.N.length) {i : Nat} (hi : i < n) : m.ow i = false := by
  unfold noOwn at h
  rw [List.all_eq_true] at h
  simpa using h i (List.mem_range.mpr (by omega))
theorem set_twice {α : Type} (l : List α) {i j : Nat} (h : j ≠ i) (a b c : α) : ((l.set i a).set j b).set i c = (l.set j b).set i c := by
  rw [List.set_comm _ _ h, List.set_set]
  exact (List.set_comm _ _ h.symm).symm ▸ (List.set_comm _ _ h) ▸ rfl
theorem catch_ok {c : Cfg} {K : PySem.W.Frag} {M : List Nat} {μ μ' : List Addr} {G G' : Addr → Option Nat} {H H' : Hp} {D : Ends} {n : Nat} {x : Str} {d : WT.D} {env1 : Env} {st1 : Sto} {σ' : St} {cls : Value} {dd : Option Addr} (how : ∀ i, i < n → c.ow i = false) (ex : ExmOk K c.CA m.base)
    (I : SI K c.ow (fun a => c.Ok a ∧ G a = none) env1 st1 μ' G' σ' H') (S : StepS M μ G H μ' G' H') (xr : XR c.CA K H' μ' (fun a => c.Ok a ∧ G a = none) x d cls dd) :
    ∀ {cs : List Cls}, (∀ q ∈ cs, (∃ C, c.CA q.cls = some C) ∧ q.all = (q.cls == m.base) ∧ (rn = true → ∀ x, q.body = .ret x → xsNew x = true) ∧ (∀ j x, q.body = .set j x → j ≠ q.nm)) → okS c K M rn μ G H D (catchD n x d env1 st1 cs) →
      wCl K c.W D (cs.map fun q => (Value.ref ((c.CA q.cls).getD 0), q.nm, tSu K q.body q.nm)) cls dd σ' H'
  | [], _, hq => hq cls dd σ' H' μ' G' (I.less fun a h => h.1) S (xr.mono fun a h => h.1)
  | q :: cs, hcs, hq => by
    obtain ⟨⟨C', hC'⟩, hall, hret, hset⟩ := hcs q (by simp)
    have ih := catch_ok (D := D) (cs := cs) how ex I S xr (fun q hq => hcs q (by simp [hq]))
    obtain ⟨C, dx, v, t, F, a1, rfl, rfl, a4, r, ho⟩ := xr
    refine ⟨q.all || q.cls == x, by show PySem.W.exmOne K (.ref C) (.ref ((c.CA q.cls).getD 0)) = _; rw [hC', hall]; exact ex.exm _ _ _ _ a1 hC', ?_⟩
    rw [catchD] at hq
    split at hq
    · rename_i hb
      rw [if_pos hb]
      split at hq
      · rename_i hn
        obtain ⟨hn1, hn2⟩ := hn
        intro a na
        have hown : ∀ i, i < env1.length → c.ow i = false := fun i hi => how i (by omega)
        -- the owners, looked at anew
        let G2 : Addr → Option Nat := fun b => if H b = none then none else G' b
        have hG2 : ∀ b, G2 b = none ∨ G2 b = G' b := fun b => by
          show (if H b = none then none else G' b) = none ∨ _
          split
          · exact .inl rfl
          · rename_i z
            exact .inr (if_neg z)
        have J0 : SI K c.ow c.Ok env1 st1 μ' G2 σ' H' := (I.less fun a h => h.1).reG hown hG2
        have S0 : StepS M μ G H μ' G2 H' := ⟨S.sl, fun b hb hi => (if_neg hb).trans (S.agr b hb hi)⟩
        have g0 : ∀ b, G b = none → G2 b = none := fun b hb => by
          show (if H b = none then none else G' b) = none
          split
          · rfl
          · rename_i z
            rw [S.agr b z fun i _ => by rw [hb]; simp]
            exact hb
        have own : ∀ {t' F' : List Addr} {H2 : Hp}, (∀ b ∈ t' ++ F', b ∈ t ++ F ∨ H' b = none) → ∀ b ∈ t' ++ F', G2 b = none ∧ b ∉ μ' ∧ c.Ok b := fun {t' F' H2} h b hb => by
          rcases h b hb with hb | hb
          · obtain ⟨z1, z2, z3⟩ := ho b hb
            exact ⟨g0 b z3, z1, z2⟩
          · refine ⟨?_, fun z => (J0.gmu b z).2 hb, J0.okn b hb⟩
            cases e : G2 b with
            | none => rfl
            | some i => exact absurd hb (J0.gdom b (by rw [e]; simp))
        have er : Er K q.nm a (.ref C) (some dx) (σ'.set q.nm (some (.ref a))) H' μ' d t F :=
          ⟨C, dx, v, rfl, (ex.xf x C a1).1, (ex.xf x C a1).2, by rw [List.getElem?_set_self (Nat.lt_of_lt_of_le (by omega) J0.len)], rfl, a4, r, fun b hb => (ho b hb).1⟩
        refine ⟨μ', d, t, F, er, ?_⟩
        have new : ∀ {H2 : Hp}, (H2 = H' ∨ ∃ p o, H' p = none ∧ H2 = upd H' p o) → SI K c.ow c.Ok env1 st1 μ' G2 σ' H2 ∧ StepS M μ G H μ' G2 H2 := fun {H2} e => by
          rcases e with rfl | ⟨p, o, hp, rfl⟩
          · exact ⟨J0, S0⟩
          · exact ⟨J0.new hp, S0.trans (Step.new hp).ss⟩
        cases eb : q.body with
        | set j xx =>
          rw [eb] at hq
          simp only at hq ⊢
          intro v' t' F' H2 e r' hb'
          have hj := hset j xx eb
          obtain ⟨J1, S1⟩ := new e
          have J2 := (J1.loose (i := q.nm) (z := some (.ref a))).put (i := j) (x := evXs d xx) (v := v') (t := t') (F := F')
          by_cases hjn : j < n
          · have J3 := (J2 (how j hjn) r' (own (H2 := H2) hb')).loose (i := q.nm) (z := none)
            rw [set_twice _ hj] at J3
            exact hq _ H2 μ' G2 J3 S1
          · have ej : env1.set j (some (evXs d xx)) = env1 := List.set_eq_of_length_le (by omega)
            rw [ej] at hq
            have J3 := J1.loose (i := q.nm) (z := some (.ref a))
            have J4 : SI K c.ow c.Ok (env1.set q.nm none) st1 μ' G2 ((σ'.set q.nm (some (.ref a))).set j (some v')) H2 := by
              refine ⟨fun i z ez => ?_, J3.box, J3.muLen, J3.muNd, J3.gmu, J3.gdom, J3.okn, by simpa using J3.len⟩
              obtain ⟨w, tw, Fw, e1, rest⟩ := J3.slot i z ez
              have hi : i < (env1.set q.nm none).length := by
                unfold WT.slot at ez
                cases q0 : (env1.set q.nm none)[i]? with
                | none => rw [q0] at ez; cases ez
                | some z => exact (List.getElem?_eq_some_iff.mp q0).1
              rw [List.length_set] at hi
              exact ⟨w, tw, Fw, by rw [List.getElem?_set_ne (by omega)]; exact e1, rest⟩
            have J5 := J4.loose (i := q.nm) (z := none)
            rw [List.set_set] at J5
            exact hq _ H2 μ' G2 J5 S1
        | ret xx =>
          rw [eb] at hq
          simp only at hq ⊢
          intro v' t' F' H2 e r' hb' hnew
          obtain ⟨J1, S1⟩ := new e
          refine hq v' H2 μ' G2 t' F' J1.box J1.muLen J1.muNd S1 r' (fun b hb => (own (H2 := H2) hb' b hb).2) fun hr b hb => ?_
          obtain ⟨z1, z2⟩ := hnew (hret hr xx eb) b hb
          exact ⟨.inl (S.sl.wasNone z1), z2⟩
      · exact hq.elim
    · rename_i hb
      rw [if_neg hb]
      exact ih hq
theorem sm_try {n : Nat} {p : Ss} {cs : List Cls} (h1 : SndSs m g k rn p) : SndS m g k rn (.try_ n p cs) := by
  intro c sc X st hg xs h
  rw [cS] at h
  unfold cTry at h
  split at h
  · rename_i body hh hs pos
    simp only [Bool.and_eq_true, decide_eq_true_eq] at h
    obtain ⟨⟨⟨e0, e1⟩, e2⟩, e3⟩ := h
    obtain ⟨hC, hcs⟩ := clauses_ok xs e3
    have hN : X.N.Nodup := by rw [xs.ok.hN]; exact xs.ok.nd
    refine (ps_try_cls (out := c.W) (tb := fun W D σ H => ∃ o, TSv { c with Ok := o, W := W } X.K (tchss p) rn (evSs g p) D σ H) xs.stk xs.fr hN xs.ok.tk (fun W pn xe tk po => PSs.ex fun o => h1 { c with Ok := o, W := W } sc (X.tr pn xe) body hg ⟨?_, xs.fn, po, xs.kind, xs.stk, xs.fr⟩ e1) hC).mono fun D σ H ⟨env, st, μ, G, I, hq⟩ => ?_
    · exact { hN := xs.ok.hN, nd := xs.ok.nd, sc := xs.ok.sc, ow := xs.ok.ow, calm := xs.ok.calm, room := xs.ok.room, tk := tk, fns := xs.ok.fns, cons := xs.ok.cons, free := xs.ok.free, mth := xs.ok.mth, cls := xs.ok.cls, exm := xs.ok.exm }
    · rw [evS, tchs] at hq
      split at hq
      · rename_i hn
        have how : ∀ i, i < n → c.ow i = false := fun i hi => by rw [xs.ok.ow]; exact noOwn_lt e2 e0 hi
        have gnone : ∀ a, H a = none → G a = none := fun a ha => by
          cases e : G a with
          | none => rfl
          | some i => exact absurd ha (I.gdom a (by rw [e]; simp))
        refine ⟨fun a => c.Ok a ∧ G a = none, env, st, μ, G, ⟨fun i d e => ?_, I.box, I.muLen, I.muNd, I.gmu, I.gdom, fun a ha => ⟨I.okn a ha, gnone a ha⟩, I.len⟩, ?_⟩
        · obtain ⟨v, t, F, e1, r, g1, g2, g3⟩ := I.slot i d e
          have hi : i < env.length := by
            unfold WT.slot at e
            cases q : env[i]? with
            | none => rw [q] at e; cases e
            | some z => exact (List.getElem?_eq_some_iff.mp q).1
          refine ⟨v, t, F, e1, r, g1, g2, fun a ha => ⟨(g3 a ha).1, (g3 a ha).2, ?_⟩⟩
          rcases List.mem_append.mp ha with ha | ha
          · have := g1 a ha
            rw [how i (by omega), if_neg (by simp)] at this
            exact this
          · exact g2 a ha
        · cases e : evSs g p env st with
          | nx env1 st1 =>
            rw [e] at hq
            exact fun σ' H' μ' G' I' S' => hq σ' H' μ' G' (I'.less fun a h => h.1) S'
          | bk env1 st1 =>
            rw [e] at hq
            exact fun σ' H' μ' G' I' S' => hq σ' H' μ' G' (I'.less fun a h => h.1) S'
          | ct env1 st1 =>
            rw [e] at hq
            exact fun σ' H' μ' G' I' S' => hq σ' H' μ' G' (I'.less fun a h => h.1) S'
          | rt d st1 =>
            rw [e] at hq
            exact fun v H' μ' G' t F b l nd S' r po nw => hq v H' μ' G' t F b l nd S' r (fun a ha => ⟨(po a ha).1, (po a ha).2.1⟩) nw
          | bad => rw [e] at hq; exact hq.elim
          | exn x d env1 st1 =>
            rw [e] at hq
            simp only at hq
            exact fun cls dd σ' H' μ' G' I' S' xr => catch_ok (m := m) how xs.ok.exm I' S' xr hcs hq
      · exact hq.elim
  · cases h
end
end WT
end

section
set_option Elab.async false
set_option linter.all false
set_option maxRecDepth 100000
set_option autoImplicit false
/-! K25: augmented items; every statement. -/
namespace WT
open PySem PySem.Spec PyProof.Rows L2

section
variable {m : MC} {g : GE} {k : Nat} {rn : Bool} {e : E}
def rGetL : V → V → Hp → VK → Prop := fun x y H Q => ∃ p xs i v, x = .ref p ∧ y = .int i ∧ H p = some (.lst xs) ∧ atI xs i = some v ∧ Q v H
theorem get_list {X : Cx} : PGet X rGetL := by
  intro pins s σ H x y v u Q I rx ry h
  obtain ⟨p, xs, i, z, rfl, rfl, hq, he, q⟩ := h
  cases rx
  obtain ⟨t, rfl⟩ := ry
  obtain ⟨its, r, pl, hz⟩ := I.list (.inl (.inl hq))
  obtain ⟨j, h1, h2, h3, h4, h5⟩ := atI_get he
  obtain ⟨w, ew, rw'⟩ := r.get h2
  have hl := r.length
  have hn := line63
  have fin : EP X pins σ Q w s := ⟨z, H, I, rw', q⟩
  by_cases h0 : 0 ≤ i
  · have hj : i.toNat = j := by
      rw [seqIndex_of h0 h5] at h1
      exact Option.some.inj h1
    exact wpAny_getItem_list pl.isList h0 (by omega) (by rw [hj]; simpa using ew) fin
  · have hj : (i + (its.toArray.size : Int)).toNat = j := by
      rw [seqIndex_neg (by omega) h4] at h1
      rw [List.size_toArray, ← hl]
      exact Option.some.inj h1
    exact wpAny_getItem_list_neg pl.isList (by omega) (by rw [List.size_toArray] <;> omega) (by omega) (by rw [hj]; simpa using ew) fin
theorem sm_augIx {i : Nat} {o : Bool} {op : Operator} {ix : E} : SndS m g k rn (.augIx i o op ix e) := by
  intro c sc X st hg xs h
  rw [cS] at h
  unfold cAugIx at h
  split at h
  · rename_i x px z sp op' y pos
    simp only [Bool.and_eq_true, decide_eq_true_eq] at h
    obtain ⟨⟨⟨⟨⟨⟨⟨⟨⟨n1, n2⟩, n3⟩, h1⟩, h2⟩, rfl⟩, h6⟩, h3⟩, h4⟩, h5⟩ := h
    obtain ⟨d1, d2⟩ := plB_ok n3
    obtain ⟨p, hp, hk⟩ := pvK_of h4
    obtain ⟨q, hq, _⟩ := pvK_of h5
    have hz := mE_plain h1
    refine (ps_augS (pe_var (i := i) (by rw [xs.ok.hN]; exact n1) (xs.ok.vis n2) d1 d2) (snd ix hq c sc X z hg xs.ok h1) get_list (snd e hp c sc X y hg xs.ok h2) (ip_v h6) set_list (fun ov iv new => ?_)).mono fun D σ H ⟨env, st, μ, G, I, hw⟩ => ?_
    · cases z <;> first | rfl | (cases hz; done)
    · rw [evS] at hw
      have hw0 := hw
      obtain ⟨a0, vs0, hv0, ha0, hw⟩ := listed I hw
      refine ⟨_, hv0, TEv.ofS I hw fun x1 st1 v1 H1 μ1 t1 F1 I1 S1 r1 hw => ?_⟩
      cases eg : (slot env i).bind fun d => idxD st1 d x1 with
      | none => rw [eg] at hw; exact hw.elim
      | some xv =>
        rw [eg] at hw
        simp only at hw
        obtain ⟨ds, es, eg⟩ := Option.bind_eq_some_iff.mp eg
        -- the item that stands there
        have item : ∃ kk vs v t F, v1 = .int kk ∧ x1 = .int kk ∧ H1 a0 = some (.lst vs) ∧ atI vs kk = some v ∧ Rep X.K H1 μ1 xv v t F := by
          obtain ⟨vv, tt, FF, e2, rr, _⟩ := I1.slot i ds es
          rw [hv0] at e2
          cases e2
          cases ds with
          | lst zs =>
            cases rr with
            | lst ha rs =>
              cases x1 with
              | int kk =>
                obtain ⟨r1, _⟩ := r1
                cases r1
                obtain ⟨v, t, F, z1, z2, _⟩ := atI_rep rs eg
                exact ⟨kk, _, v, t, F, rfl, rfl, ha, z1, z2⟩
              | _ => cases eg
          | ref j =>
            cases rr with
            | ref hj =>
              cases x1 with
              | int kk =>
                obtain ⟨r1, _⟩ := r1
                cases r1
                obtain ⟨zs, z0, eg⟩ := Option.bind_eq_some_iff.mp (show (st1[j]?).bind (fun xs => ixD xs kk) = some xv from eg)
                obtain ⟨a, vs, k1, k2, rs⟩ := I1.box j zs z0
                rw [hj] at k1
                cases k1
                obtain ⟨v, t, F, z1, z2, _⟩ := atI_rep rs eg
                exact ⟨kk, _, v, t, F, rfl, rfl, k2, z1, z2⟩
              | _ => cases eg
          | _ =>
            exfalso
            obtain ⟨vv, tt, FF, e2, rr, _⟩ := I.slot i _ es
            revert hw0
            unfold isLs
            rw [es]
            exact fun z => z
        obtain ⟨kk, vs, v, t, F, rfl, rfl, k2, k3, k4⟩ := item
        refine ⟨a0, vs, kk, v, rfl, rfl, k2, k3, ?_⟩
        refine TEv.nxtS S1 I1 hw fun x2 st2 v2 H2 μ2 t2 F2 I2 S2 r2 hw => ?_
        obtain ⟨i0, rfl⟩ : ∃ i0, xv = .int i0 := by cases xv <;> first | exact ⟨_, rfl⟩ | exact hw.elim
        obtain ⟨j0, rfl⟩ : ∃ j0, x2 = .int j0 := by cases x2 <;> first | exact ⟨_, rfl⟩ | exact hw.elim
        cases hb : binD op (.int i0) (.int j0) with
        | none => rw [hb] at hw; exact hw.elim
        | some z =>
          rw [hb] at hw
          obtain ⟨z0, rfl⟩ : ∃ z0, z = .int z0 := by
            cases op with
            | Add => cases hb; exact ⟨_, rfl⟩
            | Sub => cases hb; exact ⟨_, rfl⟩
            | Mult =>
              have hb : mulD (.int i0) (.int j0) = some z := hb
              unfold mulD guardO at hb
              simp only at hb
              split at hb
              · cases hb; exact ⟨_, rfl⟩
              · cases hb
            | _ => cases h6
          cases k4
          obtain ⟨r2, po⟩ := r2
          cases r2
          refine ⟨i0, j0, z0, rfl, rfl, hb, ?_⟩
          simp only at hw
          obtain ⟨a1, xs0, ys0, vs1, F0, m1, m2, m3, m4, m5, m6⟩ := chg_ok xs.ok.ow (own_tch h3) I2 (S1.trans S2).ss hw
          rw [hv0] at m1
          cases m1
          obtain ⟨j1, e1, rfl⟩ := Option.map_eq_some_iff.mp (show (ixN xs0.length kk).map (fun j => xs0.set j (.int z0)) = some ys0 from m4)
          rw [m3.length] at e1
          obtain ⟨F3, r3, hF3⟩ := m3.set j1 (.int z0)
          refine ⟨a0, vs1, kk, j1, rfl, rfl, m2, e1, m6 _ F3 r3 (fun b hb => ?_) fun hn hF0 => ?_⟩
          · rcases hF3 b hb with hb | hb
            · exact m5 b hb
            · simp at hb
          · cases F3 with
            | nil => rfl
            | cons b F3 =>
              rcases hF3 b (by simp) with hb | hb
              · rw [hF0] at hb; simp at hb
              · simp at hb
  · cases h
theorem sm_no {s : S} (h : ∀ sc st, cS m sc rn s st = false) : SndS m g k rn s := fun c sc X st hg xs hh => by rw [h] at hh; cases hh
mutual
theorem sndS : ∀ s : S, SndS m g k rn s
  | .ret e => sm_ret
  | .retN => sm_retN
  | .set i kk e => sm_set
  | .setT tg e => sm_setT
  | .par i j ki kj a b => sm_par
  | .par3 i j l ki kj kl a b c => sm_par3
  | .move i j => sm_move
  | .aug i op e => sm_aug
  | .setIx i o nl ix e => sm_setIx
  | .augIx i o op ix e => sm_augIx
  | .app i o nl e => sm_app
  | .mth i o f es => sm_mth
  | .dput i kx e => sm_dput
  | .ite e a b => sm_ite (sndSs a) (sndSs b)
  | .whl e a => sm_whl (sndSs a)
  | .for_ tg it a => sm_for (sndSs a)
  | .brk => sm_brk
  | .cont => sm_cont
  | .pass => sm_pass
  | .drop e => sm_drop
  | .kill i => sm_no fun sc st => by rw [cS]
  | .raise_ c e => sm_raise
  | .popApp i j oi oj e => sm_popApp
  | .popDrop j o e => sm_popDrop
  | .try_ n b cs => sm_try (sndSs b)
  | .dead => sm_dead
theorem sndSs : ∀ s : Ss, SndSs m g k rn s
  | .nil => SndSs.nil
  | .cons s ss => SndSs.cons (sndS s) (sndSs ss)
end
end
end WT
end

section
set_option Elab.async false
set_option linter.all false
set_option maxRecDepth 100000
set_option autoImplicit false
/-! K26: a def keeps its promise. -/
namespace WT
open PySem PySem.Spec PyProof.Rows L2

theorem slot_args {ds : List D} {n i : Nat} {d : D} (h : slot (ds.map some ++ List.replicate n none) i = some d) : ds[i]? = some d := by
  unfold slot at h
  by_cases hi : i < ds.length
  · rw [List.getElem?_append_left (by simpa using hi), List.getElem?_map] at h
    cases e : ds[i]? with
    | none => rw [e] at h; cases h
    | some a => rw [e] at h; cases h; rfl
  · rw [List.getElem?_append_right (by simpa using hi), List.getElem?_replicate] at h
    split at h <;> cases h
theorem start_get {N : List Str} {vs : List V} {i : Nat} {v : V} (h : vs[i]? = some v) : (L2.start N vs)[i]? = some (some v) := by
  have hi : i < vs.length := (List.getElem?_eq_some_iff.mp h).1
  unfold L2.start
  rw [List.getElem?_append_left (by simpa using hi), List.getElem?_map, h]
  rfl
theorem StepS.step {μ μ' : List Addr} {G' : Addr → Option Nat} {M : List Nat} {H H' : Hp} (s : StepS M μ (fun _ => none) H μ' G' H') : Step μ H μ' H' :=
  ⟨fun a o h n => s.sl.keep a o h n fun i hi => by simp, s.sl.tups, s.sl.frzs, s.sl.dom, s.sl.ext⟩
/-- what the defs that are in reach promise -/
structure FnsOk (P : Program) (w : World) (K : PySem.W.Frag) (mg : Str → Option Value) (base : Heap) (CA : Str → Option Addr) (m : MC) (g : GE) (k : Nat) : Prop where
  fns : ∀ (i : Nat) (n : Str) (ps : List Str), m.fns[i]? = some (n, ps) → ∃ fi f fd, g.fns[i]? = some fi ∧ fi.ps = ps ∧ mg n = some (.ref f) ∧ PySem.W.keepIn K (.ref f) = true ∧
    FnOk P w K mg base (L2.CX P w) k f fd ps (spF K CA (m.rn i) fi.sem ps.length) ∧ KBd K fd ps (m.kw i)
  cons : ∀ (i : Nat) (x : Str), m.cons[i]? = some x → ∃ d v u, g.cons[i]? = some (x, d) ∧ mg x = some u ∧ RelV v u ∧ ∀ H μ, Rep K H μ d v [] []
  free : ∀ x ∈ freeNames, mg x = none
  mth : ∀ f ∈ m.mth, mg f.nm = some f.vl
  cls : ∀ y ∈ m.cls, 2 ≤ k ∧ ClsOk P w K mg base CA y
  exm : ExmOk K CA m.base
section
variable {P : Program} {w : World} {K : PySem.W.Frag} {mg : Str → Option Value} {base : Heap} {CA : Str → Option Addr} {m : MC} {g : GE} {k : Nat} {rn : Bool}
theorem fn_body {ps : List Str} {scope : Scope} {stmts : List Stmt} {body : Ss} (fo : FnsOk P w K mg base CA m g k) (S : FnScope m.N ps scope) (hpo : ∀ i, i < ps.length → m.ow i = false) (hc : cSs m scope rn body stmts = true)
    (qual : Str) (f : Addr) (cdv : Value) (A : Around) (outer : List PySem.Env) (s : Shared) (H : Hp) (vs : List V) (Q : VK) (E : XK) (hr : Room k (A.deeper (envOfC qual scope s.heap.objs.size f cdv))) (hsp : spF K CA rn (evF g m.N.length body) ps.length vs H Q E) :
    ∃ t, PSs (cxOf (L2.CX P w) P w K mg base m.N qual scope f cdv A outer s H E) stmts t ∧ t { nx := fun _ H' => Q .non H', rt := Q } (L2.start m.N vs) H := by
  obtain ⟨ds, st, μ, F, A', hl, reps, bx, ml, md, hF, fin⟩ := hsp
  let c : Cfg := { g := g, ow := m.ow, Ok := fun a => H a = none ∨ A' a, CA := CA, W := fun cls d _ H => E cls d H }
  have xs : XS m c k scope (cxOf (L2.CX P w) P w K mg base m.N qual scope f cdv A outer s H E) :=
    { ok := { hN := rfl, nd := S.nd, sc := rfl, ow := rfl, calm := rfl, room := hr, tk := takes_of rfl rfl rfl rfl, fns := fo.fns, cons := fo.cons, free := fo.free, mth := fo.mth, cls := fo.cls, exm := fo.exm }
      fn := fun _ => rfl
      po := passes_of rfl
      kind := S.kind
      stk := rfl
      fr := rfl }
  refine ⟨_, sndSs (g := g) body c scope _ stmts rfl xs hc, ds.map some ++ List.replicate (m.N.length - ds.length) none, st, μ, fun _ => none, ⟨fun i d e => ?_, bx, ml, md, fun a ha => ⟨rfl, ?_⟩, fun a ha => absurd rfl ha, fun a ha => .inl ha, ?_⟩, ?_⟩
  · have e1 := slot_args e
    obtain ⟨v, t, F', e2, r, hs⟩ := reps.get e1
    have hi : i < ps.length := by rw [← hl]; exact (List.getElem?_eq_some_iff.mp e1).1
    refine ⟨v, t, F', start_get e2, r, fun a ha => ?_, fun a ha => rfl, fun a ha => ⟨(hF a (hs a ha)).1, .inr (hF a (hs a ha)).2⟩⟩
    show none = if m.ow i = true then some i else none
    rw [hpo i hi]
    rfl
  · obtain ⟨j, hj, e⟩ := List.mem_iff_getElem.mp ha
    obtain ⟨a', vs', e1, e2, _⟩ := bx j _ (List.getElem?_eq_getElem (by rw [← ml]; exact hj))
    rw [List.getElem?_eq_getElem hj] at e1
    cases e1
    rw [← e, e2]
    simp
  · have hlv : ds.length = vs.length := reps.length
    unfold L2.start
    simp only [List.length_append, List.length_map, List.length_replicate, hlv]
    exact Nat.le_refl _
  · have fin2 := fin
    unfold evF at fin2
    cases er : evSs g body (ds.map some ++ List.replicate (m.N.length - ds.length) none) st with
    | nx env' st' =>
      rw [er] at fin2
      exact fun σ' H' μ' G' I' S' => fin2 .non H' μ' [] [] S'.step I'.box I'.muLen I'.muNd .non (fun _ h => by simp at h) fun _ _ h => by simp at h
    | rt d st' =>
      rw [er] at fin2
      exact fun v H' μ' G' t F' b l n S' r po nw => fin2 v H' μ' t F' S'.step b l n r po fun e a ha => ⟨(nw e a ha).1.elim id fun z => by
        cases q : H a with
        | none => rfl
        | some o => exact absurd (S'.agr a (by rw [q]; simp) fun i hi => by simp) z, (nw e a ha).2⟩
    | exn x d env' st' =>
      rw [er] at fin2
      exact fun cls dd σ' H' μ' G' I' S' xr => fin2 cls dd H' μ' S'.step I'.box I'.muLen I'.muNd xr
    | bk env' st' => rw [er] at fin2; exact fin2.elim
    | ct env' st' => rw [er] at fin2; exact fin2.elim
    | bad => rw [er] at fin2; exact fin2.elim
theorem spF_len {sem : List D → Sto → R D} {n : Nat} {vs : List V} {H : Hp} {Q : VK} {E : XK} (h : spF K CA rn sem n vs H Q E) : vs.length = n := by
  obtain ⟨ds, st, μ, F, A', hl, reps, _⟩ := h
  rw [← reps.length]
  exact hl
theorem fn_ok {x qual : Str} {params : Arguments} {ps : List Str} {scope : Scope} {stmts : List Stmt} {body : Ss} {dvs : List V} {kws : List (Str × V)} {f : Addr} {fd : FuncData} (fo : FnsOk P w K mg base CA m g k) (F : FunD K x qual params stmts scope dvs kws f fd)
    (S : FnScope m.N ps scope) (hpo : ∀ i, i < ps.length → m.ow i = false) (hc : cSs m scope rn body stmts = true) : FnOk P w K mg base (L2.CX P w) (k + 1) f fd ps (spF K CA rn (evF g m.N.length body) ps.length) :=
  F.ok S (fun vs H Q E h => spF_len h) fun cdv A outer s H vs Q E hr hsp => fn_body fo S hpo hc qual f cdv A outer s H vs Q E hr hsp
end
end WT
end

section
set_option Elab.async false
set_option linter.all false
set_option maxRecDepth 100000
set_option autoImplicit false
/-! K26i: how errors are made: the base class's __init__. -/
namespace WT
open PySem PySem.Spec PyProof.Rows L2

/-- the first def of a class -/
def clsInit (s : Stmt) : Stmt := match s with
  | .ClassDef _ _ _ (d :: _) _ _ _ _ _ _ _ => d
  | _ => s
def initB (b : List Stmt) : Bool := match b with
  | [.Expr (.Call (.Attribute (.Name x _) f p2) [.Name s1 _, .Name v1 _] [] p5) _, .Assign [.Attribute (.Name s2 _) f2 _] (.Name v2 _) _] =>
      x == ("ValueError" : Str) && f == ("__init__" : Str) && s1 == ("self" : Str) && v1 == ("value" : Str) && s2 == ("self" : Str) && f2 == ("value" : Str) && v2 == ("value" : Str) && p2.endLine == p5.line
  | _ => false
theorem ve_init {K : PySem.W.Frag} : PySem.W.findCls K (.type "ValueError") (.type "type") "__init__" = some (.val (.builtin "ValueError.__init__")) := by kernel_rfl
theorem ve_call {p1 p2 pos : Pos} {es : List Expr} {env : PySem.Env} (h : methodCallForm es.length (backTo pos (starEach es env)) (backToKw pos (keywordEach [] env)) = true) (hl : (p2.endLine == pos.line) = true) :
    eval (.Call (.Attribute (.Name "ValueError" p1) "__init__" p2) es [] pos) env = (do
      let ov ← eval (.Name "ValueError" p1) env
      standAt p2.atName
      let (f, first) ← holding [ov] (getMethod ov "__init__" (do return (← importBound (.Name "ValueError" p1) env).getD true))
      callWith pos f first (backTo pos (starEach es env)) (backToKw pos (keywordEach [] env))) := by
  rw [arm_eval_Call]
  have e : methodCallPos true (.Name "ValueError" p1) env p2 pos = pure pos := by unfold methodCallPos; simp [hl]
  unfold methodCall
  simp only [List.length_nil, Nat.add_zero, h, e]
  rfl
section
variable {P : Program} {w : World} {K : PySem.W.Frag} {mg : Str → Option Value} {base : Heap}
theorem init_ok {x qual : Str} {params : Arguments} {scope : Scope} {body : List Stmt} {f : Addr} {fd : FuncData} (F : FunD K x qual params body scope [] [] f fd) (S : FnScope ["self", "value"] ["self", "value"] scope) (hg : glB scope "ValueError" = true) (hb : initB body = true) (hm : mg "ValueError" = none) :
    FnOk P w K mg base (L2.CX P w) 1 f fd ["self", "value"] (spI K) := by
  refine F.ok S (fun vs H Q E h => ?_) (fun cdv A outer s H vs Q E hr h => ?_)
  · obtain ⟨a, C, v, rfl, _⟩ := h
    rfl
  · unfold initB at hb
    split at hb
    · rename_i x p1 f p2 s1 p3 v1 p4 p5 p6 s2 p7 f2 p8 v2 p9 p10
      simp only [Bool.and_eq_true, beq_iff_eq] at hb
      obtain ⟨⟨⟨⟨⟨⟨⟨rfl, rfl⟩, rfl⟩, rfl⟩, rfl⟩, rfl⟩, rfl⟩, hl⟩ := hb
      have gl : Gl (cxOf (L2.CX P w) P w K mg base ["self", "value"] qual scope f cdv A outer s H E) "ValueError" := by
        show scope.names.lookup ("ValueError" : Str) = _
        unfold glB at hg
        split at hg
        · assumption
        · cases hg
      have vis : ∀ y, y ∈ (["self", "value"] : List Str) → Vis (cxOf (L2.CX P w) P w K mg base ["self", "value"] qual scope f cdv A outer s H E).env.scope y := fun y hy => (S.par y hy).elim .inl fun z => .inr (.inl z)
      have e1 : ∀ pos, PE (cxOf (L2.CX P w) P w K mg base ["self", "value"] qual scope f cdv A outer s H E) (.Name "self" pos) (tVar 0) := fun pos => pe_var (i := 0) rfl (vis _ (by simp)) (by decide) (by decide)
      have e2 : ∀ pos, PE (cxOf (L2.CX P w) P w K mg base ["self", "value"] qual scope f cdv A outer s H E) (.Name "value" pos) (tVar 1) := fun pos => pe_var (i := 1) rfl (vis _ (by simp)) (by decide) (by decide)
      have hc := ve_call (p1 := p1) (p2 := p2) (pos := p5) (es := [.Name "self" p3, .Name "value" p4]) (env := (cxOf (L2.CX P w) P w K mg base ["self", "value"] qual scope f cdv A outer s H E).env) rfl (by rw [hl]; simp)
      refine ⟨_, pss_cons (ps_expr (pe_veinit gl hm ve_init (pa_cons (e1 p3) (pa_cons (e2 p4) pa_nil)) hc rfl rfl) rfl) (pss_one (ps_ost (e1 p7) (e2 p9) rfl)), ?_⟩
      obtain ⟨a, C, v, rfl, hT, hno, ha, hq⟩ := h
      exact ⟨_, rfl, _, rfl, a, C, [v], rfl, by simp, hT, ha, _, rfl, _, rfl, a, C, rfl, hT, hno, .inl ⟨ha, fun dx h1 h2 => hq dx h1 h2⟩⟩
    · cases hb
end
end WT
end

section
set_option Elab.async false
set_option linter.all false
set_option maxRecDepth 100000
set_option autoImplicit false
/-! K27: the module's facts, the law's end. -/
namespace WT
open PySem PySem.Spec PyProof.Rows L2

/-! ### constants of the module -/
mutual
def repB (K : PySem.W.Frag) : D → Value → Bool
  | .non, v => (match v with | .none => true | _ => false)
  | .bl b, v => (match v with | .bool c => b == c | _ => false)
  | .int i, v => (match v with | .int j _ => decide (i = j) | _ => false)
  | .str x, v => (match v with | .str y _ => decide (x = y) | _ => false)
  | .tup ds, v => (match v with
    | .ref a => (match K.lookup a with
      | some ⟨.type c, _, .seq its _, _⟩ => decide (c = "tuple") && (decide (its.size ≤ sizeLine) && repsB K ds its.toList)
      | _ => false)
    | _ => false)
  | .lst _, _ => false
  | .frz _, _ => false
  | .dK _ _, _ => false
  | .dT _ _, _ => false
  | .ref _, _ => false
  | .exc _ _, _ => false
def repsB (K : PySem.W.Frag) : List D → List Value → Bool
  | [], us => us.isEmpty
  | d :: ds, us => (match us with
    | [] => false
    | u :: us => repB K d u && repsB K ds us)
end
mutual
theorem repB_ok {K : PySem.W.Frag} : ∀ {d : D} {u : Value}, repB K d u = true → ∃ v, RelV v u ∧ ∀ H μ, Rep K H μ d v [] []
  | .non, u, h => by
    unfold repB at h
    split at h
    · exact ⟨.non, rfl, fun _ _ => .non⟩
    · cases h
  | .bl b, u, h => by
    unfold repB at h
    split at h
    · have := eq_of_beq h
      subst this
      exact ⟨.bl b, rfl, fun _ _ => .bl b⟩
    · cases h
  | .int i, u, h => by
    unfold repB at h
    split at h
    · have := of_decide_eq_true h
      subst this
      exact ⟨.int i, ⟨_, rfl⟩, fun _ _ => .int i⟩
    · cases h
  | .str x, u, h => by
    unfold repB at h
    split at h
    · have := of_decide_eq_true h
      subst this
      exact ⟨.str x, ⟨_, rfl⟩, fun _ _ => .str x⟩
    · cases h
  | .tup ds, u, h => by
    unfold repB at h
    split at h
    · rename_i a
      cases q : K.lookup a with
      | none => rw [q] at h; cases h
      | some o =>
        rw [q] at h
        obtain ⟨oc, od, dt, osl⟩ := o
        cases oc with
        | type c =>
          cases dt with
          | seq its n =>
            have h : (decide (c = "tuple") && (decide (its.size ≤ sizeLine) && repsB K ds its.toList)) = true := h
            rw [Bool.and_eq_true, Bool.and_eq_true, decide_eq_true_eq, decide_eq_true_eq] at h
            obtain ⟨h1, h2, h3⟩ := h
            obtain ⟨vs, r1, r2⟩ := repsB_ok h3
            exact ⟨.ref a, rfl, fun H μ => .tup (.inr ⟨_, its, n, q, congrArg Value.type h1, rfl, h2, r1⟩) (r2 H μ)⟩
          | _ => cases h
        | _ => cases dt <;> cases h
    · cases h
  | .lst _, u, h => by cases h
  | .frz _, u, h => by cases h
  | .dK _ _, u, h => by cases h
  | .dT _ _, u, h => by cases h
  | .ref _, u, h => by cases h
  | .exc _ _, u, h => by cases h
theorem repsB_ok {K : PySem.W.Frag} : ∀ {ds : List D} {us : List Value}, repsB K ds us = true → ∃ vs, Vals vs us ∧ ∀ H μ, Reps K H μ ds vs []
  | [], us, h => by
    unfold repsB at h
    have := List.isEmpty_iff.mp h
    subst this
    exact ⟨[], .nil, fun _ _ => .nil⟩
  | d :: ds, us, h => by
    unfold repsB at h
    split at h
    · cases h
    · rw [Bool.and_eq_true] at h
      obtain ⟨v, r1, r2⟩ := repB_ok h.1
      obtain ⟨vs, r3, r4⟩ := repsB_ok h.2
      exact ⟨v :: vs, .cons r1 r3, fun H μ => .cons (r2 H μ) (r4 H μ)⟩
end
/-! ### a Hook of one's own: any look at the fragment, and the defs -/
abbrev AlW : Type := Bool × List He.FnW
def obsW (chk : PySem.W.Frag → Bool) (fn : List He.DefD) (K : PySem.W.Frag) : AlW := (chk K && fn.all fun d => d.ok K, fn.map fun d => He.fnW K d.at_)
def valW (fn : List He.DefD) : AlW := (true, fn.map He.DefD.val)
def SaysW (chk : PySem.W.Frag → Bool) (fn : List He.DefD) (K : PySem.W.Frag) : Prop := obsW chk fn K = valW fn
def obsWG (n : Nat) (chk : PySem.W.Frag → Bool) (fn : List He.DefD) (g : Addr → Option Obj) : AlW := obsW chk fn (He.frG g (He.asD g n))
def hookW (n : Nat) (chk : PySem.W.Frag → Bool) (fn : List He.DefD) : PySem.W.Hook where
  α := AlW
  obs := fun s => obsWG n chk fn s.heap.get?
  val := fun _ => valW fn
  says := fun _ h => ∃ K : PySem.W.Frag, K.In h ∧ SaysW chk fn K
  of := fun _ _ e => ⟨_, He.frG_in, e⟩
  keeps := fun _ _ _ ⟨K, hK, c⟩ k => ⟨K, PySem.W.Frag.In.keeps hK k, c⟩
theorem obsWG_eq {n : Nat} {chk : PySem.W.Frag → Bool} {fn : List He.DefD} {g : Addr → Option Obj} {s : Shared} (h : ∀ a, g a = s.heap.get? a) : obsWG n chk fn g = (hookW n chk fn).obs s := by
  have e : g = s.heap.get? := funext h
  rw [e] <;> rfl
section
variable {chk : PySem.W.Frag → Bool} {fn : List He.DefD} {K : PySem.W.Frag}
theorem SaysW.look (c : SaysW chk fn K) : chk K = true := (Bool.and_eq_true_iff.mp (show (chk K && fn.all fun d => d.ok K) = true from congrArg (fun z : AlW => z.1) c)).1
theorem SaysW.def_ (c : SaysW chk fn K) (i : Nat) {d : He.DefD} (h : fn[i]? = some d) : ∃ fd, FunD K d.name d.qual d.params d.body d.scope (d.dvs K) (d.kws K) (He.fAd K d.at_) fd := by
  have c2 := (Bool.and_eq_true_iff.mp (show (chk K && fn.all fun d => d.ok K) = true from congrArg (fun z : AlW => z.1) c)).2
  have e : fn.map (fun d => He.fnW K d.at_) = fn.map He.DefD.val := congrArg (fun z : AlW => z.2) c
  have e2 : (fn.map fun d => He.fnW K d.at_)[i]? = (fn.map He.DefD.val)[i]? := by rw [e]
  rw [List.getElem?_map, List.getElem?_map, h] at e2
  exact He.DefD.funD (Option.some.inj e2) (List.all_eq_true.mp c2 d (List.mem_of_getElem? h))
end
/-- the facts that the defs lean on -/
def conB (K : PySem.W.Frag) (p : Str × D) : Bool := match PySem.W.nsIn K mainGlobals p.1 with
  | some (some v) => repB K p.2 v
  | _ => false
/-- a class of errors, as the written part tells it -/
def oexB (K : PySem.W.Frag) (C : Addr) : Bool := match K.lookup C with
  | some ⟨.type t, _, .cls cd, sl⟩ => (match cd.mro, sl.toList with
    | .ref C2 :: bm, [_, _, _, _, some (.builtin z), _] => decide (t = "type") && decide (C2 = C) && decide (z = "ValueError.__new__") && !cd.hasDel && cd.hasDict && HandSPX.refsVE bm
    | _, _ => false)
  | _ => false
theorem oexB_ok {K : PySem.W.Frag} {C : Addr} (h : oexB K C = true) : ∃ nm q N bs bm sn sub ab col dd k0 k1 k2 k3 k5, K.lookup C = some (excClassObj nm q C N bs bm true sn sub ab col dd k0 k1 k2 k3 k5 "ValueError.__new__") ∧ HandSPX.refsVE bm = true := by
  unfold oexB at h
  split at h
  · rename_i t dd cd sl e
    split at h
    · rename_i C2 bm k0 k1 k2 k3 z k5 e1 e2
      simp only [Bool.and_eq_true, Bool.not_eq_true', decide_eq_true_eq] at h
      obtain ⟨⟨⟨⟨⟨rfl, rfl⟩, rfl⟩, h1⟩, h2⟩, h3⟩ := h
      cases cd
      cases sl
      simp only at e1 e2 h1 h2
      subst e1 e2 h1 h2
      exact ⟨_, _, _, _, bm, _, _, _, _, dd, k0, k1, k2, k3, k5, e, h3⟩
    · cases h
  · cases h
/-- what must stand of a class; f is the base's __init__ -/
def clsB (K : PySem.W.Frag) (f : Addr) (x : Str) : Bool :=
  (He.Fa.glo x).ok K && oexB K (He.ga K x) && decide (PySem.W.findIn K (.ref (He.ga K x)) "__setattr__" = some (some (.builtin "object.__setattr__"))) && decide (PySem.W.subIn K (.ref (He.ga K x)) (.type "BaseException") = some true) &&
    decide (PySem.W.typeIn K (.ref (He.ga K x)) = some (.type "type")) && PySem.W.keepIn K (.ref (He.ga K x)) && xfB K (He.ga K x) && decide (PySem.W.findIn K (.ref (He.ga K x)) "value" = some none) &&
    decide (PySem.W.findIn K (.ref (He.ga K x)) "__init__" = some (some (.ref f))) && decide (PySem.W.typeIn K (.ref f) = some (.type "function"))
def initAd (K : PySem.W.Frag) (root : Str) : Addr := He.fAd K (root, some "__init__")
def factsC (cls : List Str) (root : Str) (K : PySem.W.Frag) : Bool :=
  (cls.all fun x => clsB K (initAd K root) x) && (cls.all fun x => cls.all fun y => (He.Fa.exm x y (y == root || y == x)).ok K) && (cls.isEmpty || (He.Fa.free "ValueError").ok K)
def facts (names : List Str) (cons : List (Str × D)) (mth : List Bi) (cls : List Str) (root : Str) (K : PySem.W.Frag) : Bool :=
  (names.all fun x => (He.Fa.glo x).ok K) && (cons.all fun p => conB K p) && (freeNames.all fun x => (He.Fa.free x).ok K) && (mth.all fun f => He.eqO (PySem.W.nsIn K mainGlobals f.nm) (some (some f.vl))) && factsC cls root K
/-- the address of a class -/
def caOf (K : PySem.W.Frag) (cls : List Str) : Str → Option Addr := fun x => if x ∈ cls then some (He.ga K x) else none
theorem caOf_some {K : PySem.W.Frag} {cls : List Str} {x : Str} {C : Addr} (h : caOf K cls x = some C) : x ∈ cls ∧ C = He.ga K x := by
  unfold caOf at h
  split at h
  · cases h; exact ⟨by assumption, rfl⟩
  · cases h
theorem factsC_exm {K : PySem.W.Frag} {cls : List Str} {root : Str} (h : factsC cls root K = true) : ExmOk K (caOf K cls) root := by
  unfold factsC at h
  simp only [Bool.and_eq_true, List.all_eq_true] at h
  refine ⟨fun x y C C' h1 h2 => ?_, fun x C h1 => ?_⟩
  · obtain ⟨a1, rfl⟩ := caOf_some h1
    obtain ⟨a2, rfl⟩ := caOf_some h2
    exact He.exm_ok (h.1.2 x a1 y a2)
  · obtain ⟨a1, rfl⟩ := caOf_some h1
    have z := h.1.1 x a1
    unfold clsB at z
    simp only [Bool.and_eq_true, decide_eq_true_eq] at z
    exact ⟨xfB_ok z.1.1.1.2, z.1.1.2⟩
theorem factsC_cls {P : Program} {w : World} {K : PySem.W.Frag} {mg : Str → Option Value} {base h : Heap} {cls : List Str} {root : Str} (X : K.In h) (G : h.Ns mainGlobals mg) (hf : factsC cls root K = true) {fd : FuncData}
    (F : (He.Fa.free "ValueError").ok K = true → FnOk P w K mg base (L2.CX P w) 1 (initAd K root) fd ["self", "value"] (spI K)) (hb : Binds K fd ["self", "value"] []) : ∀ y ∈ cls, ClsOk P w K mg base (caOf K cls) y := fun y hy => by
  unfold factsC at hf
  simp only [Bool.and_eq_true, List.all_eq_true, Bool.or_eq_true] at hf
  have z := hf.1.1 y hy
  have hv : (He.Fa.free "ValueError").ok K = true := hf.2.elim (fun z => by cases cls <;> first | (simp at hy; done) | cases z) id
  unfold clsB at z
  simp only [Bool.and_eq_true, decide_eq_true_eq] at z
  obtain ⟨⟨⟨⟨⟨⟨⟨⟨⟨z1, z2⟩, z3⟩, z4⟩, z5⟩, z6⟩, z7⟩, z8⟩, z9⟩, z10⟩ := z
  exact ⟨He.ga K y, initAd K root, fd, if_pos hy, He.glo_ok X G z1, ⟨oexB_ok z2, z3, z4, z5, z6⟩, z8, z9, z10, F hv, hb⟩
theorem conB_ok {K : PySem.W.Frag} {h : Heap} {mg : Str → Option Value} (X : K.In h) (G : h.Ns mainGlobals mg) {p : Str × D} (c : conB K p = true) : ∃ u v, mg p.1 = some u ∧ RelV v u ∧ ∀ H μ, Rep K H μ p.2 v [] [] := by
  unfold conB at c
  split at c
  · rename_i u e
    obtain ⟨v, r1, r2⟩ := repB_ok c
    exact ⟨u, v, PySem.W.mg_of X G e, r1, r2⟩
  · cases c
/-- how arguments go to a plain def's parameters -/
theorem kbd_of {K : PySem.W.Frag} {x qual : Str} {params : Arguments} {body : List Stmt} {scope : Scope} {f : Addr} {fd : FuncData} {ps : List Str} {kw : List (Nat × List Str × List Nat)} (F : FunD K x qual params body scope [] [] f fd)
    (h0 : ∀ (kV doc pm : Value) (an : Option Addr) (cdv ct : Value) (us : List Value), us.length = ps.length → bindArgs (PySem.W.fnOf x qual params body scope .none kV doc pm an cdv ct) ⟨us, []⟩ = pure (ps.zip us))
    (h : ∀ q ∈ kw, ∀ (kV doc pm : Value) (an : Option Addr) (cdv ct : Value) (us ws : List Value), us.length = q.1 → ws.length = q.2.1.length → bindArgs (PySem.W.fnOf x qual params body scope .none kV doc pm an cdv ct) ⟨us, q.2.1.zip ws⟩ = pure (ps.zip (us ++ permL q.2.2 ws))) : KBd K fd ps kw := by
  obtain ⟨oc, od, dV, kV, doc, pm, an, cdv, ct, osl, rfl, lk, hcd, hD, hK⟩ := F.ex
  rcases hD with ⟨_, rfl⟩ | ⟨e, _⟩
  · exact fun s us ws _ => ⟨fun hl => .of_eq (h0 kV doc pm an cdv ct us hl), fun q hq h1 h2 => .of_eq (h q hq kV doc pm an cdv ct us ws h1 h2)⟩
  · exact absurd rfl e
/-- a promise that no one can ask for -/
theorem fn_bad {P : Program} {w : World} {K : PySem.W.Frag} {mg : Str → Option Value} {base : Heap} {CX : CXT} {k : Nat} {f : Addr} {fd : FuncData} {ps : List Str} {CA : Str → Option Addr} {rn : Bool} : FnOk P w K mg base CX k f fd ps (spF K CA rn (fun _ _ => .bad) ps.length) :=
  ⟨fun vs H Q E h => spF_len h, fun A outer s H args us vs Q E hr he hb hv hs => by
    obtain ⟨_, _, _, _, _, _, _, _, _, _, _, z⟩ := hs
    exact z.elim⟩
end WT
end

section
set_option Elab.async false
set_option linter.all false
set_option maxRecDepth 100000
set_option autoImplicit false
/-! K28: the defs one behind another. -/
namespace WT
open PySem PySem.Spec PyProof.Rows L2

section
variable {P : Program} {w : World} {K : PySem.W.Frag} {mg : Str → Option Value} {base : Heap} {CA : Str → Option Addr} {m m' : MC} {g g' : GE} {k : Nat}
/-- the fields that the promise of the defs in reach looks at -/
theorem FnsOk.cong (fo : FnsOk P w K mg base CA m g k) (h1 : m'.fns = m.fns) (h2 : m'.cons = m.cons) (h3 : m'.rn = m.rn) (h4 : m'.kw = m.kw) (h5 : m'.mth = m.mth) (h6 : m'.cls = m.cls) (h7 : m'.base = m.base) : FnsOk P w K mg base CA m' g k :=
  ⟨fun i n ps h => by rw [h1] at h; rw [h3, h4]; exact fo.fns i n ps h, fun i x h => by rw [h2] at h; exact fo.cons i x h, fo.free, by rw [h5]; exact fo.mth, by rw [h6]; exact fo.cls, by rw [h7]; exact fo.exm⟩
theorem FnsOk.mono (fo : FnsOk P w K mg base CA m g k) {k' : Nat} (h : k ≤ k') : FnsOk P w K mg base CA m g k' :=
  ⟨fun i n ps e => by
    obtain ⟨fi, f, fd, a1, a2, a3, a4, a5, a6⟩ := fo.fns i n ps e
    exact ⟨fi, f, fd, a1, a2, a3, a4, a5.mono h, a6⟩, fo.cons, fo.free, fo.mth, fun y hy => ⟨Nat.le_trans (fo.cls y hy).1 h, (fo.cls y hy).2⟩, fo.exm⟩
theorem FnsOk.snoc (fo : FnsOk P w K mg base CA m g k) {n : Str} {ps : List Str} {fi : FnI} {f : Addr} {fd : FuncData} {k' : Nat} (hk' : k ≤ k') (h1 : m'.fns = m.fns ++ [(n, ps)]) (h2 : m'.cons = m.cons) (h3 : m'.rn = m.rn) (h4 : m'.kw = m.kw) (h5 : m'.mth = m.mth) (h6 : m'.cls = m.cls) (h7 : m'.base = m.base)
    (e1 : g'.fns = g.fns ++ [fi]) (e2 : g'.cons = g.cons) (el : m.fns.length = g.fns.length) (hps : fi.ps = ps) (hm : mg n = some (.ref f)) (hk : PySem.W.keepIn K (.ref f) = true)
    (F : FnOk P w K mg base (L2.CX P w) k' f fd ps (spF K CA (m.rn m.fns.length) fi.sem ps.length)) (hb : KBd K fd ps (m.kw m.fns.length)) : FnsOk P w K mg base CA m' g' k' := by
  refine ⟨fun i n' ps' h => ?_, fun i x h => ?_, fo.free, by rw [h5]; exact fo.mth, by rw [h6]; exact fun y hy => ⟨Nat.le_trans (fo.cls y hy).1 hk', (fo.cls y hy).2⟩, by rw [h7]; exact fo.exm⟩
  · rw [h1] at h
    rw [h3, h4]
    by_cases hi : i < m.fns.length
    · rw [List.getElem?_append_left hi] at h
      obtain ⟨fi', f', fd', a1, a2, a3, a4, a5, a6⟩ := fo.fns i n' ps' h
      exact ⟨fi', f', fd', by rw [e1, List.getElem?_append_left (by rw [← el]; exact hi)]; exact a1, a2, a3, a4, a5.mono hk', a6⟩
    · rw [List.getElem?_append_right (by omega)] at h
      have hi2 : i = m.fns.length := by
        have := (List.getElem?_eq_some_iff.mp h).1
        simp at this
        omega
      subst hi2
      simp at h
      obtain ⟨rfl, rfl⟩ := h
      exact ⟨fi, f, fd, by rw [e1, el, List.getElem?_append_right (Nat.le_refl _)]; simp, hps, hm, hk, F, hb⟩
  · rw [h2] at h
    obtain ⟨d, v, u, b1, b2⟩ := fo.cons i x h
    exact ⟨d, v, u, by rw [e2]; exact b1, b2⟩
end
end WT
end

section
set_option Elab.async false
set_option linter.all false
set_option maxRecDepth 100000
set_option autoImplicit false
/-! K29: the law's own promise. -/
namespace WT
open PySem PySem.Spec PyProof.Rows L2

theorem fz_of {K : PySem.W.Frag} {H : Hp} {a : Addr} {ns : List Int} (hO : Only H) (h : SqL K H a (ns.map V.int)) : Fz K H a ns := by
  rcases h with (h | ⟨o, h⟩) | h
  · rcases hO a with z | ⟨o, xs, z⟩
    · rw [z] at h; cases h
    · rw [z] at h; cases h
  · exact .inl ⟨o, h⟩
  · exact .inr h
theorem law_sp {K : PySem.W.Frag} {CA : Str → Option Addr} {rn : Bool} {sem : List D → Sto → R D} {H : Hp} {a : Addr} {ns : List Int} {st' : Sto} (h : sem [.frz ns] [] = .ok (.bl true) st') (hO : Only H) (hS : SqL K H a (ns.map V.int)) :
    spF K CA rn sem 1 [.ref a] H (fun v _ => v = .bl true) fun _ _ _ => False := by
  refine ⟨[.frz ns], [], [], [], fun _ => True, rfl, .cons (t := []) (F := []) (.frz (fz_of hO hS)) .nil, fun k xs e => by simp at e, rfl, List.nodup_nil, fun _ h => by simp at h, ?_⟩
  rw [h]
  exact fun v H' μ' t F' _ _ _ _ r _ _ => by cases r; rfl
/-- a def that calls itself, by how deep it may -/
theorem rec_ok {P : Program} {w : World} {K : PySem.W.Frag} {mg : Str → Option Value} {base : Heap} {CA : Str → Option Addr} {m m' : MC} {g : GE} {k : Nat} {x qual : Str} {params : Arguments} {ps : List Str} {scope : Scope} {stmts : List Stmt} {body : Ss} {dvs : List V} {kws : List (Str × V)} {f : Addr} {fd : FuncData}
    {n : Str} {sem : Nat → List D → Sto → R D} (fo : FnsOk P w K mg base CA m g k) (F : FunD K x qual params stmts scope dvs kws f fd) (S : FnScope m'.N ps scope) (hpo : ∀ i, i < ps.length → m'.ow i = false) (hc : cSs m' scope (m.rn m.fns.length) body stmts = true)
    (h0 : sem 0 = fun _ _ => .bad) (hs : ∀ j, sem (j + 1) = evF ⟨g.fns ++ [⟨n, ps, sem j⟩], g.cons⟩ m'.N.length body)
    (h1 : m'.fns = m.fns ++ [(n, ps)]) (h2 : m'.cons = m.cons) (h3 : m'.rn = m.rn) (h4 : m'.kw = m.kw) (h5 : m'.mth = m.mth) (h6 : m'.cls = m.cls) (h7 : m'.base = m.base) (el : m.fns.length = g.fns.length) (hm : mg n = some (.ref f)) (hk : PySem.W.keepIn K (.ref f) = true) (hb : KBd K fd ps (m.kw m.fns.length)) :
    ∀ j, FnOk P w K mg base (L2.CX P w) (k + j) f fd ps (spF K CA (m.rn m.fns.length) (sem j) ps.length)
  | 0 => by
    rw [h0]
    exact fn_bad
  | j + 1 => by
    have ih := rec_ok fo F S hpo hc h0 hs h1 h2 h3 h4 h5 h6 h7 el hm hk hb j
    have fo' : FnsOk P w K mg base CA m' ⟨g.fns ++ [⟨n, ps, sem j⟩], g.cons⟩ (k + j) := fo.snoc (by omega) h1 h2 h3 h4 h5 h6 h7 rfl rfl el rfl hm hk ih hb
    rw [hs j]
    exact fn_ok fo' F S hpo hc
end WT
end

section
set_option Elab.async false
set_option linter.all false
set_option maxRecDepth 100000
set_option autoImplicit false
/-! K30: from the module's facts. -/
namespace WT
open PySem PySem.Spec PyProof.Rows L2

section
variable {P : Program} {w : World} {K : PySem.W.Frag} {mg : Str → Option Value} {base h : Heap} {CA : Str → Option Addr} {names : List Str} {cons : List (Str × D)} {mth : List Bi} {cls : List Str} {root : Str}
theorem facts_parts (hf : facts names cons mth cls root K = true) : (∀ x ∈ names, (He.Fa.glo x).ok K = true) ∧ (∀ p ∈ cons, conB K p = true) ∧ (∀ x ∈ freeNames, (He.Fa.free x).ok K = true) ∧ (∀ f ∈ mth, PySem.W.nsIn K mainGlobals f.nm = some (some f.vl)) ∧ factsC cls root K = true := by
  unfold facts at hf
  simp only [Bool.and_eq_true, List.all_eq_true] at hf
  obtain ⟨⟨⟨⟨h1, h2⟩, h3⟩, h4⟩, h5⟩ := hf
  exact ⟨h1, h2, h3, fun f hm => He.eqO_ok (h4 f hm), h5⟩
theorem facts_glo (hf : facts names cons mth cls root K = true) (X : K.In h) (G : h.Ns mainGlobals mg) {x : Str} (hx : x ∈ names) : mg x = some (.ref (He.ga K x)) := He.glo_ok X G ((facts_parts hf).1 x hx)
theorem FnsOk.zero {m : MC} (hf : facts names cons mth cls root K = true) (X : K.In h) (G : h.Ns mainGlobals mg) (h1 : m.fns = []) (h2 : m.cons = cons.map (·.1)) (h3 : m.mth = mth) (h4 : m.base = root) (h5 : ∀ y ∈ m.cls, ClsOk P w K mg base (caOf K cls) y) : FnsOk P w K mg base (caOf K cls) m ⟨[], cons⟩ 2 := by
  obtain ⟨f1, f2, f3, f4, f5⟩ := facts_parts hf
  refine ⟨fun i n ps e => by rw [h1] at e; simp at e, fun i x e => ?_, fun x hx => He.free_ok X G (f3 x hx), by rw [h3]; exact fun f hm => PySem.W.mg_of X G (f4 f hm), fun y hy => ⟨Nat.le_refl _, h5 y hy⟩, by rw [h4]; exact factsC_exm f5⟩
  rw [h2, List.getElem?_map] at e
  obtain ⟨p, hp, rfl⟩ := Option.map_eq_some_iff.mp e
  obtain ⟨u, v, g1, g2, g3⟩ := conB_ok X G (f2 p (List.mem_of_getElem? hp))
  exact ⟨p.2, v, u, hp, g1, g2, g3⟩
end
def scB (N P : List Str) (sc : Scope) : Bool := fnB sc && !sc.isCoroutine && !sc.isGenerator && decide N.Nodup && decide (N.take P.length = P) && (P.all fun x => locB sc x) && sc.names.all fun y => !decide (y.2 = .free)
theorem fnScope_by {N P : List Str} {sc : Scope} (h : scB N P sc = true) : FnScope N P sc := by
  unfold scB at h
  simp only [Bool.and_eq_true, Bool.not_eq_true', decide_eq_true_eq, List.all_eq_true, decide_eq_false_iff_not] at h
  obtain ⟨⟨⟨⟨⟨⟨h1, h2⟩, h3⟩, h4⟩, h5⟩, h6⟩, h7⟩ := h
  refine ⟨?_, h2, h3, h4, h5, fun x hx => locB_k (h6 x hx), h7⟩
  unfold fnB at h1
  split at h1
  · assumption
  · cases h1
end WT
end

section
set_option Elab.async false
set_option linter.all false
set_option maxRecDepth 100000
set_option autoImplicit false
/-! K31: the law's end: what a callee may let out depends on the world. -/
namespace WT
open PySem PySem.Spec PyProof.Rows L2
theorem walk_ofW {l : PySem.W.OpenLaw} {n k : Nat} {q : Program} {loose : List Str} {XP : (Str → Option Value) → Heap → Prop} {YP : World → Heap → Prop} {d : DefRec} {x : Str}
    (hn : l.most = some n) (hn2 : n ≤ sizeLine) (hdf : d.params.defaults = []) (hr : Room k callerA)
    (F : ∀ (w : World) (mg : Str → Option Value) (fa : Addr) (h : Heap), YP w h → h.Ns mainGlobals mg → mg d.name = some (.ref fa) →
      ∃ (K : PySem.W.Frag) (fd : FuncData) (sp : Sp), K.In h ∧ (∀ (s : Shared) (u : Value), BindsTo s fd ⟨[u], []⟩ [(x, u)]) ∧
        (∀ (H : Hp) (a : Addr) (ns : List Int), ns.length ≤ n → Only H → SqL K H a (ns.map V.int) → sp [.ref a] H (fun v _ => v = .bl true) fun _ _ _ => False) ∧
        ∀ base : Heap, K.In base → base.Ns mainGlobals mg → FnOk l.prog w K mg base (L2.CX l.prog w) k fa fd [x] sp) :
    PySem.W.WalkO q loose XP YP l.row.toRowW d [] (fun f vs => PySem.call f vs) := by
  refine Att.attach_call hn hdf fun w s₀ s₁ mg mb fa o pm cd doc a vs ns G Y ho hd hcd hmg hobj hints hlen hg => ?_
  obtain ⟨K, fd, sp, KX, hb, hsp, hF⟩ := F w mg fa _ Y G.T.g hmg
  exact law_call KX G.T.g G.T.b G.T.builtins G.T.nolimit hg hobj hints (Nat.le_trans hlen hn2) hr hF hb (fun H hO hS => hsp H a ns hlen hO hS) fun H e s' z => by
    obtain ⟨_, _, _, _, _, _, _, _, _, _, _, _, z⟩ := z
    exact z
end WT
end

section
set_option Elab.async false
set_option linter.all false
set_option maxRecDepth 100000
set_option autoImplicit false
/-! M1: the evaluator as rewriting rules without open lambdas, loop rules. Own work. -/
namespace WT
open PySem
variable {α β : Type}
def callK (g : GE) (f : Nat) (ord : List Nat) (xs zs : List D) (st : Sto) : R D := match g.fns[f]? with
  | some fi => if xs.length + (permL ord zs).length = fi.ps.length then fi.sem (xs ++ permL ord zs) st else .bad
  | none => .bad
def kBin2 (op : Operator) (x : D) : D → Sto → R D := fun y st => .ofO st (binD op x y)
def kBin (g : GE) (op : Operator) (b : E) (env : Env) : D → Sto → R D := fun x st => (evE g b env st).bind (kBin2 op x)
def kNeg : D → Sto → R D := fun x st1 => match x with | .int i => .ok (.int (-i)) st1 | _ => .bad
def kNot : D → Sto → R D := fun x st1 => .ofO st1 ((truD st1 x).map fun b => D.bl (!b))
def kCmp2 (op : CmpOp) (x : D) : D → Sto → R D := fun y st => .ofO st ((cmpD op x y).map D.bl)
def kCmp (g : GE) (op : CmpOp) (b : E) (env : Env) : D → Sto → R D := fun x st => (evE g b env st).bind (kCmp2 op x)
def kCc (g : GE) (op' : CmpOp) (c : E) (env : Env) (y : D) (st : Sto) : Option Bool → R D
  | some true => (evE g c env st).bind (kCmp2 op' y)
  | some false => .ok (.bl false) st
  | none => .bad
def kCh2 (g : GE) (op op' : CmpOp) (c : E) (env : Env) (x : D) : D → Sto → R D := fun y st => kCc g op' c env y st (cmpD op x y)
def kCh (g : GE) (op op' : CmpOp) (b c : E) (env : Env) : D → Sto → R D := fun x st => (evE g b env st).bind (kCh2 g op op' c env x)
def kAnd' (g : GE) (b : E) (env : Env) (x : D) (st : Sto) : Option Bool → R D
  | some true => evE g b env st
  | some false => .ok x st
  | none => .bad
def kAnd (g : GE) (b : E) (env : Env) : D → Sto → R D := fun x st => kAnd' g b env x st (truD st x)
def kOr' (g : GE) (b : E) (env : Env) (x : D) (st : Sto) : Option Bool → R D
  | some true => .ok x st
  | some false => evE g b env st
  | none => .bad
def kOr (g : GE) (b : E) (env : Env) : D → Sto → R D := fun x st => kOr' g b env x st (truD st x)
def kIfe' (g : GE) (a b : E) (env : Env) (st : Sto) : Option Bool → R D
  | some true => evE g a env st
  | some false => evE g b env st
  | none => .bad
def kIfe (g : GE) (a b : E) (env : Env) : D → Sto → R D := fun x st => kIfe' g a b env st (truD st x)
def kTup : List D → Sto → R D := fun xs st => .ofO st (guardO (xs.length ≤ sizeLine) (.tup xs))
def kLst : List D → Sto → R D := fun xs st => .ofO st (guardO (xs.length ≤ sizeLine) (.lst xs))
def kIdx2 (x : D) : D → Sto → R D := fun y st => .ofO st (idxD st x y)
def kIdx (g : GE) (i : E) (env : Env) : D → Sto → R D := fun x st => (evE g i env st).bind (kIdx2 x)
def kSl3 (x : D) (l : Option Int) : Option Int → Sto → R D := fun u st => .ofO st (sliceD x l u)
def kSl2 (g : GE) (hi : Eo) (env : Env) (x : D) : Option Int → Sto → R D := fun l st => (evEo g hi env st).bind (kSl3 x l)
def kSl (g : GE) (lo hi : Eo) (env : Env) : D → Sto → R D := fun x st => (evEo g lo env st).bind (kSl2 g hi env x)
def kIsi (ts : List Ty) : D → Sto → R D := fun x st => .ofO st ((isiD x ts).map D.bl)
def kRg2 (l : Bool) (x : D) : D → Sto → R D := fun y st => .ofO st (rgD l x y)
def kRg (g : GE) (l : Bool) (b : E) (env : Env) : D → Sto → R D := fun x st => (evE g b env st).bind (kRg2 l x)
def kRev : D → Sto → R D := fun x st => .ofO st (revD x)
def kBi (f : Bi) : List D → Sto → R D := fun xs st => .ofO st (biD st f xs)
def kCall2 (g : GE) (f : Nat) (ord : List Nat) (xs : List D) : List D → Sto → R D := fun zs st => callK g f ord xs zs st
def kCall (g : GE) (f : Nat) (kes : Es) (ord : List Nat) (env : Env) : List D → Sto → R D := fun xs st => (evEs g kes env st).bind (kCall2 g f ord xs)
def kBox : D → Sto → R D := fun x st1 => match x with
    | .lst xs => if noLs xs then .ok (.ref st1.length) (st1 ++ [xs]) else .bad
    | _ => .bad
def kSome : D → Sto → R (Option D) := fun y st => .ok (some y) st
def kCi' (g : GE) (elt : E) (env : Env) (st : Sto) : Option Bool → R (Option D)
  | some true => (evE g elt env st).bind kSome
  | some false => .ok none st
  | none => .bad
def kCi (g : GE) (elt : E) (env : Env) : D → Sto → R (Option D) := fun c st => kCi' g elt env st (truD st c)
def kCb' (g : GE) (hasIf : Bool) (cond elt : E) (st : Sto) : Option Env → R (Option D)
  | some env => (if hasIf then (evE g cond env st).bind (kCi g elt env) else (evE g elt env st).bind kSome).nox
  | none => .bad
def kCb (g : GE) (tg : Tg) (hasIf : Bool) (cond elt : E) (env : Env) : D → Sto → R (Option D) := fun x st => kCb' g hasIf cond elt st (bindTg tg x env)
def kComp (g : GE) (tg : Tg) (hasIf : Bool) (cond elt : E) (env : Env) : List D → Sto → R D := fun xs st => (compLoop (kCb g tg hasIf cond elt env) xs st).bind kLst
def kIn (g : GE) (tg1 : Tg) (elt : E) (env : Env) : List D → Sto → R (List D) := fun ys st => compLoop (kCb g tg1 false .non elt env) ys st
def kC2' (g : GE) (tg1 : Tg) (it1 : It) (elt : E) (st : Sto) : Option Env → R (List D)
  | some env => ((evIt g it1 env st).bind (kIn g tg1 elt env)).nox
  | none => .bad
def kC2 (g : GE) (tg tg1 : Tg) (it1 : It) (elt : E) (env : Env) : D → Sto → R (List D) := fun x st => kC2' g tg1 it1 elt st (bindTg tg x (clrs env (tg.slots ++ tg1.slots)))
def kComp2 (g : GE) (tg tg1 : Tg) (it1 : It) (elt : E) (env : Env) : List D → Sto → R D := fun xs st => (compCat (kC2 g tg tg1 it1 elt env) xs st).bind kLst
def kDg3 (x y : D) : D → Sto → R D := fun z st => .ofO st (dgetoD x y z)
def kDg2 (g : GE) (e : E) (env : Env) (x : D) : D → Sto → R D := fun y st => (evE g e env st).bind (kDg3 x y)
def kDg (g : GE) (k e : E) (env : Env) : D → Sto → R D := fun x st => if isDK x then (evE g k env st).bind (kDg2 g e env x) else .bad
def kMi2 (x : D) : D → Sto → R D := fun y st => .ofO st (midxD x y)
def kMi (g : GE) (e : E) (env : Env) : D → Sto → R D := fun x st => if isLst x then (evE g e env st).bind (kMi2 x) else .bad
def kOp1 (o : Op1) : D → Sto → R D := fun x st => .ofO st (op1D o x)
def kEs2 (x : D) : List D → Sto → R (List D) := fun xs st => .ok (x :: xs) st
def kEs (g : GE) (es : Es) (env : Env) : D → Sto → R (List D) := fun x st => (evEs g es env st).bind (kEs2 x)
def kEo : D → Sto → R (Option Int) := fun x st1 => match x with | .int i => .ok (some i) st1 | _ => .bad
def kSeq : D → Sto → R (List D) := fun x st => .ofO st (seqOf x)
def kR1 : D → Sto → R (List D) := fun x st1 => match x with | .int n => .ofO st1 (rangeD 0 n 1) | _ => .bad
def kR22 (x : D) : D → Sto → R (List D) := fun y st2 => match x, y with | .int m, .int n => .ofO st2 (rangeD m n 1) | _, _ => .bad
def kR2 (g : GE) (b : E) (env : Env) : D → Sto → R (List D) := fun x st => (evE g b env st).bind (kR22 x)
def kR33 (x y : D) : D → Sto → R (List D) := fun z st3 => match x, y, z with | .int m, .int n, .int c => .ofO st3 (rangeD m n c) | _, _, _ => .bad
def kR32 (g : GE) (c : E) (env : Env) (x : D) : D → Sto → R (List D) := fun y st => (evE g c env st).bind (kR33 x y)
def kR3 (g : GE) (b c : E) (env : Env) : D → Sto → R (List D) := fun x st => (evE g b env st).bind (kR32 g c env x)
def kEnum : D → Sto → R (List D) := fun x st1 => match x with | .lst xs => .ok (enumD xs) st1 | .tup xs => .ok (enumD xs) st1 | _ => .bad
def kZip2 (x : D) : D → Sto → R (List D) := fun y st2 => match x, y with
      | .lst xs, .lst ys => .ok (zipD xs ys) st2
      | .tup xs, .tup ys => .ok (zipD xs ys) st2
      | _, _ => .bad
def kZip (g : GE) (b : E) (env : Env) : D → Sto → R (List D) := fun x st => (evE g b env st).bind (kZip2 x)

section
variable (g : GE) (env : Env) (st : Sto)
@[simp] theorem evE_var (i : Nat) : evE g (.var i) env st = .ofO st (slot env i) := (rfl)
@[simp] theorem evE_int (i : Int) : evE g (.int i) env st = .ok (.int i) st := (rfl)
@[simp] theorem evE_bl (b : Bool) : evE g (.bl b) env st = .ok (.bl b) st := (rfl)
@[simp] theorem evE_non : evE g .non env st = .ok .non st := (rfl)
@[simp] theorem evE_str (x : Str) : evE g (.str x) env st = .ok (.str x) st := (rfl)
@[simp] theorem evE_glob (c : Nat) : evE g (.glob c) env st = .ofO st ((g.cons[c]?).map (·.2)) := (rfl)
@[simp] theorem evE_bin (op : Operator) (a b : E) : evE g (.bin op a b) env st = (evE g a env st).bind (kBin g op b env) := (rfl)
@[simp] theorem kBin_ap (op : Operator) (b : E) (x : D) : kBin g op b env x st = (evE g b env st).bind (kBin2 op x) := (rfl)
@[simp] theorem kBin2_ap (op : Operator) (x y : D) : kBin2 op x y st = .ofO st (binD op x y) := (rfl)
@[simp] theorem evE_neg (a : E) : evE g (.neg a) env st = (evE g a env st).bind kNeg := (rfl)
@[simp] theorem kNeg_ap (i : Int) : kNeg (.int i) st = .ok (.int (-i)) st := (rfl)
@[simp] theorem evE_not (a : E) : evE g (.not a) env st = (evE g a env st).bind kNot := (rfl)
@[simp] theorem kNot_ap (x : D) : kNot x st = .ofO st ((truD st x).map fun b => D.bl (!b)) := (rfl)
@[simp] theorem evE_cmp (op : CmpOp) (a b : E) : evE g (.cmp op a b) env st = (evE g a env st).bind (kCmp g op b env) := (rfl)
@[simp] theorem kCmp_ap (op : CmpOp) (b : E) (x : D) : kCmp g op b env x st = (evE g b env st).bind (kCmp2 op x) := (rfl)
@[simp] theorem kCmp2_ap (op : CmpOp) (x y : D) : kCmp2 op x y st = .ofO st ((cmpD op x y).map D.bl) := (rfl)
@[simp] theorem evE_cmp2 (op op' : CmpOp) (a b c : E) : evE g (.cmp2 op op' a b c) env st = (evE g a env st).bind (kCh g op op' b c env) := by
  rw [evE]
  refine congrArg _ ?_; funext x st1
  refine congrArg _ ?_; funext y st2
  show _ = kCc g op' c env y st2 (cmpD op x y)
  generalize cmpD op x y = t
  rcases t with _ | _ | _ <;> rfl
@[simp] theorem kCh_ap (op op' : CmpOp) (b c : E) (x : D) : kCh g op op' b c env x st = (evE g b env st).bind (kCh2 g op op' c env x) := (rfl)
@[simp] theorem kCh2_ap (op op' : CmpOp) (c : E) (x y : D) : kCh2 g op op' c env x y st = kCc g op' c env y st (cmpD op x y) := (rfl)
@[simp] theorem kCc_t (op' : CmpOp) (c : E) (y : D) : kCc g op' c env y st (some true) = (evE g c env st).bind (kCmp2 op' y) := (rfl)
@[simp] theorem kCc_f (op' : CmpOp) (c : E) (y : D) : kCc g op' c env y st (some false) = .ok (.bl false) st := (rfl)
@[simp] theorem evE_and (a b : E) : evE g (.and a b) env st = (evE g a env st).bind (kAnd g b env) := by
  rw [evE]
  refine congrArg _ ?_; funext x st1
  show _ = kAnd' g b env x st1 (truD st1 x)
  generalize truD st1 x = t
  rcases t with _ | _ | _ <;> rfl
@[simp] theorem kAnd_ap (b : E) (x : D) : kAnd g b env x st = kAnd' g b env x st (truD st x) := (rfl)
@[simp] theorem kAnd_t (b : E) (x : D) : kAnd' g b env x st (some true) = evE g b env st := (rfl)
@[simp] theorem kAnd_f (b : E) (x : D) : kAnd' g b env x st (some false) = .ok x st := (rfl)
@[simp] theorem evE_or (a b : E) : evE g (.or a b) env st = (evE g a env st).bind (kOr g b env) := by
  rw [evE]
  refine congrArg _ ?_; funext x st1
  show _ = kOr' g b env x st1 (truD st1 x)
  generalize truD st1 x = t
  rcases t with _ | _ | _ <;> rfl
@[simp] theorem kOr_ap (b : E) (x : D) : kOr g b env x st = kOr' g b env x st (truD st x) := (rfl)
@[simp] theorem kOr_t (b : E) (x : D) : kOr' g b env x st (some true) = .ok x st := (rfl)
@[simp] theorem kOr_f (b : E) (x : D) : kOr' g b env x st (some false) = evE g b env st := (rfl)
@[simp] theorem evE_ife (c a b : E) : evE g (.ife c a b) env st = (evE g c env st).bind (kIfe g a b env) := by
  rw [evE]
  refine congrArg _ ?_; funext x st1
  show _ = kIfe' g a b env st1 (truD st1 x)
  generalize truD st1 x = t
  rcases t with _ | _ | _ <;> rfl
@[simp] theorem kIfe_ap (a b : E) (x : D) : kIfe g a b env x st = kIfe' g a b env st (truD st x) := (rfl)
@[simp] theorem kIfe_t (a b : E) : kIfe' g a b env st (some true) = evE g a env st := (rfl)
@[simp] theorem kIfe_f (a b : E) : kIfe' g a b env st (some false) = evE g b env st := (rfl)
@[simp] theorem evE_tup (es : Es) : evE g (.tup es) env st = (evEs g es env st).bind kTup := (rfl)
@[simp] theorem kTup_ap (xs : List D) : kTup xs st = .ofO st (guardO (xs.length ≤ sizeLine) (.tup xs)) := (rfl)
@[simp] theorem evE_lst (es : Es) : evE g (.lst es) env st = (evEs g es env st).bind kLst := (rfl)
@[simp] theorem kLst_ap (xs : List D) : kLst xs st = .ofO st (guardO (xs.length ≤ sizeLine) (.lst xs)) := (rfl)
@[simp] theorem evE_idx (a i : E) : evE g (.idx a i) env st = (evE g a env st).bind (kIdx g i env) := (rfl)
@[simp] theorem kIdx_ap (i : E) (x : D) : kIdx g i env x st = (evE g i env st).bind (kIdx2 x) := (rfl)
@[simp] theorem kIdx2_ap (x y : D) : kIdx2 x y st = .ofO st (idxD st x y) := (rfl)
@[simp] theorem evE_slice (a : E) (lo hi : Eo) : evE g (.slice a lo hi) env st = (evE g a env st).bind (kSl g lo hi env) := (rfl)
@[simp] theorem kSl_ap (lo hi : Eo) (x : D) : kSl g lo hi env x st = (evEo g lo env st).bind (kSl2 g hi env x) := (rfl)
@[simp] theorem kSl2_ap (hi : Eo) (x : D) (l : Option Int) : kSl2 g hi env x l st = (evEo g hi env st).bind (kSl3 x l) := (rfl)
@[simp] theorem kSl3_ap (x : D) (l u : Option Int) : kSl3 x l u st = .ofO st (sliceD x l u) := (rfl)
@[simp] theorem evE_isi (a : E) (ts : List Ty) (t : Bool) : evE g (.isi a ts t) env st = (evE g a env st).bind (kIsi ts) := (rfl)
@[simp] theorem kIsi_ap (ts : List Ty) (x : D) : kIsi ts x st = .ofO st ((isiD x ts).map D.bl) := (rfl)
@[simp] theorem evE_rg1 (l : Bool) (b : E) : evE g (.rg1 l b) env st = (evE g b env st).bind (kRg2 l (.int 0)) := (rfl)
@[simp] theorem evE_rg2 (l : Bool) (a b : E) : evE g (.rg2 l a b) env st = (evE g a env st).bind (kRg g l b env) := (rfl)
@[simp] theorem kRg_ap (l : Bool) (b : E) (x : D) : kRg g l b env x st = (evE g b env st).bind (kRg2 l x) := (rfl)
@[simp] theorem kRg2_ap (l : Bool) (x y : D) : kRg2 l x y st = .ofO st (rgD l x y) := (rfl)
@[simp] theorem evE_rev (a : E) : evE g (.rev a) env st = (evE g a env st).bind kRev := (rfl)
@[simp] theorem kRev_ap (x : D) : kRev x st = .ofO st (revD x) := (rfl)
@[simp] theorem evE_bi (f : Bi) (es : Es) : evE g (.bi f es) env st = (evEs g es env st).bind (kBi f) := (rfl)
@[simp] theorem kBi_ap (f : Bi) (xs : List D) : kBi f xs st = .ofO st (biD st f xs) := (rfl)
@[simp] theorem evE_call (f : Nat) (es kes : Es) (ord : List Nat) : evE g (.call f es kes ord) env st = (evEs g es env st).bind (kCall g f kes ord env) := (rfl)
@[simp] theorem kCall_ap (f : Nat) (kes : Es) (ord : List Nat) (xs : List D) : kCall g f kes ord env xs st = (evEs g kes env st).bind (kCall2 g f ord xs) := (rfl)
@[simp] theorem kCall2_ap (f : Nat) (ord : List Nat) (xs zs : List D) : kCall2 g f ord xs zs st = callK g f ord xs zs st := (rfl)
@[simp] theorem evE_box (e : E) : evE g (.box e) env st = (evE g e env st).bind kBox := (rfl)
@[simp] theorem kBox_ap (xs : List D) : kBox (.lst xs) st = if noLs xs then .ok (.ref st.length) (st ++ [xs]) else .bad := (rfl)
@[simp] theorem kSome_ap (x : D) : kSome x st = .ok (some x) st := (rfl)
theorem kCb_eq (tg : Tg) (hasIf : Bool) (cond elt : E) : (fun (x : D) (st2 : Sto) => match bindTg tg x env with
        | some env' => (if hasIf then (evE g cond env' st2).bind fun c st3 => match truD st3 c with
            | some true => (evE g elt env' st3).bind fun y st4 => .ok (some y) st4
            | some false => .ok none st3
            | none => .bad
          else (evE g elt env' st2).bind fun y st3 => .ok (some y) st3).nox
        | none => .bad) = kCb g tg hasIf cond elt env := by
  funext x st2
  show _ = kCb' g hasIf cond elt st2 (bindTg tg x env)
  generalize bindTg tg x env = t
  rcases t with _ | env'
  · rfl
  · show R.nox _ = R.nox _
    refine congrArg _ ?_
    cases hasIf
    · rfl
    · show R.bind _ _ = R.bind _ _
      refine congrArg _ ?_; funext c st3
      show _ = kCi' g elt env' st3 (truD st3 c)
      generalize truD st3 c = t
      rcases t with _ | _ | _ <;> rfl
@[simp] theorem evE_comp (tg : Tg) (it : It) (hasIf : Bool) (cond elt : E) : evE g (.comp tg it hasIf cond elt) env st = (evIt g it env st).bind (kComp g tg hasIf cond elt env) := by
  rw [evE]
  refine congrArg _ ?_; funext xs st1
  exact congrArg (fun f => R.bind (compLoop f xs st1) kLst) (kCb_eq g env tg hasIf cond elt)
@[simp] theorem evE_comp2 (tg tg1 : Tg) (it it1 : It) (elt : E) : evE g (.comp2 tg it tg1 it1 elt) env st = (evIt g it env st).bind (kComp2 g tg tg1 it1 elt env) := by
  rw [evE]
  refine congrArg _ ?_; funext xs st1
  refine congrArg (fun f => R.bind (compCat f xs st1) kLst) ?_
  funext x st2
  show _ = kC2' g tg1 it1 elt st2 (bindTg tg x (clrs env (tg.slots ++ tg1.slots)))
  generalize bindTg tg x (clrs env (tg.slots ++ tg1.slots)) = t
  rcases t with _ | env'
  · rfl
  · show R.nox _ = R.nox _
    refine congrArg _ ?_
    show R.bind _ _ = R.bind _ _
    refine congrArg _ ?_; funext ys st3
    exact congrArg (fun f => compLoop f ys st3) (kCb_eq g env' tg1 false .non elt)
@[simp] theorem kComp2_ap (tg tg1 : Tg) (it1 : It) (elt : E) (xs : List D) : kComp2 g tg tg1 it1 elt env xs st = (compCat (kC2 g tg tg1 it1 elt env) xs st).bind kLst := (rfl)
@[simp] theorem kComp_ap (tg : Tg) (hasIf : Bool) (cond elt : E) (xs : List D) : kComp g tg hasIf cond elt env xs st = (compLoop (kCb g tg hasIf cond elt env) xs st).bind kLst := (rfl)
@[simp] theorem kCb_ap (tg : Tg) (hasIf : Bool) (cond elt : E) (x : D) : kCb g tg hasIf cond elt env x st = kCb' g hasIf cond elt st (bindTg tg x env) := (rfl)
@[simp] theorem kCb_t (cond elt : E) : kCb' g true cond elt st (some env) = ((evE g cond env st).bind (kCi g elt env)).nox := (rfl)
@[simp] theorem kCb_f (cond elt : E) : kCb' g false cond elt st (some env) = ((evE g elt env st).bind kSome).nox := (rfl)
@[simp] theorem kCi_ap (elt : E) (c : D) : kCi g elt env c st = kCi' g elt env st (truD st c) := (rfl)
@[simp] theorem kCi_t (elt : E) : kCi' g elt env st (some true) = (evE g elt env st).bind kSome := (rfl)
@[simp] theorem kCi_f (elt : E) : kCi' g elt env st (some false) = .ok none st := (rfl)
@[simp] theorem evE_dnew : evE g (.dnew false) env st = .ok (.dK [] []) st := (rfl)
@[simp] theorem evE_dnewT : evE g (.dnew true) env st = .ok (.dT [] []) st := (rfl)
@[simp] theorem evE_dgeto (d k e : E) : evE g (.dgeto d k e) env st = (evE g d env st).bind (kDg g k e env) := (rfl)
@[simp] theorem kDg_ap (k e : E) (ks : List L2.Key) (vs : List D) : kDg g k e env (.dK ks vs) st = (evE g k env st).bind (kDg2 g e env (.dK ks vs)) := (rfl)
@[simp] theorem kDg2_ap (e : E) (x y : D) : kDg2 g e env x y st = (evE g e env st).bind (kDg3 x y) := (rfl)
@[simp] theorem kDg3_ap (x y z : D) : kDg3 x y z st = .ofO st (dgetoD x y z) := (rfl)
@[simp] theorem evE_op1 (o : Op1) (a : E) : evE g (.op1 o a) env st = (evE g a env st).bind (kOp1 o) := (rfl)
@[simp] theorem kOp1_ap (o : Op1) (x : D) : kOp1 o x st = .ofO st (op1D o x) := (rfl)
@[simp] theorem evE_midx (l e : E) : evE g (.midx l e) env st = (evE g l env st).bind (kMi g e env) := (rfl)
@[simp] theorem kMi_ap (e : E) (xs : List D) : kMi g e env (.lst xs) st = (evE g e env st).bind (kMi2 (.lst xs)) := (rfl)
@[simp] theorem kMi2_ap (x y : D) : kMi2 x y st = .ofO st (midxD x y) := (rfl)
@[simp] theorem evEs_nil : evEs g .nil env st = .ok [] st := (rfl)
@[simp] theorem evEs_cons (e : E) (es : Es) : evEs g (.cons e es) env st = (evE g e env st).bind (kEs g es env) := (rfl)
@[simp] theorem kEs_ap (es : Es) (x : D) : kEs g es env x st = (evEs g es env st).bind (kEs2 x) := (rfl)
@[simp] theorem kEs2_ap (x : D) (xs : List D) : kEs2 x xs st = .ok (x :: xs) st := (rfl)
@[simp] theorem evEo_no : evEo g .no env st = .ok none st := (rfl)
@[simp] theorem evEo_yes (e : E) : evEo g (.yes e) env st = (evE g e env st).bind kEo := (rfl)
@[simp] theorem kEo_ap (i : Int) : kEo (.int i) st = .ok (some i) st := (rfl)
@[simp] theorem evIt_seq (e : E) : evIt g (.seq e) env st = (evE g e env st).bind kSeq := (rfl)
@[simp] theorem kSeq_ap (x : D) : kSeq x st = .ofO st (seqOf x) := (rfl)
@[simp] theorem evIt_r1 (a : E) : evIt g (.range1 a) env st = (evE g a env st).bind kR1 := (rfl)
@[simp] theorem kR1_ap (n : Int) : kR1 (.int n) st = .ofO st (rangeD 0 n 1) := (rfl)
@[simp] theorem evIt_r2 (a b : E) : evIt g (.range2 a b) env st = (evE g a env st).bind (kR2 g b env) := (rfl)
@[simp] theorem kR2_ap (b : E) (x : D) : kR2 g b env x st = (evE g b env st).bind (kR22 x) := (rfl)
@[simp] theorem kR22_ap (m n : Int) : kR22 (.int m) (.int n) st = .ofO st (rangeD m n 1) := (rfl)
@[simp] theorem evIt_r3 (a b c : E) : evIt g (.range3 a b c) env st = (evE g a env st).bind (kR3 g b c env) := (rfl)
@[simp] theorem kR3_ap (b c : E) (x : D) : kR3 g b c env x st = (evE g b env st).bind (kR32 g c env x) := (rfl)
@[simp] theorem kR32_ap (c : E) (x y : D) : kR32 g c env x y st = (evE g c env st).bind (kR33 x y) := (rfl)
@[simp] theorem kR33_ap (m n c : Int) : kR33 (.int m) (.int n) (.int c) st = .ofO st (rangeD m n c) := (rfl)
@[simp] theorem evIt_enum (a : E) : evIt g (.enum a) env st = (evE g a env st).bind kEnum := (rfl)
@[simp] theorem kEnum_ap (xs : List D) : kEnum (.lst xs) st = .ok (enumD xs) st := (rfl)
@[simp] theorem kEnum_apT (xs : List D) : kEnum (.tup xs) st = .ok (enumD xs) st := (rfl)
@[simp] theorem evIt_zip (a b : E) : evIt g (.zip a b) env st = (evE g a env st).bind (kZip g b env) := (rfl)
@[simp] theorem kZip_ap (b : E) (x : D) : kZip g b env x st = (evE g b env st).bind (kZip2 x) := (rfl)
@[simp] theorem kZip2_l (xs ys : List D) : kZip2 (.lst xs) (.lst ys) st = .ok (zipD xs ys) st := (rfl)
@[simp] theorem kZip2_t (xs ys : List D) : kZip2 (.tup xs) (.tup ys) st = .ok (zipD xs ys) st := (rfl)
end

/-! ### statements -/
def RS.seq (r : RS) (k : Env → Sto → RS) : RS := match r with
  | .nx env st => k env st
  | r => r
@[simp] theorem RS.seq_nx (env : Env) (st : Sto) (k : Env → Sto → RS) : (RS.nx env st).seq k = k env st := (rfl)
@[simp] theorem RS.seq_rt (d : D) (st : Sto) (k : Env → Sto → RS) : (RS.rt d st).seq k = .rt d st := (rfl)
@[simp] theorem RS.seq_bk (env : Env) (st : Sto) (k : Env → Sto → RS) : (RS.bk env st).seq k = .bk env st := (rfl)
@[simp] theorem RS.seq_ct (env : Env) (st : Sto) (k : Env → Sto → RS) : (RS.ct env st).seq k = .ct env st := (rfl)
@[simp] theorem RS.seq_exn (c : Str) (d : D) (env : Env) (st : Sto) (k : Env → Sto → RS) : (RS.exn c d env st).seq k = .exn c d env st := (rfl)
@[simp] theorem RS.fin_nx (env : Env) (st : Sto) : (RS.nx env st).fin = .ok .non st := (rfl)
@[simp] theorem RS.fin_rt (d : D) (st : Sto) : (RS.rt d st).fin = .ok d st := (rfl)
def kRet : D → Sto → RS := fun d st => .rt d st
def kSet (i : Nat) (k : Ak) (env : Env) : D → Sto → RS := fun d st1 => if akOk k d then .nx (env.set i (some d)) st1 else .bad
def kOpE (st : Sto) : Option Env → RS
  | some env => .nx env st
  | none => .bad
def kSetT (tg : Tg) (env : Env) : D → Sto → RS := fun d st1 => kOpE st1 (bindTg tg d env)
def kPar2 (i j : Nat) (kj : Ak) (env : Env) (x : D) : D → Sto → RS := fun y st2 => if akOk kj y then .nx ((env.set i (some x)).set j (some y)) st2 else .bad
def kPar (g : GE) (i j : Nat) (ki kj : Ak) (b : E) (env : Env) : D → Sto → RS := fun x st1 => if akOk ki x then (evE g b env st1).toS env (kPar2 i j kj env x) else .bad
def kP33 (i j l : Nat) (kl : Ak) (env : Env) (x y : D) : D → Sto → RS := fun z st3 => if akOk kl z then .nx (((env.set i (some x)).set j (some y)).set l (some z)) st3 else .bad
def kP32 (g : GE) (i j l : Nat) (kj kl : Ak) (c : E) (env : Env) (x : D) : D → Sto → RS := fun y st2 => if akOk kj y then (evE g c env st2).toS env (kP33 i j l kl env x y) else .bad
def kP3 (g : GE) (i j l : Nat) (ki kj kl : Ak) (b c : E) (env : Env) : D → Sto → RS := fun x st1 => if akOk ki x then (evE g b env st1).toS env (kP32 g i j l kj kl c env x) else .bad
def kMove (i j : Nat) (env : Env) (st : Sto) : Option D → RS
  | some d => .nx ((env.set i (some d)).set j none) st
  | none => .bad
def kAug3 (i : Nat) (env : Env) (st1 : Sto) : D → D → Option D → RS := fun x y z => match x, y, z with
      | .int _, .int _, some z => .nx (env.set i (some z)) st1
      | _, _, _ => .bad
def kAug2 (i : Nat) (op : Operator) (env : Env) (x : D) : D → Sto → RS := fun y st1 => kAug3 i env st1 x y (binD op x y)
def kAug (g : GE) (i : Nat) (op : Operator) (e : E) (env : Env) (st : Sto) : Option D → RS
  | some x => (evE g e env st).toS env (kAug2 i op env x)
  | none => .bad
def kSx2 (i : Nat) (o nl : Bool) (env : Env) (d : D) : D → Sto → RS := fun k st2 => if nl && !noL d then .bad else chg i o (noL d) env st2 fun xs => setIxL xs k d
def kSx (g : GE) (i : Nat) (o nl : Bool) (ix : E) (env : Env) : D → Sto → RS := fun d st1 => (evE g ix env st1).toS env (kSx2 i o nl env d)
def kAx4 (i : Nat) (o : Bool) (k : D) (env : Env) (st2 : Sto) : D → D → Option D → RS := fun x y z => match x, y, z with
      | .int _, .int _, some z => chg i o true env st2 fun xs => setIxL xs k z
      | _, _, _ => .bad
def kAx3 (i : Nat) (o : Bool) (op : Operator) (k : D) (env : Env) (x : D) : D → Sto → RS := fun y st2 => kAx4 i o k env st2 x y (binD op x y)
def kAx2 (g : GE) (i : Nat) (o : Bool) (op : Operator) (e : E) (env : Env) (k : D) (st1 : Sto) : Option D → RS
  | some x => (evE g e env st1).toS env (kAx3 i o op k env x)
  | none => .bad
def kAx (g : GE) (i : Nat) (o : Bool) (op : Operator) (e : E) (env : Env) : D → Sto → RS := fun k st1 => kAx2 g i o op e env k st1 ((slot env i).bind fun d => idxD st1 d k)
def kApp (i : Nat) (o nl : Bool) (env : Env) : D → Sto → RS := fun d st1 => if nl && !noL d then .bad else chg i o (noL d) env st1 fun xs => guardO (xs.length < sizeLine) (xs ++ [d])
noncomputable def kIte (g : GE) (a b : Ss) (env : Env) : Bool → Sto → RS := fun k st1 => match k with
    | true => evSs g a env st1
    | false => evSs g b env st1
def kMth (i : Nat) (o : Bool) (f : Mth) (env : Env) : List D → Sto → RS := fun ds st1 => chg i o true env st1 fun xs => mthD f xs ds
def kDp3 (i : Nat) (env : Env) (st : Sto) : Option D → RS
  | some d => .nx (env.set i (some d)) st
  | none => .bad
def kDp2 (i : Nat) (env : Env) (v : D) : D → Sto → RS := fun y st => kDp3 i env st ((slot env i).bind fun d => dputD d y v)
def kDp (g : GE) (i : Nat) (k : E) (env : Env) : D → Sto → RS := fun v st => (evE g k env st).toS env (kDp2 i env v)
def kTru : D → Sto → R Bool := fun x st1 => .ofO st1 (truD st1 x)
noncomputable def kFor (g : GE) (tg : Tg) (body : Ss) (env : Env) : List D → Sto → RS := fun xs st1 => forD tg (evSs g body) xs env st1
def kDrop (env : Env) : D → Sto → RS := fun _ st1 => .nx env st1
def kRaise (c : Str) (env : Env) : D → Sto → RS := fun d st1 => .exn c d env st1
def kPop (j : Nat) (o : Bool) (env : Env) (f : D → Env → Sto → RS) : D → Sto → RS := fun k st1 => popD j o k env st1 f
def kPa (i : Nat) (oi : Bool) : D → Env → Sto → RS := fun y env1 st2 => if noL y then chg i oi true env1 st2 fun xs => guardO (xs.length < sizeLine) (xs ++ [y]) else .bad
def kPd : D → Env → Sto → RS := fun _ env1 st2 => .nx env1 st2
def kTry (n : Nat) (cs : List Cls) : RS → RS
  | .exn x d env st => catchD n x d env st cs
  | r => r
@[simp] theorem kTry_nx (n : Nat) (cs : List Cls) (env : Env) (st : Sto) : kTry n cs (.nx env st) = .nx env st := (rfl)
@[simp] theorem kTry_rt (n : Nat) (cs : List Cls) (d : D) (st : Sto) : kTry n cs (.rt d st) = .rt d st := (rfl)
@[simp] theorem kTry_exn (n : Nat) (cs : List Cls) (x : Str) (d : D) (env : Env) (st : Sto) : kTry n cs (.exn x d env st) = catchD n x d env st cs := (rfl)
@[simp] theorem RS.fin_exn (c : Str) (d : D) (env : Env) (st : Sto) : (RS.exn c d env st).fin = .exn c d st := (rfl)
theorem popD_lst {j : Nat} {i : Int} {xs : List D} {n : Nat} {y : D} {env : Env} {st : Sto} {f : D → Env → Sto → RS} (h : slot env j = some (.lst xs)) (hb : -(2 ^ 63) ≤ i ∧ i < 2 ^ 63) (hx : L2.ixN xs.length i = some n) (hy : xs[n]? = some y) : popD j true (.int i) env st f = f y (env.set j (some (.lst (xs.eraseIdx n)))) st := by
  unfold popD
  rw [h]
  simp only [Bool.true_and]
  rw [if_pos (decide_eq_true hb), hx]
  simp only [hy]
section
variable (g : GE) (env : Env) (st : Sto)
@[simp] theorem evS_ret (e : E) : evS g (.ret e) env st = (evE g e env st).toS env kRet := (rfl)
@[simp] theorem kRet_ap (d : D) : kRet d st = .rt d st := (rfl)
@[simp] theorem evS_retN : evS g .retN env st = .rt .non st := (rfl)
@[simp] theorem evS_set (i : Nat) (k : Ak) (e : E) : evS g (.set i k e) env st = (evE g e env st).toS env (kSet i k env) := (rfl)
@[simp] theorem kSet_ap (i : Nat) (k : Ak) (d : D) : kSet i k env d st = if akOk k d then .nx (env.set i (some d)) st else .bad := (rfl)
@[simp] theorem evS_setT (tg : Tg) (e : E) : evS g (.setT tg e) env st = (evE g e env st).toS env (kSetT tg env) := by
  rw [evS]
  refine congrArg _ ?_; funext d st1
  show _ = kOpE st1 (bindTg tg d env)
  generalize bindTg tg d env = t
  rcases t with _ | _ <;> rfl
@[simp] theorem kSetT_ap (tg : Tg) (d : D) : kSetT tg env d st = kOpE st (bindTg tg d env) := (rfl)
@[simp] theorem kOpE_ap : kOpE st (some env) = .nx env st := (rfl)
@[simp] theorem evS_par (i j : Nat) (ki kj : Ak) (a b : E) : evS g (.par i j ki kj a b) env st = (evE g a env st).toS env (kPar g i j ki kj b env) := (rfl)
@[simp] theorem kPar_ap (i j : Nat) (ki kj : Ak) (b : E) (x : D) : kPar g i j ki kj b env x st = if akOk ki x then (evE g b env st).toS env (kPar2 i j kj env x) else .bad := (rfl)
@[simp] theorem kPar2_ap (i j : Nat) (kj : Ak) (x y : D) : kPar2 i j kj env x y st = if akOk kj y then .nx ((env.set i (some x)).set j (some y)) st else .bad := (rfl)
@[simp] theorem evS_par3 (i j l : Nat) (ki kj kl : Ak) (a b c : E) : evS g (.par3 i j l ki kj kl a b c) env st = (evE g a env st).toS env (kP3 g i j l ki kj kl b c env) := (rfl)
@[simp] theorem kP3_ap (i j l : Nat) (ki kj kl : Ak) (b c : E) (x : D) : kP3 g i j l ki kj kl b c env x st = if akOk ki x then (evE g b env st).toS env (kP32 g i j l kj kl c env x) else .bad := (rfl)
@[simp] theorem kP32_ap (i j l : Nat) (kj kl : Ak) (c : E) (x y : D) : kP32 g i j l kj kl c env x y st = if akOk kj y then (evE g c env st).toS env (kP33 i j l kl env x y) else .bad := (rfl)
@[simp] theorem kP33_ap (i j l : Nat) (kl : Ak) (x y z : D) : kP33 i j l kl env x y z st = if akOk kl z then .nx (((env.set i (some x)).set j (some y)).set l (some z)) st else .bad := (rfl)
@[simp] theorem evS_move (i j : Nat) : evS g (.move i j) env st = kMove i j env st (slot env j) := by
  rw [evS]
  generalize slot env j = t
  rcases t with _ | _ <;> rfl
@[simp] theorem kMove_ap (i j : Nat) (d : D) : kMove i j env st (some d) = .nx ((env.set i (some d)).set j none) st := (rfl)
@[simp] theorem evS_aug (i : Nat) (op : Operator) (e : E) : evS g (.aug i op e) env st = kAug g i op e env st (slot env i) := by
  rw [evS]
  generalize slot env i = t
  rcases t with _ | _ <;> rfl
@[simp] theorem kAug_ap (i : Nat) (op : Operator) (e : E) (x : D) : kAug g i op e env st (some x) = (evE g e env st).toS env (kAug2 i op env x) := (rfl)
@[simp] theorem kAug2_ap (i : Nat) (op : Operator) (x y : D) : kAug2 i op env x y st = kAug3 i env st x y (binD op x y) := (rfl)
@[simp] theorem kAug3_ap (i : Nat) (a b : Int) (z : D) : kAug3 i env st (.int a) (.int b) (some z) = .nx (env.set i (some z)) st := (rfl)
@[simp] theorem evS_setIx (i : Nat) (o nl : Bool) (ix e : E) : evS g (.setIx i o nl ix e) env st = if (slot env i).isNone then .bad else (evE g e env st).toS env (kSx g i o nl ix env) := (rfl)
@[simp] theorem kSx_ap (i : Nat) (o nl : Bool) (ix : E) (d : D) : kSx g i o nl ix env d st = (evE g ix env st).toS env (kSx2 i o nl env d) := (rfl)
@[simp] theorem kSx2_ap (i : Nat) (o nl : Bool) (d k : D) : kSx2 i o nl env d k st = if nl && !noL d then .bad else chg i o (noL d) env st fun xs => setIxL xs k d := (rfl)
@[simp] theorem evS_augIx (i : Nat) (o : Bool) (op : Operator) (ix e : E) : evS g (.augIx i o op ix e) env st = if !isLs env st i then .bad else (evE g ix env st).toS env (kAx g i o op e env) := by
  rw [evS]
  refine congrArg _ ?_
  refine congrArg _ ?_; funext k st1
  show _ = kAx2 g i o op e env k st1 ((slot env i).bind fun d => idxD st1 d k)
  generalize (slot env i).bind (fun d => idxD st1 d k) = t
  rcases t with _ | _ <;> rfl
@[simp] theorem kAx_ap (i : Nat) (o : Bool) (op : Operator) (e : E) (k : D) : kAx g i o op e env k st = kAx2 g i o op e env k st ((slot env i).bind fun d => idxD st d k) := (rfl)
@[simp] theorem kAx2_ap (i : Nat) (o : Bool) (op : Operator) (e : E) (k x : D) : kAx2 g i o op e env k st (some x) = (evE g e env st).toS env (kAx3 i o op k env x) := (rfl)
@[simp] theorem kAx3_ap (i : Nat) (o : Bool) (op : Operator) (k x y : D) : kAx3 i o op k env x y st = kAx4 i o k env st x y (binD op x y) := (rfl)
@[simp] theorem kAx4_ap (i : Nat) (o : Bool) (k : D) (a b : Int) (z : D) : kAx4 i o k env st (.int a) (.int b) (some z) = chg i o true env st fun xs => setIxL xs k z := (rfl)
@[simp] theorem evS_app (i : Nat) (o nl : Bool) (e : E) : evS g (.app i o nl e) env st = if !isLs env st i then .bad else (evE g e env st).toS env (kApp i o nl env) := (rfl)
@[simp] theorem kApp_ap (i : Nat) (o nl : Bool) (d : D) : kApp i o nl env d st = if nl && !noL d then .bad else chg i o (noL d) env st fun xs => guardO (xs.length < sizeLine) (xs ++ [d]) := (rfl)
@[simp] theorem evS_mth (i : Nat) (o : Bool) (f : Mth) (es : Es) : evS g (.mth i o f es) env st = if !isLs env st i then .bad else (evEs g es env st).toS env (kMth i o f env) := (rfl)
@[simp] theorem kMth_ap (i : Nat) (o : Bool) (f : Mth) (ds : List D) : kMth i o f env ds st = chg i o true env st fun xs => mthD f xs ds := (rfl)
@[simp] theorem evS_dput (i : Nat) (k e : E) : evS g (.dput i k e) env st = if (slot env i).isNone then .bad else (evE g e env st).toS env (kDp g i k env) := by
  rw [evS]
  refine congrArg _ ?_
  refine congrArg _ ?_; funext v st1
  refine congrArg _ ?_; funext y st2
  show _ = kDp3 i env st2 ((slot env i).bind fun d => dputD d y v)
  generalize (slot env i).bind (fun d => dputD d y v) = t
  rcases t with _ | _ <;> rfl
@[simp] theorem kDp_ap (i : Nat) (k : E) (v : D) : kDp g i k env v st = (evE g k env st).toS env (kDp2 i env v) := (rfl)
@[simp] theorem kDp2_ap (i : Nat) (v y : D) : kDp2 i env v y st = kDp3 i env st ((slot env i).bind fun d => dputD d y v) := (rfl)
@[simp] theorem kDp3_ap (i : Nat) (d : D) : kDp3 i env st (some d) = .nx (env.set i (some d)) st := (rfl)
@[simp] theorem evS_popApp (i j : Nat) (oi oj : Bool) (e : E) : evS g (.popApp i j oi oj e) env st = if !isLs env st i then .bad else if !isLs env st j then .bad else (evE g e env st).toS env (kPop j oj env (kPa i oi)) := (rfl)
@[simp] theorem evS_popDrop (j : Nat) (o : Bool) (e : E) : evS g (.popDrop j o e) env st = if !isLs env st j then .bad else (evE g e env st).toS env (kPop j o env kPd) := (rfl)
@[simp] theorem kPop_ap (j : Nat) (o : Bool) (f : D → Env → Sto → RS) (k : D) : kPop j o env f k st = popD j o k env st f := (rfl)
@[simp] theorem kPa_ap (i : Nat) (oi : Bool) (y : D) : kPa i oi y env st = if noL y then chg i oi true env st fun xs => guardO (xs.length < sizeLine) (xs ++ [y]) else .bad := (rfl)
@[simp] theorem kPd_ap (y : D) : kPd y env st = .nx env st := (rfl)
theorem evS_try (n : Nat) (b : Ss) (cs : List Cls) : evS g (.try_ n b cs) env st = if env.length = n then kTry n cs (evSs g b env st) else .bad := by
  rw [evS]
  refine congrArg (fun z => if env.length = n then z else RS.bad) ?_
  generalize evSs g b env st = t
  cases t <;> rfl
theorem evC_eq (c : E) : evC g c env st = (evE g c env st).bind kTru := rfl
@[simp] theorem kTru_ap (x : D) : kTru x st = .ofO st (truD st x) := (rfl)
@[simp] theorem evS_ite (c : E) (a b : Ss) : evS g (.ite c a b) env st = ((evE g c env st).bind kTru).toS env (kIte g a b env) := (rfl)
@[simp] theorem kIte_t (a b : Ss) : kIte g a b env true st = evSs g a env st := (rfl)
@[simp] theorem kIte_f (a b : Ss) : kIte g a b env false st = evSs g b env st := (rfl)
@[simp] theorem evS_whl (c : E) (body : Ss) : evS g (.whl c body) env st = whD (evC g c) (evSs g body) env st := (rfl)
@[simp] theorem evS_for (tg : Tg) (it : It) (body : Ss) : evS g (.for_ tg it body) env st = (evIt g it env st).toS env (kFor g tg body env) := (rfl)
@[simp] theorem kFor_ap (tg : Tg) (body : Ss) (xs : List D) : kFor g tg body env xs st = forD tg (evSs g body) xs env st := (rfl)
@[simp] theorem evS_brk : evS g .brk env st = .bk env st := (rfl)
@[simp] theorem evS_cont : evS g .cont env st = .ct env st := (rfl)
@[simp] theorem evS_pass : evS g .pass env st = .nx env st := (rfl)
@[simp] theorem evS_drop (e : E) : evS g (.drop e) env st = (evE g e env st).toS env (kDrop env) := (rfl)
@[simp] theorem kDrop_ap (d : D) : kDrop env d st = .nx env st := (rfl)
@[simp] theorem evS_kill (i : Nat) : evS g (.kill i) env st = .nx (env.set i none) st := (rfl)
@[simp] theorem evS_raise (c : Str) (e : E) : evS g (.raise_ c e) env st = (evE g e env st).toS env (kRaise c env) := (rfl)
@[simp] theorem kRaise_ap (c : Str) (d : D) : kRaise c env d st = .exn c d env st := (rfl)
@[simp] theorem evSs_nil : evSs g .nil env st = .nx env st := (rfl)
@[simp] theorem evSs_cons (s : S) (ss : Ss) : evSs g (.cons s ss) env st = (evS g s env st).seq (evSs g ss) := by
  rw [evSs]
  generalize evS g s env st = t
  cases t <;> rfl
end

/-! ### small facts for the rewriting -/
@[simp] theorem slot_zero (x : Option D) (env : Env) : slot (x :: env) 0 = x := (rfl)
@[simp] theorem slot_succ (x : Option D) (env : Env) (n : Nat) : slot (x :: env) (n + 1) = slot env n := (rfl)
@[simp] theorem guardO_true {p : Prop} [Decidable p] {x : α} (h : p) : guardO p x = some x := if_pos h
@[simp] theorem akOk_own (d : D) : akOk .own d = true := (rfl)
@[simp] theorem akOk_pln (d : D) : akOk .pln d = true := (rfl)
@[simp] theorem akOk_nl (d : D) : akOk .nl d = noL d := (rfl)
@[simp] theorem akOk_n1 (d : D) : akOk .n1 d = noI d := (rfl)
@[simp] theorem noI_lst (xs : List D) : noI (.lst xs) = noLs xs := (rfl)
@[simp] theorem permL_nil {zs : List α} : permL [] zs = [] := (rfl)
@[simp] theorem bindTg_name (i : Nat) (d : D) (env : Env) : bindTg (.name i) d env = some (env.set i (some d)) := (rfl)
@[simp] theorem bindTg_tup (ts : Tgs) (ds : List D) (env : Env) : bindTg (.tup ts) (.tup ds) env = bindTgs ts ds env := (rfl)
@[simp] theorem bindTgs_nil (env : Env) : bindTgs .nil [] env = some env := (rfl)
@[simp] theorem bindTgs_cons (t : Tg) (ts : Tgs) (d : D) (ds : List D) (env : Env) : bindTgs (.cons t ts) (d :: ds) env = (bindTg t d env).bind fun env' => bindTgs ts ds env' := (rfl)

/-! ### rules of loops -/
inductive stepOK (I : Env → Sto → Prop) (P : RS → Prop) : RS → Prop where
  | nx (e : Env) (s : Sto) : I e s → stepOK I P (.nx e s)
  | ct (e : Env) (s : Sto) : I e s → stepOK I P (.ct e s)
  | bk (e : Env) (s : Sto) : P (.nx e s) → stepOK I P (.bk e s)
  | rt (d : D) (s : Sto) : P (.rt d s) → stepOK I P (.rt d s)
  | exn (c : Str) (d : D) (e : Env) (s : Sto) : P (.exn c d e s) → stepOK I P (.exn c d e s)
@[simp] theorem stepOK_nx (I : Env → Sto → Prop) (P : RS → Prop) (e : Env) (s : Sto) : stepOK I P (.nx e s) = I e s := propext ⟨fun h => by cases h; assumption, .nx e s⟩
@[simp] theorem stepOK_ct (I : Env → Sto → Prop) (P : RS → Prop) (e : Env) (s : Sto) : stepOK I P (.ct e s) = I e s := propext ⟨fun h => by cases h; assumption, .ct e s⟩
@[simp] theorem stepOK_bk (I : Env → Sto → Prop) (P : RS → Prop) (e : Env) (s : Sto) : stepOK I P (.bk e s) = P (.nx e s) := propext ⟨fun h => by cases h; assumption, .bk e s⟩
@[simp] theorem stepOK_rt (I : Env → Sto → Prop) (P : RS → Prop) (d : D) (s : Sto) : stepOK I P (.rt d s) = P (.rt d s) := propext ⟨fun h => by cases h; assumption, .rt d s⟩
@[simp] theorem stepOK_exn (I : Env → Sto → Prop) (P : RS → Prop) (c : Str) (d : D) (e : Env) (s : Sto) : stepOK I P (.exn c d e s) = P (.exn c d e s) := propext ⟨fun h => by cases h; assumption, .exn c d e s⟩
theorem forD_rule {tg : Tg} {b : Env → Sto → RS} {xs : List D} {env : Env} {st : Sto} (I : List D → Env → Sto → Prop) {P : RS → Prop} (h0 : I [] env st)
    (hs : ∀ pre x post env st, xs = pre ++ x :: post → I pre env st → ∃ env1, bindTg tg x env = some env1 ∧ stepOK (I (pre ++ [x])) P (b env1 st))
    (he : ∀ env st, I xs env st → P (.nx env st)) : P (forD tg b xs env st) := by
  have key : ∀ (post pre : List D) (env : Env) (st : Sto), xs = pre ++ post → I pre env st → P (forD tg b post env st) := by
    intro post
    induction post with
    | nil => intro pre env st e i; rw [List.append_nil] at e; subst e; exact he _ _ i
    | cons x post ih =>
      intro pre env st e i
      obtain ⟨env1, h1, h2⟩ := hs pre x post env st e i
      have e' : xs = (pre ++ [x]) ++ post := by rw [e]; simp
      have u : forD tg b (x :: post) env st = match b env1 st with
        | .nx env' st' => forD tg b post env' st'
        | .ct env' st' => forD tg b post env' st'
        | .bk env' st' => .nx env' st'
        | r => r := by rw [forD, h1] <;> rfl
      rw [u]
      generalize b env1 st = r at h2
      cases h2 with
      | nx e s h2 => exact ih _ _ _ e' h2
      | ct e s h2 => exact ih _ _ _ e' h2
      | bk e s h2 => exact h2
      | rt d s h2 => exact h2
      | exn c d e s h2 => exact h2
  exact key xs [] env st rfl h0
theorem whD_rule {c : Env → Sto → R Bool} {b : Env → Sto → RS} {env : Env} {st : Sto} (I : Nat → Env → Sto → Prop) {P : RS → Prop} (n : Nat) (h0 : I n env st)
    (hs : ∀ n env st, I n env st → ∃ k st1, c env st = .ok k st1 ∧ (k = false → P (.nx env st1)) ∧ (k = true → stepOK (fun e s => ∃ m, m < n ∧ I m e s) P (b env st1))) : P (whD c b env st) := by
  induction n using Nat.strongRecOn generalizing env st with
  | ind n ih =>
    obtain ⟨k, st1, h1, h2, h3⟩ := hs n env st h0
    rw [whD_eq, h1]
    cases k with
    | false => exact h2 rfl
    | true =>
      have h3 := h3 rfl
      simp only [R.toS_ok]
      generalize b env st1 = r at h3
      cases h3 with
      | nx e s h3 => obtain ⟨m, hm, i⟩ := h3; exact ih m hm i
      | ct e s h3 => obtain ⟨m, hm, i⟩ := h3; exact ih m hm i
      | bk e s h3 => exact h3
      | rt d s h3 => exact h3
      | exn c d e s h3 => exact h3
theorem compLoop_map {f : D → Sto → R (Option D)} (h : D → Option D) {st : Sto} : ∀ {xs : List D}, (∀ x ∈ xs, f x st = .ok (h x) st) → compLoop f xs st = .ok (xs.filterMap h) st
  | [], _ => rfl
  | x :: xs, hx => by
    unfold compLoop
    rw [hx x (by simp), R.bind_ok, compLoop_map h fun y hy => hx y (by simp [hy]), R.bind_ok]
    cases e : h x <;> simp [e]
end WT
end

section
set_option Elab.async false
set_option linter.all false
set_option maxRecDepth 100000
set_option autoImplicit false
/-! written by wip/gen.py for k35_whole_means_of_a_crooked_coin: terms and what they mean. -/
namespace Lk35
open PySem WT
def consL : List (Str × D) := [(("ZERO" : Str), (.tup [(.int 0), (.int 1)])), (("ONE" : Str), (.tup [(.int 1), (.int 1)]))]
/-- _law_well -/
def N_law_well : List Str := [("script" : Str), ("place" : Str), ("cell" : Str)]
def b_law_well : Ss := (.cons (.set 2 .pln (.ife (.cmp .Lt (.var 1) (.bi .len (.cons (.var 0) .nil))) (.idx (.var 0) (.var 1)) (.bin .Add (.bin .Mult (.var 1) (.int 7919)) (.bin .Mult (.bi .len (.cons (.var 0) .nil)) (.int 104729))))) (.cons (.ret (.lst (.cons (.bi .max2 (.cons (.int 0) (.cons (.bin .Sub (.bi .abs (.cons (.var 2) .nil)) (.bin .Pow (.int 10) (.int 18))) .nil))) (.cons (.bin .Mod (.bi .int (.cons (.bin .Add (.bin .Add (.bin .Mult (.var 2) (.int 48611)) (.bin .Mult (.var 1) (.int 6700417))) (.int 31337)) .nil)) (.bin .Add (.bin .Pow (.int 10) (.int 24)) (.int 7))) (.cons (.int 0) .nil))))) .nil))
def t_law_well1 : S := (.set 2 .pln (.ife (.cmp .Lt (.var 1) (.bi .len (.cons (.var 0) .nil))) (.idx (.var 0) (.var 1)) (.bin .Add (.bin .Mult (.var 1) (.int 7919)) (.bin .Mult (.bi .len (.cons (.var 0) .nil)) (.int 104729)))))
def t_law_well2 : S := (.ret (.lst (.cons (.bi .max2 (.cons (.int 0) (.cons (.bin .Sub (.bi .abs (.cons (.var 2) .nil)) (.bin .Pow (.int 10) (.int 18))) .nil))) (.cons (.bin .Mod (.bi .int (.cons (.bin .Add (.bin .Add (.bin .Mult (.var 2) (.int 48611)) (.bin .Mult (.var 1) (.int 6700417))) (.int 31337)) .nil)) (.bin .Add (.bin .Pow (.int 10) (.int 24)) (.int 7))) (.cons (.int 0) .nil)))))
theorem bt_law_well : b_law_well = (.cons t_law_well1 (.cons t_law_well2 .nil)) := rfl
/-- _law_dip -/
def N_law_dip : List Str := [("well" : Str), ("upto" : Str), ("mixed" : Str), ("figure" : Str)]
def b_law_dip : Ss := (.cons (.ite (.cmp .Gt (.idx (.var 0) (.int 0)) (.int 0)) (.cons (.set 3 .pln (.bin .Mod (.bi .int (.cons (.idx (.var 0) (.int 0)) .nil)) (.var 1))) (.cons (.setIx 0 false false (.int 0) (.bin .FloorDiv (.idx (.var 0) (.int 0)) (.var 1))) (.cons (.ret (.var 3)) .nil))) .nil) (.cons (.setIx 0 false false (.int 2) (.bin .Add (.idx (.var 0) (.int 2)) (.int 1))) (.cons (.set 2 .pln (.bin .Mod (.bin .Pow (.bi .int (.cons (.bin .Add (.idx (.var 0) (.int 1)) (.bin .Mult (.int 1000003) (.idx (.var 0) (.int 2)))) .nil)) (.int 3)) (.bin .Add (.bin .Pow (.int 10) (.int 25)) (.int 13)))) (.cons (.set 2 .pln (.bin .Mod (.bin .Pow (.bi .int (.cons (.bin .Add (.var 2) (.bin .Mult (.int 77347) (.idx (.var 0) (.int 2)))) .nil)) (.int 2)) (.bin .Add (.bin .Pow (.int 10) (.int 24)) (.int 7)))) (.cons (.ret (.bin .Mod (.bi .int (.cons (.bin .FloorDiv (.var 2) (.int 4096)) .nil)) (.var 1))) .nil)))))
def t_law_dip1 : S := (.ite (.cmp .Gt (.idx (.var 0) (.int 0)) (.int 0)) (.cons (.set 3 .pln (.bin .Mod (.bi .int (.cons (.idx (.var 0) (.int 0)) .nil)) (.var 1))) (.cons (.setIx 0 false false (.int 0) (.bin .FloorDiv (.idx (.var 0) (.int 0)) (.var 1))) (.cons (.ret (.var 3)) .nil))) .nil)
def t_law_dip2 : S := (.setIx 0 false false (.int 2) (.bin .Add (.idx (.var 0) (.int 2)) (.int 1)))
def t_law_dip3 : S := (.set 2 .pln (.bin .Mod (.bin .Pow (.bi .int (.cons (.bin .Add (.idx (.var 0) (.int 1)) (.bin .Mult (.int 1000003) (.idx (.var 0) (.int 2)))) .nil)) (.int 3)) (.bin .Add (.bin .Pow (.int 10) (.int 25)) (.int 13))))
def t_law_dip4 : S := (.set 2 .pln (.bin .Mod (.bin .Pow (.bi .int (.cons (.bin .Add (.var 2) (.bin .Mult (.int 77347) (.idx (.var 0) (.int 2)))) .nil)) (.int 2)) (.bin .Add (.bin .Pow (.int 10) (.int 24)) (.int 7))))
def t_law_dip5 : S := (.ret (.bin .Mod (.bi .int (.cons (.bin .FloorDiv (.var 2) (.int 4096)) .nil)) (.var 1)))
theorem bt_law_dip : b_law_dip = (.cons t_law_dip1 (.cons t_law_dip2 (.cons t_law_dip3 (.cons t_law_dip4 (.cons t_law_dip5 .nil))))) := rfl
/-- _law_low -/
def N_law_low : List Str := [("top" : Str), ("bottom" : Str), ("one" : Str), ("other" : Str)]
def w_law_low1 : E := (.cmp .NotEq (.var 3) (.int 0))
def l_law_low1 : Ss := (.cons (.par 2 3 .pln .pln (.var 3) (.bin .Mod (.bi .int (.cons (.var 2) .nil)) (.var 3))) .nil)
def b_law_low : Ss := (.cons (.par 2 3 .pln .pln (.bi .abs (.cons (.var 0) .nil)) (.var 1)) (.cons (.whl w_law_low1 l_law_low1) (.cons (.ret (.tup (.cons (.bin .FloorDiv (.var 0) (.var 2)) (.cons (.bin .FloorDiv (.var 1) (.var 2)) .nil)))) .nil)))
def t_law_low1 : S := (.par 2 3 .pln .pln (.bi .abs (.cons (.var 0) .nil)) (.var 1))
def t_law_low2 : S := (.whl w_law_low1 l_law_low1)
def t_law_low3 : S := (.ret (.tup (.cons (.bin .FloorDiv (.var 0) (.var 2)) (.cons (.bin .FloorDiv (.var 1) (.var 2)) .nil))))
theorem bt_law_low : b_law_low = (.cons t_law_low1 (.cons t_law_low2 (.cons t_law_low3 .nil))) := rfl
/-- _law_rows -/
def N_law_rows : List Str := [("n" : Str), ("found" : Str), ("turn" : Str), ("longer" : Str), ("row" : Str)]
def l_law_rows1 : Ss := (.cons (.set 3 .pln (.bin .Add (.var 3) (.lst (.cons (.bin .Add (.var 4) (.tup (.cons (.int 0) .nil))) (.cons (.bin .Add (.var 4) (.tup (.cons (.int 1) .nil))) .nil))))) .nil)
def l_law_rows2 : Ss := (.cons (.set 3 .pln (.lst .nil)) (.cons (.for_ (.name 4) (.seq (.var 1)) l_law_rows1) (.cons (.set 1 .pln (.var 3)) .nil)))
def tl_law_rows2_1 : S := (.set 3 .pln (.lst .nil))
def tl_law_rows2_2 : S := (.for_ (.name 4) (.seq (.var 1)) l_law_rows1)
def tl_law_rows2_3 : S := (.set 1 .pln (.var 3))
theorem btl_law_rows2 : l_law_rows2 = (.cons tl_law_rows2_1 (.cons tl_law_rows2_2 (.cons tl_law_rows2_3 .nil))) := rfl
def b_law_rows : Ss := (.cons (.set 1 .pln (.lst (.cons (.tup .nil) .nil))) (.cons (.for_ (.name 2) (.range1 (.var 0)) l_law_rows2) (.cons (.ret (.var 1)) .nil)))
def t_law_rows1 : S := (.set 1 .pln (.lst (.cons (.tup .nil) .nil)))
def t_law_rows2 : S := (.for_ (.name 2) (.range1 (.var 0)) l_law_rows2)
def t_law_rows3 : S := (.ret (.var 1))
theorem bt_law_rows : b_law_rows = (.cons t_law_rows1 (.cons t_law_rows2 (.cons t_law_rows3 .nil))) := rfl
/-- _law_power -/
def N_law_power : List Str := [("b" : Str), ("n" : Str), ("found" : Str), ("turn" : Str)]
def l_law_power1 : Ss := (.cons (.set 2 .pln (.bin .Mult (.var 2) (.var 0))) .nil)
def b_law_power : Ss := (.cons (.set 2 .pln (.int 1)) (.cons (.for_ (.name 3) (.range1 (.var 1)) l_law_power1) (.cons (.ret (.var 2)) .nil)))
def t_law_power1 : S := (.set 2 .pln (.int 1))
def t_law_power2 : S := (.for_ (.name 3) (.range1 (.var 1)) l_law_power1)
def t_law_power3 : S := (.ret (.var 2))
theorem bt_law_power : b_law_power = (.cons t_law_power1 (.cons t_law_power2 (.cons t_law_power3 .nil))) := rfl
/-- _law_best -/
def N_law_best : List Str := [("rows" : Str), ("turn" : Str), ("found" : Str), ("size" : Str), ("some" : Str), ("longer" : Str), ("row" : Str)]
def w_law_best1 : E := (.cmp .LtE (.bin .Mult (.int 2) (.var 3)) (.bi .len (.cons (.var 0) .nil)))
def l_law_best1 : Ss := (.cons (.set 3 .pln (.bin .Mult (.int 2) (.var 3))) .nil)
def w_law_best2 : E := (.cmp .Lt (.bi .len (.cons (.var 4) .nil)) (.var 3))
def l_law_best2 : Ss := (.cons (.set 5 .pln (.bin .Add (.var 5) (.lst (.cons (.bin .Add (.var 6) (.tup (.cons (.int 0) .nil))) (.cons (.bin .Add (.var 6) (.tup (.cons (.int 1) .nil))) .nil))))) .nil)
def l_law_best3 : Ss := (.cons (.set 5 .pln (.lst .nil)) (.cons (.for_ (.name 6) (.seq (.var 4)) l_law_best2) (.cons (.set 4 .pln (.var 5)) .nil)))
def tl_law_best3_1 : S := (.set 5 .pln (.lst .nil))
def tl_law_best3_2 : S := (.for_ (.name 6) (.seq (.var 4)) l_law_best2)
def tl_law_best3_3 : S := (.set 4 .pln (.var 5))
theorem btl_law_best3 : l_law_best3 = (.cons tl_law_best3_1 (.cons tl_law_best3_2 (.cons tl_law_best3_3 .nil))) := rfl
def l_law_best4 : Ss := (.cons (.ite (.cmp .GtE (.bin .Sub (.bi .len (.cons (.var 0) .nil)) (.bi .len (.cons (.var 2) .nil))) (.var 3)) (.cons (.set 4 .pln (.lst (.cons (.tup .nil) .nil))) (.cons (.whl w_law_best2 l_law_best3) (.cons (.set 2 .pln (.bin .Add (.var 2) (.var 4))) .nil))) .nil) (.cons (.set 3 .pln (.bi .max2 (.cons (.int 1) (.cons (.bin .FloorDiv (.var 3) (.int 2)) .nil)))) .nil))
def tl_law_best4_1 : S := (.ite (.cmp .GtE (.bin .Sub (.bi .len (.cons (.var 0) .nil)) (.bi .len (.cons (.var 2) .nil))) (.var 3)) (.cons (.set 4 .pln (.lst (.cons (.tup .nil) .nil))) (.cons (.whl w_law_best2 l_law_best3) (.cons (.set 2 .pln (.bin .Add (.var 2) (.var 4))) .nil))) .nil)
def tl_law_best4_2 : S := (.set 3 .pln (.bi .max2 (.cons (.int 1) (.cons (.bin .FloorDiv (.var 3) (.int 2)) .nil))))
theorem btl_law_best4 : l_law_best4 = (.cons tl_law_best4_1 (.cons tl_law_best4_2 .nil)) := rfl
def b_law_best : Ss := (.cons (.par 2 3 .pln .pln (.lst .nil) (.int 1)) (.cons (.whl w_law_best1 l_law_best1) (.cons (.for_ (.name 1) (.range1 (.op1 .bits (.bi .len (.cons (.var 0) .nil)))) l_law_best4) (.cons (.ret (.var 2)) .nil))))
def t_law_best1 : S := (.par 2 3 .pln .pln (.lst .nil) (.int 1))
def t_law_best2 : S := (.whl w_law_best1 l_law_best1)
def t_law_best3 : S := (.for_ (.name 1) (.range1 (.op1 .bits (.bi .len (.cons (.var 0) .nil)))) l_law_best4)
def t_law_best4 : S := (.ret (.var 2))
theorem bt_law_best : b_law_best = (.cons t_law_best1 (.cons t_law_best2 (.cons t_law_best3 (.cons t_law_best4 .nil)))) := rfl
/-- _law_mean -/
def N_law_mean : List Str := [("n" : Str), ("share" : Str), ("row" : Str), ("h" : Str), ("top" : Str), ("bottom" : Str), ("own" : Str), ("total" : Str), ("tosses" : Str), ("output" : Str)]
def l_law_mean1 : Ss := (.cons (.setIx 6 true false (.bi .sum (.cons (.var 2) .nil)) (.bin .Add (.idx (.var 6) (.bi .sum (.cons (.var 2) .nil))) (.int 1))) .nil)
def e_law_mean1 : E := (.bi .len (.cons (.var 9) .nil))
def l_law_mean2 : Ss := (.cons (.set 8 .pln (.bi .sum (.cons (.comp (.name 9) (.seq (.call 5 (.cons (.bin .Mult (.lst (.cons (.tup .nil) .nil)) (.idx (.var 6) (.var 3))) .nil) .nil [])) false .non e_law_mean1) .nil))) (.cons (.set 7 .pln (.bin .Add (.var 7) (.bin .Mult (.bin .Mult (.var 8) (.call 4 (.cons (.var 4) (.cons (.var 3) .nil)) .nil [])) (.call 4 (.cons (.bin .Sub (.var 5) (.var 4)) (.cons (.bin .Sub (.var 0) (.var 3)) .nil)) .nil [])))) .nil))
def tl_law_mean2_1 : S := (.set 8 .pln (.bi .sum (.cons (.comp (.name 9) (.seq (.call 5 (.cons (.bin .Mult (.lst (.cons (.tup .nil) .nil)) (.idx (.var 6) (.var 3))) .nil) .nil [])) false .non e_law_mean1) .nil)))
def tl_law_mean2_2 : S := (.set 7 .pln (.bin .Add (.var 7) (.bin .Mult (.bin .Mult (.var 8) (.call 4 (.cons (.var 4) (.cons (.var 3) .nil)) .nil [])) (.call 4 (.cons (.bin .Sub (.var 5) (.var 4)) (.cons (.bin .Sub (.var 0) (.var 3)) .nil)) .nil []))))
theorem btl_law_mean2 : l_law_mean2 = (.cons tl_law_mean2_1 (.cons tl_law_mean2_2 .nil)) := rfl
def b_law_mean : Ss := (.cons (.setT (.tup (.cons (.name 4) (.cons (.name 5) .nil))) (.var 1)) (.cons (.par 6 7 .own .pln (.bin .Mult (.lst (.cons (.int 0) .nil)) (.bin .Add (.var 0) (.int 1))) (.int 0)) (.cons (.for_ (.name 2) (.seq (.call 3 (.cons (.var 0) .nil) .nil [])) l_law_mean1) (.cons (.for_ (.name 3) (.range1 (.bin .Add (.var 0) (.int 1))) l_law_mean2) (.cons (.ret (.call 2 (.cons (.var 7) (.cons (.call 4 (.cons (.var 5) (.cons (.var 0) .nil)) .nil []) .nil)) .nil [])) .nil)))))
def t_law_mean1 : S := (.setT (.tup (.cons (.name 4) (.cons (.name 5) .nil))) (.var 1))
def t_law_mean2 : S := (.par 6 7 .own .pln (.bin .Mult (.lst (.cons (.int 0) .nil)) (.bin .Add (.var 0) (.int 1))) (.int 0))
def t_law_mean3 : S := (.for_ (.name 2) (.seq (.call 3 (.cons (.var 0) .nil) .nil [])) l_law_mean1)
def t_law_mean4 : S := (.for_ (.name 3) (.range1 (.bin .Add (.var 0) (.int 1))) l_law_mean2)
def t_law_mean5 : S := (.ret (.call 2 (.cons (.var 7) (.cons (.call 4 (.cons (.var 5) (.cons (.var 0) .nil)) .nil []) .nil)) .nil []))
theorem bt_law_mean : b_law_mean = (.cons t_law_mean1 (.cons t_law_mean2 (.cons t_law_mean3 (.cons t_law_mean4 (.cons t_law_mean5 .nil))))) := rfl
/-- is_integer -/
def N_is_integer : List Str := [("value" : Str)]
def b_is_integer : Ss := (.cons (.ret (.and (.isi (.var 0) [.int] false) (.not (.isi (.var 0) [.bool] false)))) .nil)
/-- check_throws -/
def N_check_throws : List Str := [("n" : Str)]
def b_check_throws : Ss := (.cons (.ite (.or (.not (.call 7 (.cons (.var 0) .nil) .nil [])) (.cmp .Lt (.var 0) (.int 1))) (.cons .dead .nil) .nil) .nil)
/-- lowest -/
def N_lowest : List Str := [("top" : Str), ("bottom" : Str), ("common" : Str)]
def b_lowest : Ss := (.cons (.set 2 .pln (.bi .gcd (.cons (.var 0) (.cons (.var 1) .nil)))) (.cons (.ite (.cmp .Lt (.var 1) (.int 0)) (.cons (.set 2 .pln (.neg (.var 2))) .nil) .nil) (.cons (.ret (.tup (.cons (.bin .FloorDiv (.var 0) (.var 2)) (.cons (.bin .FloorDiv (.var 1) (.var 2)) .nil)))) .nil)))
def t_lowest1 : S := (.set 2 .pln (.bi .gcd (.cons (.var 0) (.cons (.var 1) .nil))))
def t_lowest2 : S := (.ite (.cmp .Lt (.var 1) (.int 0)) (.cons (.set 2 .pln (.neg (.var 2))) .nil) .nil)
def t_lowest3 : S := (.ret (.tup (.cons (.bin .FloorDiv (.var 0) (.var 2)) (.cons (.bin .FloorDiv (.var 1) (.var 2)) .nil))))
theorem bt_lowest : b_lowest = (.cons t_lowest1 (.cons t_lowest2 (.cons t_lowest3 .nil))) := rfl
/-- sum_of_two -/
def N_sum_of_two : List Str := [("a" : Str), ("b" : Str)]
def b_sum_of_two : Ss := (.cons (.ret (.call 9 (.cons (.bin .Add (.bin .Mult (.idx (.var 0) (.int 0)) (.idx (.var 1) (.int 1))) (.bin .Mult (.idx (.var 1) (.int 0)) (.idx (.var 0) (.int 1)))) (.cons (.bin .Mult (.idx (.var 0) (.int 1)) (.idx (.var 1) (.int 1))) .nil)) .nil [])) .nil)
/-- sum_of_all -/
def N_sum_of_all : List Str := [("numbers" : Str), ("total" : Str), ("a" : Str)]
def l_sum_of_all1 : Ss := (.cons (.set 1 .pln (.call 10 (.cons (.var 1) (.cons (.var 2) .nil)) .nil [])) .nil)
def b_sum_of_all : Ss := (.cons (.set 1 .pln (.glob 0)) (.cons (.for_ (.name 2) (.seq (.var 0)) l_sum_of_all1) (.cons (.ret (.var 1)) .nil)))
def t_sum_of_all1 : S := (.set 1 .pln (.glob 0))
def t_sum_of_all2 : S := (.for_ (.name 2) (.seq (.var 0)) l_sum_of_all1)
def t_sum_of_all3 : S := (.ret (.var 1))
theorem bt_sum_of_all : b_sum_of_all = (.cons t_sum_of_all1 (.cons t_sum_of_all2 (.cons t_sum_of_all3 .nil))) := rfl
/-- difference -/
def N_difference : List Str := [("a" : Str), ("b" : Str)]
def b_difference : Ss := (.cons (.ret (.call 9 (.cons (.bin .Sub (.bin .Mult (.idx (.var 0) (.int 0)) (.idx (.var 1) (.int 1))) (.bin .Mult (.idx (.var 1) (.int 0)) (.idx (.var 0) (.int 1)))) (.cons (.bin .Mult (.idx (.var 0) (.int 1)) (.idx (.var 1) (.int 1))) .nil)) .nil [])) .nil)
/-- power -/
def N_power : List Str := [("b" : Str), ("n" : Str), ("found" : Str), ("turn" : Str)]
def l_power1 : Ss := (.cons (.set 2 .pln (.bin .Mult (.var 2) (.var 0))) .nil)
def b_power : Ss := (.cons (.set 2 .pln (.int 1)) (.cons (.for_ (.name 3) (.range1 (.var 1)) l_power1) (.cons (.ret (.var 2)) .nil)))
def t_power1 : S := (.set 2 .pln (.int 1))
def t_power2 : S := (.for_ (.name 3) (.range1 (.var 1)) l_power1)
def t_power3 : S := (.ret (.var 2))
theorem bt_power : b_power = (.cons t_power1 (.cons t_power2 (.cons t_power3 .nil))) := rfl
/-- stretches -/
def N_stretches : List Str := [("many" : Str), ("place" : Str)]
def q_stretches1 : E := (.cmp .Eq (.bin .Mod (.bin .FloorDiv (.var 0) (.call 13 (.cons (.int 2) (.cons (.var 1) .nil)) .nil [])) (.int 2)) (.int 1))
def e_stretches1 : E := (.var 1)
def b_stretches : Ss := (.cons (.ret (.comp (.name 1) (.range3 (.bin .Sub (.op1 .bits (.var 0)) (.int 1)) (.neg (.int 1)) (.neg (.int 1))) true q_stretches1 e_stretches1)) .nil)
/-- most_of -/
def N_most_of : List Str := [("n" : Str), ("h" : Str), ("size" : Str)]
def e_most_of1 : E := (.bin .Mult (.var 2) (.call 13 (.cons (.int 2) (.cons (.var 2) .nil)) .nil []))
def e_most_of2 : E := (.bi .sum (.cons (.comp (.name 2) (.seq (.call 14 (.cons (.bi .comb (.cons (.var 0) (.cons (.var 1) .nil))) .nil) .nil [])) false .non e_most_of1) .nil))
def b_most_of : Ss := (.cons (.ret (.bi .tuple (.cons (.comp (.name 1) (.range1 (.bin .Add (.var 0) (.int 1))) false .non e_most_of2) .nil))) .nil)
/-- is_pair -/
def N_is_pair : List Str := [("value" : Str)]
def b_is_pair : Ss := (.cons (.ret (.and (.isi (.var 0) [.tuple] false) (.cmp .Eq (.bi .len (.cons (.var 0) .nil)) (.int 2)))) .nil)
/-- is_number_of -/
def N_is_number_of : List Str := [("told" : Str)]
def b_is_number_of : Ss := (.cons (.ite (.or (.not (.call 16 (.cons (.var 0) .nil) .nil [])) (.or (.not (.call 7 (.cons (.idx (.var 0) (.int 0)) .nil) .nil [])) (.not (.call 7 (.cons (.idx (.var 0) (.int 1)) .nil) .nil [])))) (.cons (.ret (.bl false)) .nil) .nil) (.cons (.ret (.and (.cmp .Gt (.idx (.var 0) (.int 1)) (.int 0)) (.cmp .Eq (.call 9 (.cons (.idx (.var 0) (.int 0)) (.cons (.idx (.var 0) (.int 1)) .nil)) .nil []) (.var 0)))) .nil))
def t_is_number_of1 : S := (.ite (.or (.not (.call 16 (.cons (.var 0) .nil) .nil [])) (.or (.not (.call 7 (.cons (.idx (.var 0) (.int 0)) .nil) .nil [])) (.not (.call 7 (.cons (.idx (.var 0) (.int 1)) .nil) .nil [])))) (.cons (.ret (.bl false)) .nil) .nil)
def t_is_number_of2 : S := (.ret (.and (.cmp .Gt (.idx (.var 0) (.int 1)) (.int 0)) (.cmp .Eq (.call 9 (.cons (.idx (.var 0) (.int 0)) (.cons (.idx (.var 0) (.int 1)) .nil)) .nil []) (.var 0))))
theorem bt_is_number_of : b_is_number_of = (.cons t_is_number_of1 (.cons t_is_number_of2 .nil)) := rfl
/-- product -/
def N_product : List Str := [("a" : Str), ("b" : Str)]
def b_product : Ss := (.cons (.ret (.call 9 (.cons (.bin .Mult (.idx (.var 0) (.int 0)) (.idx (.var 1) (.int 0))) (.cons (.bin .Mult (.idx (.var 0) (.int 1)) (.idx (.var 1) (.int 1))) .nil)) .nil [])) .nil)
/-- whole -/
def N_whole : List Str := [("a" : Str)]
def b_whole : Ss := (.cons (.ret (.tup (.cons (.var 0) (.cons (.int 1) .nil)))) .nil)
/-- mean_out -/
def N_mean_out : List Str := [("n" : Str), ("share" : Str), ("other" : Str), ("terms" : Str), ("h" : Str), ("many" : Str), ("chance" : Str)]
def l_mean_out1 : Ss := (.cons (.set 6 .pln (.call 9 (.cons (.bin .Mult (.call 13 (.cons (.idx (.var 1) (.int 0)) (.cons (.var 4) .nil)) .nil []) (.call 13 (.cons (.idx (.var 2) (.int 0)) (.cons (.bin .Sub (.var 0) (.var 4)) .nil)) .nil [])) (.cons (.call 13 (.cons (.idx (.var 1) (.int 1)) (.cons (.var 0) .nil)) .nil []) .nil)) .nil [])) (.cons (.app 3 true false (.call 18 (.cons (.call 19 (.cons (.var 5) .nil) .nil []) (.cons (.var 6) .nil)) .nil [])) .nil))
def tl_mean_out1_1 : S := (.set 6 .pln (.call 9 (.cons (.bin .Mult (.call 13 (.cons (.idx (.var 1) (.int 0)) (.cons (.var 4) .nil)) .nil []) (.call 13 (.cons (.idx (.var 2) (.int 0)) (.cons (.bin .Sub (.var 0) (.var 4)) .nil)) .nil [])) (.cons (.call 13 (.cons (.idx (.var 1) (.int 1)) (.cons (.var 0) .nil)) .nil []) .nil)) .nil []))
def tl_mean_out1_2 : S := (.app 3 true false (.call 18 (.cons (.call 19 (.cons (.var 5) .nil) .nil []) (.cons (.var 6) .nil)) .nil []))
theorem btl_mean_out1 : l_mean_out1 = (.cons tl_mean_out1_1 (.cons tl_mean_out1_2 .nil)) := rfl
def b_mean_out : Ss := (.cons (.drop (.call 8 (.cons (.var 0) .nil) .nil [])) (.cons (.ite (.or (.not (.call 17 (.cons (.var 1) .nil) .nil [])) (.not (.cmp2 .Lt .Lt (.int 0) (.idx (.var 1) (.int 0)) (.idx (.var 1) (.int 1))))) (.cons .dead .nil) .nil) (.cons (.par 2 3 .pln .own (.call 12 (.cons (.glob 1) (.cons (.var 1) .nil)) .nil []) (.lst .nil)) (.cons (.for_ (.tup (.cons (.name 4) (.cons (.name 5) .nil))) (.enum (.call 15 (.cons (.var 0) .nil) .nil [])) l_mean_out1) (.cons (.ret (.call 11 (.cons (.var 3) .nil) .nil [])) .nil)))))
def t_mean_out1 : S := (.drop (.call 8 (.cons (.var 0) .nil) .nil []))
def t_mean_out2 : S := (.ite (.or (.not (.call 17 (.cons (.var 1) .nil) .nil [])) (.not (.cmp2 .Lt .Lt (.int 0) (.idx (.var 1) (.int 0)) (.idx (.var 1) (.int 1))))) (.cons .dead .nil) .nil)
def t_mean_out3 : S := (.par 2 3 .pln .own (.call 12 (.cons (.glob 1) (.cons (.var 1) .nil)) .nil []) (.lst .nil))
def t_mean_out4 : S := (.for_ (.tup (.cons (.name 4) (.cons (.name 5) .nil))) (.enum (.call 15 (.cons (.var 0) .nil) .nil [])) l_mean_out1)
def t_mean_out5 : S := (.ret (.call 11 (.cons (.var 3) .nil) .nil []))
theorem bt_mean_out : b_mean_out = (.cons t_mean_out1 (.cons t_mean_out2 (.cons t_mean_out3 (.cons t_mean_out4 (.cons t_mean_out5 .nil))))) := rfl
/-- _law_same -/
def N_law_same : List Str := [("told" : Str), ("due" : Str), ("kind" : Str), ("spot" : Str)]
def l_law_same1 : Ss := (.cons (.ite (.not (.call 21 (.cons (.idx (.var 0) (.var 3)) (.cons (.idx (.var 1) (.var 3)) .nil)) .nil [])) (.cons (.ret (.bl false)) .nil) .nil) .nil)
def b_law_same : Ss := (.cons (.ite (.cmp .Is (.var 1) .non) (.cons (.ret (.cmp .Is (.var 0) .non)) .nil) .nil) (.cons (.ite (.isi (.var 1) [.bool] false) (.cons (.ret (.and (.isi (.var 0) [.bool] false) (.cmp .Eq (.var 0) (.var 1)))) .nil) .nil) (.cons (.ite (.or (.isi (.var 1) [.tuple] false) (.isi (.var 1) [.list] false)) (.cons (.set 2 .pln (.ife (.isi (.var 1) [.tuple] false) (.isi (.var 0) [.tuple] false) (.isi (.var 0) [.list] false))) (.cons (.ite (.or (.not (.var 2)) (.cmp .NotEq (.bi .len (.cons (.var 0) .nil)) (.bi .len (.cons (.var 1) .nil)))) (.cons (.ret (.bl false)) .nil) .nil) (.cons (.for_ (.name 3) (.range1 (.bi .len (.cons (.var 1) .nil))) l_law_same1) (.cons (.ret (.bl true)) .nil)))) .nil) (.cons (.ite (.isi (.var 1) [.str] false) (.cons (.ret (.and (.isi (.var 0) [.str] false) (.cmp .Eq (.var 0) (.var 1)))) .nil) .nil) (.cons (.ret (.and (.isi (.var 0) [.int] false) (.and (.not (.isi (.var 0) [.bool] false)) (.cmp .Eq (.var 0) (.var 1))))) .nil)))))
def t_law_same1 : S := (.ite (.cmp .Is (.var 1) .non) (.cons (.ret (.cmp .Is (.var 0) .non)) .nil) .nil)
def t_law_same2 : S := (.ite (.isi (.var 1) [.bool] false) (.cons (.ret (.and (.isi (.var 0) [.bool] false) (.cmp .Eq (.var 0) (.var 1)))) .nil) .nil)
def t_law_same3 : S := (.ite (.or (.isi (.var 1) [.tuple] false) (.isi (.var 1) [.list] false)) (.cons (.set 2 .pln (.ife (.isi (.var 1) [.tuple] false) (.isi (.var 0) [.tuple] false) (.isi (.var 0) [.list] false))) (.cons (.ite (.or (.not (.var 2)) (.cmp .NotEq (.bi .len (.cons (.var 0) .nil)) (.bi .len (.cons (.var 1) .nil)))) (.cons (.ret (.bl false)) .nil) .nil) (.cons (.for_ (.name 3) (.range1 (.bi .len (.cons (.var 1) .nil))) l_law_same1) (.cons (.ret (.bl true)) .nil)))) .nil)
def t_law_same4 : S := (.ite (.isi (.var 1) [.str] false) (.cons (.ret (.and (.isi (.var 0) [.str] false) (.cmp .Eq (.var 0) (.var 1)))) .nil) .nil)
def t_law_same5 : S := (.ret (.and (.isi (.var 0) [.int] false) (.and (.not (.isi (.var 0) [.bool] false)) (.cmp .Eq (.var 0) (.var 1)))))
theorem bt_law_same : b_law_same = (.cons t_law_same1 (.cons t_law_same2 (.cons t_law_same3 (.cons t_law_same4 (.cons t_law_same5 .nil))))) := rfl
/-- law -/
def N_law : List Str := [("script" : Str), ("spot" : Str), ("well" : Str), ("n" : Str), ("turn" : Str), ("bottom" : Str), ("share" : Str), ("told" : Str), ("due" : Str), ("other" : Str)]
def l_law1 : Ss := (.cons (.set 5 .pln (.bin .Add (.int 2) (.call 1 (.cons (.var 2) (.cons (.idx (.lst (.cons (.int 3) (.cons (.int 59) .nil))) (.call 1 (.cons (.var 2) (.cons (.int 2) .nil)) .nil [])) .nil)) .nil []))) (.cons (.set 6 .pln (.call 2 (.cons (.bin .Add (.int 1) (.call 1 (.cons (.var 2) (.cons (.bin .Sub (.var 5) (.int 1)) .nil)) .nil [])) (.cons (.var 5) .nil)) .nil [])) (.cons (.par 8 9 .pln .pln (.call 6 (.cons (.var 3) (.cons (.var 6) .nil)) .nil []) (.tup (.cons (.bin .Sub (.idx (.var 6) (.int 1)) (.idx (.var 6) (.int 0))) (.cons (.idx (.var 6) (.int 1)) .nil)))) (.cons (.set 7 .pln (.lst (.cons (.call 20 (.cons (.var 3) (.cons (.var 6) .nil)) .nil []) (.cons (.call 20 .nil (.cons (.var 6) (.cons (.var 3) .nil)) [1, 0]) (.cons (.call 20 (.cons (.var 3) (.cons (.var 9) .nil)) .nil []) .nil))))) (.cons (.ite (.not (.call 21 (.cons (.var 7) (.cons (.lst (.cons (.var 8) (.cons (.var 8) (.cons (.var 8) .nil)))) .nil)) .nil [])) (.cons (.ret (.bl false)) .nil) .nil) .nil)))))
def tl_law1_1 : S := (.set 5 .pln (.bin .Add (.int 2) (.call 1 (.cons (.var 2) (.cons (.idx (.lst (.cons (.int 3) (.cons (.int 59) .nil))) (.call 1 (.cons (.var 2) (.cons (.int 2) .nil)) .nil [])) .nil)) .nil [])))
def tl_law1_2 : S := (.set 6 .pln (.call 2 (.cons (.bin .Add (.int 1) (.call 1 (.cons (.var 2) (.cons (.bin .Sub (.var 5) (.int 1)) .nil)) .nil [])) (.cons (.var 5) .nil)) .nil []))
def tl_law1_3 : S := (.par 8 9 .pln .pln (.call 6 (.cons (.var 3) (.cons (.var 6) .nil)) .nil []) (.tup (.cons (.bin .Sub (.idx (.var 6) (.int 1)) (.idx (.var 6) (.int 0))) (.cons (.idx (.var 6) (.int 1)) .nil))))
def tl_law1_4 : S := (.set 7 .pln (.lst (.cons (.call 20 (.cons (.var 3) (.cons (.var 6) .nil)) .nil []) (.cons (.call 20 .nil (.cons (.var 6) (.cons (.var 3) .nil)) [1, 0]) (.cons (.call 20 (.cons (.var 3) (.cons (.var 9) .nil)) .nil []) .nil)))))
def tl_law1_5 : S := (.ite (.not (.call 21 (.cons (.var 7) (.cons (.lst (.cons (.var 8) (.cons (.var 8) (.cons (.var 8) .nil)))) .nil)) .nil [])) (.cons (.ret (.bl false)) .nil) .nil)
theorem btl_law1 : l_law1 = (.cons tl_law1_1 (.cons tl_law1_2 (.cons tl_law1_3 (.cons tl_law1_4 (.cons tl_law1_5 .nil))))) := rfl
def l_law2 : Ss := (.cons (.set 2 .pln (.box (.call 0 (.cons (.var 0) (.cons (.var 1) .nil)) .nil []))) (.cons (.set 3 .pln (.bin .Add (.int 1) (.call 1 (.cons (.var 2) (.cons (.idx (.lst (.cons (.int 5) (.cons (.int 12) .nil))) (.call 1 (.cons (.var 2) (.cons (.int 2) .nil)) .nil [])) .nil)) .nil []))) (.cons (.for_ (.name 4) (.range1 (.int 2)) l_law1) .nil)))
def tl_law2_1 : S := (.set 2 .pln (.box (.call 0 (.cons (.var 0) (.cons (.var 1) .nil)) .nil [])))
def tl_law2_2 : S := (.set 3 .pln (.bin .Add (.int 1) (.call 1 (.cons (.var 2) (.cons (.idx (.lst (.cons (.int 5) (.cons (.int 12) .nil))) (.call 1 (.cons (.var 2) (.cons (.int 2) .nil)) .nil [])) .nil)) .nil [])))
def tl_law2_3 : S := (.for_ (.name 4) (.range1 (.int 2)) l_law1)
theorem btl_law2 : l_law2 = (.cons tl_law2_1 (.cons tl_law2_2 (.cons tl_law2_3 .nil))) := rfl
def b_law : Ss := (.cons (.for_ (.name 1) (.range1 (.bi .max2 (.cons (.int 1) (.cons (.bi .min2 (.cons (.int 6) (.cons (.bi .len (.cons (.var 0) .nil)) .nil))) .nil)))) l_law2) (.cons (.ret (.bl true)) .nil))
def t_law1 : S := (.for_ (.name 1) (.range1 (.bi .max2 (.cons (.int 1) (.cons (.bi .min2 (.cons (.int 6) (.cons (.bi .len (.cons (.var 0) .nil)) .nil))) .nil)))) l_law2)
def t_law2 : S := (.ret (.bl true))
theorem bt_law : b_law = (.cons t_law1 (.cons t_law2 .nil)) := rfl
noncomputable def g_law_well : GE := ⟨[], consL⟩
noncomputable def F_law_well : FnI := ⟨("_law_well" : Str), [("script" : Str), ("place" : Str)], evF g_law_well N_law_well.length b_law_well⟩
theorem ev_law_well (as : List D) (st : Sto) : F_law_well.sem as st = (evSs g_law_well b_law_well (as.map some ++ List.replicate (3 - as.length) none) st).fin := rfl
noncomputable def g_law_dip : GE := ⟨[F_law_well], consL⟩
noncomputable def F_law_dip : FnI := ⟨("_law_dip" : Str), [("well" : Str), ("upto" : Str)], evF g_law_dip N_law_dip.length b_law_dip⟩
theorem ev_law_dip (as : List D) (st : Sto) : F_law_dip.sem as st = (evSs g_law_dip b_law_dip (as.map some ++ List.replicate (4 - as.length) none) st).fin := rfl
noncomputable def g_law_low : GE := ⟨[F_law_well, F_law_dip], consL⟩
noncomputable def F_law_low : FnI := ⟨("_law_low" : Str), [("top" : Str), ("bottom" : Str)], evF g_law_low N_law_low.length b_law_low⟩
theorem ev_law_low (as : List D) (st : Sto) : F_law_low.sem as st = (evSs g_law_low b_law_low (as.map some ++ List.replicate (4 - as.length) none) st).fin := rfl
noncomputable def g_law_rows : GE := ⟨[F_law_well, F_law_dip, F_law_low], consL⟩
noncomputable def F_law_rows : FnI := ⟨("_law_rows" : Str), [("n" : Str)], evF g_law_rows N_law_rows.length b_law_rows⟩
theorem ev_law_rows (as : List D) (st : Sto) : F_law_rows.sem as st = (evSs g_law_rows b_law_rows (as.map some ++ List.replicate (5 - as.length) none) st).fin := rfl
noncomputable def g_law_power : GE := ⟨[F_law_well, F_law_dip, F_law_low, F_law_rows], consL⟩
noncomputable def F_law_power : FnI := ⟨("_law_power" : Str), [("b" : Str), ("n" : Str)], evF g_law_power N_law_power.length b_law_power⟩
theorem ev_law_power (as : List D) (st : Sto) : F_law_power.sem as st = (evSs g_law_power b_law_power (as.map some ++ List.replicate (4 - as.length) none) st).fin := rfl
noncomputable def g_law_best : GE := ⟨[F_law_well, F_law_dip, F_law_low, F_law_rows, F_law_power], consL⟩
noncomputable def F_law_best : FnI := ⟨("_law_best" : Str), [("rows" : Str)], evF g_law_best N_law_best.length b_law_best⟩
theorem ev_law_best (as : List D) (st : Sto) : F_law_best.sem as st = (evSs g_law_best b_law_best (as.map some ++ List.replicate (7 - as.length) none) st).fin := rfl
noncomputable def g_law_mean : GE := ⟨[F_law_well, F_law_dip, F_law_low, F_law_rows, F_law_power, F_law_best], consL⟩
noncomputable def F_law_mean : FnI := ⟨("_law_mean" : Str), [("n" : Str), ("share" : Str)], evF g_law_mean N_law_mean.length b_law_mean⟩
theorem ev_law_mean (as : List D) (st : Sto) : F_law_mean.sem as st = (evSs g_law_mean b_law_mean (as.map some ++ List.replicate (10 - as.length) none) st).fin := rfl
@[simp] theorem call_law_mean__law_rows (xs zs : List D) (ord : List Nat) (st : Sto) : callK g_law_mean 3 ord xs zs st = (if xs.length + (permL ord zs).length = 1 then F_law_rows.sem (xs ++ permL ord zs) st else .bad) := (rfl)
@[simp] theorem call_law_mean__law_best (xs zs : List D) (ord : List Nat) (st : Sto) : callK g_law_mean 5 ord xs zs st = (if xs.length + (permL ord zs).length = 1 then F_law_best.sem (xs ++ permL ord zs) st else .bad) := (rfl)
@[simp] theorem call_law_mean__law_power (xs zs : List D) (ord : List Nat) (st : Sto) : callK g_law_mean 4 ord xs zs st = (if xs.length + (permL ord zs).length = 2 then F_law_power.sem (xs ++ permL ord zs) st else .bad) := (rfl)
@[simp] theorem call_law_mean__law_low (xs zs : List D) (ord : List Nat) (st : Sto) : callK g_law_mean 2 ord xs zs st = (if xs.length + (permL ord zs).length = 2 then F_law_low.sem (xs ++ permL ord zs) st else .bad) := (rfl)
noncomputable def g_is_integer : GE := ⟨[F_law_well, F_law_dip, F_law_low, F_law_rows, F_law_power, F_law_best, F_law_mean], consL⟩
noncomputable def F_is_integer : FnI := ⟨("is_integer" : Str), [("value" : Str)], evF g_is_integer N_is_integer.length b_is_integer⟩
theorem ev_is_integer (as : List D) (st : Sto) : F_is_integer.sem as st = (evSs g_is_integer b_is_integer (as.map some ++ List.replicate (1 - as.length) none) st).fin := rfl
noncomputable def g_check_throws : GE := ⟨[F_law_well, F_law_dip, F_law_low, F_law_rows, F_law_power, F_law_best, F_law_mean, F_is_integer], consL⟩
noncomputable def F_check_throws : FnI := ⟨("check_throws" : Str), [("n" : Str)], evF g_check_throws N_check_throws.length b_check_throws⟩
theorem ev_check_throws (as : List D) (st : Sto) : F_check_throws.sem as st = (evSs g_check_throws b_check_throws (as.map some ++ List.replicate (1 - as.length) none) st).fin := rfl
@[simp] theorem call_check_throws__is_integer (xs zs : List D) (ord : List Nat) (st : Sto) : callK g_check_throws 7 ord xs zs st = (if xs.length + (permL ord zs).length = 1 then F_is_integer.sem (xs ++ permL ord zs) st else .bad) := (rfl)
noncomputable def g_lowest : GE := ⟨[F_law_well, F_law_dip, F_law_low, F_law_rows, F_law_power, F_law_best, F_law_mean, F_is_integer, F_check_throws], consL⟩
noncomputable def F_lowest : FnI := ⟨("lowest" : Str), [("top" : Str), ("bottom" : Str)], evF g_lowest N_lowest.length b_lowest⟩
theorem ev_lowest (as : List D) (st : Sto) : F_lowest.sem as st = (evSs g_lowest b_lowest (as.map some ++ List.replicate (3 - as.length) none) st).fin := rfl
noncomputable def g_sum_of_two : GE := ⟨[F_law_well, F_law_dip, F_law_low, F_law_rows, F_law_power, F_law_best, F_law_mean, F_is_integer, F_check_throws, F_lowest], consL⟩
noncomputable def F_sum_of_two : FnI := ⟨("sum_of_two" : Str), [("a" : Str), ("b" : Str)], evF g_sum_of_two N_sum_of_two.length b_sum_of_two⟩
theorem ev_sum_of_two (as : List D) (st : Sto) : F_sum_of_two.sem as st = (evSs g_sum_of_two b_sum_of_two (as.map some ++ List.replicate (2 - as.length) none) st).fin := rfl
@[simp] theorem call_sum_of_two__lowest (xs zs : List D) (ord : List Nat) (st : Sto) : callK g_sum_of_two 9 ord xs zs st = (if xs.length + (permL ord zs).length = 2 then F_lowest.sem (xs ++ permL ord zs) st else .bad) := (rfl)
noncomputable def g_sum_of_all : GE := ⟨[F_law_well, F_law_dip, F_law_low, F_law_rows, F_law_power, F_law_best, F_law_mean, F_is_integer, F_check_throws, F_lowest, F_sum_of_two], consL⟩
noncomputable def F_sum_of_all : FnI := ⟨("sum_of_all" : Str), [("numbers" : Str)], evF g_sum_of_all N_sum_of_all.length b_sum_of_all⟩
theorem ev_sum_of_all (as : List D) (st : Sto) : F_sum_of_all.sem as st = (evSs g_sum_of_all b_sum_of_all (as.map some ++ List.replicate (3 - as.length) none) st).fin := rfl
@[simp] theorem call_sum_of_all__sum_of_two (xs zs : List D) (ord : List Nat) (st : Sto) : callK g_sum_of_all 10 ord xs zs st = (if xs.length + (permL ord zs).length = 2 then F_sum_of_two.sem (xs ++ permL ord zs) st else .bad) := (rfl)
@[simp] theorem glob_sum_of_all_ZERO : (g_sum_of_all.cons[0]?).map (·.2) = some (.tup [(.int 0), (.int 1)]) := (rfl)
noncomputable def g_difference : GE := ⟨[F_law_well, F_law_dip, F_law_low, F_law_rows, F_law_power, F_law_best, F_law_mean, F_is_integer, F_check_throws, F_lowest, F_sum_of_two, F_sum_of_all], consL⟩
noncomputable def F_difference : FnI := ⟨("difference" : Str), [("a" : Str), ("b" : Str)], evF g_difference N_difference.length b_difference⟩
theorem ev_difference (as : List D) (st : Sto) : F_difference.sem as st = (evSs g_difference b_difference (as.map some ++ List.replicate (2 - as.length) none) st).fin := rfl
@[simp] theorem call_difference__lowest (xs zs : List D) (ord : List Nat) (st : Sto) : callK g_difference 9 ord xs zs st = (if xs.length + (permL ord zs).length = 2 then F_lowest.sem (xs ++ permL ord zs) st else .bad) := (rfl)
noncomputable def g_power : GE := ⟨[F_law_well, F_law_dip, F_law_low, F_law_rows, F_law_power, F_law_best, F_law_mean, F_is_integer, F_check_throws, F_lowest, F_sum_of_two, F_sum_of_all, F_difference], consL⟩
noncomputable def F_power : FnI := ⟨("power" : Str), [("b" : Str), ("n" : Str)], evF g_power N_power.length b_power⟩
theorem ev_power (as : List D) (st : Sto) : F_power.sem as st = (evSs g_power b_power (as.map some ++ List.replicate (4 - as.length) none) st).fin := rfl
noncomputable def g_stretches : GE := ⟨[F_law_well, F_law_dip, F_law_low, F_law_rows, F_law_power, F_law_best, F_law_mean, F_is_integer, F_check_throws, F_lowest, F_sum_of_two, F_sum_of_all, F_difference, F_power], consL⟩
noncomputable def F_stretches : FnI := ⟨("stretches" : Str), [("many" : Str)], evF g_stretches N_stretches.length b_stretches⟩
theorem ev_stretches (as : List D) (st : Sto) : F_stretches.sem as st = (evSs g_stretches b_stretches (as.map some ++ List.replicate (2 - as.length) none) st).fin := rfl
@[simp] theorem call_stretches__power (xs zs : List D) (ord : List Nat) (st : Sto) : callK g_stretches 13 ord xs zs st = (if xs.length + (permL ord zs).length = 2 then F_power.sem (xs ++ permL ord zs) st else .bad) := (rfl)
noncomputable def g_most_of : GE := ⟨[F_law_well, F_law_dip, F_law_low, F_law_rows, F_law_power, F_law_best, F_law_mean, F_is_integer, F_check_throws, F_lowest, F_sum_of_two, F_sum_of_all, F_difference, F_power, F_stretches], consL⟩
noncomputable def F_most_of : FnI := ⟨("most_of" : Str), [("n" : Str)], evF g_most_of N_most_of.length b_most_of⟩
theorem ev_most_of (as : List D) (st : Sto) : F_most_of.sem as st = (evSs g_most_of b_most_of (as.map some ++ List.replicate (3 - as.length) none) st).fin := rfl
@[simp] theorem call_most_of__stretches (xs zs : List D) (ord : List Nat) (st : Sto) : callK g_most_of 14 ord xs zs st = (if xs.length + (permL ord zs).length = 1 then F_stretches.sem (xs ++ permL ord zs) st else .bad) := (rfl)
@[simp] theorem call_most_of__power (xs zs : List D) (ord : List Nat) (st : Sto) : callK g_most_of 13 ord xs zs st = (if xs.length + (permL ord zs).length = 2 then F_power.sem (xs ++ permL ord zs) st else .bad) := (rfl)
noncomputable def g_is_pair : GE := ⟨[F_law_well, F_law_dip, F_law_low, F_law_rows, F_law_power, F_law_best, F_law_mean, F_is_integer, F_check_throws, F_lowest, F_sum_of_two, F_sum_of_all, F_difference, F_power, F_stretches, F_most_of], consL⟩
noncomputable def F_is_pair : FnI := ⟨("is_pair" : Str), [("value" : Str)], evF g_is_pair N_is_pair.length b_is_pair⟩
theorem ev_is_pair (as : List D) (st : Sto) : F_is_pair.sem as st = (evSs g_is_pair b_is_pair (as.map some ++ List.replicate (1 - as.length) none) st).fin := rfl
noncomputable def g_is_number_of : GE := ⟨[F_law_well, F_law_dip, F_law_low, F_law_rows, F_law_power, F_law_best, F_law_mean, F_is_integer, F_check_throws, F_lowest, F_sum_of_two, F_sum_of_all, F_difference, F_power, F_stretches, F_most_of, F_is_pair], consL⟩
noncomputable def F_is_number_of : FnI := ⟨("is_number_of" : Str), [("told" : Str)], evF g_is_number_of N_is_number_of.length b_is_number_of⟩
theorem ev_is_number_of (as : List D) (st : Sto) : F_is_number_of.sem as st = (evSs g_is_number_of b_is_number_of (as.map some ++ List.replicate (1 - as.length) none) st).fin := rfl
@[simp] theorem call_is_number_of__is_pair (xs zs : List D) (ord : List Nat) (st : Sto) : callK g_is_number_of 16 ord xs zs st = (if xs.length + (permL ord zs).length = 1 then F_is_pair.sem (xs ++ permL ord zs) st else .bad) := (rfl)
@[simp] theorem call_is_number_of__is_integer (xs zs : List D) (ord : List Nat) (st : Sto) : callK g_is_number_of 7 ord xs zs st = (if xs.length + (permL ord zs).length = 1 then F_is_integer.sem (xs ++ permL ord zs) st else .bad) := (rfl)
@[simp] theorem call_is_number_of__lowest (xs zs : List D) (ord : List Nat) (st : Sto) : callK g_is_number_of 9 ord xs zs st = (if xs.length + (permL ord zs).length = 2 then F_lowest.sem (xs ++ permL ord zs) st else .bad) := (rfl)
noncomputable def g_product : GE := ⟨[F_law_well, F_law_dip, F_law_low, F_law_rows, F_law_power, F_law_best, F_law_mean, F_is_integer, F_check_throws, F_lowest, F_sum_of_two, F_sum_of_all, F_difference, F_power, F_stretches, F_most_of, F_is_pair, F_is_number_of], consL⟩
noncomputable def F_product : FnI := ⟨("product" : Str), [("a" : Str), ("b" : Str)], evF g_product N_product.length b_product⟩
theorem ev_product (as : List D) (st : Sto) : F_product.sem as st = (evSs g_product b_product (as.map some ++ List.replicate (2 - as.length) none) st).fin := rfl
@[simp] theorem call_product__lowest (xs zs : List D) (ord : List Nat) (st : Sto) : callK g_product 9 ord xs zs st = (if xs.length + (permL ord zs).length = 2 then F_lowest.sem (xs ++ permL ord zs) st else .bad) := (rfl)
noncomputable def g_whole : GE := ⟨[F_law_well, F_law_dip, F_law_low, F_law_rows, F_law_power, F_law_best, F_law_mean, F_is_integer, F_check_throws, F_lowest, F_sum_of_two, F_sum_of_all, F_difference, F_power, F_stretches, F_most_of, F_is_pair, F_is_number_of, F_product], consL⟩
noncomputable def F_whole : FnI := ⟨("whole" : Str), [("a" : Str)], evF g_whole N_whole.length b_whole⟩
theorem ev_whole (as : List D) (st : Sto) : F_whole.sem as st = (evSs g_whole b_whole (as.map some ++ List.replicate (1 - as.length) none) st).fin := rfl
noncomputable def g_mean_out : GE := ⟨[F_law_well, F_law_dip, F_law_low, F_law_rows, F_law_power, F_law_best, F_law_mean, F_is_integer, F_check_throws, F_lowest, F_sum_of_two, F_sum_of_all, F_difference, F_power, F_stretches, F_most_of, F_is_pair, F_is_number_of, F_product, F_whole], consL⟩
noncomputable def F_mean_out : FnI := ⟨("mean_out" : Str), [("n" : Str), ("share" : Str)], evF g_mean_out N_mean_out.length b_mean_out⟩
theorem ev_mean_out (as : List D) (st : Sto) : F_mean_out.sem as st = (evSs g_mean_out b_mean_out (as.map some ++ List.replicate (7 - as.length) none) st).fin := rfl
@[simp] theorem call_mean_out__check_throws (xs zs : List D) (ord : List Nat) (st : Sto) : callK g_mean_out 8 ord xs zs st = (if xs.length + (permL ord zs).length = 1 then F_check_throws.sem (xs ++ permL ord zs) st else .bad) := (rfl)
@[simp] theorem call_mean_out__is_number_of (xs zs : List D) (ord : List Nat) (st : Sto) : callK g_mean_out 17 ord xs zs st = (if xs.length + (permL ord zs).length = 1 then F_is_number_of.sem (xs ++ permL ord zs) st else .bad) := (rfl)
@[simp] theorem call_mean_out__difference (xs zs : List D) (ord : List Nat) (st : Sto) : callK g_mean_out 12 ord xs zs st = (if xs.length + (permL ord zs).length = 2 then F_difference.sem (xs ++ permL ord zs) st else .bad) := (rfl)
@[simp] theorem call_mean_out__most_of (xs zs : List D) (ord : List Nat) (st : Sto) : callK g_mean_out 15 ord xs zs st = (if xs.length + (permL ord zs).length = 1 then F_most_of.sem (xs ++ permL ord zs) st else .bad) := (rfl)
@[simp] theorem call_mean_out__power (xs zs : List D) (ord : List Nat) (st : Sto) : callK g_mean_out 13 ord xs zs st = (if xs.length + (permL ord zs).length = 2 then F_power.sem (xs ++ permL ord zs) st else .bad) := (rfl)
@[simp] theorem call_mean_out__lowest (xs zs : List D) (ord : List Nat) (st : Sto) : callK g_mean_out 9 ord xs zs st = (if xs.length + (permL ord zs).length = 2 then F_lowest.sem (xs ++ permL ord zs) st else .bad) := (rfl)
@[simp] theorem call_mean_out__whole (xs zs : List D) (ord : List Nat) (st : Sto) : callK g_mean_out 19 ord xs zs st = (if xs.length + (permL ord zs).length = 1 then F_whole.sem (xs ++ permL ord zs) st else .bad) := (rfl)
@[simp] theorem call_mean_out__product (xs zs : List D) (ord : List Nat) (st : Sto) : callK g_mean_out 18 ord xs zs st = (if xs.length + (permL ord zs).length = 2 then F_product.sem (xs ++ permL ord zs) st else .bad) := (rfl)
@[simp] theorem call_mean_out__sum_of_all (xs zs : List D) (ord : List Nat) (st : Sto) : callK g_mean_out 11 ord xs zs st = (if xs.length + (permL ord zs).length = 1 then F_sum_of_all.sem (xs ++ permL ord zs) st else .bad) := (rfl)
@[simp] theorem glob_mean_out_ONE : (g_mean_out.cons[1]?).map (·.2) = some (.tup [(.int 1), (.int 1)]) := (rfl)
noncomputable def s_law_same : Nat → List D → Sto → R D
  | 0 => fun _ _ => .bad
  | k + 1 => evF ⟨[F_law_well, F_law_dip, F_law_low, F_law_rows, F_law_power, F_law_best, F_law_mean, F_is_integer, F_check_throws, F_lowest, F_sum_of_two, F_sum_of_all, F_difference, F_power, F_stretches, F_most_of, F_is_pair, F_is_number_of, F_product, F_whole, F_mean_out] ++ [⟨("_law_same" : Str), [("told" : Str), ("due" : Str)], s_law_same k⟩], consL⟩ N_law_same.length b_law_same
noncomputable def F_law_same : FnI := ⟨("_law_same" : Str), [("told" : Str), ("due" : Str)], s_law_same 12⟩
noncomputable def g_law_same (k : Nat) : GE := ⟨[F_law_well, F_law_dip, F_law_low, F_law_rows, F_law_power, F_law_best, F_law_mean, F_is_integer, F_check_throws, F_lowest, F_sum_of_two, F_sum_of_all, F_difference, F_power, F_stretches, F_most_of, F_is_pair, F_is_number_of, F_product, F_whole, F_mean_out] ++ [⟨("_law_same" : Str), [("told" : Str), ("due" : Str)], s_law_same k⟩], consL⟩
theorem ev_law_same (k : Nat) (as : List D) (st : Sto) : s_law_same (k + 1) as st = (evSs (g_law_same k) b_law_same (as.map some ++ List.replicate (4 - as.length) none) st).fin := rfl
@[simp] theorem call_law_same__law_same (k : Nat) (xs zs : List D) (ord : List Nat) (st : Sto) : callK (g_law_same k) 21 ord xs zs st = (if xs.length + (permL ord zs).length = 2 then s_law_same k (xs ++ permL ord zs) st else .bad) := (rfl)
noncomputable def g_law : GE := ⟨[F_law_well, F_law_dip, F_law_low, F_law_rows, F_law_power, F_law_best, F_law_mean, F_is_integer, F_check_throws, F_lowest, F_sum_of_two, F_sum_of_all, F_difference, F_power, F_stretches, F_most_of, F_is_pair, F_is_number_of, F_product, F_whole, F_mean_out, F_law_same], consL⟩
noncomputable def F_law : FnI := ⟨("law" : Str), [("script" : Str)], evF g_law N_law.length b_law⟩
theorem ev_law (as : List D) (st : Sto) : F_law.sem as st = (evSs g_law b_law (as.map some ++ List.replicate (10 - as.length) none) st).fin := rfl
@[simp] theorem call_law__law_well (xs zs : List D) (ord : List Nat) (st : Sto) : callK g_law 0 ord xs zs st = (if xs.length + (permL ord zs).length = 2 then F_law_well.sem (xs ++ permL ord zs) st else .bad) := (rfl)
@[simp] theorem call_law__law_dip (xs zs : List D) (ord : List Nat) (st : Sto) : callK g_law 1 ord xs zs st = (if xs.length + (permL ord zs).length = 2 then F_law_dip.sem (xs ++ permL ord zs) st else .bad) := (rfl)
@[simp] theorem call_law__law_low (xs zs : List D) (ord : List Nat) (st : Sto) : callK g_law 2 ord xs zs st = (if xs.length + (permL ord zs).length = 2 then F_law_low.sem (xs ++ permL ord zs) st else .bad) := (rfl)
@[simp] theorem call_law__law_mean (xs zs : List D) (ord : List Nat) (st : Sto) : callK g_law 6 ord xs zs st = (if xs.length + (permL ord zs).length = 2 then F_law_mean.sem (xs ++ permL ord zs) st else .bad) := (rfl)
@[simp] theorem call_law__mean_out (xs zs : List D) (ord : List Nat) (st : Sto) : callK g_law 20 ord xs zs st = (if xs.length + (permL ord zs).length = 2 then F_mean_out.sem (xs ++ permL ord zs) st else .bad) := (rfl)
@[simp] theorem call_law__law_same (xs zs : List D) (ord : List Nat) (st : Sto) : callK g_law 21 ord xs zs st = (if xs.length + (permL ord zs).length = 2 then F_law_same.sem (xs ++ permL ord zs) st else .bad) := (rfl)
end Lk35
end

section
set_option Elab.async false
set_option linter.all false
set_option maxRecDepth 100000
set_option autoImplicit false
/-! written by wip/gen.py for k35_whole_means_of_a_crooked_coin. -/
namespace Lk35
open PySem PySem.Spec PyProof.Rows L2 WT
def top (i : Nat) : Stmt := PySem.Challenge.pw_wholetosses_k35_whole_means_of_a_crooked.main.body.getD i (.Pass ⟨0, 0, 0, 0⟩)
def mthL : List Bi := [.comb, .gcd]
def clsL : List Str := []
def fnsL : List (Str × List Str) := [(("_law_well" : Str), [("script" : Str), ("place" : Str)]), (("_law_dip" : Str), [("well" : Str), ("upto" : Str)]), (("_law_low" : Str), [("top" : Str), ("bottom" : Str)]), (("_law_rows" : Str), [("n" : Str)]), (("_law_power" : Str), [("b" : Str), ("n" : Str)]), (("_law_best" : Str), [("rows" : Str)]), (("_law_mean" : Str), [("n" : Str), ("share" : Str)]), (("is_integer" : Str), [("value" : Str)]), (("check_throws" : Str), [("n" : Str)]), (("lowest" : Str), [("top" : Str), ("bottom" : Str)]), (("sum_of_two" : Str), [("a" : Str), ("b" : Str)]), (("sum_of_all" : Str), [("numbers" : Str)]), (("difference" : Str), [("a" : Str), ("b" : Str)]), (("power" : Str), [("b" : Str), ("n" : Str)]), (("stretches" : Str), [("many" : Str)]), (("most_of" : Str), [("n" : Str)]), (("is_pair" : Str), [("value" : Str)]), (("is_number_of" : Str), [("told" : Str)]), (("product" : Str), [("a" : Str), ("b" : Str)]), (("whole" : Str), [("a" : Str)]), (("mean_out" : Str), [("n" : Str), ("share" : Str)]), (("_law_same" : Str), [("told" : Str), ("due" : Str)]), (("law" : Str), [("script" : Str)])]
def rnL : List Bool := [true, false, true, false, false, false, true, true, true, true, true, false, true, false, true, true, true, true, true, true, false, true, true]
def kwL : List (List (Nat × List Str × List Nat)) := [[], [], [], [], [], [], [], [], [], [], [], [], [], [], [], [], [], [], [], [], [(0, [("share" : Str), ("n" : Str)], [1, 0])], [], []]
def mc (j : Nat) (N : List Str) (ow : List Nat) : MC := { N := N, fns := fnsL.take j, cons := consL.map (·.1), kw := fun i => kwL.getD i [], rn := fun i => rnL.getD i false, ow := fun i => decide (i ∈ ow), mth := mthL, cls := clsL, base := "TossError" }
def m_law_well : MC := mc 0 N_law_well []
theorem c_law_well : cSs m_law_well (defScope (top 23)) (rnL.getD 0 false) b_law_well (defBody (top 23)) = true := by kernel_rfl
def m_law_dip : MC := mc 1 N_law_dip []
theorem c_law_dip : cSs m_law_dip (defScope (top 24)) (rnL.getD 1 false) b_law_dip (defBody (top 24)) = true := by kernel_rfl
def m_law_low : MC := mc 2 N_law_low []
theorem c_law_low : cSs m_law_low (defScope (top 31)) (rnL.getD 2 false) b_law_low (defBody (top 31)) = true := by kernel_rfl
def m_law_rows : MC := mc 3 N_law_rows []
theorem c_law_rows : cSs m_law_rows (defScope (top 26)) (rnL.getD 3 false) b_law_rows (defBody (top 26)) = true := by kernel_rfl
def m_law_power : MC := mc 4 N_law_power []
theorem c_law_power : cSs m_law_power (defScope (top 27)) (rnL.getD 4 false) b_law_power (defBody (top 27)) = true := by kernel_rfl
def m_law_best : MC := mc 5 N_law_best []
theorem c_law_best : cSs m_law_best (defScope (top 28)) (rnL.getD 5 false) b_law_best (defBody (top 28)) = true := by kernel_rfl
def m_law_mean : MC := mc 6 N_law_mean [6]
theorem c_law_mean : cSs m_law_mean (defScope (top 33)) (rnL.getD 6 false) b_law_mean (defBody (top 33)) = true := by kernel_rfl
def m_is_integer : MC := mc 7 N_is_integer []
theorem c_is_integer : cSs m_is_integer (defScope (top 7)) (rnL.getD 7 false) b_is_integer (defBody (top 7)) = true := by kernel_rfl
def m_check_throws : MC := mc 8 N_check_throws []
theorem c_check_throws : cSs m_check_throws (defScope (top 18)) (rnL.getD 8 false) b_check_throws (defBody (top 18)) = true := by kernel_rfl
def m_lowest : MC := mc 9 N_lowest []
theorem c_lowest : cSs m_lowest (defScope (top 9)) (rnL.getD 9 false) b_lowest (defBody (top 9)) = true := by kernel_rfl
def m_sum_of_two : MC := mc 10 N_sum_of_two []
theorem c_sum_of_two : cSs m_sum_of_two (defScope (top 12)) (rnL.getD 10 false) b_sum_of_two (defBody (top 12)) = true := by kernel_rfl
def m_sum_of_all : MC := mc 11 N_sum_of_all []
theorem c_sum_of_all : cSs m_sum_of_all (defScope (top 15)) (rnL.getD 11 false) b_sum_of_all (defBody (top 15)) = true := by kernel_rfl
def m_difference : MC := mc 12 N_difference []
theorem c_difference : cSs m_difference (defScope (top 13)) (rnL.getD 12 false) b_difference (defBody (top 13)) = true := by kernel_rfl
def m_power : MC := mc 13 N_power []
theorem c_power : cSs m_power (defScope (top 16)) (rnL.getD 13 false) b_power (defBody (top 16)) = true := by kernel_rfl
def m_stretches : MC := mc 14 N_stretches []
theorem c_stretches : cSs m_stretches (defScope (top 19)) (rnL.getD 14 false) b_stretches (defBody (top 19)) = true := by kernel_rfl
def m_most_of : MC := mc 15 N_most_of []
theorem c_most_of : cSs m_most_of (defScope (top 20)) (rnL.getD 15 false) b_most_of (defBody (top 20)) = true := by kernel_rfl
def m_is_pair : MC := mc 16 N_is_pair []
theorem c_is_pair : cSs m_is_pair (defScope (top 8)) (rnL.getD 16 false) b_is_pair (defBody (top 8)) = true := by kernel_rfl
def m_is_number_of : MC := mc 17 N_is_number_of []
theorem c_is_number_of : cSs m_is_number_of (defScope (top 10)) (rnL.getD 17 false) b_is_number_of (defBody (top 10)) = true := by kernel_rfl
def m_product : MC := mc 18 N_product []
theorem c_product : cSs m_product (defScope (top 14)) (rnL.getD 18 false) b_product (defBody (top 14)) = true := by kernel_rfl
def m_whole : MC := mc 19 N_whole []
theorem c_whole : cSs m_whole (defScope (top 11)) (rnL.getD 19 false) b_whole (defBody (top 11)) = true := by kernel_rfl
def m_mean_out : MC := mc 20 N_mean_out [3]
theorem c_mean_out : cSs m_mean_out (defScope (top 21)) (rnL.getD 20 false) b_mean_out (defBody (top 21)) = true := by kernel_rfl
def m_law_same : MC := mc 22 N_law_same []
theorem c_law_same : cSs m_law_same (defScope (top 25)) (rnL.getD 21 false) b_law_same (defBody (top 25)) = true := by kernel_rfl
def m_law : MC := mc 22 N_law []
theorem c_law : cSs m_law (defScope (top 34)) (rnL.getD 22 false) b_law (defBody (top 34)) = true := by kernel_rfl
theorem sc_law_well : FnScope N_law_well [("script" : Str), ("place" : Str)] (defScope (top 23)) := fnScope_by (by kernel_rfl)
theorem kb_law_well {K : PySem.W.Frag} {f : Addr} {fd : FuncData} (F : FunD K ("_law_well" : Str) ("_law_well" : Str) (defArgs (top 23)) (defBody (top 23)) (defScope (top 23)) [] [] f fd) : KBd K fd [("script" : Str), ("place" : Str)] (kwL.getD 0 []) := by
  refine kbd_of F (fun _ _ _ _ _ _ us hl => match us, hl with | [a0, a1], _ => rfl) (fun q hq => ?_)
  have hq : q ∈ ([] : List (Nat × List Str × List Nat)) := hq
  exact absurd hq (by simp)
theorem sc_law_dip : FnScope N_law_dip [("well" : Str), ("upto" : Str)] (defScope (top 24)) := fnScope_by (by kernel_rfl)
theorem kb_law_dip {K : PySem.W.Frag} {f : Addr} {fd : FuncData} (F : FunD K ("_law_dip" : Str) ("_law_dip" : Str) (defArgs (top 24)) (defBody (top 24)) (defScope (top 24)) [] [] f fd) : KBd K fd [("well" : Str), ("upto" : Str)] (kwL.getD 1 []) := by
  refine kbd_of F (fun _ _ _ _ _ _ us hl => match us, hl with | [a0, a1], _ => rfl) (fun q hq => ?_)
  have hq : q ∈ ([] : List (Nat × List Str × List Nat)) := hq
  exact absurd hq (by simp)
theorem sc_law_low : FnScope N_law_low [("top" : Str), ("bottom" : Str)] (defScope (top 31)) := fnScope_by (by kernel_rfl)
theorem kb_law_low {K : PySem.W.Frag} {f : Addr} {fd : FuncData} (F : FunD K ("_law_low" : Str) ("_law_low" : Str) (defArgs (top 31)) (defBody (top 31)) (defScope (top 31)) [] [] f fd) : KBd K fd [("top" : Str), ("bottom" : Str)] (kwL.getD 2 []) := by
  refine kbd_of F (fun _ _ _ _ _ _ us hl => match us, hl with | [a0, a1], _ => rfl) (fun q hq => ?_)
  have hq : q ∈ ([] : List (Nat × List Str × List Nat)) := hq
  exact absurd hq (by simp)
theorem sc_law_rows : FnScope N_law_rows [("n" : Str)] (defScope (top 26)) := fnScope_by (by kernel_rfl)
theorem kb_law_rows {K : PySem.W.Frag} {f : Addr} {fd : FuncData} (F : FunD K ("_law_rows" : Str) ("_law_rows" : Str) (defArgs (top 26)) (defBody (top 26)) (defScope (top 26)) [] [] f fd) : KBd K fd [("n" : Str)] (kwL.getD 3 []) := by
  refine kbd_of F (fun _ _ _ _ _ _ us hl => match us, hl with | [a0], _ => rfl) (fun q hq => ?_)
  have hq : q ∈ ([] : List (Nat × List Str × List Nat)) := hq
  exact absurd hq (by simp)
theorem sc_law_power : FnScope N_law_power [("b" : Str), ("n" : Str)] (defScope (top 27)) := fnScope_by (by kernel_rfl)
theorem kb_law_power {K : PySem.W.Frag} {f : Addr} {fd : FuncData} (F : FunD K ("_law_power" : Str) ("_law_power" : Str) (defArgs (top 27)) (defBody (top 27)) (defScope (top 27)) [] [] f fd) : KBd K fd [("b" : Str), ("n" : Str)] (kwL.getD 4 []) := by
  refine kbd_of F (fun _ _ _ _ _ _ us hl => match us, hl with | [a0, a1], _ => rfl) (fun q hq => ?_)
  have hq : q ∈ ([] : List (Nat × List Str × List Nat)) := hq
  exact absurd hq (by simp)
theorem sc_law_best : FnScope N_law_best [("rows" : Str)] (defScope (top 28)) := fnScope_by (by kernel_rfl)
theorem kb_law_best {K : PySem.W.Frag} {f : Addr} {fd : FuncData} (F : FunD K ("_law_best" : Str) ("_law_best" : Str) (defArgs (top 28)) (defBody (top 28)) (defScope (top 28)) [] [] f fd) : KBd K fd [("rows" : Str)] (kwL.getD 5 []) := by
  refine kbd_of F (fun _ _ _ _ _ _ us hl => match us, hl with | [a0], _ => rfl) (fun q hq => ?_)
  have hq : q ∈ ([] : List (Nat × List Str × List Nat)) := hq
  exact absurd hq (by simp)
theorem sc_law_mean : FnScope N_law_mean [("n" : Str), ("share" : Str)] (defScope (top 33)) := fnScope_by (by kernel_rfl)
theorem kb_law_mean {K : PySem.W.Frag} {f : Addr} {fd : FuncData} (F : FunD K ("_law_mean" : Str) ("_law_mean" : Str) (defArgs (top 33)) (defBody (top 33)) (defScope (top 33)) [] [] f fd) : KBd K fd [("n" : Str), ("share" : Str)] (kwL.getD 6 []) := by
  refine kbd_of F (fun _ _ _ _ _ _ us hl => match us, hl with | [a0, a1], _ => rfl) (fun q hq => ?_)
  have hq : q ∈ ([] : List (Nat × List Str × List Nat)) := hq
  exact absurd hq (by simp)
theorem sc_is_integer : FnScope N_is_integer [("value" : Str)] (defScope (top 7)) := fnScope_by (by kernel_rfl)
theorem kb_is_integer {K : PySem.W.Frag} {f : Addr} {fd : FuncData} (F : FunD K ("is_integer" : Str) ("is_integer" : Str) (defArgs (top 7)) (defBody (top 7)) (defScope (top 7)) [] [] f fd) : KBd K fd [("value" : Str)] (kwL.getD 7 []) := by
  refine kbd_of F (fun _ _ _ _ _ _ us hl => match us, hl with | [a0], _ => rfl) (fun q hq => ?_)
  have hq : q ∈ ([] : List (Nat × List Str × List Nat)) := hq
  exact absurd hq (by simp)
theorem sc_check_throws : FnScope N_check_throws [("n" : Str)] (defScope (top 18)) := fnScope_by (by kernel_rfl)
theorem kb_check_throws {K : PySem.W.Frag} {f : Addr} {fd : FuncData} (F : FunD K ("check_throws" : Str) ("check_throws" : Str) (defArgs (top 18)) (defBody (top 18)) (defScope (top 18)) [] [] f fd) : KBd K fd [("n" : Str)] (kwL.getD 8 []) := by
  refine kbd_of F (fun _ _ _ _ _ _ us hl => match us, hl with | [a0], _ => rfl) (fun q hq => ?_)
  have hq : q ∈ ([] : List (Nat × List Str × List Nat)) := hq
  exact absurd hq (by simp)
theorem sc_lowest : FnScope N_lowest [("top" : Str), ("bottom" : Str)] (defScope (top 9)) := fnScope_by (by kernel_rfl)
theorem kb_lowest {K : PySem.W.Frag} {f : Addr} {fd : FuncData} (F : FunD K ("lowest" : Str) ("lowest" : Str) (defArgs (top 9)) (defBody (top 9)) (defScope (top 9)) [] [] f fd) : KBd K fd [("top" : Str), ("bottom" : Str)] (kwL.getD 9 []) := by
  refine kbd_of F (fun _ _ _ _ _ _ us hl => match us, hl with | [a0, a1], _ => rfl) (fun q hq => ?_)
  have hq : q ∈ ([] : List (Nat × List Str × List Nat)) := hq
  exact absurd hq (by simp)
theorem sc_sum_of_two : FnScope N_sum_of_two [("a" : Str), ("b" : Str)] (defScope (top 12)) := fnScope_by (by kernel_rfl)
theorem kb_sum_of_two {K : PySem.W.Frag} {f : Addr} {fd : FuncData} (F : FunD K ("sum_of_two" : Str) ("sum_of_two" : Str) (defArgs (top 12)) (defBody (top 12)) (defScope (top 12)) [] [] f fd) : KBd K fd [("a" : Str), ("b" : Str)] (kwL.getD 10 []) := by
  refine kbd_of F (fun _ _ _ _ _ _ us hl => match us, hl with | [a0, a1], _ => rfl) (fun q hq => ?_)
  have hq : q ∈ ([] : List (Nat × List Str × List Nat)) := hq
  exact absurd hq (by simp)
theorem sc_sum_of_all : FnScope N_sum_of_all [("numbers" : Str)] (defScope (top 15)) := fnScope_by (by kernel_rfl)
theorem kb_sum_of_all {K : PySem.W.Frag} {f : Addr} {fd : FuncData} (F : FunD K ("sum_of_all" : Str) ("sum_of_all" : Str) (defArgs (top 15)) (defBody (top 15)) (defScope (top 15)) [] [] f fd) : KBd K fd [("numbers" : Str)] (kwL.getD 11 []) := by
  refine kbd_of F (fun _ _ _ _ _ _ us hl => match us, hl with | [a0], _ => rfl) (fun q hq => ?_)
  have hq : q ∈ ([] : List (Nat × List Str × List Nat)) := hq
  exact absurd hq (by simp)
theorem sc_difference : FnScope N_difference [("a" : Str), ("b" : Str)] (defScope (top 13)) := fnScope_by (by kernel_rfl)
theorem kb_difference {K : PySem.W.Frag} {f : Addr} {fd : FuncData} (F : FunD K ("difference" : Str) ("difference" : Str) (defArgs (top 13)) (defBody (top 13)) (defScope (top 13)) [] [] f fd) : KBd K fd [("a" : Str), ("b" : Str)] (kwL.getD 12 []) := by
  refine kbd_of F (fun _ _ _ _ _ _ us hl => match us, hl with | [a0, a1], _ => rfl) (fun q hq => ?_)
  have hq : q ∈ ([] : List (Nat × List Str × List Nat)) := hq
  exact absurd hq (by simp)
theorem sc_power : FnScope N_power [("b" : Str), ("n" : Str)] (defScope (top 16)) := fnScope_by (by kernel_rfl)
theorem kb_power {K : PySem.W.Frag} {f : Addr} {fd : FuncData} (F : FunD K ("power" : Str) ("power" : Str) (defArgs (top 16)) (defBody (top 16)) (defScope (top 16)) [] [] f fd) : KBd K fd [("b" : Str), ("n" : Str)] (kwL.getD 13 []) := by
  refine kbd_of F (fun _ _ _ _ _ _ us hl => match us, hl with | [a0, a1], _ => rfl) (fun q hq => ?_)
  have hq : q ∈ ([] : List (Nat × List Str × List Nat)) := hq
  exact absurd hq (by simp)
theorem sc_stretches : FnScope N_stretches [("many" : Str)] (defScope (top 19)) := fnScope_by (by kernel_rfl)
theorem kb_stretches {K : PySem.W.Frag} {f : Addr} {fd : FuncData} (F : FunD K ("stretches" : Str) ("stretches" : Str) (defArgs (top 19)) (defBody (top 19)) (defScope (top 19)) [] [] f fd) : KBd K fd [("many" : Str)] (kwL.getD 14 []) := by
  refine kbd_of F (fun _ _ _ _ _ _ us hl => match us, hl with | [a0], _ => rfl) (fun q hq => ?_)
  have hq : q ∈ ([] : List (Nat × List Str × List Nat)) := hq
  exact absurd hq (by simp)
theorem sc_most_of : FnScope N_most_of [("n" : Str)] (defScope (top 20)) := fnScope_by (by kernel_rfl)
theorem kb_most_of {K : PySem.W.Frag} {f : Addr} {fd : FuncData} (F : FunD K ("most_of" : Str) ("most_of" : Str) (defArgs (top 20)) (defBody (top 20)) (defScope (top 20)) [] [] f fd) : KBd K fd [("n" : Str)] (kwL.getD 15 []) := by
  refine kbd_of F (fun _ _ _ _ _ _ us hl => match us, hl with | [a0], _ => rfl) (fun q hq => ?_)
  have hq : q ∈ ([] : List (Nat × List Str × List Nat)) := hq
  exact absurd hq (by simp)
theorem sc_is_pair : FnScope N_is_pair [("value" : Str)] (defScope (top 8)) := fnScope_by (by kernel_rfl)
theorem kb_is_pair {K : PySem.W.Frag} {f : Addr} {fd : FuncData} (F : FunD K ("is_pair" : Str) ("is_pair" : Str) (defArgs (top 8)) (defBody (top 8)) (defScope (top 8)) [] [] f fd) : KBd K fd [("value" : Str)] (kwL.getD 16 []) := by
  refine kbd_of F (fun _ _ _ _ _ _ us hl => match us, hl with | [a0], _ => rfl) (fun q hq => ?_)
  have hq : q ∈ ([] : List (Nat × List Str × List Nat)) := hq
  exact absurd hq (by simp)
theorem sc_is_number_of : FnScope N_is_number_of [("told" : Str)] (defScope (top 10)) := fnScope_by (by kernel_rfl)
theorem kb_is_number_of {K : PySem.W.Frag} {f : Addr} {fd : FuncData} (F : FunD K ("is_number_of" : Str) ("is_number_of" : Str) (defArgs (top 10)) (defBody (top 10)) (defScope (top 10)) [] [] f fd) : KBd K fd [("told" : Str)] (kwL.getD 17 []) := by
  refine kbd_of F (fun _ _ _ _ _ _ us hl => match us, hl with | [a0], _ => rfl) (fun q hq => ?_)
  have hq : q ∈ ([] : List (Nat × List Str × List Nat)) := hq
  exact absurd hq (by simp)
theorem sc_product : FnScope N_product [("a" : Str), ("b" : Str)] (defScope (top 14)) := fnScope_by (by kernel_rfl)
theorem kb_product {K : PySem.W.Frag} {f : Addr} {fd : FuncData} (F : FunD K ("product" : Str) ("product" : Str) (defArgs (top 14)) (defBody (top 14)) (defScope (top 14)) [] [] f fd) : KBd K fd [("a" : Str), ("b" : Str)] (kwL.getD 18 []) := by
  refine kbd_of F (fun _ _ _ _ _ _ us hl => match us, hl with | [a0, a1], _ => rfl) (fun q hq => ?_)
  have hq : q ∈ ([] : List (Nat × List Str × List Nat)) := hq
  exact absurd hq (by simp)
theorem sc_whole : FnScope N_whole [("a" : Str)] (defScope (top 11)) := fnScope_by (by kernel_rfl)
theorem kb_whole {K : PySem.W.Frag} {f : Addr} {fd : FuncData} (F : FunD K ("whole" : Str) ("whole" : Str) (defArgs (top 11)) (defBody (top 11)) (defScope (top 11)) [] [] f fd) : KBd K fd [("a" : Str)] (kwL.getD 19 []) := by
  refine kbd_of F (fun _ _ _ _ _ _ us hl => match us, hl with | [a0], _ => rfl) (fun q hq => ?_)
  have hq : q ∈ ([] : List (Nat × List Str × List Nat)) := hq
  exact absurd hq (by simp)
theorem sc_mean_out : FnScope N_mean_out [("n" : Str), ("share" : Str)] (defScope (top 21)) := fnScope_by (by kernel_rfl)
theorem kb_mean_out {K : PySem.W.Frag} {f : Addr} {fd : FuncData} (F : FunD K ("mean_out" : Str) ("mean_out" : Str) (defArgs (top 21)) (defBody (top 21)) (defScope (top 21)) [] [] f fd) : KBd K fd [("n" : Str), ("share" : Str)] (kwL.getD 20 []) := by
  refine kbd_of F (fun _ _ _ _ _ _ us hl => match us, hl with | [a0, a1], _ => rfl) (fun q hq => ?_)
  have hq : q ∈ ([(0, [("share" : Str), ("n" : Str)], [1, 0])] : List (Nat × List Str × List Nat)) := hq
  rcases List.mem_cons.mp hq with rfl | hq
  · exact fun _ _ _ _ _ _ us ws h1 h2 => match us, ws, h1, h2 with | [], [b0, b1], _, _ => rfl
  exact absurd hq (by simp)
theorem sc_law_same : FnScope N_law_same [("told" : Str), ("due" : Str)] (defScope (top 25)) := fnScope_by (by kernel_rfl)
theorem kb_law_same {K : PySem.W.Frag} {f : Addr} {fd : FuncData} (F : FunD K ("_law_same" : Str) ("_law_same" : Str) (defArgs (top 25)) (defBody (top 25)) (defScope (top 25)) [] [] f fd) : KBd K fd [("told" : Str), ("due" : Str)] (kwL.getD 21 []) := by
  refine kbd_of F (fun _ _ _ _ _ _ us hl => match us, hl with | [a0, a1], _ => rfl) (fun q hq => ?_)
  have hq : q ∈ ([] : List (Nat × List Str × List Nat)) := hq
  exact absurd hq (by simp)
theorem sc_law : FnScope N_law [("script" : Str)] (defScope (top 34)) := fnScope_by (by kernel_rfl)
theorem kb_law {K : PySem.W.Frag} {f : Addr} {fd : FuncData} (F : FunD K ("law" : Str) ("law" : Str) (defArgs (top 34)) (defBody (top 34)) (defScope (top 34)) [] [] f fd) : KBd K fd [("script" : Str)] (kwL.getD 22 []) := by
  refine kbd_of F (fun _ _ _ _ _ _ us hl => match us, hl with | [a0], _ => rfl) (fun q hq => ?_)
  have hq : q ∈ ([] : List (Nat × List Str × List Nat)) := hq
  exact absurd hq (by simp)
def fnD : List He.DefD := [⟨(("_law_well" : Str), none), ("_law_well" : Str), ("_law_well" : Str), defArgs (top 23), defBody (top 23), defScope (top 23), [], []⟩, ⟨(("_law_dip" : Str), none), ("_law_dip" : Str), ("_law_dip" : Str), defArgs (top 24), defBody (top 24), defScope (top 24), [], []⟩, ⟨(("_law_low" : Str), none), ("_law_low" : Str), ("_law_low" : Str), defArgs (top 31), defBody (top 31), defScope (top 31), [], []⟩, ⟨(("_law_rows" : Str), none), ("_law_rows" : Str), ("_law_rows" : Str), defArgs (top 26), defBody (top 26), defScope (top 26), [], []⟩, ⟨(("_law_power" : Str), none), ("_law_power" : Str), ("_law_power" : Str), defArgs (top 27), defBody (top 27), defScope (top 27), [], []⟩, ⟨(("_law_best" : Str), none), ("_law_best" : Str), ("_law_best" : Str), defArgs (top 28), defBody (top 28), defScope (top 28), [], []⟩, ⟨(("_law_mean" : Str), none), ("_law_mean" : Str), ("_law_mean" : Str), defArgs (top 33), defBody (top 33), defScope (top 33), [], []⟩, ⟨(("is_integer" : Str), none), ("is_integer" : Str), ("is_integer" : Str), defArgs (top 7), defBody (top 7), defScope (top 7), [], []⟩, ⟨(("check_throws" : Str), none), ("check_throws" : Str), ("check_throws" : Str), defArgs (top 18), defBody (top 18), defScope (top 18), [], []⟩, ⟨(("lowest" : Str), none), ("lowest" : Str), ("lowest" : Str), defArgs (top 9), defBody (top 9), defScope (top 9), [], []⟩, ⟨(("sum_of_two" : Str), none), ("sum_of_two" : Str), ("sum_of_two" : Str), defArgs (top 12), defBody (top 12), defScope (top 12), [], []⟩, ⟨(("sum_of_all" : Str), none), ("sum_of_all" : Str), ("sum_of_all" : Str), defArgs (top 15), defBody (top 15), defScope (top 15), [], []⟩, ⟨(("difference" : Str), none), ("difference" : Str), ("difference" : Str), defArgs (top 13), defBody (top 13), defScope (top 13), [], []⟩, ⟨(("power" : Str), none), ("power" : Str), ("power" : Str), defArgs (top 16), defBody (top 16), defScope (top 16), [], []⟩, ⟨(("stretches" : Str), none), ("stretches" : Str), ("stretches" : Str), defArgs (top 19), defBody (top 19), defScope (top 19), [], []⟩, ⟨(("most_of" : Str), none), ("most_of" : Str), ("most_of" : Str), defArgs (top 20), defBody (top 20), defScope (top 20), [], []⟩, ⟨(("is_pair" : Str), none), ("is_pair" : Str), ("is_pair" : Str), defArgs (top 8), defBody (top 8), defScope (top 8), [], []⟩, ⟨(("is_number_of" : Str), none), ("is_number_of" : Str), ("is_number_of" : Str), defArgs (top 10), defBody (top 10), defScope (top 10), [], []⟩, ⟨(("product" : Str), none), ("product" : Str), ("product" : Str), defArgs (top 14), defBody (top 14), defScope (top 14), [], []⟩, ⟨(("whole" : Str), none), ("whole" : Str), ("whole" : Str), defArgs (top 11), defBody (top 11), defScope (top 11), [], []⟩, ⟨(("mean_out" : Str), none), ("mean_out" : Str), ("mean_out" : Str), defArgs (top 21), defBody (top 21), defScope (top 21), [], []⟩, ⟨(("_law_same" : Str), none), ("_law_same" : Str), ("_law_same" : Str), defArgs (top 25), defBody (top 25), defScope (top 25), [], []⟩, ⟨(("law" : Str), none), ("law" : Str), ("law" : Str), defArgs (top 34), defBody (top 34), defScope (top 34), [], []⟩]
def namesL : List Str := [("_law_well" : Str), ("_law_dip" : Str), ("_law_low" : Str), ("_law_rows" : Str), ("_law_power" : Str), ("_law_best" : Str), ("_law_mean" : Str), ("is_integer" : Str), ("check_throws" : Str), ("lowest" : Str), ("sum_of_two" : Str), ("sum_of_all" : Str), ("difference" : Str), ("power" : Str), ("stretches" : Str), ("most_of" : Str), ("is_pair" : Str), ("is_number_of" : Str), ("product" : Str), ("whole" : Str), ("mean_out" : Str), ("_law_same" : Str), ("law" : Str)]
def chkL : PySem.W.Frag → Bool := facts namesL consL mthL clsL "TossError"
theorem all_ok {P : Program} {w : World} {K : PySem.W.Frag} {mg : Str → Option Value} {h : Heap} (X : K.In h) (G : h.Ns mainGlobals mg) (c : SaysW chkL fnD K) :
    ∃ fd, (∀ base : Heap, FnOk P w K mg base (L2.CX P w) 36 (He.ga K ("law" : Str)) fd [("script" : Str)] (spF K (caOf K clsL) (rnL.getD 22 false) F_law.sem 1)) ∧ ∀ (s : Shared) (u : Value), BindsTo s fd ⟨[u], []⟩ [(("script" : Str), u)] := by
  have hf := c.look
  obtain ⟨fd_law_well, D_law_well⟩ := c.def_ 0 (d := fnD.getD 0 ⟨("", none), "", "", defArgs (top 0), [], defScope (top 0), [], []⟩) rfl
  have h_law_well : mg ("_law_well" : Str) = some (.ref (He.ga K ("_law_well" : Str))) := facts_glo hf X G (by decide)
  obtain ⟨fd_law_dip, D_law_dip⟩ := c.def_ 1 (d := fnD.getD 1 ⟨("", none), "", "", defArgs (top 0), [], defScope (top 0), [], []⟩) rfl
  have h_law_dip : mg ("_law_dip" : Str) = some (.ref (He.ga K ("_law_dip" : Str))) := facts_glo hf X G (by decide)
  obtain ⟨fd_law_low, D_law_low⟩ := c.def_ 2 (d := fnD.getD 2 ⟨("", none), "", "", defArgs (top 0), [], defScope (top 0), [], []⟩) rfl
  have h_law_low : mg ("_law_low" : Str) = some (.ref (He.ga K ("_law_low" : Str))) := facts_glo hf X G (by decide)
  obtain ⟨fd_law_rows, D_law_rows⟩ := c.def_ 3 (d := fnD.getD 3 ⟨("", none), "", "", defArgs (top 0), [], defScope (top 0), [], []⟩) rfl
  have h_law_rows : mg ("_law_rows" : Str) = some (.ref (He.ga K ("_law_rows" : Str))) := facts_glo hf X G (by decide)
  obtain ⟨fd_law_power, D_law_power⟩ := c.def_ 4 (d := fnD.getD 4 ⟨("", none), "", "", defArgs (top 0), [], defScope (top 0), [], []⟩) rfl
  have h_law_power : mg ("_law_power" : Str) = some (.ref (He.ga K ("_law_power" : Str))) := facts_glo hf X G (by decide)
  obtain ⟨fd_law_best, D_law_best⟩ := c.def_ 5 (d := fnD.getD 5 ⟨("", none), "", "", defArgs (top 0), [], defScope (top 0), [], []⟩) rfl
  have h_law_best : mg ("_law_best" : Str) = some (.ref (He.ga K ("_law_best" : Str))) := facts_glo hf X G (by decide)
  obtain ⟨fd_law_mean, D_law_mean⟩ := c.def_ 6 (d := fnD.getD 6 ⟨("", none), "", "", defArgs (top 0), [], defScope (top 0), [], []⟩) rfl
  have h_law_mean : mg ("_law_mean" : Str) = some (.ref (He.ga K ("_law_mean" : Str))) := facts_glo hf X G (by decide)
  obtain ⟨fd_is_integer, D_is_integer⟩ := c.def_ 7 (d := fnD.getD 7 ⟨("", none), "", "", defArgs (top 0), [], defScope (top 0), [], []⟩) rfl
  have h_is_integer : mg ("is_integer" : Str) = some (.ref (He.ga K ("is_integer" : Str))) := facts_glo hf X G (by decide)
  obtain ⟨fd_check_throws, D_check_throws⟩ := c.def_ 8 (d := fnD.getD 8 ⟨("", none), "", "", defArgs (top 0), [], defScope (top 0), [], []⟩) rfl
  have h_check_throws : mg ("check_throws" : Str) = some (.ref (He.ga K ("check_throws" : Str))) := facts_glo hf X G (by decide)
  obtain ⟨fd_lowest, D_lowest⟩ := c.def_ 9 (d := fnD.getD 9 ⟨("", none), "", "", defArgs (top 0), [], defScope (top 0), [], []⟩) rfl
  have h_lowest : mg ("lowest" : Str) = some (.ref (He.ga K ("lowest" : Str))) := facts_glo hf X G (by decide)
  obtain ⟨fd_sum_of_two, D_sum_of_two⟩ := c.def_ 10 (d := fnD.getD 10 ⟨("", none), "", "", defArgs (top 0), [], defScope (top 0), [], []⟩) rfl
  have h_sum_of_two : mg ("sum_of_two" : Str) = some (.ref (He.ga K ("sum_of_two" : Str))) := facts_glo hf X G (by decide)
  obtain ⟨fd_sum_of_all, D_sum_of_all⟩ := c.def_ 11 (d := fnD.getD 11 ⟨("", none), "", "", defArgs (top 0), [], defScope (top 0), [], []⟩) rfl
  have h_sum_of_all : mg ("sum_of_all" : Str) = some (.ref (He.ga K ("sum_of_all" : Str))) := facts_glo hf X G (by decide)
  obtain ⟨fd_difference, D_difference⟩ := c.def_ 12 (d := fnD.getD 12 ⟨("", none), "", "", defArgs (top 0), [], defScope (top 0), [], []⟩) rfl
  have h_difference : mg ("difference" : Str) = some (.ref (He.ga K ("difference" : Str))) := facts_glo hf X G (by decide)
  obtain ⟨fd_power, D_power⟩ := c.def_ 13 (d := fnD.getD 13 ⟨("", none), "", "", defArgs (top 0), [], defScope (top 0), [], []⟩) rfl
  have h_power : mg ("power" : Str) = some (.ref (He.ga K ("power" : Str))) := facts_glo hf X G (by decide)
  obtain ⟨fd_stretches, D_stretches⟩ := c.def_ 14 (d := fnD.getD 14 ⟨("", none), "", "", defArgs (top 0), [], defScope (top 0), [], []⟩) rfl
  have h_stretches : mg ("stretches" : Str) = some (.ref (He.ga K ("stretches" : Str))) := facts_glo hf X G (by decide)
  obtain ⟨fd_most_of, D_most_of⟩ := c.def_ 15 (d := fnD.getD 15 ⟨("", none), "", "", defArgs (top 0), [], defScope (top 0), [], []⟩) rfl
  have h_most_of : mg ("most_of" : Str) = some (.ref (He.ga K ("most_of" : Str))) := facts_glo hf X G (by decide)
  obtain ⟨fd_is_pair, D_is_pair⟩ := c.def_ 16 (d := fnD.getD 16 ⟨("", none), "", "", defArgs (top 0), [], defScope (top 0), [], []⟩) rfl
  have h_is_pair : mg ("is_pair" : Str) = some (.ref (He.ga K ("is_pair" : Str))) := facts_glo hf X G (by decide)
  obtain ⟨fd_is_number_of, D_is_number_of⟩ := c.def_ 17 (d := fnD.getD 17 ⟨("", none), "", "", defArgs (top 0), [], defScope (top 0), [], []⟩) rfl
  have h_is_number_of : mg ("is_number_of" : Str) = some (.ref (He.ga K ("is_number_of" : Str))) := facts_glo hf X G (by decide)
  obtain ⟨fd_product, D_product⟩ := c.def_ 18 (d := fnD.getD 18 ⟨("", none), "", "", defArgs (top 0), [], defScope (top 0), [], []⟩) rfl
  have h_product : mg ("product" : Str) = some (.ref (He.ga K ("product" : Str))) := facts_glo hf X G (by decide)
  obtain ⟨fd_whole, D_whole⟩ := c.def_ 19 (d := fnD.getD 19 ⟨("", none), "", "", defArgs (top 0), [], defScope (top 0), [], []⟩) rfl
  have h_whole : mg ("whole" : Str) = some (.ref (He.ga K ("whole" : Str))) := facts_glo hf X G (by decide)
  obtain ⟨fd_mean_out, D_mean_out⟩ := c.def_ 20 (d := fnD.getD 20 ⟨("", none), "", "", defArgs (top 0), [], defScope (top 0), [], []⟩) rfl
  have h_mean_out : mg ("mean_out" : Str) = some (.ref (He.ga K ("mean_out" : Str))) := facts_glo hf X G (by decide)
  obtain ⟨fd_law_same, D_law_same⟩ := c.def_ 21 (d := fnD.getD 21 ⟨("", none), "", "", defArgs (top 0), [], defScope (top 0), [], []⟩) rfl
  have h_law_same : mg ("_law_same" : Str) = some (.ref (He.ga K ("_law_same" : Str))) := facts_glo hf X G (by decide)
  obtain ⟨fd_law, D_law⟩ := c.def_ 22 (d := fnD.getD 22 ⟨("", none), "", "", defArgs (top 0), [], defScope (top 0), [], []⟩) rfl
  have h_law : mg ("law" : Str) = some (.ref (He.ga K ("law" : Str))) := facts_glo hf X G (by decide)
  refine ⟨fd_law, fun base => ?_, fun s u => FunD.bindsA (ps := [("script" : Str)]) D_law (fun _ _ _ _ _ _ us hl => match us, hl with | [_], _ => rfl) s [u] rfl⟩
  have hI : ∀ y ∈ clsL, ClsOk P w K mg base (caOf K clsL) y := fun y hy => absurd hy (by simp [clsL])
  have k0 : FnsOk P w K mg base (caOf K clsL) (mc 0 [] []) ⟨[], consL⟩ 2 := FnsOk.zero hf X G rfl rfl rfl rfl hI
  have f_law_well := fn_ok (m := m_law_well) (g := ⟨[], consL⟩) (ps := [("script" : Str), ("place" : Str)]) (body := b_law_well) (rn := rnL.getD 0 false) (k0.cong rfl rfl rfl rfl rfl rfl rfl) D_law_well sc_law_well (fun i hi => by revert i; decide) c_law_well
  have k1 : FnsOk P w K mg base (caOf K clsL) (mc 1 [] []) ⟨[F_law_well], consL⟩ 3 := k0.snoc (fi := F_law_well) (by omega) rfl rfl rfl rfl rfl rfl rfl rfl rfl rfl rfl h_law_well D_law_well.kp f_law_well (kb_law_well D_law_well)
  have f_law_dip := fn_ok (m := m_law_dip) (g := ⟨[F_law_well], consL⟩) (ps := [("well" : Str), ("upto" : Str)]) (body := b_law_dip) (rn := rnL.getD 1 false) (k1.cong rfl rfl rfl rfl rfl rfl rfl) D_law_dip sc_law_dip (fun i hi => by revert i; decide) c_law_dip
  have k2 : FnsOk P w K mg base (caOf K clsL) (mc 2 [] []) ⟨[F_law_well, F_law_dip], consL⟩ 4 := k1.snoc (fi := F_law_dip) (by omega) rfl rfl rfl rfl rfl rfl rfl rfl rfl rfl rfl h_law_dip D_law_dip.kp f_law_dip (kb_law_dip D_law_dip)
  have f_law_low := fn_ok (m := m_law_low) (g := ⟨[F_law_well, F_law_dip], consL⟩) (ps := [("top" : Str), ("bottom" : Str)]) (body := b_law_low) (rn := rnL.getD 2 false) (k2.cong rfl rfl rfl rfl rfl rfl rfl) D_law_low sc_law_low (fun i hi => by revert i; decide) c_law_low
  have k3 : FnsOk P w K mg base (caOf K clsL) (mc 3 [] []) ⟨[F_law_well, F_law_dip, F_law_low], consL⟩ 5 := k2.snoc (fi := F_law_low) (by omega) rfl rfl rfl rfl rfl rfl rfl rfl rfl rfl rfl h_law_low D_law_low.kp f_law_low (kb_law_low D_law_low)
  have f_law_rows := fn_ok (m := m_law_rows) (g := ⟨[F_law_well, F_law_dip, F_law_low], consL⟩) (ps := [("n" : Str)]) (body := b_law_rows) (rn := rnL.getD 3 false) (k3.cong rfl rfl rfl rfl rfl rfl rfl) D_law_rows sc_law_rows (fun i hi => by revert i; decide) c_law_rows
  have k4 : FnsOk P w K mg base (caOf K clsL) (mc 4 [] []) ⟨[F_law_well, F_law_dip, F_law_low, F_law_rows], consL⟩ 6 := k3.snoc (fi := F_law_rows) (by omega) rfl rfl rfl rfl rfl rfl rfl rfl rfl rfl rfl h_law_rows D_law_rows.kp f_law_rows (kb_law_rows D_law_rows)
  have f_law_power := fn_ok (m := m_law_power) (g := ⟨[F_law_well, F_law_dip, F_law_low, F_law_rows], consL⟩) (ps := [("b" : Str), ("n" : Str)]) (body := b_law_power) (rn := rnL.getD 4 false) (k4.cong rfl rfl rfl rfl rfl rfl rfl) D_law_power sc_law_power (fun i hi => by revert i; decide) c_law_power
  have k5 : FnsOk P w K mg base (caOf K clsL) (mc 5 [] []) ⟨[F_law_well, F_law_dip, F_law_low, F_law_rows, F_law_power], consL⟩ 7 := k4.snoc (fi := F_law_power) (by omega) rfl rfl rfl rfl rfl rfl rfl rfl rfl rfl rfl h_law_power D_law_power.kp f_law_power (kb_law_power D_law_power)
  have f_law_best := fn_ok (m := m_law_best) (g := ⟨[F_law_well, F_law_dip, F_law_low, F_law_rows, F_law_power], consL⟩) (ps := [("rows" : Str)]) (body := b_law_best) (rn := rnL.getD 5 false) (k5.cong rfl rfl rfl rfl rfl rfl rfl) D_law_best sc_law_best (fun i hi => by revert i; decide) c_law_best
  have k6 : FnsOk P w K mg base (caOf K clsL) (mc 6 [] []) ⟨[F_law_well, F_law_dip, F_law_low, F_law_rows, F_law_power, F_law_best], consL⟩ 8 := k5.snoc (fi := F_law_best) (by omega) rfl rfl rfl rfl rfl rfl rfl rfl rfl rfl rfl h_law_best D_law_best.kp f_law_best (kb_law_best D_law_best)
  have f_law_mean := fn_ok (m := m_law_mean) (g := ⟨[F_law_well, F_law_dip, F_law_low, F_law_rows, F_law_power, F_law_best], consL⟩) (ps := [("n" : Str), ("share" : Str)]) (body := b_law_mean) (rn := rnL.getD 6 false) (k6.cong rfl rfl rfl rfl rfl rfl rfl) D_law_mean sc_law_mean (fun i hi => by revert i; decide) c_law_mean
  have k7 : FnsOk P w K mg base (caOf K clsL) (mc 7 [] []) ⟨[F_law_well, F_law_dip, F_law_low, F_law_rows, F_law_power, F_law_best, F_law_mean], consL⟩ 9 := k6.snoc (fi := F_law_mean) (by omega) rfl rfl rfl rfl rfl rfl rfl rfl rfl rfl rfl h_law_mean D_law_mean.kp f_law_mean (kb_law_mean D_law_mean)
  have f_is_integer := fn_ok (m := m_is_integer) (g := ⟨[F_law_well, F_law_dip, F_law_low, F_law_rows, F_law_power, F_law_best, F_law_mean], consL⟩) (ps := [("value" : Str)]) (body := b_is_integer) (rn := rnL.getD 7 false) (k7.cong rfl rfl rfl rfl rfl rfl rfl) D_is_integer sc_is_integer (fun i hi => by revert i; decide) c_is_integer
  have k8 : FnsOk P w K mg base (caOf K clsL) (mc 8 [] []) ⟨[F_law_well, F_law_dip, F_law_low, F_law_rows, F_law_power, F_law_best, F_law_mean, F_is_integer], consL⟩ 10 := k7.snoc (fi := F_is_integer) (by omega) rfl rfl rfl rfl rfl rfl rfl rfl rfl rfl rfl h_is_integer D_is_integer.kp f_is_integer (kb_is_integer D_is_integer)
  have f_check_throws := fn_ok (m := m_check_throws) (g := ⟨[F_law_well, F_law_dip, F_law_low, F_law_rows, F_law_power, F_law_best, F_law_mean, F_is_integer], consL⟩) (ps := [("n" : Str)]) (body := b_check_throws) (rn := rnL.getD 8 false) (k8.cong rfl rfl rfl rfl rfl rfl rfl) D_check_throws sc_check_throws (fun i hi => by revert i; decide) c_check_throws
  have k9 : FnsOk P w K mg base (caOf K clsL) (mc 9 [] []) ⟨[F_law_well, F_law_dip, F_law_low, F_law_rows, F_law_power, F_law_best, F_law_mean, F_is_integer, F_check_throws], consL⟩ 11 := k8.snoc (fi := F_check_throws) (by omega) rfl rfl rfl rfl rfl rfl rfl rfl rfl rfl rfl h_check_throws D_check_throws.kp f_check_throws (kb_check_throws D_check_throws)
  have f_lowest := fn_ok (m := m_lowest) (g := ⟨[F_law_well, F_law_dip, F_law_low, F_law_rows, F_law_power, F_law_best, F_law_mean, F_is_integer, F_check_throws], consL⟩) (ps := [("top" : Str), ("bottom" : Str)]) (body := b_lowest) (rn := rnL.getD 9 false) (k9.cong rfl rfl rfl rfl rfl rfl rfl) D_lowest sc_lowest (fun i hi => by revert i; decide) c_lowest
  have k10 : FnsOk P w K mg base (caOf K clsL) (mc 10 [] []) ⟨[F_law_well, F_law_dip, F_law_low, F_law_rows, F_law_power, F_law_best, F_law_mean, F_is_integer, F_check_throws, F_lowest], consL⟩ 12 := k9.snoc (fi := F_lowest) (by omega) rfl rfl rfl rfl rfl rfl rfl rfl rfl rfl rfl h_lowest D_lowest.kp f_lowest (kb_lowest D_lowest)
  have f_sum_of_two := fn_ok (m := m_sum_of_two) (g := ⟨[F_law_well, F_law_dip, F_law_low, F_law_rows, F_law_power, F_law_best, F_law_mean, F_is_integer, F_check_throws, F_lowest], consL⟩) (ps := [("a" : Str), ("b" : Str)]) (body := b_sum_of_two) (rn := rnL.getD 10 false) (k10.cong rfl rfl rfl rfl rfl rfl rfl) D_sum_of_two sc_sum_of_two (fun i hi => by revert i; decide) c_sum_of_two
  have k11 : FnsOk P w K mg base (caOf K clsL) (mc 11 [] []) ⟨[F_law_well, F_law_dip, F_law_low, F_law_rows, F_law_power, F_law_best, F_law_mean, F_is_integer, F_check_throws, F_lowest, F_sum_of_two], consL⟩ 13 := k10.snoc (fi := F_sum_of_two) (by omega) rfl rfl rfl rfl rfl rfl rfl rfl rfl rfl rfl h_sum_of_two D_sum_of_two.kp f_sum_of_two (kb_sum_of_two D_sum_of_two)
  have f_sum_of_all := fn_ok (m := m_sum_of_all) (g := ⟨[F_law_well, F_law_dip, F_law_low, F_law_rows, F_law_power, F_law_best, F_law_mean, F_is_integer, F_check_throws, F_lowest, F_sum_of_two], consL⟩) (ps := [("numbers" : Str)]) (body := b_sum_of_all) (rn := rnL.getD 11 false) (k11.cong rfl rfl rfl rfl rfl rfl rfl) D_sum_of_all sc_sum_of_all (fun i hi => by revert i; decide) c_sum_of_all
  have k12 : FnsOk P w K mg base (caOf K clsL) (mc 12 [] []) ⟨[F_law_well, F_law_dip, F_law_low, F_law_rows, F_law_power, F_law_best, F_law_mean, F_is_integer, F_check_throws, F_lowest, F_sum_of_two, F_sum_of_all], consL⟩ 14 := k11.snoc (fi := F_sum_of_all) (by omega) rfl rfl rfl rfl rfl rfl rfl rfl rfl rfl rfl h_sum_of_all D_sum_of_all.kp f_sum_of_all (kb_sum_of_all D_sum_of_all)
  have f_difference := fn_ok (m := m_difference) (g := ⟨[F_law_well, F_law_dip, F_law_low, F_law_rows, F_law_power, F_law_best, F_law_mean, F_is_integer, F_check_throws, F_lowest, F_sum_of_two, F_sum_of_all], consL⟩) (ps := [("a" : Str), ("b" : Str)]) (body := b_difference) (rn := rnL.getD 12 false) (k12.cong rfl rfl rfl rfl rfl rfl rfl) D_difference sc_difference (fun i hi => by revert i; decide) c_difference
  have k13 : FnsOk P w K mg base (caOf K clsL) (mc 13 [] []) ⟨[F_law_well, F_law_dip, F_law_low, F_law_rows, F_law_power, F_law_best, F_law_mean, F_is_integer, F_check_throws, F_lowest, F_sum_of_two, F_sum_of_all, F_difference], consL⟩ 15 := k12.snoc (fi := F_difference) (by omega) rfl rfl rfl rfl rfl rfl rfl rfl rfl rfl rfl h_difference D_difference.kp f_difference (kb_difference D_difference)
  have f_power := fn_ok (m := m_power) (g := ⟨[F_law_well, F_law_dip, F_law_low, F_law_rows, F_law_power, F_law_best, F_law_mean, F_is_integer, F_check_throws, F_lowest, F_sum_of_two, F_sum_of_all, F_difference], consL⟩) (ps := [("b" : Str), ("n" : Str)]) (body := b_power) (rn := rnL.getD 13 false) (k13.cong rfl rfl rfl rfl rfl rfl rfl) D_power sc_power (fun i hi => by revert i; decide) c_power
  have k14 : FnsOk P w K mg base (caOf K clsL) (mc 14 [] []) ⟨[F_law_well, F_law_dip, F_law_low, F_law_rows, F_law_power, F_law_best, F_law_mean, F_is_integer, F_check_throws, F_lowest, F_sum_of_two, F_sum_of_all, F_difference, F_power], consL⟩ 16 := k13.snoc (fi := F_power) (by omega) rfl rfl rfl rfl rfl rfl rfl rfl rfl rfl rfl h_power D_power.kp f_power (kb_power D_power)
  have f_stretches := fn_ok (m := m_stretches) (g := ⟨[F_law_well, F_law_dip, F_law_low, F_law_rows, F_law_power, F_law_best, F_law_mean, F_is_integer, F_check_throws, F_lowest, F_sum_of_two, F_sum_of_all, F_difference, F_power], consL⟩) (ps := [("many" : Str)]) (body := b_stretches) (rn := rnL.getD 14 false) (k14.cong rfl rfl rfl rfl rfl rfl rfl) D_stretches sc_stretches (fun i hi => by revert i; decide) c_stretches
  have k15 : FnsOk P w K mg base (caOf K clsL) (mc 15 [] []) ⟨[F_law_well, F_law_dip, F_law_low, F_law_rows, F_law_power, F_law_best, F_law_mean, F_is_integer, F_check_throws, F_lowest, F_sum_of_two, F_sum_of_all, F_difference, F_power, F_stretches], consL⟩ 17 := k14.snoc (fi := F_stretches) (by omega) rfl rfl rfl rfl rfl rfl rfl rfl rfl rfl rfl h_stretches D_stretches.kp f_stretches (kb_stretches D_stretches)
  have f_most_of := fn_ok (m := m_most_of) (g := ⟨[F_law_well, F_law_dip, F_law_low, F_law_rows, F_law_power, F_law_best, F_law_mean, F_is_integer, F_check_throws, F_lowest, F_sum_of_two, F_sum_of_all, F_difference, F_power, F_stretches], consL⟩) (ps := [("n" : Str)]) (body := b_most_of) (rn := rnL.getD 15 false) (k15.cong rfl rfl rfl rfl rfl rfl rfl) D_most_of sc_most_of (fun i hi => by revert i; decide) c_most_of
  have k16 : FnsOk P w K mg base (caOf K clsL) (mc 16 [] []) ⟨[F_law_well, F_law_dip, F_law_low, F_law_rows, F_law_power, F_law_best, F_law_mean, F_is_integer, F_check_throws, F_lowest, F_sum_of_two, F_sum_of_all, F_difference, F_power, F_stretches, F_most_of], consL⟩ 18 := k15.snoc (fi := F_most_of) (by omega) rfl rfl rfl rfl rfl rfl rfl rfl rfl rfl rfl h_most_of D_most_of.kp f_most_of (kb_most_of D_most_of)
  have f_is_pair := fn_ok (m := m_is_pair) (g := ⟨[F_law_well, F_law_dip, F_law_low, F_law_rows, F_law_power, F_law_best, F_law_mean, F_is_integer, F_check_throws, F_lowest, F_sum_of_two, F_sum_of_all, F_difference, F_power, F_stretches, F_most_of], consL⟩) (ps := [("value" : Str)]) (body := b_is_pair) (rn := rnL.getD 16 false) (k16.cong rfl rfl rfl rfl rfl rfl rfl) D_is_pair sc_is_pair (fun i hi => by revert i; decide) c_is_pair
  have k17 : FnsOk P w K mg base (caOf K clsL) (mc 17 [] []) ⟨[F_law_well, F_law_dip, F_law_low, F_law_rows, F_law_power, F_law_best, F_law_mean, F_is_integer, F_check_throws, F_lowest, F_sum_of_two, F_sum_of_all, F_difference, F_power, F_stretches, F_most_of, F_is_pair], consL⟩ 19 := k16.snoc (fi := F_is_pair) (by omega) rfl rfl rfl rfl rfl rfl rfl rfl rfl rfl rfl h_is_pair D_is_pair.kp f_is_pair (kb_is_pair D_is_pair)
  have f_is_number_of := fn_ok (m := m_is_number_of) (g := ⟨[F_law_well, F_law_dip, F_law_low, F_law_rows, F_law_power, F_law_best, F_law_mean, F_is_integer, F_check_throws, F_lowest, F_sum_of_two, F_sum_of_all, F_difference, F_power, F_stretches, F_most_of, F_is_pair], consL⟩) (ps := [("told" : Str)]) (body := b_is_number_of) (rn := rnL.getD 17 false) (k17.cong rfl rfl rfl rfl rfl rfl rfl) D_is_number_of sc_is_number_of (fun i hi => by revert i; decide) c_is_number_of
  have k18 : FnsOk P w K mg base (caOf K clsL) (mc 18 [] []) ⟨[F_law_well, F_law_dip, F_law_low, F_law_rows, F_law_power, F_law_best, F_law_mean, F_is_integer, F_check_throws, F_lowest, F_sum_of_two, F_sum_of_all, F_difference, F_power, F_stretches, F_most_of, F_is_pair, F_is_number_of], consL⟩ 20 := k17.snoc (fi := F_is_number_of) (by omega) rfl rfl rfl rfl rfl rfl rfl rfl rfl rfl rfl h_is_number_of D_is_number_of.kp f_is_number_of (kb_is_number_of D_is_number_of)
  have f_product := fn_ok (m := m_product) (g := ⟨[F_law_well, F_law_dip, F_law_low, F_law_rows, F_law_power, F_law_best, F_law_mean, F_is_integer, F_check_throws, F_lowest, F_sum_of_two, F_sum_of_all, F_difference, F_power, F_stretches, F_most_of, F_is_pair, F_is_number_of], consL⟩) (ps := [("a" : Str), ("b" : Str)]) (body := b_product) (rn := rnL.getD 18 false) (k18.cong rfl rfl rfl rfl rfl rfl rfl) D_product sc_product (fun i hi => by revert i; decide) c_product
  have k19 : FnsOk P w K mg base (caOf K clsL) (mc 19 [] []) ⟨[F_law_well, F_law_dip, F_law_low, F_law_rows, F_law_power, F_law_best, F_law_mean, F_is_integer, F_check_throws, F_lowest, F_sum_of_two, F_sum_of_all, F_difference, F_power, F_stretches, F_most_of, F_is_pair, F_is_number_of, F_product], consL⟩ 21 := k18.snoc (fi := F_product) (by omega) rfl rfl rfl rfl rfl rfl rfl rfl rfl rfl rfl h_product D_product.kp f_product (kb_product D_product)
  have f_whole := fn_ok (m := m_whole) (g := ⟨[F_law_well, F_law_dip, F_law_low, F_law_rows, F_law_power, F_law_best, F_law_mean, F_is_integer, F_check_throws, F_lowest, F_sum_of_two, F_sum_of_all, F_difference, F_power, F_stretches, F_most_of, F_is_pair, F_is_number_of, F_product], consL⟩) (ps := [("a" : Str)]) (body := b_whole) (rn := rnL.getD 19 false) (k19.cong rfl rfl rfl rfl rfl rfl rfl) D_whole sc_whole (fun i hi => by revert i; decide) c_whole
  have k20 : FnsOk P w K mg base (caOf K clsL) (mc 20 [] []) ⟨[F_law_well, F_law_dip, F_law_low, F_law_rows, F_law_power, F_law_best, F_law_mean, F_is_integer, F_check_throws, F_lowest, F_sum_of_two, F_sum_of_all, F_difference, F_power, F_stretches, F_most_of, F_is_pair, F_is_number_of, F_product, F_whole], consL⟩ 22 := k19.snoc (fi := F_whole) (by omega) rfl rfl rfl rfl rfl rfl rfl rfl rfl rfl rfl h_whole D_whole.kp f_whole (kb_whole D_whole)
  have f_mean_out := fn_ok (m := m_mean_out) (g := ⟨[F_law_well, F_law_dip, F_law_low, F_law_rows, F_law_power, F_law_best, F_law_mean, F_is_integer, F_check_throws, F_lowest, F_sum_of_two, F_sum_of_all, F_difference, F_power, F_stretches, F_most_of, F_is_pair, F_is_number_of, F_product, F_whole], consL⟩) (ps := [("n" : Str), ("share" : Str)]) (body := b_mean_out) (rn := rnL.getD 20 false) (k20.cong rfl rfl rfl rfl rfl rfl rfl) D_mean_out sc_mean_out (fun i hi => by revert i; decide) c_mean_out
  have k21 : FnsOk P w K mg base (caOf K clsL) (mc 21 [] []) ⟨[F_law_well, F_law_dip, F_law_low, F_law_rows, F_law_power, F_law_best, F_law_mean, F_is_integer, F_check_throws, F_lowest, F_sum_of_two, F_sum_of_all, F_difference, F_power, F_stretches, F_most_of, F_is_pair, F_is_number_of, F_product, F_whole, F_mean_out], consL⟩ 23 := k20.snoc (fi := F_mean_out) (by omega) rfl rfl rfl rfl rfl rfl rfl rfl rfl rfl rfl h_mean_out D_mean_out.kp f_mean_out (kb_mean_out D_mean_out)
  have f_law_same := rec_ok (m' := m_law_same) (sem := s_law_same) (n := ("_law_same" : Str)) (ps := [("told" : Str), ("due" : Str)]) (g := ⟨[F_law_well, F_law_dip, F_law_low, F_law_rows, F_law_power, F_law_best, F_law_mean, F_is_integer, F_check_throws, F_lowest, F_sum_of_two, F_sum_of_all, F_difference, F_power, F_stretches, F_most_of, F_is_pair, F_is_number_of, F_product, F_whole, F_mean_out], consL⟩) k21 D_law_same sc_law_same (fun i hi => by revert i; decide) c_law_same rfl (fun _ => rfl) rfl rfl rfl rfl rfl rfl rfl rfl h_law_same D_law_same.kp (kb_law_same D_law_same) 12
  have k22 : FnsOk P w K mg base (caOf K clsL) (mc 22 [] []) ⟨[F_law_well, F_law_dip, F_law_low, F_law_rows, F_law_power, F_law_best, F_law_mean, F_is_integer, F_check_throws, F_lowest, F_sum_of_two, F_sum_of_all, F_difference, F_power, F_stretches, F_most_of, F_is_pair, F_is_number_of, F_product, F_whole, F_mean_out, F_law_same], consL⟩ 35 := k21.snoc (fi := F_law_same) (by omega) rfl rfl rfl rfl rfl rfl rfl rfl rfl rfl rfl h_law_same D_law_same.kp f_law_same (kb_law_same D_law_same)
  have f_law := fn_ok (m := m_law) (g := ⟨[F_law_well, F_law_dip, F_law_low, F_law_rows, F_law_power, F_law_best, F_law_mean, F_is_integer, F_check_throws, F_lowest, F_sum_of_two, F_sum_of_all, F_difference, F_power, F_stretches, F_most_of, F_is_pair, F_is_number_of, F_product, F_whole, F_mean_out, F_law_same], consL⟩) (ps := [("script" : Str)]) (body := b_law) (rn := rnL.getD 22 false) (k22.cong rfl rfl rfl rfl rfl rfl rfl) D_law sc_law (fun i hi => by revert i; decide) c_law
  exact f_law
def lvl : Nat := 36
end Lk35
end

section
set_option Elab.async false
set_option linter.all false
set_option maxRecDepth 100000
set_option maxHeartbeats 0
namespace Lk35
open PySem PySem.Spec PyProof.Rows L2 WT
abbrev rowR : PySem.W.OpenRow := PySem.W.OpenLaw.row PySem.Challenge.rw_wholetosses_k35_whole_means_of_a_crooked
abbrev hk : PySem.W.Hook := hookW 6 chkL fnD
def ob (s : PySem.W.SharedT) : AlW := obsWG 6 chkL fnD (HandSHeadRun.getT s)
theorem ob_eq (s : PySem.W.SharedT) : ob s = hk.obs s.abs := obsWG_eq (HandSHeadRun.getT_eq s)
def loose : List Str := ([("TossError" : Str), ("InvalidNumber" : Str), ("ZERO" : Str), ("ONE" : Str), ("_law_reader" : Str), ("_law_is_fair" : Str), ("_law_add" : Str)] : List Str) ++ namesL.dropLast
theorem run (w : World) : HandSHeadRun.RunEqI rowR (PySem.W.view rowR.prog [0, 34]) hk ob 2000 loose w := by
  unfold HandSHeadRun.RunEqI
  kernel_rfl
end Lk35
namespace Lk35
open HandSHeadRun PySem PySem.W PySem.Calls PyProof.Rows
abbrev prgQ : Program := view rowR.prog [0, 34]
abbrev defD := HandSHeadRun.topDef rowR.prog 34
theorem asm1 : defOf prgQ rowR.name = some (defD, []) := by kernel_rfl
theorem asm2 : rowR.prog.theDef rowR.name = some (defD.params, defD.body, defD.scope) := by kernel_rfl
theorem asm3 : kwWritten? defD.params.kwonlyargs defD.params.kw_defaults = some [] := by rfl
theorem asm4 : (!rowR.writes || rowR.records.isEmpty) = true := by first | assumption | decide +kernel
theorem asm5 : rowR.wellSaid = true := by kernel_rfl
theorem asm6 : (chainsOk prgQ && opensWell rowR.prog && (frees rowR.toRowW && rowR.within.isEmpty)) = true := by kernel_rfl
theorem asm7 : rowR.prog.bare := ⟨rfl, rfl, rfl, rfl, rfl, by decide +kernel⟩
theorem asm8 : rowR.toRowW.promised := by w_witness2
theorem asm9 : defD.name = "law" := by kernel_rfl
theorem asm10 : defD.params.defaults = [] := by kernel_rfl
end Lk35
end

section
set_option Elab.async false
set_option linter.all false
set_option maxRecDepth 100000
set_option autoImplicit false
/-! P0: operations of data as rewriting rules. Own work. -/
namespace WT
open PySem
variable {α : Type}
def ilst (ns : List Int) : List D := ns.map D.int
@[simp] theorem ilst_nil : ilst [] = [] := (rfl)
@[simp] theorem ilst_cons (n : Int) (ns : List Int) : ilst (n :: ns) = .int n :: ilst ns := (rfl)
@[simp] theorem ilst_length (ns : List Int) : (ilst ns).length = ns.length := by simp [ilst]
@[simp] theorem ilst_append (a b : List Int) : ilst (a ++ b) = ilst a ++ ilst b := by simp [ilst]
def fr (p : Int × Int) : D := .tup [.int p.1, .int p.2]
@[simp] theorem fr_mk (a b : Int) : D.tup [.int a, .int b] = fr (a, b) := (rfl)

@[simp] theorem binD_add (a b : Int) : binD .Add (.int a) (.int b) = some (.int (a + b)) := (rfl)
@[simp] theorem binD_sub (a b : Int) : binD .Sub (.int a) (.int b) = some (.int (a - b)) := (rfl)
@[simp] theorem binD_mul (a b : Int) : binD .Mult (.int a) (.int b) = guardO (mulOK a b) (.int (a * b)) := (rfl)
@[simp] theorem binD_div (a b : Int) : binD .FloorDiv (.int a) (.int b) = guardO (divOK b) (.int (a.fdiv b)) := (rfl)
@[simp] theorem binD_mod (a b : Int) : binD .Mod (.int a) (.int b) = guardO (b ≠ 0) (.int (a.fmod b)) := (rfl)
@[simp] theorem binD_pow (a b : Int) : binD .Pow (.int a) (.int b) = guardO (pwOK a b) (.int (a ^ b.toNat)) := (rfl)
@[simp] theorem binD_addt (a b : List D) : binD .Add (.tup a) (.tup b) = guardO (a.length + b.length ≤ sizeLine) (.tup (a ++ b)) := (rfl)
@[simp] theorem binD_addl (a b : List D) : binD .Add (.lst a) (.lst b) = guardO (a.length + b.length ≤ sizeLine) (.lst (a ++ b)) := (rfl)
@[simp] theorem cmpD_lt (a b : Int) : cmpD .Lt (.int a) (.int b) = some (decide (a < b)) := (rfl)
@[simp] theorem cmpD_le (a b : Int) : cmpD .LtE (.int a) (.int b) = some (decide (a ≤ b)) := (rfl)
@[simp] theorem cmpD_gt (a b : Int) : cmpD .Gt (.int a) (.int b) = some (decide (b < a)) := (rfl)
@[simp] theorem cmpD_ge (a b : Int) : cmpD .GtE (.int a) (.int b) = some (decide (b ≤ a)) := (rfl)
@[simp] theorem cmpD_eq (a b : D) : cmpD .Eq a b = eqD a b := (rfl)
@[simp] theorem cmpD_ne (a b : D) : cmpD .NotEq a b = (eqD a b).map (!·) := (rfl)
@[simp] theorem cmpD_is_non : cmpD .Is .non .non = some true := (rfl)
@[simp] theorem cmpD_is_bl (b : Bool) : cmpD .Is (.bl b) .non = some false := (rfl)
@[simp] theorem cmpD_is_int (b : Int) : cmpD .Is (.int b) .non = some false := (rfl)
@[simp] theorem cmpD_is_str (b : Str) : cmpD .Is (.str b) .non = some false := (rfl)
@[simp] theorem cmpD_is_tup (b : List D) : cmpD .Is (.tup b) .non = some false := (rfl)
@[simp] theorem cmpD_is_lst (b : List D) : cmpD .Is (.lst b) .non = some false := (rfl)
@[simp] theorem cmpD_isn_non : cmpD .IsNot .non .non = some false := (rfl)
@[simp] theorem cmpD_isn_tup (b : List D) : cmpD .IsNot (.tup b) .non = some true := (rfl)
@[simp] theorem cmpD_is_bb (a b : Bool) : cmpD .Is (.bl a) (.bl b) = some (decide (a = b)) := (rfl)
@[simp] theorem cmpD_isn_bb (a b : Bool) : cmpD .IsNot (.bl a) (.bl b) = some (!decide (a = b)) := (rfl)
@[simp] theorem cmpD_in_dK (a : D) (ks : List L2.Key) (vs : List D) : cmpD .In a (.dK ks vs) = (keyOf a).map fun k => (valP ks vs k).isSome := by cases a <;> rfl
@[simp] theorem cmpD_notin_dK (a : D) (ks : List L2.Key) (vs : List D) : cmpD .NotIn a (.dK ks vs) = (keyOf a).map fun k => !(valP ks vs k).isSome := by cases a <;> rfl
@[simp] theorem keyOf_int (i : Int) : keyOf (.int i) = some (.inl i) := (rfl)
@[simp] theorem keyOf_str (i : Str) : keyOf (.str i) = some (.inr i) := (rfl)
@[simp] theorem idxD_dK (st : Sto) (ks : List L2.Key) (vs : List D) (y : D) : idxD st (.dK ks vs) y = (keyOf y).bind fun k => valP ks vs k := by cases y <;> rfl
@[simp] theorem dputD_dK (ks : List L2.Key) (vs : List D) (y v : D) : dputD (.dK ks vs) y v = if noL v && decide (ks.length < sizeLine) then (keyOf y).map fun k => if (valP ks vs k).isSome then .dK ks (repP k v ks vs) else .dK (ks ++ [k]) (vs ++ [v]) else none := (rfl)
@[simp] theorem dgetoD_dK (ks : List L2.Key) (vs : List D) (y z : D) : dgetoD (.dK ks vs) y z = if noL z then (keyOf y).map fun k => (valP ks vs k).getD z else none := (rfl)
@[simp] theorem cmpD_in_dT (a : D) (ks : List NestedKey) (vs : List D) : cmpD .In a (.dT ks vs) = (keyTO a).map fun k => (valP ks vs k).isSome := by cases a <;> rfl
@[simp] theorem cmpD_notin_dT (a : D) (ks : List NestedKey) (vs : List D) : cmpD .NotIn a (.dT ks vs) = (keyTO a).map fun k => !(valP ks vs k).isSome := by cases a <;> rfl
@[simp] theorem idxD_dT (st : Sto) (ks : List NestedKey) (vs : List D) (y : D) : idxD st (.dT ks vs) y = (keyTO y).bind fun k => valP ks vs k := by cases y <;> rfl
@[simp] theorem dputD_dT (ks : List NestedKey) (vs : List D) (y v : D) : dputD (.dT ks vs) y v = if noL v && decide (ks.length < sizeLine) then (keyTO y).map fun k => if (valP ks vs k).isSome then .dT ks (repP k v ks vs) else .dT (ks ++ [k]) (vs ++ [v]) else none := (rfl)
/-- a pair's key -/
def kPr (a b : Int) : NestedKey := .tup [.num a, .num b]
@[simp] theorem keyTO_pair (a b : Int) : keyTO (.tup [.int a, .int b]) = some (kPr a b) := (rfl)
theorem kPr_inj {a b c d : Int} : kPr a b = kPr c d ↔ a = c ∧ b = d := by
  unfold kPr
  constructor
  · intro h; injection h with h; injection h with h1 h2; injection h2 with h2 h3; injection h1 with h1; injection h2 with h2; exact ⟨h1, h2⟩
  · rintro ⟨rfl, rfl⟩; rfl
@[simp] theorem biD_lend (st : Sto) (ks : List L2.Key) (vs : List D) : biD st .len [.dK ks vs] = some (.int ks.length) := (rfl)
@[simp] theorem truD_bl (st : Sto) (b : Bool) : truD st (.bl b) = some b := (rfl)
@[simp] theorem truD_non (st : Sto) : truD st .non = some false := (rfl)
@[simp] theorem truD_int (st : Sto) (i : Int) : truD st (.int i) = some (i != 0) := (rfl)
@[simp] theorem truD_lst (st : Sto) (xs : List D) : truD st (.lst xs) = some (!xs.isEmpty) := (rfl)
@[simp] theorem truD_tup (st : Sto) (xs : List D) : truD st (.tup xs) = some (!xs.isEmpty) := (rfl)
@[simp] theorem idxD_lst (st : Sto) (xs : List D) (i : Int) : idxD st (.lst xs) (.int i) = ixD xs i := (rfl)
@[simp] theorem idxD_tup (st : Sto) (xs : List D) (i : Int) : idxD st (.tup xs) (.int i) = ixD xs i := (rfl)
@[simp] theorem idxD_frz (st : Sto) (xs : List Int) (i : Int) : idxD st (.frz xs) (.int i) = ixD (xs.map D.int) i := (rfl)
@[simp] theorem idxD_ref (st : Sto) (k : Nat) (i : Int) : idxD st (.ref k) (.int i) = (st[k]?).bind fun xs => ixD xs i := (rfl)
theorem ixD_nat {xs : List α} {k : Nat} {x : α} (h : xs[k]? = some x) : ixD xs (k : Int) = some x := by
  unfold ixD L2.atI
  have hk : k < xs.length := (List.getElem?_eq_some_iff.mp h).1
  simp only [L2.ixN]
  rw [if_pos (by omega), if_pos (by omega)]
  simpa using h
@[simp] theorem ixD_0 (x : α) (xs : List α) : ixD (x :: xs) 0 = some x := ixD_nat (k := 0) rfl
@[simp] theorem ixD_1 (x y : α) (xs : List α) : ixD (x :: y :: xs) 1 = some y := ixD_nat (k := 1) rfl
@[simp] theorem ixD_2 (x y z : α) (xs : List α) : ixD (x :: y :: z :: xs) 2 = some z := ixD_nat (k := 2) rfl
@[simp] theorem ixD_last (x : α) (xs : List α) : ixD (xs ++ [x]) (-1) = some x := by
  unfold ixD L2.atI
  simp only [L2.ixN, List.length_append, List.length_singleton]
  rw [if_neg (by omega), if_pos (by omega)]
  have : (-1 + ((xs.length + 1 : Nat) : Int)).toNat = xs.length := by omega
  show (xs ++ [x])[(-1 + ((xs.length + 1 : Nat) : Int)).toNat]? = some x
  rw [this]
  simp
@[simp] theorem sliceD_lst (xs : List D) (a b : Option Int) : sliceD (.lst xs) a b = some (.lst (cutL xs a b)) := (rfl)
@[simp] theorem sliceD_tup (xs : List D) (a b : Option Int) : sliceD (.tup xs) a b = some (.tup (cutL xs a b)) := (rfl)
@[simp] theorem revD_tup (xs : List D) : revD (.tup xs) = some (.tup xs.reverse) := (rfl)
@[simp] theorem revD_lst (xs : List D) : revD (.lst xs) = some (.lst xs.reverse) := (rfl)
@[simp] theorem isiD_non (ts : List Ty) : isiD .non ts = some (ts.any fun t => ([] : List Ty).contains t) := (rfl)
@[simp] theorem isiD_bl (b : Bool) (ts : List Ty) : isiD (.bl b) ts = some (ts.any fun t => ([.bool, .int] : List Ty).contains t) := (rfl)
@[simp] theorem isiD_int (i : Int) (ts : List Ty) : isiD (.int i) ts = some (ts.any fun t => ([.int] : List Ty).contains t) := (rfl)
@[simp] theorem isiD_str (i : Str) (ts : List Ty) : isiD (.str i) ts = some (ts.any fun t => ([.str] : List Ty).contains t) := (rfl)
@[simp] theorem isiD_tup (i : List D) (ts : List Ty) : isiD (.tup i) ts = some (ts.any fun t => ([.tuple] : List Ty).contains t) := (rfl)
@[simp] theorem isiD_lst (i : List D) (ts : List Ty) : isiD (.lst i) ts = some (ts.any fun t => ([.list] : List Ty).contains t) := (rfl)
@[simp] theorem seqOf_lst (xs : List D) : seqOf (.lst xs) = some xs := (rfl)
@[simp] theorem seqOf_tup (xs : List D) : seqOf (.tup xs) = some xs := (rfl)
@[simp] theorem biD_lenl (st : Sto) (xs : List D) : biD st .len [.lst xs] = some (.int xs.length) := (rfl)
@[simp] theorem biD_lent (st : Sto) (xs : List D) : biD st .len [.tup xs] = some (.int xs.length) := (rfl)
@[simp] theorem biD_lenf (st : Sto) (xs : List Int) : biD st .len [.frz xs] = some (.int xs.length) := (rfl)
@[simp] theorem biD_int (st : Sto) (i : Int) : biD st .int [.int i] = some (.int i) := (rfl)
@[simp] theorem biD_intb (st : Sto) (b : Bool) : biD st .int [.bl b] = some (.int (if b then 1 else 0)) := (rfl)
@[simp] theorem biD_abs (st : Sto) (i : Int) : biD st .abs [.int i] = some (.int (if i < 0 then -i else i)) := (rfl)
@[simp] theorem biD_gcd (st : Sto) (i j : Int) : biD st .gcd [.int i, .int j] = some (.int (Nat.gcd i.natAbs j.natAbs : Nat)) := (rfl)
@[simp] theorem biD_max2 (st : Sto) (i j : Int) : biD st .max2 [.int i, .int j] = some (.int (if j > i then j else i)) := (rfl)
@[simp] theorem biD_min2 (st : Sto) (i j : Int) : biD st .min2 [.int i, .int j] = some (.int (if j < i then j else i)) := (rfl)
@[simp] theorem biD_tuplel (st : Sto) (xs : List D) : biD st .tuple [.lst xs] = some (.tup xs) := (rfl)
@[simp] theorem biD_tuplet (st : Sto) (xs : List D) : biD st .tuple [.tup xs] = some (.tup xs) := (rfl)
@[simp] theorem biD_listl (st : Sto) (xs : List D) : biD st .list [.lst xs] = some (.lst xs) := (rfl)
@[simp] theorem biD_listt (st : Sto) (xs : List D) : biD st .list [.tup xs] = some (.lst xs) := (rfl)
@[simp] theorem biD_sortd (st : Sto) (xs : List D) : biD st .sorted [.lst xs] = (intsD xs).bind fun ns => guardO (ns.length < 64) (.lst ((sortI ns).map D.int)) := (rfl)
@[simp] theorem intsD_ints (ns : List Int) : intsD (ilst ns) = some ns := by
  induction ns with
  | nil => rfl
  | cons n ns ih => rw [ilst_cons, intsD, ih]; rfl
theorem blsD_map (bs : List Bool) : blsD (bs.map D.bl) = some bs := by
  induction bs with
  | nil => rfl
  | cons n ns ih => rw [List.map_cons, blsD, ih]; rfl
theorem biD_all (st : Sto) (bs : List Bool) : biD st .all [.lst (bs.map D.bl)] = some (.bl (bs.all id)) := by
  show (blsD _).map _ = _
  rw [blsD_map]; rfl
@[simp] theorem op1D_bits (i : Int) : op1D .bits (.int i) = some (.int ((Builtin.Int.intBits i : Nat) : Int)) := (rfl)
@[simp] theorem op1D_lenSet (xs : List D) : op1D .lenSet (.lst xs) = (intsD xs).bind fun ns => guardO (ns.length ≤ 4000) (.int ((nubI ns).length : Nat)) := (rfl)
@[simp] theorem biD_comb (st : Sto) (n k : Int) : biD st .comb [.int n, .int k] = guardO (combOK n k) (.int (combI n k)) := (rfl)
@[simp] theorem biD_fact (st : Sto) (n : Int) : biD st .fact [.int n] = guardO (factOK n) (.int (factI n)) := (rfl)
theorem mulOK_r {i j : Int} (h1 : -(2 ^ 64) < j) (h2 : j < 2 ^ 64) : mulOK i j := .inl (.inr ⟨h1, h2⟩)
theorem mulOK_l {i j : Int} (h1 : -(2 ^ 64) < i) (h2 : i < 2 ^ 64) : mulOK i j := .inl (.inl ⟨h1, h2⟩)
theorem divOK_of {j : Int} (h : 0 < j) (h2 : j < 2 ^ 8999) : divOK j := by
  refine ⟨by omega, ?_⟩
  show j.natAbs.log2 < 9000
  have hj : j.natAbs < 2 ^ 9000 := by
    have : (j.natAbs : Int) < ((2 ^ 8999 : Nat) : Int) := by
      rw [Int.natCast_pow]
      have : (j.natAbs : Int) = j := by omega
      rw [this]; exact h2
    have h3 := Int.ofNat_lt.mp this
    exact Nat.lt_of_lt_of_le h3 (Nat.pow_le_pow_right (by omega) (by omega))
  exact (Nat.log2_lt (by omega)).mpr hj
theorem divOK_small {j : Int} (h : 0 < j) (h2 : j < 2 ^ 64) : divOK j := by
  refine ⟨by omega, ?_⟩
  show j.natAbs.log2 < 9000
  have hj : j.natAbs.log2 < 64 := (Nat.log2_lt (by omega)).mpr (by omega)
  omega
theorem fdiv_nn {a b : Int} (h : 0 ≤ b) : a.fdiv b = a / b := Int.fdiv_eq_ediv_of_nonneg a h
theorem fmod_nn {a b : Int} (h : 0 ≤ b) : a.fmod b = a % b := Int.fmod_eq_emod_of_nonneg a h

/-! data that == can look at -/
mutual
def okD : Nat → D → Bool
  | _, .non => true
  | _, .bl _ => true
  | _, .int _ => true
  | _, .str x => PyData.strOk x
  | 0, .tup _ => false
  | n + 1, .tup xs => okDs n xs
  | 0, .lst _ => false
  | n + 1, .lst xs => okDs n xs
  | _, .frz _ => false
  | _, .dK _ _ => false
  | _, .dT _ _ => false
  | _, .ref _ => false
  | _, .exc _ _ => false
def okDs : Nat → List D → Bool
  | _, [] => true
  | n, x :: xs => okD n x && okDs n xs
end
mutual
theorem okD_py : ∀ (d : D) (n : Nat), okD n d = true → ∃ p, toPy d = some p ∧ p.canLay0 = true ∧ p.depth ≤ n
  | .non, n, _ => ⟨_, rfl, rfl, Nat.zero_le _⟩
  | .bl _, n, _ => ⟨_, rfl, rfl, Nat.zero_le _⟩
  | .int _, n, _ => ⟨_, rfl, rfl, Nat.zero_le _⟩
  | .str x, n, h => ⟨_, rfl, by simpa [okD, PyData.canLay0] using h, Nat.zero_le _⟩
  | .tup xs, 0, h => by simp [okD] at h
  | .tup xs, n + 1, h => by
    obtain ⟨ps, h1, h2, h3⟩ := okDs_py xs n (by simpa [okD] using h)
    exact ⟨.tuple ps, by rw [toPy, h1]; rfl, by simpa [PyData.canLay0] using h2, by simp only [PyData.depth]; omega⟩
  | .lst xs, 0, h => by simp [okD] at h
  | .lst xs, n + 1, h => by
    obtain ⟨ps, h1, h2, h3⟩ := okDs_py xs n (by simpa [okD] using h)
    exact ⟨.list ps, by rw [toPy, h1]; rfl, by simpa [PyData.canLay0] using h2, by simp only [PyData.depth]; omega⟩
  | .frz _, n, h => by simp [okD] at h
  | .dK _ _, n, h => by simp [okD] at h
  | .dT _ _, n, h => by simp [okD] at h
  | .ref _, n, h => by simp [okD] at h
  | .exc _ _, n, h => by simp [okD] at h
theorem okDs_py : ∀ (xs : List D) (n : Nat), okDs n xs = true → ∃ ps, toPys xs = some ps ∧ PyData.canLayAll0 ps = true ∧ PyData.depthAll ps ≤ n
  | [], n, _ => ⟨[], rfl, rfl, Nat.zero_le _⟩
  | x :: xs, n, h => by
    have h' : okD n x = true ∧ okDs n xs = true := by simpa [okDs] using h
    obtain ⟨p, h1, h2, h3⟩ := okD_py x n h'.1
    obtain ⟨ps, k1, k2, k3⟩ := okDs_py xs n h'.2
    exact ⟨p :: ps, by rw [toPys, h1, k1], by simp [PyData.canLayAll0, h2, k2], by simp only [PyData.depthAll]; omega⟩
end
theorem okDs_all : ∀ (xs : List D) (n : Nat), okDs n xs = xs.all (okD n)
  | [], n => rfl
  | x :: xs, n => by rw [okDs, List.all_cons, okDs_all xs n]
theorem shaped_of {p : PyData} (h : p.canLay0 = true) (h2 : p.depth ≤ 64) : SeqAt.shaped p = true := by
  unfold SeqAt.shaped; rw [h]; simpa using h2
theorem eqD_of {a b : D} {p q : PyData} (h1 : toPy a = some p) (h2 : toPy b = some q) (h3 : p.canLay0 = true) (h4 : q.canLay0 = true) (h5 : p.depth ≤ 64) (h6 : q.depth ≤ 64) : eqD a b = some (PyData.eqv p q) := by
  unfold eqD
  rw [h1, h2]
  exact if_pos ⟨shaped_of h3 h5, shaped_of h4 h6⟩
theorem eqD_refl {d : D} (h : okD 64 d = true) : eqD d d = some true := by
  obtain ⟨p, h1, h2, h3⟩ := okD_py d 64 h
  rw [eqD_of h1 h1 h2 h2 h3 h3, SeqAt.eqv_refl p h2]
@[simp] theorem eqD_int (a b : Int) : eqD (.int a) (.int b) = some (decide (a = b)) := by
  rw [eqD_of (p := .int a) (q := .int b) rfl rfl rfl rfl (Nat.zero_le _) (Nat.zero_le _)]
  rfl
@[simp] theorem eqD_bl (a b : Bool) : eqD (.bl a) (.bl b) = some (decide (a = b)) := by
  rw [eqD_of (p := .bool a) (q := .bool b) rfl rfl rfl rfl (Nat.zero_le _) (Nat.zero_le _)]
  rfl
theorem toPys_ints (ns : List Int) : toPys (ilst ns) = some (ns.map .int) := by
  induction ns with
  | nil => rfl
  | cons n ns ih => rw [ilst_cons, toPys, ih]; rfl
theorem canLay_ints (ns : List Int) : PyData.canLayAll0 (ns.map .int) = true := by
  induction ns with
  | nil => rfl
  | cons n ns ih => simp [PyData.canLayAll0, PyData.canLay0, ih]
theorem depth_ints (ns : List Int) : PyData.depthAll (ns.map .int) = 0 := by
  induction ns with
  | nil => rfl
  | cons n ns ih => simp [PyData.depthAll, PyData.depth, ih]
theorem eqv_ints : ∀ (a b : List Int), PyData.eqvAll (a.map .int) (b.map .int) = decide (a = b)
  | [], [] => rfl
  | [], _ :: _ => by simp [PyData.eqvAll]
  | _ :: _, [] => by simp [PyData.eqvAll]
  | x :: xs, y :: ys => by
    have h : (x == y) = decide (x = y) := rfl
    simp [PyData.eqvAll, PyData.eqv, eqv_ints xs ys, h]
theorem eqD_ints (a b : List Int) : eqD (.tup (ilst a)) (.tup (ilst b)) = some (decide (a = b)) := by
  rw [eqD_of (p := .tuple (a.map .int)) (q := .tuple (b.map .int)) (by rw [toPy, toPys_ints]; rfl) (by rw [toPy, toPys_ints]; rfl) (by simpa [PyData.canLay0] using canLay_ints a) (by simpa [PyData.canLay0] using canLay_ints b)
    (by simp [PyData.depth, depth_ints]) (by simp [PyData.depth, depth_ints])]
  rw [PyData.eqv, eqv_ints]
@[simp] theorem eqD_fr (p q : Int × Int) : eqD (fr p) (fr q) = some (decide (p = q)) := by
  have := eqD_ints [p.1, p.2] [q.1, q.2]
  rw [show D.tup (ilst [p.1, p.2]) = fr p from rfl, show D.tup (ilst [q.1, q.2]) = fr q from rfl] at this
  rw [this]
  congr 1
  obtain ⟨a, b⟩ := p; obtain ⟨c, d⟩ := q
  simp
theorem eqD_tupE (ns : List Int) : eqD (.tup (ilst ns)) (.tup []) = some (decide (ns = [])) := eqD_ints ns []
theorem eqD_lstE {xs : List D} (h : okDs 63 xs = true) : eqD (.lst xs) (.lst []) = some xs.isEmpty := by
  obtain ⟨ps, h1, h2, h3⟩ := okDs_py xs 63 h
  rw [eqD_of (p := .list ps) (q := .list []) (by rw [toPy, h1]; rfl) rfl (by simpa [PyData.canLay0] using h2) rfl (by simp only [PyData.depth]; omega) (by decide)]
  congr 1
  cases xs with
  | nil => cases ps with
    | nil => rfl
    | cons p ps => simp [toPys] at h1
  | cons x xs => cases ps with
    | nil => unfold toPys at h1; split at h1 <;> simp at h1
    | cons p ps => rw [PyData.eqv, PyData.eqvAll]; rfl
@[simp] theorem okDs_ints (n : Nat) (ns : List Int) : okDs n (ilst ns) = true := by
  rw [okDs_all]; simp [ilst, okD]
theorem eqD_lstI (ns : List Int) : eqD (.lst (ilst ns)) (.lst []) = some (decide (ns = [])) := by
  rw [eqD_lstE (okDs_ints _ _)]; cases ns <;> rfl
/-! data that the law's look at likeness can go through -/
mutual
def alD : Nat → D → Bool
  | _, .non => true
  | _, .bl _ => true
  | _, .int _ => true
  | _, .str x => PyData.strOk x
  | 0, .tup _ => false
  | n + 1, .tup xs => decide (xs.length ≤ sizeLine) && alDs n xs
  | 0, .lst _ => false
  | n + 1, .lst xs => decide (xs.length ≤ sizeLine) && alDs n xs
  | _, .frz _ => false
  | _, .dK _ _ => false
  | _, .dT _ _ => false
  | _, .ref _ => false
  | _, .exc _ _ => false
def alDs : Nat → List D → Bool
  | _, [] => true
  | n, x :: xs => alD n x && alDs n xs
end
theorem alDs_all : ∀ (xs : List D) (n : Nat), alDs n xs = xs.all (alD n)
  | [], n => rfl
  | x :: xs, n => by rw [alDs, List.all_cons, alDs_all xs n]
@[simp] theorem alD_non (n : Nat) : alD n .non = true := by cases n <;> rfl
@[simp] theorem alD_bl (n : Nat) (b : Bool) : alD n (.bl b) = true := by cases n <;> rfl
@[simp] theorem alD_int (n : Nat) (b : Int) : alD n (.int b) = true := by cases n <;> rfl
@[simp] theorem alD_tup (n : Nat) (xs : List D) : alD (n + 1) (.tup xs) = (decide (xs.length ≤ sizeLine) && alDs n xs) := rfl
@[simp] theorem alD_lst (n : Nat) (xs : List D) : alD (n + 1) (.lst xs) = (decide (xs.length ≤ sizeLine) && alDs n xs) := rfl
@[simp] theorem alDs_nil (n : Nat) : alDs n [] = true := rfl
@[simp] theorem alDs_cons (n : Nat) (x : D) (xs : List D) : alDs n (x :: xs) = (alD n x && alDs n xs) := rfl
end WT
end

section
set_option Elab.async false
set_option linter.all false
set_option autoImplicit false
/-! Q1: fractions. Own work. -/
namespace WT
/-- in lowest terms, for b > 0 -/
def low (a b : Int) : Int × Int := (a / (Nat.gcd a.natAbs b.natAbs : Nat), b / (Nat.gcd a.natAbs b.natAbs : Nat))
/-- a fraction in lowest terms -/
def Lw (p : Int × Int) : Prop := 0 < p.2 ∧ Nat.gcd p.1.natAbs p.2.natAbs = 1
theorem gcd_pos_r {a b : Int} (h : 0 < b) : 0 < Nat.gcd a.natAbs b.natAbs := Nat.gcd_pos_of_pos_right _ (by omega)
theorem low_mul {a b : Int} (h : 0 < b) : (low a b).1 * (Nat.gcd a.natAbs b.natAbs : Nat) = a ∧ (low a b).2 * (Nat.gcd a.natAbs b.natAbs : Nat) = b := by
  have h1 : ((Nat.gcd a.natAbs b.natAbs : Nat) : Int) ∣ a := Int.ofNat_dvd_left.mpr (Nat.gcd_dvd_left _ _)
  have h2 : ((Nat.gcd a.natAbs b.natAbs : Nat) : Int) ∣ b := Int.ofNat_dvd_left.mpr (Nat.gcd_dvd_right _ _)
  exact ⟨Int.ediv_mul_cancel h1, Int.ediv_mul_cancel h2⟩
theorem low_lw {a b : Int} (h : 0 < b) : Lw (low a b) := by
  obtain ⟨h1, h2⟩ := low_mul (a := a) h
  have hg := gcd_pos_r (a := a) h
  generalize hgg : Nat.gcd a.natAbs b.natAbs = g at *
  have hp : 0 < (low a b).2 := by
    rcases Int.lt_or_le 0 (low a b).2 with hh | hh
    · exact hh
    · exfalso
      have : (low a b).2 * (g : Int) ≤ 0 * g := Int.mul_le_mul_of_nonneg_right hh (by omega)
      omega
  refine ⟨hp, ?_⟩
  have e1 : a.natAbs = (low a b).1.natAbs * g := by
    have := congrArg Int.natAbs h1
    rw [Int.natAbs_mul, Int.natAbs_natCast] at this
    exact this.symm
  have e2 : b.natAbs = (low a b).2.natAbs * g := by
    have := congrArg Int.natAbs h2
    rw [Int.natAbs_mul, Int.natAbs_natCast] at this
    exact this.symm
  have e3 : Nat.gcd ((low a b).1.natAbs * g) ((low a b).2.natAbs * g) = g := by rw [← e1, ← e2, hgg]
  rw [Nat.gcd_mul_right] at e3
  exact Nat.eq_of_mul_eq_mul_right hg (by omega)
theorem low_self {p : Int × Int} (h : Lw p) : low p.1 p.2 = p := by
  unfold low; rw [h.2]; simp
/-- two fractions in lowest terms with one value are one -/
theorem lw_ext {p q : Int × Int} (hp : Lw p) (hq : Lw q) (h : p.1 * q.2 = q.1 * p.2) : p = q := by
  obtain ⟨a, b⟩ := p; obtain ⟨c, d⟩ := q
  obtain ⟨hb, h1⟩ := hp
  obtain ⟨hd, h2⟩ := hq
  simp only at *
  have d1 : b.natAbs ∣ d.natAbs := by
    have : b.natAbs ∣ a.natAbs * d.natAbs := by
      rw [← Int.natAbs_mul, h, Int.natAbs_mul]; exact Nat.dvd_mul_left _ _
    exact (Nat.Coprime.symm h1).dvd_of_dvd_mul_left this
  have d2 : d.natAbs ∣ b.natAbs := by
    have : d.natAbs ∣ c.natAbs * b.natAbs := by
      rw [← Int.natAbs_mul, ← h, Int.natAbs_mul]; exact Nat.dvd_mul_left _ _
    exact (Nat.Coprime.symm h2).dvd_of_dvd_mul_left this
  have e : b = d := by have := Nat.dvd_antisymm d1 d2; omega
  subst e
  have : a = c := Int.eq_of_mul_eq_mul_right (by omega) h
  rw [this]
/-- the value -/
def val (p : Int × Int) : Rat := (p.1 : Rat) / (p.2 : Rat)
theorem cast_pos {b : Int} (h : 0 < b) : (0 : Rat) < (b : Rat) := Rat.intCast_pos.mpr h
theorem cast_ne {b : Int} (h : 0 < b) : (b : Rat) ≠ 0 := fun e => by have := Rat.intCast_inj.mp (e.trans rfl : (b : Rat) = ((0 : Int) : Rat)); omega
theorem val_eq {p q : Int × Int} (hp : 0 < p.2) (hq : 0 < q.2) : val p = val q ↔ p.1 * q.2 = q.1 * p.2 := by
  have h1 := cast_ne hp
  have h2 := cast_ne hq
  unfold val
  constructor
  · intro h
    have : (p.1 : Rat) * (q.2 : Rat) = (q.1 : Rat) * (p.2 : Rat) := by grind
    rw [← Rat.intCast_mul, ← Rat.intCast_mul] at this
    exact Rat.intCast_inj.mp this
  · intro h
    have : (p.1 : Rat) * (q.2 : Rat) = (q.1 : Rat) * (p.2 : Rat) := by
      rw [← Rat.intCast_mul, ← Rat.intCast_mul, h]
    grind
theorem val_inj {p q : Int × Int} (hp : Lw p) (hq : Lw q) (h : val p = val q) : p = q := lw_ext hp hq ((val_eq hp.1 hq.1).mp h)
theorem val_low {a b : Int} (h : 0 < b) : val (low a b) = (a : Rat) / (b : Rat) := by
  refine (val_eq (q := (a, b)) (low_lw h).1 h).mpr ?_
  obtain ⟨h1, h2⟩ := low_mul (a := a) h
  generalize ((Nat.gcd a.natAbs b.natAbs : Nat) : Int) = g at *
  show (low a b).1 * b = a * (low a b).2
  generalize low a b = q at *
  grind
def plusF (p q : Int × Int) : Int × Int := low (p.1 * q.2 + q.1 * p.2) (p.2 * q.2)
def timesF (p q : Int × Int) : Int × Int := low (p.1 * q.1) (p.2 * q.2)
theorem plusF_lw {p q : Int × Int} (hp : 0 < p.2) (hq : 0 < q.2) : Lw (plusF p q) := low_lw (Int.mul_pos hp hq)
theorem timesF_lw {p q : Int × Int} (hp : 0 < p.2) (hq : 0 < q.2) : Lw (timesF p q) := low_lw (Int.mul_pos hp hq)
theorem val_plusF {p q : Int × Int} (hp : 0 < p.2) (hq : 0 < q.2) : val (plusF p q) = val p + val q := by
  unfold plusF
  rw [val_low (Int.mul_pos hp hq)]
  have h1 := cast_ne hp
  have h2 := cast_ne hq
  unfold val
  rw [Rat.intCast_add, Rat.intCast_mul, Rat.intCast_mul, Rat.intCast_mul]
  grind
theorem val_timesF {p q : Int × Int} (hp : 0 < p.2) (hq : 0 < q.2) : val (timesF p q) = val p * val q := by
  unfold timesF
  rw [val_low (Int.mul_pos hp hq)]
  have h1 := cast_ne hp
  have h2 := cast_ne hq
  unfold val
  rw [Rat.intCast_mul, Rat.intCast_mul]
  grind
/-- the sum of all -/
def vsum : List (Int × Int) → Rat
  | [] => 0
  | p :: ps => val p + vsum ps
theorem vsum_append (a b : List (Int × Int)) : vsum (a ++ b) = vsum a + vsum b := by
  induction a with
  | nil => simp [vsum, Rat.zero_add]
  | cons p a ih => simp only [List.cons_append, vsum, ih]; rw [Rat.add_assoc]
def sumF (ps : List (Int × Int)) : Int × Int := ps.foldl plusF (0, 1)
theorem foldl_plusF : ∀ (ps : List (Int × Int)) (t : Int × Int), Lw t → (∀ p ∈ ps, 0 < p.2) → Lw (ps.foldl plusF t) ∧ val (ps.foldl plusF t) = val t + vsum ps
  | [], t, h, _ => ⟨h, by simp [vsum, Rat.add_zero]⟩
  | p :: ps, t, h, hp => by
    have h1 := hp p (by simp)
    obtain ⟨k1, k2⟩ := foldl_plusF ps (plusF t p) (plusF_lw h.1 h1) fun q hq => hp q (by simp [hq])
    refine ⟨k1, ?_⟩
    rw [List.foldl_cons, k2, val_plusF h.1 h1, vsum, Rat.add_assoc]
theorem sumF_spec {ps : List (Int × Int)} (h : ∀ p ∈ ps, 0 < p.2) : Lw (sumF ps) ∧ val (sumF ps) = vsum ps := by
  have := foldl_plusF ps (0, 1) ⟨by decide, by decide⟩ h
  refine ⟨this.1, this.2.trans ?_⟩
  have : val (0, 1) = 0 := by unfold val; grind
  rw [this, Rat.zero_add]
theorem val_one : val (1, 1) = 1 := by unfold val; grind
theorem sumF_one {ps : List (Int × Int)} (h : ∀ p ∈ ps, 0 < p.2) : sumF ps = (1, 1) ↔ vsum ps = 1 := by
  obtain ⟨h1, h2⟩ := sumF_spec h
  constructor
  · intro e; rw [← h2, e, val_one]
  · intro e; exact val_inj h1 ⟨by decide, by decide⟩ (by rw [h2, e, val_one])
end WT
end

section
set_option Elab.async false
set_option linter.all false
set_option maxRecDepth 100000
set_option autoImplicit false
/-! M2: loops over typed lists. Own work. -/
namespace WT
open PySem
variable {α β : Type}
theorem forD_map {tg : Tg} {b : Env → Sto → RS} {f : α → D} {ps : List α} {env : Env} {st : Sto} (I : List α → Env → Sto → Prop) {P : RS → Prop} (h0 : I [] env st)
    (hs : ∀ pre x post env st, ps = pre ++ x :: post → I pre env st → ∃ env1, bindTg tg (f x) env = some env1 ∧ stepOK (I (pre ++ [x])) P (b env1 st))
    (he : ∀ env st, I ps env st → P (.nx env st)) : P (forD tg b (ps.map f) env st) := by
  have key : ∀ (post pre : List α) (env : Env) (st : Sto), ps = pre ++ post → I pre env st → P (forD tg b (post.map f) env st) := by
    intro post
    induction post with
    | nil => intro pre env st e i; rw [List.append_nil] at e; subst e; exact he _ _ i
    | cons x post ih =>
      intro pre env st e i
      obtain ⟨env1, h1, h2⟩ := hs pre x post env st e i
      have e' : ps = (pre ++ [x]) ++ post := by rw [e]; simp
      have u : forD tg b ((x :: post).map f) env st = match b env1 st with
        | .nx env' st' => forD tg b (post.map f) env' st'
        | .ct env' st' => forD tg b (post.map f) env' st'
        | .bk env' st' => .nx env' st'
        | r => r := by rw [List.map_cons, forD, h1] <;> rfl
      rw [u]
      generalize b env1 st = r at h2
      cases h2 with
      | nx e s h2 => exact ih _ _ _ e' h2
      | ct e s h2 => exact ih _ _ _ e' h2
      | bk e s h2 => exact h2
      | rt d s h2 => exact h2
      | exn c d e s h2 => exact h2
  exact key ps [] env st rfl h0
theorem stepNx {I : Env → Sto → Prop} {P : RS → Prop} {r : RS} {e : Env} {s : Sto} (h : r = .nx e s) (hi : I e s) : stepOK I P r := by rw [h]; exact .nx _ _ hi
theorem stepRt {I : Env → Sto → Prop} {P : RS → Prop} {r : RS} {d : D} {s : Sto} (h : r = .rt d s) (hi : P (.rt d s)) : stepOK I P r := by rw [h]; exact .rt _ _ hi
theorem stepN {I : Env → Sto → Prop} {P : RS → Prop} {g : GE} {l : Ss} {env1 e : Env} {st s : Sto} (env0 : Env) (he : env1 = env0) (h : evSs g l env0 st = .nx e s) (hi : I e s) : stepOK I P (evSs g l env1 st) := by rw [he, h]; exact .nx _ _ hi
theorem stepR {I : Env → Sto → Prop} {P : RS → Prop} {g : GE} {l : Ss} {env1 : Env} {d : D} {st s : Sto} (env0 : Env) (he : env1 = env0) (h : evSs g l env0 st = .rt d s) (hi : P (.rt d s)) : stepOK I P (evSs g l env1 st) := by rw [he, h]; exact .rt _ _ hi
theorem bindTg_fr (i j : Nat) (p : Int × Int) (env : Env) : bindTg (.tup (.cons (.name i) (.cons (.name j) .nil))) (fr p) env = some ((env.set i (some (.int p.1))).set j (some (.int p.2))) := rfl
theorem gmul_r {i j : Int} {z : D} (h1 : -(2 ^ 64) < j) (h2 : j < 2 ^ 64) : guardO (mulOK i j) z = some z := guardO_true (mulOK_r h1 h2)
theorem gdiv {j : Int} {z : D} (h1 : 0 < j) (h2 : j < 2 ^ 64) : guardO (divOK j) z = some z := guardO_true (divOK_small h1 h2)
theorem compLoop_tm {f : D → Sto → R (Option D)} {st : Sto} (q : α → D) (h : α → Option D) : ∀ {ps : List α}, (∀ p ∈ ps, f (q p) st = .ok (h p) st) → compLoop f (ps.map q) st = .ok (ps.filterMap h) st
  | [], _ => rfl
  | x :: xs, hx => by
    rw [List.map_cons]
    unfold compLoop
    rw [hx x (by simp), R.bind_ok, compLoop_tm q h fun y hy => hx y (by simp [hy]), R.bind_ok]
    cases e : h x <;> simp [e]
theorem compLoop_mm {f : D → Sto → R (Option D)} {st : Sto} (q : α → D) (k : α → D) {ps : List α} (h : ∀ p ∈ ps, f (q p) st = .ok (some (k p)) st) : compLoop f (ps.map q) st = .ok (ps.map k) st := by
  rw [compLoop_tm q (fun p => some (k p)) h]
  congr 1
  exact List.filterMap_eq_map (f := k) ▸ rfl
theorem compLoop_mf {f : D → Sto → R (Option D)} {st : Sto} (q : α → D) (k : α → D) (c : α → Bool) {ps : List α} (h : ∀ p ∈ ps, f (q p) st = .ok (if c p then some (k p) else none) st) : compLoop f (ps.map q) st = .ok ((ps.filter c).map k) st := by
  rw [compLoop_tm q (fun p => if c p then some (k p) else none) h]
  congr 1
  clear h
  induction ps with
  | nil => rfl
  | cons p ps ih => by_cases e : c p = true <;> simp [e, ih]
def frs (ps : List (Int × Int)) : List D := ps.map fr
@[simp] theorem frs_length (ps : List (Int × Int)) : (frs ps).length = ps.length := by simp [frs]
def isInt : D → Bool
  | .int _ => true
  | _ => false
def plainD : D → Bool
  | .non | .bl _ | .int _ | .str _ | .tup _ | .lst _ => true
  | _ => false
@[simp] theorem plainD_non : plainD .non = true := (rfl)
@[simp] theorem plainD_bl (b : Bool) : plainD (.bl b) = true := (rfl)
@[simp] theorem plainD_int (b : Int) : plainD (.int b) = true := (rfl)
@[simp] theorem plainD_str (b : Str) : plainD (.str b) = true := (rfl)
@[simp] theorem plainD_tup (b : List D) : plainD (.tup b) = true := (rfl)
@[simp] theorem plainD_lst (b : List D) : plainD (.lst b) = true := (rfl)
@[simp] theorem isInt_int (b : Int) : isInt (.int b) = true := (rfl)
theorem pow60 {a b : Nat} (h : a ≤ b) : (60 : Int) ^ a ≤ 60 ^ b := by
  have : (60 ^ a : Nat) ≤ 60 ^ b := Nat.pow_le_pow_right (by omega) h
  have h2 := Int.ofNat_le.mpr this
  rwa [Int.natCast_pow, Int.natCast_pow] at h2
@[simp] theorem biD_all_map (st : Sto) (c : α → Bool) (ps : List α) : biD st .all [.lst (ps.map fun p => D.bl (c p))] = some (.bl (ps.all c)) := by
  have := biD_all st (ps.map c)
  rw [List.map_map] at this
  rw [show (ps.map fun p => D.bl (c p)) = ps.map (D.bl ∘ c) from rfl, this]
  simp [List.all_map]
@[simp] theorem fr_idx0 (st : Sto) (p : Int × Int) : idxD st (fr p) (.int 0) = some (.int p.1) := ixD_0 _ _
@[simp] theorem fr_idx1 (st : Sto) (p : Int × Int) : idxD st (fr p) (.int 1) = some (.int p.2) := ixD_1 _ _ _
theorem low_le {a b : Int} (h : 0 < b) : (low a b).2 ≤ b := by
  have h1 := low_mul (a := a) h
  have h2 := (low_lw (a := a) h).1
  have hg := gcd_pos_r (a := a) h
  generalize ((Nat.gcd a.natAbs b.natAbs : Nat)) = g at *
  have : (low a b).2 * 1 ≤ (low a b).2 * (g : Int) := Int.mul_le_mul_of_nonneg_left (by omega) (by omega)
  omega
/-! cuts, ranges -/
theorem cutL_from (xs : List α) (k : Nat) : cutL xs (some (k : Int)) none = xs.drop k := by
  unfold cutL
  rw [HT.sIx_nat, HT.sIx_none]
  by_cases h : k ≤ xs.length
  · rw [Nat.min_eq_left h]
    exact List.take_of_length_le (by simp)
  · rw [Nat.min_eq_right (by omega)]
    have e : xs.drop k = [] := List.drop_eq_nil_of_le (by omega)
    rw [e]
    simp
theorem cutL_to (xs : List α) (k : Nat) : cutL xs none (some (k : Int)) = xs.take k := by
  unfold cutL
  rw [HT.sIx_nat, HT.sIx_none]
  simp
theorem cutL_last (xs : List α) : cutL xs (some (-1)) none = xs.drop (xs.length - 1) := by
  unfold cutL
  have h : HT.sIx xs.length 0 (some (-1)) = xs.length - 1 := by
    show (if (-1 : Int) < 0 then ((-1 : Int) + (xs.length : Int)).toNat else min (-1 : Int).toNat xs.length) = _
    rw [if_pos (by decide)]
    omega
  rw [h, HT.sIx_none]
  exact List.take_of_length_le (by simp)
theorem rangeD_n (n : Nat) (h : n < 2 ^ 62) : rangeD 0 n 1 = some ((List.range n).map fun (k : Nat) => D.int (k : Int)) := by
  unfold rangeD
  rw [if_pos (by omega), if_pos rfl]
  congr 1
  rw [show ((n : Int) - 0).toNat = n by omega]
  refine List.map_congr_left fun k _ => ?_
  congr 1
  omega
theorem rangeD_2 (n : Nat) (h : n < 2 ^ 61) : rangeD 2 ((n + 2 : Nat) : Int) 1 = some ((List.range n).map fun (k : Nat) => D.int ((k + 2 : Nat) : Int)) := by
  unfold rangeD
  rw [if_pos (by omega), if_pos rfl]
  congr 1
  rw [show (((n + 2 : Nat) : Int) - 2).toNat = n by omega]
  refine List.map_congr_left fun k _ => ?_
  congr 1
  omega
theorem rangeD_0 (n : Int) (h : n ≤ 0) (h2 : -(2 ^ 62) ≤ n) : rangeD 0 n 1 = some [] := by
  unfold rangeD
  rw [if_pos (by omega), if_pos rfl]
  rw [show (n - 0).toNat = 0 by omega]
  rfl
/-! ascending -/
def ascI : List Int → Bool
  | [] => true
  | [_] => true
  | a :: b :: r => decide (a < b) && ascI (b :: r)
theorem ascI_zip : ∀ ns : List Int, (ns.zip (ns.drop 1)).all (fun p => decide (p.1 < p.2)) = ascI ns
  | [] => rfl
  | [_] => rfl
  | a :: b :: r => by
    have := ascI_zip (b :: r)
    simp only [List.drop_one, List.tail_cons, ascI] at this ⊢
    rw [← this]
    cases r <;> simp
theorem ascI_range : ∀ ns : List Int, ((List.range (ns.length - 1)).filter fun i => decide (ns.getD i 0 ≥ ns.getD (i + 1) 0)).isEmpty = ascI ns
  | [] => rfl
  | [_] => rfl
  | a :: b :: r => by
    have := ascI_range (b :: r)
    rw [show (a :: b :: r).length - 1 = (b :: r).length - 1 + 1 by simp, List.range_succ_eq_map, List.filter_cons]
    simp only [ascI]
    rw [← this, List.filter_map]
    by_cases h : a < b
    · simp [show ¬ b ≤ a by omega, h, Function.comp_def]
    · have : b ≤ a := by omega
      simp [this, h]
def big : D → Bool
  | .int i => decide (1 < i)
  | _ => false
def isDice : D → Bool
  | .tup xs => match intsD xs with
    | some ns => ns.all (fun n => decide (1 < n)) && ascI ns
    | none => false
  | _ => false
theorem big_all : ∀ xs : List D, xs.all big = match intsD xs with
    | some ns => ns.all fun n => decide (1 < n)
    | none => false
  | [] => rfl
  | .int i :: xs => by
    rw [List.all_cons, big_all xs, intsD]
    cases intsD xs <;> simp [big]
  | .non :: _ => by simp [big, intsD]
  | .bl _ :: _ => by simp [big, intsD]
  | .str _ :: _ => by simp [big, intsD]
  | .tup _ :: _ => by simp [big, intsD]
  | .lst _ :: _ => by simp [big, intsD]
  | .frz _ :: _ => by simp [big, intsD]
  | .dK _ _ :: _ => by simp [big, intsD]
  | .dT _ _ :: _ => by simp [big, intsD]
  | .ref _ :: _ => by simp [big, intsD]
  | .exc _ _ :: _ => by simp [big, intsD]
theorem intsD_eq : ∀ {xs : List D} {ns : List Int}, intsD xs = some ns → xs = ilst ns
  | [], ns, h => by cases h; rfl
  | .int i :: xs, ns, h => by
    rw [intsD] at h
    cases e : intsD xs with
    | none => rw [e] at h; cases h
    | some ms => rw [e] at h; cases h; rw [ilst_cons, ← intsD_eq e]
  | .non :: _, _, h => by simp [intsD] at h
  | .bl _ :: _, _, h => by simp [intsD] at h
  | .str _ :: _, _, h => by simp [intsD] at h
  | .tup _ :: _, _, h => by simp [intsD] at h
  | .lst _ :: _, _, h => by simp [intsD] at h
  | .frz _ :: _, _, h => by simp [intsD] at h
  | .dK _ _ :: _, _, h => by simp [intsD] at h
  | .dT _ _ :: _, _, h => by simp [intsD] at h
  | .ref _ :: _, _, h => by simp [intsD] at h
  | .exc _ _ :: _, _, h => by simp [intsD] at h
theorem plainD_of {n : Nat} {d : D} (h : okD n d = true) : plainD d = true := by cases d <;> simp [okD, plainD] at h ⊢
end WT
end

section
set_option Elab.async false
set_option linter.all false
set_option maxRecDepth 100000
set_option autoImplicit false
/-! M3: sorting, places in lists. Own work. -/
namespace WT
open PySem
variable {α : Type}
theorem insI_mem {x y : Int} : ∀ {l : List Int}, y ∈ insI x l ↔ y = x ∨ y ∈ l
  | [] => by simp [insI]
  | z :: l => by
    unfold insI
    split
    · simp
    · rw [List.mem_cons, insI_mem, List.mem_cons]
      constructor
      · rintro (h | h | h)
        · exact .inr (.inl h)
        · exact .inl h
        · exact .inr (.inr h)
      · rintro (h | h | h)
        · exact .inr (.inl h)
        · exact .inl h
        · exact .inr (.inr h)
theorem insI_len {x : Int} : ∀ {l : List Int}, (insI x l).length = l.length + 1
  | [] => rfl
  | z :: l => by
    unfold insI
    split
    · simp
    · simp [insI_len]
theorem insI_asc {x : Int} : ∀ {l : List Int}, l.Pairwise (· < ·) → x ∉ l → (insI x l).Pairwise (· < ·)
  | [], _, _ => by simp [insI]
  | z :: l, h, hx => by
    rw [List.pairwise_cons] at h
    have hz : x ≠ z := fun e => hx (by simp [e])
    have hl : x ∉ l := fun e => hx (by simp [e])
    unfold insI
    split
    · rename_i hle
      rw [List.pairwise_cons, List.pairwise_cons]
      refine ⟨fun y hy => ?_, h⟩
      rcases List.mem_cons.mp hy with rfl | hy
      · omega
      · have := h.1 y hy; omega
    · rename_i hle
      rw [List.pairwise_cons]
      refine ⟨fun y hy => ?_, insI_asc h.2 hl⟩
      rcases insI_mem.mp hy with rfl | hy
      · omega
      · exact h.1 y hy
theorem sortI_mem {y : Int} : ∀ {l : List Int}, y ∈ sortI l ↔ y ∈ l
  | [] => by simp [sortI]
  | x :: l => by
    show y ∈ insI x (sortI l) ↔ _
    rw [insI_mem, sortI_mem, List.mem_cons]
theorem sortI_len : ∀ {l : List Int}, (sortI l).length = l.length
  | [] => rfl
  | x :: l => by
    show (insI x (sortI l)).length = _
    rw [insI_len, sortI_len]; rfl
theorem sortI_asc : ∀ {l : List Int}, l.Nodup → (sortI l).Pairwise (· < ·)
  | [], _ => List.Pairwise.nil
  | x :: l, h => by
    rw [List.nodup_cons] at h
    show (insI x (sortI l)).Pairwise _
    exact insI_asc (sortI_asc h.2) fun e => h.1 (sortI_mem.mp e)
theorem ixD_some {xs : List α} {i : Int} (h : 0 ≤ i) (h2 : i < xs.length) : ∃ x ∈ xs, ixD xs i = some x := by
  obtain ⟨k, rfl⟩ : ∃ k : Nat, i = k := ⟨i.toNat, by omega⟩
  have hk : k < xs.length := by omega
  exact ⟨xs[k], List.getElem_mem hk, ixD_nat (List.getElem?_eq_getElem hk)⟩
theorem cutL_mem {xs : List α} {a b : Option Int} {x : α} (h : x ∈ cutL xs a b) : x ∈ xs := List.mem_of_mem_drop (List.mem_of_mem_take h)
theorem cutL_len (xs : List α) (a b : Option Int) : (cutL xs a b).length ≤ xs.length := by
  unfold cutL
  rw [List.length_take, List.length_drop]
  omega
theorem cutL_to_len (xs : List α) (k : Nat) : (cutL xs none (some (k : Int))).length ≤ xs.length := cutL_len _ _ _
theorem inD_ilst (x : Int) (ns : List Int) : inD (.int x) (ilst ns) = decide (x ∈ ns) := by
  unfold inD ilst
  rw [List.any_map]
  induction ns with
  | nil => rfl
  | cons n ns ih =>
    rw [List.any_cons, ih]
    by_cases h : n = x
    · subst h; simp [eqF]
    · have h2 : ¬ x = n := fun e => h e.symm
      have e1 : ((fun y => eqF y (D.int x)) ∘ D.int) n = false := by
        show (n == x) = false
        simpa using h
      rw [e1]
      simp [h2]
theorem flat_ilst (ns : List Int) : (ilst ns).all flatD = true := by
  unfold ilst; rw [List.all_map, List.all_eq_true]; intro x _; rfl
theorem cmpD_notin (x : Int) (ns : List Int) : cmpD .NotIn (.int x) (.lst (ilst ns)) = some (decide (x ∉ ns)) := by
  show guardO _ _ = _
  rw [guardO_true ⟨rfl, flat_ilst ns⟩, inD_ilst]
  by_cases h : x ∈ ns <;> simp [h]
/-- data for a look at likeness -/
structure NearOK (d : D) : Prop where
  o : okD 64 d = true
  z : ∀ xs, d = .tup xs → xs.length ≤ 1000
theorem okD_up : ∀ (n m : Nat), n ≤ m → ∀ d, okD n d = true → okD m d = true := by
  intro n
  induction n with
  | zero => intro m hm d h; cases d <;> first | (simp [okD] at h; done) | (cases m <;> first | rfl | (simpa [okD] using h))
  | succ n ih =>
    intro m hm d h
    obtain ⟨m, rfl⟩ : ∃ m', m = m' + 1 := ⟨m - 1, by omega⟩
    cases d with
    | tup xs =>
      rw [okD, okDs_all, List.all_eq_true] at h ⊢
      exact fun x hx => ih m (by omega) x (h x hx)
    | lst xs =>
      rw [okD, okDs_all, List.all_eq_true] at h ⊢
      exact fun x hx => ih m (by omega) x (h x hx)
    | str x => simpa [okD] using h
    | _ => first | (simp [okD] at h; done) | rfl
theorem NearOK.tup {xs : List D} (h : ∀ x ∈ xs, okD 63 x = true) (hl : xs.length ≤ 1000) : NearOK (.tup xs) :=
  ⟨by rw [okD, okDs_all, List.all_eq_true]; exact h, fun ys e => by cases e; exact hl⟩
theorem NearOK.lst {xs : List D} (h : ∀ x ∈ xs, okD 63 x = true) : NearOK (.lst xs) :=
  ⟨by rw [okD, okDs_all, List.all_eq_true]; exact h, fun ys e => by cases e⟩
end WT
end

section
set_option Elab.async false
set_option linter.all false
set_option maxRecDepth 100000
set_option autoImplicit false
/-! M4: comprehensions that change the store; sorting with twins; statements one behind another. Own work. -/
namespace WT
open PySem
variable {α : Type}
theorem compLoop_inv {f : D → Sto → R (Option D)} (I : Nat → Sto → Prop) (P : D → Prop) (N : Nat) : ∀ (xs : List D) (n : Nat) (st : Sto), n + xs.length ≤ N → I n st → (∀ x ∈ xs, ∀ j s, j < N → I j s → ∃ y s', f x s = .ok (some y) s' ∧ P y ∧ I (j + 1) s') →
    ∃ ys st', compLoop f xs st = .ok ys st' ∧ (∀ y ∈ ys, P y) ∧ ys.length = xs.length ∧ I (n + xs.length) st'
  | [], n, st, _, i, _ => ⟨[], st, rfl, fun _ h => by simp at h, rfl, i⟩
  | x :: xs, n, st, hN, i, h => by
    rw [List.length_cons] at hN
    obtain ⟨y, s1, e1, p1, i1⟩ := h x (by simp) n st (by omega) i
    obtain ⟨ys, s2, e2, p2, l2, i2⟩ := compLoop_inv I P N xs (n + 1) s1 (by omega) i1 fun z hz => h z (by simp [hz])
    refine ⟨y :: ys, s2, ?_, fun z hz => ?_, by rw [List.length_cons, List.length_cons, l2], by rw [List.length_cons]; exact (show n + 1 + xs.length = n + (xs.length + 1) by omega) ▸ i2⟩
    · unfold compLoop
      rw [e1, R.bind_ok, e2]
      rfl
    · rcases List.mem_cons.mp hz with rfl | hz
      · exact p1
      · exact p2 z hz
theorem insI_le {x : Int} : ∀ {l : List Int}, l.Pairwise (· ≤ ·) → (insI x l).Pairwise (· ≤ ·)
  | [], _ => by simp [insI]
  | z :: l, h => by
    rw [List.pairwise_cons] at h
    unfold insI
    split
    · rw [List.pairwise_cons, List.pairwise_cons]
      refine ⟨fun y hy => ?_, h⟩
      rcases List.mem_cons.mp hy with rfl | hy
      · assumption
      · have := h.1 y hy; omega
    · rw [List.pairwise_cons]
      refine ⟨fun y hy => ?_, insI_le h.2⟩
      rcases insI_mem.mp hy with rfl | hy
      · omega
      · exact h.1 y hy
theorem sortI_le : ∀ l : List Int, (sortI l).Pairwise (· ≤ ·)
  | [] => List.Pairwise.nil
  | x :: l => insI_le (sortI_le l)
/-- integers from 0 on, as integers -/
def nN (ns : List Nat) : List Int := ns.map fun (n : Nat) => (n : Int)
theorem nN_of {ns : List Int} (h : ∀ x ∈ ns, 0 ≤ x) : ∃ ms : List Nat, ns = nN ms := by
  refine ⟨ns.map Int.toNat, ?_⟩
  unfold nN
  rw [List.map_map]
  refine (List.map_id ns).symm.trans (List.map_congr_left fun x hx => ?_)
  have := h x hx
  simp only [id, Function.comp]
  omega
theorem nN_pair {ms : List Nat} {r : Int → Int → Prop} {s : Nat → Nat → Prop} (h : ∀ a b : Nat, r a b → s a b) (p : (nN ms).Pairwise r) : ms.Pairwise s := by
  unfold nN at p
  rw [List.pairwise_map] at p
  exact p.imp fun {a b} z => h a b z
/-- one statement, then the rest -/
theorem sq {g : GE} {s : S} {ss : Ss} {env env' : Env} {st st' : Sto} {r : RS} (h : evS g s env st = .nx env' st') (h2 : evSs g ss env' st' = r) : evSs g (.cons s ss) env st = r := by
  rw [evSs_cons, h]
  exact h2
/-- a statement that ends the suite -/
theorem sqR {g : GE} {s : S} {ss : Ss} {env : Env} {st st' : Sto} {d : D} (h : evS g s env st = .rt d st') : evSs g (.cons s ss) env st = .rt d st' := by
  rw [evSs_cons, h]
  rfl
theorem sqX {g : GE} {s : S} {ss : Ss} {env env' : Env} {st st' : Sto} {c : Str} {d : D} (h : evS g s env st = .exn c d env' st') : evSs g (.cons s ss) env st = .exn c d env' st' := by
  rw [evSs_cons, h]
  rfl
end WT
end

section
set_option Elab.async false
set_option linter.all false
set_option maxRecDepth 100000
set_option autoImplicit false
/-! Q2: primes, bottoms, what is left of a number, rows of dice. Own work. -/
namespace WT
open PySem
def Pr (q : Nat) : Prop := 2 ≤ q ∧ ∀ m, 2 ≤ m → m < q → ¬ m ∣ q
theorem Pr.dvd_mul {q a b : Nat} (h : Pr q) (hd : q ∣ a * b) : q ∣ a ∨ q ∣ b := by
  have hg : Nat.gcd q a ∣ q := Nat.gcd_dvd_left _ _
  have hp : 0 < Nat.gcd q a := Nat.gcd_pos_of_pos_left _ (by have := h.1; omega)
  by_cases h1 : Nat.gcd q a = 1
  · exact .inr (Nat.Coprime.dvd_of_dvd_mul_left h1 hd)
  · by_cases h2 : Nat.gcd q a < q
    · exact absurd hg (h.2 _ (by omega) h2)
    · have : Nat.gcd q a = q := Nat.le_antisymm (Nat.le_of_dvd (by have := h.1; omega) hg) (by omega)
      exact .inl (this ▸ Nat.gcd_dvd_right _ _)
theorem exists_Pr : ∀ n : Nat, 2 ≤ n → ∃ q, Pr q ∧ q ∣ n := by
  intro n
  induction n using Nat.strongRecOn with
  | ind n ih =>
    intro hn
    by_cases h : Pr n
    · exact ⟨n, h, Nat.dvd_refl _⟩
    · have : ∃ m, 2 ≤ m ∧ m < n ∧ m ∣ n := by
        refine Classical.byContradiction fun hc => h ⟨hn, fun m h1 h2 h3 => hc ⟨m, h1, h2, h3⟩⟩
      obtain ⟨m, h1, h2, h3⟩ := this
      obtain ⟨q, hq, hd⟩ := ih m h2 h1
      exact ⟨q, hq, Nat.dvd_trans hd h3⟩
/-- the least number that all bottoms divide -/
def bot (ps : List (Int × Int)) : Nat := ps.foldl (fun n p => Nat.lcm n p.2.toNat) 1
theorem bot_snoc (ps : List (Int × Int)) (p : Int × Int) : bot (ps ++ [p]) = Nat.lcm (bot ps) p.2.toNat := by simp [bot, List.foldl_append]
theorem lcm_div1 (n b : Nat) : n / Nat.gcd n b * b = Nat.lcm n b := by
  unfold Nat.lcm
  rw [Nat.mul_comm n b, Nat.mul_div_assoc b (Nat.gcd_dvd_left n b), Nat.mul_comm]
theorem lcm_div2 (n b : Nat) : n * (b / Nat.gcd n b) = Nat.lcm n b := by
  unfold Nat.lcm
  rw [Nat.mul_div_assoc n (Nat.gcd_dvd_right n b)]
theorem lcm_le (n b : Nat) (hn : 0 < n) (hb : 0 < b) : Nat.lcm n b ≤ n * b := Nat.le_of_dvd (Nat.mul_pos hn hb) (Nat.lcm_dvd_mul n b)
theorem snoc_cases {α : Type} (P : List α → Prop) (h0 : P []) (hs : ∀ l x, P l → P (l ++ [x])) (l : List α) : P l := by
  have key : ∀ (b a : List α), P a → P (a ++ b) := by
    intro b
    induction b with
    | nil => intro a h; simpa using h
    | cons x b ih => intro a h; have := ih (a ++ [x]) (hs a x h); simpa using this
  exact key l [] h0
theorem bot_bd (ps : List (Int × Int)) : (∀ p ∈ ps, 0 < p.2 ∧ p.2 ≤ 60) → 0 < bot ps ∧ bot ps ≤ 60 ^ ps.length := by
  refine snoc_cases (P := fun ps => (∀ p ∈ ps, 0 < p.2 ∧ p.2 ≤ 60) → 0 < bot ps ∧ bot ps ≤ 60 ^ ps.length) (fun _ => ⟨by decide, by decide⟩) ?_ ps
  intro l x ih h
  obtain ⟨a1, a2⟩ := ih fun p hp => h p (by simp [hp])
  obtain ⟨x1, x2⟩ := h x (by simp)
  rw [bot_snoc]
  have hx : 0 < x.2.toNat := by omega
  refine ⟨Nat.lcm_pos a1 hx, Nat.le_trans (lcm_le _ _ a1 hx) ?_⟩
  rw [List.length_append, List.length_singleton, Nat.pow_succ]
  exact Nat.mul_le_mul a2 (by omega)
theorem bot_pr {q : Nat} (hq : Pr q) (ps : List (Int × Int)) : (∀ p ∈ ps, 0 < p.2 ∧ p.2 ≤ 60) → q ∣ bot ps → q < 60 := by
  refine snoc_cases (P := fun ps => (∀ p ∈ ps, 0 < p.2 ∧ p.2 ≤ 60) → q ∣ bot ps → q < 60) (fun _ h => ?_) ?_ ps
  · have := Nat.le_of_dvd (by decide) h
    have h2 := hq.1
    have : bot [] = 1 := rfl
    omega
  · intro l x ih h hd
    rw [bot_snoc] at hd
    obtain ⟨x1, x2⟩ := h x (by simp)
    rcases hq.dvd_mul (Nat.dvd_trans hd (Nat.lcm_dvd_mul _ _)) with h1 | h1
    · exact ih (fun p hp => h p (by simp [hp])) h1
    · have h2 := Nat.le_of_dvd (by omega) h1
      have h3 : q ≤ 60 := by omega
      have h4 : q ≠ 60 := by
        rintro rfl
        exact hq.2 2 (by decide) (by decide) (by decide)
      omega

/-! ### what is left -/
def lfN : Nat → Nat → Nat → Nat
  | 0, n, _ => n
  | k + 1, n, s => if 1 < Nat.gcd n s then lfN k (n / Nat.gcd n s) s else n
def lf (n s : Nat) : Nat := lfN n n s
theorem div_gcd_lt {n s : Nat} (hn : 0 < n) (h : 1 < Nat.gcd n s) : n / Nat.gcd n s < n := Nat.div_lt_self hn h
theorem div_gcd_pos {n s : Nat} (hn : 0 < n) : 0 < n / Nat.gcd n s := Nat.div_pos (Nat.gcd_le_left _ hn) (Nat.gcd_pos_of_pos_left _ hn)
theorem lfN_fix {s : Nat} : ∀ (k n : Nat), 0 < n → n ≤ k → lfN (k + 1) n s = lfN k n s
  | 0, n, h, h2 => by omega
  | k + 1, n, h, h2 => by
    rw [lfN]
    conv => rhs; rw [lfN]
    split
    · rename_i hg
      have := div_gcd_lt h hg
      exact lfN_fix k _ (div_gcd_pos h) (by omega)
    · rfl
theorem lfN_le {s : Nat} : ∀ (j n k : Nat), 0 < n → n ≤ k → lfN (k + j) n s = lfN k n s
  | 0, _, _, _, _ => rfl
  | j + 1, n, k, h, h2 => by rw [show k + (j + 1) = (k + j) + 1 by omega, lfN_fix _ _ h (by omega), lfN_le j n k h h2]
theorem lf_eq {n s : Nat} (hn : 0 < n) : lf n s = if 1 < Nat.gcd n s then lf (n / Nat.gcd n s) s else n := by
  unfold lf
  obtain ⟨k, rfl⟩ : ∃ k, n = k + 1 := ⟨n - 1, by omega⟩
  conv => lhs; rw [lfN]
  split
  · rename_i hg
    have h1 := div_gcd_lt hn hg
    have h2 := div_gcd_pos (s := s) hn
    generalize (k + 1) / Nat.gcd (k + 1) s = m at *
    obtain ⟨j, rfl⟩ : ∃ j, k = m + j := ⟨k - m, by omega⟩
    exact lfN_le j _ _ h2 (Nat.le_refl _)
  · rfl
theorem lf_ind {s : Nat} (Q : Nat → Nat → Prop) (h1 : ∀ n, 0 < n → ¬ 1 < Nat.gcd n s → Q n n) (h2 : ∀ n r, 0 < n → 1 < Nat.gcd n s → Q (n / Nat.gcd n s) r → Q n r) : ∀ n, 0 < n → Q n (lf n s) := by
  intro n
  induction n using Nat.strongRecOn with
  | ind n ih =>
    intro hn
    rw [lf_eq hn]
    split
    · rename_i hg
      exact h2 n _ hn hg (ih _ (div_gcd_lt hn hg) (div_gcd_pos hn))
    · rename_i hg
      exact h1 n hn hg
theorem lf_pos {n s : Nat} (hn : 0 < n) : 0 < lf n s := lf_ind (fun _ r => 0 < r) (fun _ h _ => h) (fun _ _ _ _ h => h) n hn
theorem lf_dvd {n s : Nat} (hn : 0 < n) : lf n s ∣ n :=
  lf_ind (fun n r => r ∣ n) (fun n _ _ => Nat.dvd_refl n) (fun n r h hg hr => Nat.dvd_trans hr (Nat.div_dvd_of_dvd (Nat.gcd_dvd_left _ _))) n hn
theorem lf_cop {n s : Nat} (hn : 0 < n) : Nat.gcd (lf n s) s = 1 :=
  lf_ind (fun n r => Nat.gcd r s = 1) (fun n h hg => by have := Nat.gcd_pos_of_pos_left s h; omega) (fun n r h hg hr => hr) n hn
theorem lf_pr {q n s : Nat} (hq : Pr q) (hs : ¬ q ∣ s) (hn : 0 < n) (hd : q ∣ n) : q ∣ lf n s := by
  refine lf_ind (s := s) (fun n r => q ∣ n → q ∣ r) (fun n _ _ h => h) (fun n r h hg hr hd => hr ?_) n hn hd
  have e : n / Nat.gcd n s * Nat.gcd n s = n := Nat.div_mul_cancel (Nat.gcd_dvd_left _ _)
  rw [← e] at hd
  rcases hq.dvd_mul hd with h1 | h1
  · exact h1
  · exact absurd (Nat.dvd_trans h1 (Nat.gcd_dvd_right _ _)) hs
def LF (n : Nat) (ds : List Nat) : Nat := ds.foldl lf n
theorem LF_pos : ∀ (ds : List Nat) (n : Nat), 0 < n → 0 < LF n ds
  | [], n, h => h
  | s :: ds, n, h => LF_pos ds (lf n s) (lf_pos h)
theorem LF_dvd : ∀ (ds : List Nat) (n : Nat), 0 < n → LF n ds ∣ n
  | [], n, h => Nat.dvd_refl n
  | s :: ds, n, h => Nat.dvd_trans (LF_dvd ds (lf n s) (lf_pos h)) (lf_dvd h)
theorem LF_cop : ∀ (ds : List Nat) (n : Nat), 0 < n → ∀ s ∈ ds, Nat.gcd (LF n ds) s = 1
  | [], n, h, s, hs => by simp at hs
  | s :: ds, n, h, t, ht => by
    rcases List.mem_cons.mp ht with rfl | ht
    · exact Nat.Coprime.coprime_dvd_left (LF_dvd ds (lf n t) (lf_pos h)) (lf_cop h)
    · exact LF_cop ds (lf n s) (lf_pos h) t ht
theorem LF_pr {q : Nat} (hq : Pr q) : ∀ (ds : List Nat) (n : Nat), 0 < n → (∀ s ∈ ds, ¬ q ∣ s) → q ∣ n → q ∣ LF n ds
  | [], n, h, _, hd => hd
  | s :: ds, n, h, hs, hd => LF_pr hq ds (lf n s) (lf_pos h) (fun t ht => hs t (by simp [ht])) (lf_pr hq (hs s (by simp)) h hd)
/-- every prime of n divides a die, as the law asks it -/
def bdB (n : Nat) (ds : List Nat) : Bool := (List.range 58).all fun i =>
  !(((List.range i).filter fun j => decide ((i + 2) % (j + 2) = 0)).isEmpty && decide (n % (i + 2) = 0)) || !(ds.filter fun s => decide (s % (i + 2) = 0)).isEmpty
theorem Pr_iff (i : Nat) : Pr (i + 2) ↔ ((List.range i).filter fun j => decide ((i + 2) % (j + 2) = 0)) = [] := by
  rw [List.filter_eq_nil_iff]
  constructor
  · intro h j hj
    have hj := List.mem_range.mp hj
    have := h.2 (j + 2) (by omega) (by omega)
    simpa [Nat.dvd_iff_mod_eq_zero] using this
  · intro h
    refine ⟨by omega, fun m h1 h2 hd => ?_⟩
    obtain ⟨j, rfl⟩ : ∃ j, m = j + 2 := ⟨m - 2, by omega⟩
    have := h j (List.mem_range.mpr (by omega))
    exact this (by simpa using Nat.mod_eq_zero_of_dvd hd)
theorem bdB_iff (n : Nat) (ds : List Nat) : bdB n ds = true ↔ ∀ q, q < 60 → Pr q → q ∣ n → ∃ s ∈ ds, q ∣ s := by
  unfold bdB
  rw [List.all_eq_true]
  constructor
  · intro h q hq hp hd
    obtain ⟨i, rfl⟩ : ∃ i, q = i + 2 := ⟨q - 2, by have := hp.1; omega⟩
    have := h i (List.mem_range.mpr (by omega))
    rw [(Pr_iff i).mp hp] at this
    simp [Nat.mod_eq_zero_of_dvd hd] at this
    obtain ⟨s, hs, h2⟩ := this
    exact ⟨s, hs, Nat.dvd_of_mod_eq_zero h2⟩
  · intro h i hi
    have hi := List.mem_range.mp hi
    by_cases hp : Pr (i + 2)
    · by_cases hd : (i + 2) ∣ n
      · obtain ⟨s, hs, h2⟩ := h (i + 2) (by omega) hp hd
        have : (ds.filter fun s => decide (s % (i + 2) = 0)) ≠ [] := by
          intro e
          rw [List.filter_eq_nil_iff] at e
          exact e s hs (by simpa using Nat.mod_eq_zero_of_dvd h2)
        simp [this]
      · have : ¬ n % (i + 2) = 0 := fun e => hd (Nat.dvd_of_mod_eq_zero e)
        simp [this]
    · have : ((List.range i).filter fun j => decide ((i + 2) % (j + 2) = 0)) ≠ [] := fun e => hp ((Pr_iff i).mpr e)
      have h2 : ((List.range i).filter fun j => decide ((i + 2) % (j + 2) = 0)).isEmpty = false := by
        cases e : ((List.range i).filter fun j => decide ((i + 2) % (j + 2) = 0)) with
        | nil => exact absurd e this
        | cons _ _ => rfl
      rw [h2]; rfl
theorem LF_one_iff {n : Nat} (hn : 0 < n) (hb : ∀ q, Pr q → q ∣ n → q < 60) (ds : List Nat) : LF n ds = 1 ↔ bdB n ds = true := by
  rw [bdB_iff]
  constructor
  · intro h q _ hq hd
    refine Classical.byContradiction fun hc => ?_
    have := LF_pr hq ds n hn (fun s hs hd => hc ⟨s, hs, hd⟩) hd
    rw [h] at this
    have := Nat.le_of_dvd (by decide) this
    have := hq.1
    omega
  · intro h
    refine Classical.byContradiction fun hc => ?_
    have h0 := LF_pos ds n hn
    obtain ⟨q, hq, hd⟩ := exists_Pr (LF n ds) (by omega)
    have hqn := Nat.dvd_trans hd (LF_dvd ds n hn)
    obtain ⟨s, hs, hs2⟩ := h q (hb q hq hqn) hq hqn
    have := Nat.dvd_gcd hd hs2
    rw [LF_cop ds n hn s hs] at this
    have := Nat.le_of_dvd (by decide) this
    have := hq.1
    omega
end WT
end

section
set_option Elab.async false
set_option linter.all false
set_option maxRecDepth 100000
set_option autoImplicit false
/-! Q4: great numbers; figures of a number in a base. Own work. -/
namespace WT
open PySem
/-! ### great divisors and factors -/
def BIG : Int := ((2 ^ 8999 : Nat) : Int)
theorem BIG_pos : 0 < BIG := Int.natCast_pos.mpr (Nat.pow_pos (by omega))
theorem log_big {j : Int} (h1 : -BIG < j) (h2 : j < BIG) : j.natAbs.log2 < 9000 := by
  have hj : j.natAbs < 2 ^ 8999 := by unfold BIG at h1 h2; omega
  by_cases h0 : j.natAbs = 0
  · rw [h0]; decide
  · have := (Nat.log2_lt h0).mpr hj
    omega
theorem divB {j : Int} {z : D} (h : 0 < j) (h2 : j < BIG) : guardO (divOK j) z = some z := guardO_true ⟨by omega, log_big (by have := BIG_pos; omega) h2⟩
theorem divOK_B {j : Int} (h : 0 < j) (h2 : j < BIG) : divOK j := ⟨by omega, log_big (by have := BIG_pos; omega) h2⟩
theorem mulB {i j : Int} {z : D} (h1 : -BIG < i) (h2 : i < BIG) (h3 : -BIG < j) (h4 : j < BIG) : guardO (mulOK i j) z = some z := guardO_true (.inr (by have := log_big h1 h2; have := log_big h3 h4; omega))
theorem small_BIG {i : Int} (h : i < 2 ^ 64) : i < BIG := by
  have : ((2 ^ 64 : Nat) : Int) ≤ BIG := by unfold BIG; exact Int.ofNat_le.mpr (Nat.pow_le_pow_right (by omega) (by omega))
  omega
theorem pow20_BIG {m i k : Nat} (hm : m ≤ 20) (hi : i + k ≤ 500) : ((m ^ i * m ^ k : Nat) : Int) < BIG := by
  unfold BIG
  refine Int.ofNat_lt.mpr ?_
  rw [← Nat.pow_add]
  have h1 : m ^ (i + k) ≤ 20 ^ (i + k) := Nat.pow_le_pow_left hm _
  have h2 : 20 ^ (i + k) ≤ 20 ^ 500 := Nat.pow_le_pow_right (by omega) hi
  have h3 : (20 : Nat) ^ 500 ≤ (2 ^ 5) ^ 500 := Nat.pow_le_pow_left (by omega) _
  have h4 : ((2 : Nat) ^ 5) ^ 500 = 2 ^ 2500 := by rw [← Nat.pow_mul]
  have h5 : (2 : Nat) ^ 2500 < 2 ^ 8999 := Nat.pow_lt_pow_right (by omega) (by omega)
  omega
/-! ### the rests, one behind the other -/
def orb (b m t : Nat) : Nat → Nat
  | 0 => t
  | i + 1 => orb b m t i % b * m
def orbL (b m t N : Nat) : List Nat := (List.range N).map (orb b m t)
def dig (b m t i : Nat) : Nat := orb b m t i / b
theorem orbL_succ (b m t N : Nat) : orbL b m t (N + 1) = orbL b m t N ++ [orb b m t N] := by simp [orbL, List.range_succ]
theorem nodup_le : ∀ {l S : List Nat}, l.Nodup → (∀ x ∈ l, x ∈ S) → l.length ≤ S.length
  | [], _, _, _ => Nat.zero_le _
  | x :: l, S, h, hs => by
    rw [List.nodup_cons] at h
    have hx := hs x (by simp)
    have h1 := nodup_le (S := S.erase x) h.2 fun y hy => (List.mem_erase_of_ne (fun (e : y = x) => h.1 (by rw [← e]; exact hy))).mpr (hs y (by simp [hy]))
    rw [List.length_erase_of_mem hx] at h1
    have : 0 < S.length := List.length_pos_of_mem hx
    simp only [List.length_cons]
    omega
theorem orb_in {b m t : Nat} (hb : 0 < b) (i : Nat) : orb b m t i ∈ t :: (List.range b).map (· * m) := by
  cases i with
  | zero => simp [orb]
  | succ i =>
    refine List.mem_cons_of_mem _ (List.mem_map.mpr ⟨orb b m t i % b, List.mem_range.mpr (Nat.mod_lt _ hb), rfl⟩)
theorem orb_end {b m t : Nat} (hb : 0 < b) : ∃ N, N ≤ b + 1 ∧ (orbL b m t N).Nodup ∧ orb b m t N ∈ orbL b m t N := by
  have key : ∀ n, (orbL b m t n).Nodup ∨ ∃ N, N < n ∧ (orbL b m t N).Nodup ∧ orb b m t N ∈ orbL b m t N := by
    intro n
    induction n with
    | zero => exact .inl (by simp [orbL])
    | succ n ih =>
      rcases ih with ih | ⟨N, h1, h2⟩
      · by_cases hm : orb b m t n ∈ orbL b m t n
        · exact .inr ⟨n, by omega, ih, hm⟩
        · refine .inl ?_
          rw [orbL_succ, List.nodup_append]
          refine ⟨ih, by simp, fun x hx y hy => ?_⟩
          simp at hy
          subst hy
          exact fun e => hm (e ▸ hx)
      · exact .inr ⟨N, by omega, h2⟩
  rcases key (b + 2) with h | ⟨N, h1, h2⟩
  · have := nodup_le h (S := t :: (List.range b).map (· * m)) fun x hx => by
      obtain ⟨i, _, rfl⟩ := List.mem_map.mp hx
      exact orb_in hb i
    simp [orbL] at this
  · exact ⟨N, by omega, h2⟩
/-- what a search for the round finds -/
structure Orb (b m t N j : Nat) : Prop where
  hb : 0 < b
  hN : N ≤ b + 1
  nd : ∀ i k, i < k → k < N → orb b m t i ≠ orb b m t k
  hj : j < N
  eq : orb b m t j = orb b m t N
theorem orb_exists {b m t : Nat} (hb : 0 < b) : ∃ N j, Orb b m t N j := by
  obtain ⟨N, h1, h2, h3⟩ := orb_end (b := b) (m := m) (t := t) hb
  obtain ⟨j, hj, e⟩ := List.mem_map.mp h3
  refine ⟨N, j, hb, h1, fun i k hi hk => ?_, List.mem_range.mp hj, e⟩
  have h4 := List.pairwise_iff_getElem.mp h2 i k (by simp [orbL]; omega) (by simp [orbL]; omega) hi
  simpa [orbL] using h4
/-- tops of the sums ahead: K i / m ^ i -/
def Kt (b m t : Nat) : Nat → Nat
  | 0 => 0
  | i + 1 => (Kt b m t i + dig b m t i) * m
theorem Kt_eq {b m t : Nat} (i : Nat) : t * m ^ i = b * Kt b m t i + orb b m t i := by
  induction i with
  | zero => simp [Kt, orb]
  | succ i ih =>
    have h := Nat.div_add_mod (orb b m t i) b
    rw [Nat.pow_succ, ← Nat.mul_assoc, ih]
    show _ = b * ((Kt b m t i + orb b m t i / b) * m) + orb b m t i % b * m
    generalize orb b m t i / b = q at *
    generalize orb b m t i % b = r at *
    rw [← h]
    grind
/-- the round's figures as one number -/
def Ft (b m t j : Nat) : Nat → Nat
  | 0 => 0
  | s + 1 => Ft b m t j s * m + dig b m t (j + s)
theorem Ft_eq {b m t j : Nat} (s : Nat) : orb b m t j * m ^ s = b * m * Ft b m t j s + orb b m t (j + s) := by
  induction s with
  | zero => simp [Ft]
  | succ s ih =>
    have h := Nat.div_add_mod (orb b m t (j + s)) b
    rw [Nat.pow_succ, ← Nat.mul_assoc, ih]
    show _ = b * m * (Ft b m t j s * m + orb b m t (j + s) / b) + orb b m t (j + s) % b * m
    generalize orb b m t (j + s) / b = q at *
    generalize orb b m t (j + s) % b = r at *
    rw [← h]
    grind
theorem orb_lt {b m t : Nat} (hb : 0 < b) (hm : 2 ≤ m) (ht : t ≤ b) (i : Nat) : orb b m t i < b * m := by
  cases i with
  | zero =>
    have : b * 2 ≤ b * m := Nat.mul_le_mul_left _ hm
    show t < b * m
    omega
  | succ i =>
    have h := Nat.mod_lt (orb b m t i) hb
    exact Nat.mul_lt_mul_of_pos_right h (by omega)
theorem Orb.not_all {b m t N j : Nat} (o : Orb b m t N j) (hm : 2 ≤ m) (ht : t ≤ b) : ∃ s, s < N - j ∧ dig b m t (j + s) ≠ m - 1 := by
  refine Classical.byContradiction fun hc => ?_
  have all : ∀ s, s < N - j → dig b m t (j + s) = m - 1 := fun s hs => Classical.byContradiction fun h => hc ⟨s, hs, h⟩
  have hF : ∀ s, s ≤ N - j → Ft b m t j s + 1 = m ^ s := by
    intro s
    induction s with
    | zero => intro _; rfl
    | succ s ih =>
      intro hs
      have h1 := ih (by omega)
      have h2 := all s (by omega)
      show Ft b m t j s * m + dig b m t (j + s) + 1 = m ^ (s + 1)
      rw [h2, Nat.pow_succ, ← h1, Nat.add_mul]
      omega
  have hj := o.hj
  have e := Ft_eq (b := b) (m := m) (t := t) (j := j) (N - j)
  rw [show j + (N - j) = N by omega, ← o.eq] at e
  have h1 := hF (N - j) (Nat.le_refl _)
  rw [← h1] at e
  have h2 : Ft b m t j (N - j) ≠ 0 := by
    intro h
    rw [h] at h1
    have : 2 ^ 1 ≤ m ^ (N - j) := Nat.le_trans (Nat.pow_le_pow_left hm 1) (Nat.pow_le_pow_right (by omega) (by omega))
    omega
  have h3 : orb b m t j * Ft b m t j (N - j) = b * m * Ft b m t j (N - j) := by
    rw [Nat.mul_add, Nat.mul_one] at e
    omega
  have h4 := Nat.eq_of_mul_eq_mul_right (by omega) h3
  have h5 := orb_lt o.hb hm ht j
  omega
/-! ### the sums -/
theorem low_val_eq {a b c d : Int} (hb : 0 < b) (hd : 0 < d) (h : (a : Rat) / (b : Rat) = (c : Rat) / (d : Rat)) : low a b = low c d := val_inj (low_lw hb) (low_lw hd) (by rw [val_low hb, val_low hd, h])
theorem tot_step {b m t : Nat} (hm : 0 < m) (i : Nat) : plusF (low (Kt b m t i) ((m ^ i : Nat) : Int)) (low (dig b m t i) ((m ^ i : Nat) : Int)) = low (Kt b m t (i + 1)) ((m ^ (i + 1) : Nat) : Int) := by
  have hp : (0 : Int) < ((m ^ i : Nat) : Int) := Int.natCast_pos.mpr (Nat.pow_pos hm)
  have hp2 : (0 : Int) < ((m ^ (i + 1) : Nat) : Int) := Int.natCast_pos.mpr (Nat.pow_pos hm)
  refine val_inj (plusF_lw (low_lw hp).1 (low_lw hp).1) (low_lw hp2) ?_
  rw [val_plusF (low_lw hp).1 (low_lw hp).1, val_low hp, val_low hp, val_low hp2]
  have e1 : ((m ^ (i + 1) : Nat) : Int) = ((m ^ i : Nat) : Int) * (m : Int) := by rw [Nat.pow_succ]; exact Int.natCast_mul _ _
  have e2 : ((Kt b m t (i + 1) : Nat) : Int) = ((Kt b m t i : Nat) : Int) * (m : Int) + ((dig b m t i : Nat) : Int) * (m : Int) := by
    show (((Kt b m t i + dig b m t i) * m : Nat) : Int) = _
    rw [Int.natCast_mul, Int.natCast_add, Int.add_mul]
  rw [e1, e2]
  have h1 := cast_ne hp
  have h2 : ((m : Int) : Rat) ≠ 0 := cast_ne (by omega)
  rw [Rat.intCast_mul, Rat.intCast_add, Rat.intCast_mul, Rat.intCast_mul]
  generalize (((m ^ i : Nat) : Int) : Rat) = M at *
  generalize ((m : Int) : Rat) = mm at *
  grind
theorem tot_end {b m t N j : Nat} (o : Orb b m t N j) (hm : 2 ≤ m) : plusF (low (Kt b m t j) ((m ^ j : Nat) : Int)) (low ((Ft b m t j (N - j) : Int) * m) (((m ^ j : Nat) : Int) * (((m ^ (N - j) : Nat) : Int) - 1))) = low t b := by
  have hj := o.hj
  have hW : 2 ^ 1 ≤ m ^ (N - j) := Nat.le_trans (Nat.pow_le_pow_left hm 1) (Nat.pow_le_pow_right (by omega) (by omega))
  have hM : (0 : Int) < ((m ^ j : Nat) : Int) := Int.natCast_pos.mpr (Nat.pow_pos (by omega))
  have hW1 : (0 : Int) < ((m ^ (N - j) : Nat) : Int) - 1 := by omega
  have hb : (0 : Int) < (b : Int) := by have := o.hb; omega
  have hMW := Int.mul_pos hM hW1
  refine val_inj (plusF_lw (low_lw hM).1 (low_lw hMW).1) (low_lw hb) ?_
  rw [val_plusF (low_lw hM).1 (low_lw hMW).1, val_low hM, val_low hMW, val_low hb]
  have e1 := congrArg (fun n : Nat => ((n : Int) : Rat)) (Kt_eq (b := b) (m := m) (t := t) j)
  have e2 := congrArg (fun n : Nat => ((n : Int) : Rat)) (Ft_eq (b := b) (m := m) (t := t) (j := j) (N - j))
  rw [show j + (N - j) = N by omega, ← o.eq] at e2
  simp only [Int.natCast_mul, Int.natCast_add, Rat.intCast_mul, Rat.intCast_add] at e1 e2
  rw [Rat.intCast_mul, Rat.intCast_mul, Rat.intCast_sub]
  have h1 := cast_ne hM
  have h2 := cast_ne hb
  have h3 := cast_ne hW1
  rw [Rat.intCast_sub] at h3
  generalize (((m ^ j : Nat) : Int) : Rat) = M at *
  generalize (((m ^ (N - j) : Nat) : Int) : Rat) = W at *
  generalize ((m : Int) : Rat) = mm at *
  generalize ((b : Int) : Rat) = bb at *
  generalize ((t : Int) : Rat) = tt at *
  generalize ((orb b m t j : Int) : Rat) = X at *
  generalize ((Kt b m t j : Int) : Rat) = K at *
  generalize ((Ft b m t j (N - j) : Int) : Rat) = F at *
  have h4 : X * (W - ((1 : Int) : Rat)) = bb * mm * F := by grind
  grind
end WT
end

section
set_option Elab.async false
set_option linter.all false
set_option maxRecDepth 100000
set_option autoImplicit false
/-! Q5: lists of natural numbers, figures, rests in base two. Own work. -/
namespace WT
open PySem
def vI (n : Nat) : D := .int (n : Int)
def nl (ns : List Nat) : List D := ns.map vI
theorem nl_length (ns : List Nat) : (nl ns).length = ns.length := by simp [nl]
theorem nl_snoc (ns : List Nat) (n : Nat) : nl (ns ++ [n]) = nl ns ++ [.int (n : Int)] := by simp [nl, vI]
theorem nl_append (ns ms : List Nat) : nl (ns ++ ms) = nl ns ++ nl ms := by simp [nl]
theorem nl_ilst (ns : List Nat) : nl ns = ilst (ns.map fun (n : Nat) => (n : Int)) := by simp [nl, vI, ilst, Function.comp_def]
theorem nl_get {ns : List Nat} {k : Nat} (h : k < ns.length) : (nl ns)[k]? = some (.int ((ns[k] : Nat) : Int)) := by
  unfold nl; rw [List.getElem?_map, List.getElem?_eq_getElem h]; rfl
theorem nl_inj {a b : List Nat} : (a.map fun (n : Nat) => (n : Int)) = (b.map fun (n : Nat) => (n : Int)) ↔ a = b := by
  constructor
  · intro h
    exact List.map_inj_right (fun x y e => Int.ofNat.inj e) |>.mp h
  · rintro rfl; rfl
theorem eqD_nlt (a b : List Nat) : eqD (.tup (nl a)) (.tup (nl b)) = some (decide (a = b)) := by
  rw [nl_ilst, nl_ilst, eqD_ints]
  congr 1
  simp only [nl_inj]
theorem okDs_nl (n : Nat) (ns : List Nat) : okDs n (nl ns) = true := by rw [nl_ilst]; exact okDs_ints _ _
theorem eqD_nll (a : List Nat) : eqD (.lst (nl a)) (.lst (nl a)) = some true := eqD_refl (by show okDs 63 (nl a) = true; exact okDs_nl _ _)
theorem valP_none {κ : Type} [DecidableEq κ] {k : κ} : ∀ {ks : List κ} {vs : List D}, k ∉ ks → valP ks vs k = none
  | [], _, _ => by unfold valP; rfl
  | k' :: ks, [], _ => by unfold valP; rfl
  | k' :: ks, v :: vs, h => by
    unfold valP
    rw [if_neg (fun e => h (by simp [e]))]
    exact valP_none fun e => h (by simp [e])
theorem valP_at {κ : Type} [DecidableEq κ] {k : κ} : ∀ {ks : List κ} {vs : List D} {j : Nat} {v : D}, ks[j]? = some k → (∀ i < j, ks[i]? ≠ some k) → vs[j]? = some v → valP ks vs k = some v
  | [], _, _, _, h, _, _ => by simp at h
  | _ :: _, [], _, _, _, _, h => by simp at h
  | k' :: ks, w :: vs, 0, v, h, _, h2 => by
    simp at h h2
    unfold valP
    rw [if_pos h, h2]
  | k' :: ks, w :: vs, j + 1, v, h, hn, h2 => by
    have h0 := hn 0 (by omega)
    simp at h0
    unfold valP
    rw [if_neg h0]
    exact valP_at (j := j) (by simpa using h) (fun i hi => by have := hn (i + 1) (by omega); simpa using this) (by simpa using h2)
theorem cmpD_in_nl (x : Nat) (xs : List Nat) : cmpD .In (.int (x : Int)) (.lst (nl xs)) = some (decide (x ∈ xs)) := by
  have e : cmpD .In (.int (x : Int)) (.lst (nl xs)) = (cmpD .NotIn (.int (x : Int)) (.lst (nl xs))).map (!·) := by
    show guardO _ _ = (guardO _ _).map _
    unfold guardO
    split <;> simp
  rw [e, nl_ilst, cmpD_notin]
  have : ((x : Int) ∈ xs.map fun (n : Nat) => (n : Int)) ↔ x ∈ xs := by
    rw [List.mem_map]
    constructor
    · rintro ⟨y, hy, e⟩; have : y = x := by omega
      exact this ▸ hy
    · intro h; exact ⟨x, h, rfl⟩
  simp [this]
theorem midx_nl {xs : List Nat} {x j : Nat} (h : xs[j]? = some x) (hn : ∀ i < j, xs[i]? ≠ some x) : midxD (.lst (nl xs)) (.int (x : Int)) = some (.int (j : Nat)) := by
  have e1 : toPy (.lst (nl xs)) = some (.list (xs.map fun (n : Nat) => PyData.int (n : Int))) := by
    rw [toPy, nl_ilst, toPys_ints, List.map_map]; rfl
  have e2 : SeqAt.shaped (.list (xs.map fun (n : Nat) => PyData.int (n : Int))) = true := by
    have h1 := canLay_ints (xs.map fun (n : Nat) => (n : Int))
    have h2 := depth_ints (xs.map fun (n : Nat) => (n : Int))
    rw [List.map_map] at h1 h2
    exact shaped_of (by simpa [PyData.canLay0, Function.comp_def] using h1) (by simp only [PyData.depth]; rw [show (xs.map fun (n : Nat) => PyData.int (n : Int)) = xs.map (PyData.int ∘ fun (n : Nat) => (n : Int)) from rfl, h2]; omega)
  have e3 : (xs.map fun (n : Nat) => PyData.int (n : Int)).findIdx? (fun z => PyData.eqv z (.int (x : Int))) = some j := by
    obtain ⟨hj, hx⟩ := List.getElem?_eq_some_iff.mp h
    rw [List.findIdx?_eq_some_iff_getElem]
    refine ⟨by simpa using hj, by simp [hx, PyData.eqv], fun i hi => ?_⟩
    have := hn i hi
    rw [List.getElem?_eq_getElem (by omega)] at this
    have hne : xs[i] ≠ x := fun e => this (by rw [e])
    simp [PyData.eqv]
    omega
  unfold midxD
  rw [e1]
  show (if SeqAt.shaped (.list (xs.map fun (n : Nat) => PyData.int (n : Int))) = true ∧ SeqAt.shaped (PyData.int (x : Int)) = true then _ else none) = _
  rw [if_pos ⟨e2, rfl⟩]
  show Option.map _ _ = _
  rw [e3]; rfl
theorem low_top {a b : Int} (ha : 0 ≤ a) (hb : 0 < b) : 0 ≤ (low a b).1 ∧ (low a b).1 ≤ a := by
  obtain ⟨h1, _⟩ := low_mul (a := a) hb
  have hg := gcd_pos_r (a := a) hb
  generalize Nat.gcd a.natAbs b.natAbs = g at *
  have h0 : 0 ≤ (low a b).1 := by
    rcases Int.lt_or_le (low a b).1 0 with hh | hh
    · exfalso
      have : (low a b).1 * (g : Int) < 0 := Int.mul_neg_of_neg_of_pos hh (by omega)
      omega
    · exact hh
  refine ⟨h0, ?_⟩
  have : (low a b).1 * 1 ≤ (low a b).1 * (g : Int) := Int.mul_le_mul_of_nonneg_left (by omega) h0
  omega
theorem Kt_le {b m t : Nat} (hb : 0 < b) (ht : t ≤ b) (i : Nat) : Kt b m t i ≤ m ^ i := by
  have h := Kt_eq (b := b) (m := m) (t := t) i
  have h2 : t * m ^ i ≤ b * m ^ i := Nat.mul_le_mul_right _ ht
  exact Nat.le_of_mul_le_mul_left (by omega) hb
theorem dig_lt {b m t : Nat} (hb : 0 < b) (hm : 2 ≤ m) (ht : t ≤ b) (i : Nat) : dig b m t i < m := by
  unfold dig
  exact Nat.div_lt_of_lt_mul (orb_lt hb hm ht i)
theorem Ft_le {b m t j : Nat} (hb : 0 < b) (hm : 2 ≤ m) (ht : t ≤ b) (s : Nat) : Ft b m t j s ≤ m ^ s := by
  have h := Ft_eq (b := b) (m := m) (t := t) (j := j) s
  have h1 := orb_lt hb hm ht j
  have h2 : orb b m t j * m ^ s ≤ b * m * m ^ s := Nat.mul_le_mul_right _ (by omega)
  exact Nat.le_of_mul_le_mul_left (show b * m * Ft b m t j s ≤ b * m * m ^ s by omega) (Nat.mul_pos hb (by omega))
/-- figures -/
def digL (b m t j n : Nat) : List Nat := (List.range' j n).map (dig b m t)
theorem digL_len (b m t j n : Nat) : (digL b m t j n).length = n := by simp [digL]
theorem digL_snoc (b m t j n : Nat) : digL b m t j (n + 1) = digL b m t j n ++ [dig b m t (j + n)] := by simp [digL, List.range'_concat]
theorem digL_app (b m t j n k : Nat) : digL b m t j (n + k) = digL b m t j n ++ digL b m t (j + n) k := by
  unfold digL
  rw [← List.map_append]
  congr 1
  rw [List.range'_append_1]
theorem digL_get {b m t j n i : Nat} (h : i < n) : (digL b m t j n)[i]? = some (dig b m t (j + i)) := by
  unfold digL
  rw [List.getElem?_map, List.getElem?_range' h]
  simp
theorem digL_take {b m t j n k : Nat} (h : k ≤ n) : (digL b m t j n).take k = digL b m t j k := by
  obtain ⟨d, rfl⟩ := Nat.exists_eq_add_of_le h
  rw [digL_app, List.take_append_of_le_length (by rw [digL_len]; omega), List.take_of_length_le (by rw [digL_len]; omega)]
theorem digL_drop {b m t j n k : Nat} (h : k ≤ n) : (digL b m t j n).drop k = digL b m t (j + k) (n - k) := by
  obtain ⟨d, rfl⟩ := Nat.exists_eq_add_of_le h
  rw [digL_app, List.drop_append_of_le_length (by rw [digL_len]; omega), List.drop_of_length_le (by rw [digL_len]; omega)]
  simp
/-- the figures, ahead and round -/
def figD (b m t N j : Nat) : D := .tup [.tup (nl (digL b m t 0 j)), .tup (nl (digL b m t j (N - j)))]
/-! ### the rests -/
def rst (b t i : Nat) : Nat := orb b 2 t i % b
theorem orb_s (b t i : Nat) : orb b 2 t (i + 1) = 2 * rst b t i := Nat.mul_comm _ _
theorem rst_s (b t i : Nat) : rst b t (i + 1) = 2 * rst b t i % b := by
  show orb b 2 t (i + 1) % b = _
  rw [orb_s]
theorem dig_s (b t i : Nat) : dig b 2 t (i + 1) = 2 * rst b t i / b := by
  show orb b 2 t (i + 1) / b = _
  rw [orb_s]
theorem rst_lt {b : Nat} (hb : 0 < b) (t i : Nat) : rst b t i < b := Nat.mod_lt _ hb
theorem orb_split (b t i : Nat) : orb b 2 t i = b * dig b 2 t i + rst b t i := (Nat.div_add_mod _ _).symm
def rstL (b t N : Nat) : List Nat := (List.range N).map (rst b t)
theorem rstL_succ (b t N : Nat) : rstL b t (N + 1) = rstL b t N ++ [rst b t N] := by simp [rstL, List.range_succ]
theorem rstL_len (b t N : Nat) : (rstL b t N).length = N := by simp [rstL]
theorem rstL_get {b t N i : Nat} (h : i < N) : (rstL b t N)[i]? = some (rst b t i) := by
  unfold rstL; rw [List.getElem?_map, List.getElem?_range h]; rfl
/-- what a search for the first rest that comes again finds -/
structure Ro (b t N j : Nat) : Prop where
  hb : 0 < b
  hN : N ≤ b
  nd : ∀ i k, i < k → k < N → rst b t i ≠ rst b t k
  hj : j < N
  eq : rst b t j = rst b t N
theorem ro_exists {b : Nat} (t : Nat) (hb : 0 < b) : ∃ N j, Ro b t N j := by
  have key : ∀ n, (rstL b t n).Nodup ∨ ∃ N, N < n ∧ (rstL b t N).Nodup ∧ rst b t N ∈ rstL b t N := by
    intro n
    induction n with
    | zero => exact .inl (by simp [rstL])
    | succ n ih =>
      rcases ih with ih | ⟨N, h1, h2⟩
      · by_cases hm : rst b t n ∈ rstL b t n
        · exact .inr ⟨n, by omega, ih, hm⟩
        · refine .inl ?_
          rw [rstL_succ, List.nodup_append]
          refine ⟨ih, by simp, fun x hx y hy => ?_⟩
          simp at hy
          subst hy
          exact fun e => hm (e ▸ hx)
      · exact .inr ⟨N, by omega, h2⟩
  rcases key (b + 1) with h | ⟨N, h1, h2, h3⟩
  · have := nodup_le h (S := List.range b) fun x hx => by
      obtain ⟨i, _, rfl⟩ := List.mem_map.mp hx
      exact List.mem_range.mpr (rst_lt hb t i)
    simp [rstL] at this
    omega
  · obtain ⟨j, hj, e⟩ := List.mem_map.mp h3
    refine ⟨N, j, hb, by omega, fun i k hi hk => ?_, List.mem_range.mp hj, e⟩
    have h4 := List.pairwise_iff_getElem.mp h2 i k (by simp [rstL]; omega) (by simp [rstL]; omega) hi
    simpa [rstL] using h4
theorem Ro.first {b t N j : Nat} (o : Ro b t N j) : (rstL b t N)[j]? = some (rst b t N) ∧ ∀ i < j, (rstL b t N)[i]? ≠ some (rst b t N) := by
  refine ⟨by rw [rstL_get o.hj, o.eq], fun i hi h => ?_⟩
  rw [rstL_get (by have := o.hj; omega), ← o.eq] at h
  exact o.nd i j hi o.hj (Option.some.inj h)
theorem Ro.notin {b t N j : Nat} (o : Ro b t N j) {i : Nat} (hi : i < N) : rst b t i ∉ rstL b t i := by
  intro h
  obtain ⟨k, hk, e⟩ := List.mem_map.mp h
  exact o.nd k i (List.mem_range.mp hk) hi e
theorem Ro.isin {b t N j : Nat} (o : Ro b t N j) : rst b t N ∈ rstL b t N := List.mem_of_getElem? o.first.1
theorem Ro.s0 {b t N j : Nat} (o : Ro b t N j) (h : dig b 2 t j = dig b 2 t N) : j = 0 := by
  have e : orb b 2 t j = orb b 2 t N := by rw [orb_split, orb_split, h, o.eq]
  have hj := o.hj
  cases j with
  | zero => rfl
  | succ j =>
    exfalso
    obtain ⟨M, rfl⟩ : ∃ M, N = M + 1 := ⟨N - 1, by omega⟩
    rw [orb_s, orb_s] at e
    exact o.nd j M (by omega) (by omega) (by omega)
theorem Ro.orbB {b t N j : Nat} (o : Ro b t N j) (h : dig b 2 t j = dig b 2 t N) : Orb b 2 t N 0 := by
  have hj := o.hj
  obtain rfl := o.s0 h
  refine ⟨o.hb, by have := o.hN; omega, fun i k hi hk e => ?_, hj, by rw [orb_split b t N, orb_split, h, o.eq]⟩
  cases i with
  | zero =>
    refine o.nd 0 k hi hk ?_
    unfold rst; rw [e]
  | succ i =>
    obtain ⟨l, rfl⟩ : ∃ l, k = l + 1 := ⟨k - 1, by omega⟩
    rw [orb_s, orb_s] at e
    exact o.nd i l (by omega) (by omega) (by omega)
theorem Ro.orbA {b t N j : Nat} (o : Ro b t N j) (h : dig b 2 t j ≠ dig b 2 t N) : Orb b 2 t (N + 1) (j + 1) := by
  have hj := o.hj
  refine ⟨o.hb, by have := o.hN; omega, fun i k hi hk e => ?_, by omega, by rw [orb_s, orb_s, o.eq]⟩
  cases i with
  | zero =>
    have e0 : rst b t 0 = rst b t k := by unfold rst; rw [e]
    by_cases hkN : k < N
    · exact o.nd 0 k hi hkN e0
    · obtain rfl : k = N := by omega
      have hj0 : j = 0 := by
        refine Classical.byContradiction fun hc => ?_
        exact o.nd 0 j (by omega) hj (by rw [e0, o.eq])
      subst hj0
      exact h (by unfold dig; rw [e])
  | succ i =>
    obtain ⟨l, rfl⟩ : ∃ l, k = l + 1 := ⟨k - 1, by omega⟩
    rw [orb_s, orb_s] at e
    exact o.nd i l (by omega) (by omega) (by omega)
/-! ### figures tell the rest -/
theorem orb_per {b m t N j : Nat} (o : Orb b m t N j) (s : Nat) : orb b m t (j + s) = orb b m t (N + s) := by
  induction s with
  | zero => exact o.eq
  | succ s ih =>
    show orb b m t (j + s) % b * m = orb b m t (N + s) % b * m
    rw [ih]
theorem dig_per {b m t N j : Nat} (o : Orb b m t N j) {i : Nat} (h : j ≤ i) : dig b m t (i + (N - j)) = dig b m t i := by
  have hj := o.hj
  obtain ⟨s, rfl⟩ := Nat.exists_eq_add_of_le h
  unfold dig
  rw [show j + s + (N - j) = N + s by omega, orb_per o]
theorem orb_of_digs {b m t i k : Nat} (hb : 0 < b) (hm : 2 ≤ m) (ht : t ≤ b) (h : ∀ s, dig b m t (i + s) = dig b m t (k + s)) : orb b m t i = orb b m t k := by
  have hF : ∀ s, Ft b m t i s = Ft b m t k s := by
    intro s
    induction s with
    | zero => rfl
    | succ s ih =>
      show Ft b m t i s * m + dig b m t (i + s) = Ft b m t k s * m + dig b m t (k + s)
      rw [ih, h]
  have e1 := Ft_eq (b := b) (m := m) (t := t) (j := i) (b * m)
  have e2 := Ft_eq (b := b) (m := m) (t := t) (j := k) (b * m)
  rw [hF] at e1
  have l1 := orb_lt hb hm ht (i + b * m)
  have l2 := orb_lt hb hm ht (k + b * m)
  have hp : b * m < m ^ (b * m) := Nat.lt_of_lt_of_le Nat.lt_two_pow_self (Nat.pow_le_pow_left hm _)
  generalize m ^ (b * m) = M at *
  generalize b * m * Ft b m t k (b * m) = Z at *
  rcases Nat.lt_trichotomy (orb b m t i) (orb b m t k) with hh | hh | hh
  · exfalso
    have : (orb b m t i + 1) * M ≤ orb b m t k * M := Nat.mul_le_mul_right _ hh
    rw [Nat.add_mul] at this
    omega
  · exact hh
  · exfalso
    have : (orb b m t k + 1) * M ≤ orb b m t i * M := Nat.mul_le_mul_right _ hh
    rw [Nat.add_mul] at this
    omega
/-- the figure ahead is not the round's last one -/
theorem Orb.ahead {b t N j : Nat} (o : Orb b 2 t N (j + 1)) : dig b 2 t j ≠ dig b 2 t (N - 1) := by
  intro h
  have hj := o.hj
  obtain ⟨M, rfl⟩ : ∃ M, N = M + 1 := ⟨N - 1, by omega⟩
  have e := o.eq
  rw [orb_s, orb_s] at e
  refine o.nd j M (by omega) (by omega) ?_
  rw [orb_split, orb_split b t M, h, show M + 1 - 1 = M by omega]
  omega
/-- no shorter round -/
theorem Orb.shorter {b m t N j : Nat} (o : Orb b m t N j) (hm : 2 ≤ m) (ht : t ≤ b) {l : Nat} (h0 : 0 < l) (h1 : l < N - j) (hd : (N - j) % l = 0) : digL b m t j (N - j) ≠ (List.replicate ((N - j) / l) (digL b m t j l)).flatten := by
  intro e
  have hj := o.hj
  have hb := o.hb
  -- figures of the round by the first ones
  have hrep : ∀ (q x : Nat), x < q * l → ((List.replicate q (digL b m t j l)).flatten)[x]? = some (dig b m t (j + x % l)) := by
    intro q
    induction q with
    | zero => intro x hx; omega
    | succ q ih =>
      intro x hx
      rw [List.replicate_succ, List.flatten_cons]
      by_cases hxl : x < l
      · rw [List.getElem?_append_left (by rw [digL_len]; exact hxl), digL_get hxl, Nat.mod_eq_of_lt hxl]
      · rw [List.getElem?_append_right (by rw [digL_len]; omega), digL_len, ih (x - l) (by rw [Nat.add_mul] at hx; omega)]
        rw [← Nat.mod_eq_sub_mod (a := x) (b := l) (by omega)]
  have hq : (N - j) / l * l = N - j := Nat.div_mul_cancel (Nat.dvd_of_mod_eq_zero hd)
  have hx : ∀ x, x < N - j → dig b m t (j + x) = dig b m t (j + x % l) := by
    intro x hx
    have h := hrep ((N - j) / l) x (by rw [hq]; exact hx)
    rw [← e, digL_get hx] at h
    exact Option.some.inj h
  have hp : ∀ s, dig b m t (j + s) = dig b m t (j + s % (N - j)) := by
    intro s
    induction s using Nat.strongRecOn with
    | ind s ih =>
      by_cases hs : s < N - j
      · rw [Nat.mod_eq_of_lt hs]
      · have h2 := ih (s - (N - j)) (by omega)
        rw [Nat.mod_eq_sub_mod (by omega), ← h2]
        have h3 := dig_per o (i := j + (s - (N - j))) (by omega)
        rw [← h3]
        congr 1
        omega
  have hall : ∀ s, dig b m t (j + s) = dig b m t (j + s % l) := by
    intro s
    rw [hp s, hx _ (Nat.mod_lt _ (by omega)), Nat.mod_mod_of_dvd _ (Nat.dvd_of_mod_eq_zero hd)]
  have := orb_of_digs (i := j) (k := j + l) hb hm ht fun s => by
    rw [hall s, show j + l + s = j + (s + l) by omega, hall (s + l), Nat.add_mod_right]
  exact o.nd j (j + l) (by omega) (by omega) this
/-! ### loops -/
theorem stepB {I : Env → Sto → Prop} {P : RS → Prop} {g : GE} {l : Ss} {env1 e : Env} {st s : Sto} (env0 : Env) (he : env1 = env0) (h : evSs g l env0 st = .bk e s) (hi : P (.nx e s)) : stepOK I P (evSs g l env1 st) := by rw [he, h]; exact .bk _ _ hi
theorem forD_bk {tg : Tg} {b : Env → Sto → RS} {x : D} {xs : List D} {env env1 e : Env} {st s : Sto} (h1 : bindTg tg x env = some env1) (h2 : b env1 st = .bk e s) : forD tg b (x :: xs) env st = .nx e s := by rw [forD, h1]; show (match b env1 st with | .nx env' st' => forD tg b xs env' st' | .ct env' st' => forD tg b xs env' st' | .bk env' st' => .nx env' st' | r => r) = _; rw [h2] <;> rfl
theorem forD_nx {tg : Tg} {b : Env → Sto → RS} {x : D} {xs : List D} {env env1 e : Env} {st s : Sto} (h1 : bindTg tg x env = some env1) (h2 : b env1 st = .nx e s) : forD tg b (x :: xs) env st = forD tg b xs e s := by rw [forD, h1]; show (match b env1 st with | .nx env' st' => forD tg b xs env' st' | .ct env' st' => forD tg b xs env' st' | .bk env' st' => .nx env' st' | r => r) = _; rw [h2] <;> rfl
theorem forD_nil {tg : Tg} {b : Env → Sto → RS} {env : Env} {st : Sto} : forD tg b [] env st = .nx env st := rfl
theorem cutL_mid {α : Type} (xs : List α) (a c : Nat) (h : a ≤ c) (hc : c ≤ xs.length) : cutL xs (some (a : Int)) (some (c : Int)) = (xs.drop a).take (c - a) := by
  unfold cutL HT.sIx
  simp only
  rw [if_neg (by omega), if_neg (by omega)]
  simp only [Int.toNat_natCast]
  rw [Nat.min_eq_left (by omega), Nat.min_eq_left (by omega)]
theorem mulT (xs : List D) (k : Nat) (hk : 1 ≤ k) (hk2 : k ≤ 1000) (hx : xs.length ≤ 1000) : binD .Mult (.tup xs) (.int (k : Int)) = some (.tup (List.replicate k xs).flatten) := by
  show mulD (.tup xs) (.int (k : Int)) = _
  show (if (k : Int) = 1 ∨ xs.isEmpty = true then guardO (-(2 ^ 63) ≤ (k : Int) ∧ (k : Int) < 2 ^ 63) (D.tup xs) else if (k : Int) ≤ 0 then guardO (-1000 ≤ (k : Int)) (.tup []) else guardO (repTOK xs.length (k : Int)) (.tup (List.replicate (k : Int).toNat xs).flatten)) = _
  by_cases h1 : (k : Int) = 1 ∨ xs.isEmpty = true
  · simp only [if_pos h1]
    rw [guardO_true ⟨by omega, by omega⟩]
    rcases h1 with h1 | h1
    · have : k = 1 := by omega
      subst this
      simp
    · have : xs = [] := List.isEmpty_iff.mp h1
      subst this
      simp
  · have h2 : ¬ (k : Int) ≤ 0 := by omega
    have h3 : (k : Int) ≠ 1 ∧ ¬ xs.isEmpty = true := ⟨fun e => h1 (.inl e), fun e => h1 (.inr e)⟩
    simp only [if_neg h1, if_neg h2]
    rw [guardO_true ⟨fun e => h3.2 (by simpa using e), by omega, by omega, hx⟩]
    simp
theorem digs_in (b m t j n : Nat) (hb : 0 < b) (hm : 2 ≤ m) (ht : t ≤ b) : ∀ x ∈ digL b m t j n, x < m := by
  intro x hx
  obtain ⟨i, _, rfl⟩ := List.mem_map.mp hx
  exact dig_lt hb hm ht i
end WT
end

section
set_option Elab.async false
set_option linter.all false
set_option maxRecDepth 100000
set_option autoImplicit false
/-! Q6: rational numbers as pairs in lowest terms, with bounds. Own work. -/
namespace WT
open PySem
def pr (x : Rat) : Int × Int := (x.num, (x.den : Int))
theorem pr_lw (x : Rat) : Lw (pr x) := ⟨Int.natCast_pos.mpr x.den_pos, by show Nat.gcd x.num.natAbs (x.den : Int).natAbs = 1; exact x.reduced⟩
theorem val_pr (x : Rat) : val (pr x) = x := by
  show (x.num : Rat) / ((x.den : Int) : Rat) = x
  rw [← Rat.divInt_eq_div]; exact Rat.num_divInt_den x
theorem pr_val {q : Int × Int} (h : Lw q) : pr (val q) = q := val_inj (pr_lw _) h (val_pr _)
theorem pr_inj {x y : Rat} (h : pr x = pr y) : x = y := by rw [← val_pr x, ← val_pr y, h]
theorem low_pr {a b : Int} (h : 0 < b) : low a b = pr ((a : Rat) / (b : Rat)) := val_inj (low_lw h) (pr_lw _) (by rw [val_low h, val_pr])
theorem pr_of {q : Int × Int} (h : Lw q) : q = pr ((q.1 : Rat) / (q.2 : Rat)) := (pr_val h).symm
theorem plusF_pr (x y : Rat) : plusF (pr x) (pr y) = pr (x + y) := val_inj (plusF_lw (pr_lw x).1 (pr_lw y).1) (pr_lw _) (by rw [val_plusF (pr_lw x).1 (pr_lw y).1, val_pr, val_pr, val_pr])
theorem timesF_pr (x y : Rat) : timesF (pr x) (pr y) = pr (x * y) := val_inj (timesF_lw (pr_lw x).1 (pr_lw y).1) (pr_lw _) (by rw [val_timesF (pr_lw x).1 (pr_lw y).1, val_pr, val_pr, val_pr])
theorem pr_cast (a : Int) : pr (a : Rat) = (a, 1) := val_inj (pr_lw _) ⟨Int.one_pos, by simp⟩ (by rw [val_pr]; unfold val; grind)
theorem pr_0 : pr 0 = (0, 1) := rfl
theorem pr_1 : pr 1 = (1, 1) := rfl
/-- not too great -/
def MID : Int := ((2 ^ 4400 : Nat) : Int)
theorem MID_pos : 0 < MID := Int.natCast_pos.mpr (Nat.pow_pos (by omega))
theorem MID_mul {a b : Int} (h1 : 0 ≤ a) (h2 : a ≤ MID) (h3 : 0 ≤ b) (h4 : b ≤ MID) : a * b < BIG := by
  have h := Int.mul_le_mul h2 h4 h3 (Int.le_of_lt MID_pos)
  have : MID * MID < BIG := by
    unfold MID BIG
    rw [← Int.natCast_mul, ← Nat.pow_add]
    exact Int.ofNat_lt.mpr (Nat.pow_lt_pow_right (by omega) (by omega))
  omega
theorem MID_BIG : MID < BIG := by
  unfold MID BIG
  exact Int.ofNat_lt.mpr (Nat.pow_lt_pow_right (by omega) (by omega))
structure Bd (x : Rat) : Prop where
  n1 : -MID < x.num
  n2 : x.num < MID
  d : (x.den : Int) < MID
theorem Bd.p {x : Rat} (h : Bd x) : -BIG < (pr x).1 ∧ (pr x).1 < BIG ∧ 0 < (pr x).2 ∧ (pr x).2 < BIG := by
  have := MID_BIG
  have h1 := h.n1
  have h2 := h.n2
  have h3 := h.d
  have h4 : (0 : Int) < (x.den : Int) := Int.natCast_pos.mpr x.den_pos
  refine ⟨?_, ?_, ?_, ?_⟩ <;> simp only [pr] <;> omega
theorem Bd.m12 {x y : Rat} (h : Bd x) (k : Bd y) (z : D) : guardO (mulOK (pr x).1 (pr y).2) z = some z := by
  have a := h.p; have b := k.p; have := BIG_pos
  exact mulB a.1 a.2.1 (by omega) b.2.2.2
theorem Bd.m21 {x y : Rat} (h : Bd x) (k : Bd y) (z : D) : guardO (mulOK (pr x).2 (pr y).1) z = some z := by
  have a := h.p; have b := k.p; have := BIG_pos
  exact mulB (by omega) a.2.2.2 b.1 b.2.1
theorem Bd.m11 {x y : Rat} (h : Bd x) (k : Bd y) (z : D) : guardO (mulOK (pr x).1 (pr y).1) z = some z := by
  have a := h.p; have b := k.p; have := BIG_pos
  exact mulB a.1 a.2.1 b.1 b.2.1
theorem Bd.m22 {x y : Rat} (h : Bd x) (k : Bd y) (z : D) : guardO (mulOK (pr x).2 (pr y).2) z = some z := by
  have a := h.p; have b := k.p; have := BIG_pos
  exact mulB (by omega) a.2.2.2 (by omega) b.2.2.2
theorem Bd.d22 {x y : Rat} (h : Bd x) (k : Bd y) : (pr x).2 * (pr y).2 < BIG := by
  have h1 := h.d; have h2 := k.d
  exact MID_mul (by simp only [pr]; omega) (by simp only [pr]; omega) (by simp only [pr]; omega) (by simp only [pr]; omega)
theorem Bd.d21 {x y : Rat} (h : Bd x) (k : Bd y) (hy : 0 ≤ y.num) : (pr x).2 * (pr y).1 < BIG := by
  have h1 := h.d; have h2 := k.n2
  exact MID_mul (by simp only [pr]; omega) (by simp only [pr]; omega) (by simp only [pr]; omega) (by simp only [pr]; omega)
/-- whole when multiplied by `d` -/
def InD (d : Int) (x : Rat) : Prop := ∃ X : Int, x * (d : Rat) = (X : Rat)
theorem InD.add {d : Int} {x y : Rat} (h : InD d x) (k : InD d y) : InD d (x + y) := by
  obtain ⟨X, hX⟩ := h; obtain ⟨Y, hY⟩ := k
  exact ⟨X + Y, by rw [Rat.intCast_add, Rat.add_mul, hX, hY]⟩
theorem InD.zero (d : Int) : InD d 0 := ⟨0, by grind⟩
theorem InD.mulI {d : Int} {x : Rat} (h : InD d x) (k : Int) : InD d ((k : Rat) * x) := by
  obtain ⟨X, hX⟩ := h
  exact ⟨k * X, by rw [Rat.intCast_mul, ← hX, Rat.mul_assoc]⟩
theorem InD.of {d e : Int} {x : Rat} (h : InD e x) (hd : e ∣ d) : InD d x := by
  obtain ⟨X, hX⟩ := h; obtain ⟨c, rfl⟩ := hd
  exact ⟨X * c, by rw [Rat.intCast_mul, Rat.intCast_mul, ← hX, Rat.mul_assoc]⟩
theorem InD.div {d : Int} (a : Int) (hd : d ≠ 0) : InD d ((a : Rat) / (d : Rat)) := ⟨a, by
  have : (d : Rat) ≠ 0 := fun e => hd (by have := Rat.intCast_inj.mp (e.trans rfl : (d : Rat) = ((0 : Int) : Rat)); omega)
  grind⟩
theorem InD.mul {d e : Int} {x y : Rat} (h : InD d x) (k : InD e y) : InD (d * e) (x * y) := by
  obtain ⟨X, hX⟩ := h; obtain ⟨Y, hY⟩ := k
  exact ⟨X * Y, by rw [Rat.intCast_mul, Rat.intCast_mul, ← hX, ← hY]; grind⟩
theorem InD.bd {d M : Int} {x : Rat} (h : InD d x) (hd : 0 < d) (h0 : 0 ≤ x) (h1 : x ≤ (M : Rat)) (hM : 1 ≤ M) (hb : M * d < MID) : Bd x := by
  obtain ⟨X, hX⟩ := h
  have hd' := cast_pos hd
  have e : x = (X : Rat) / (d : Rat) := by
    have := cast_ne hd
    grind
  have hX0 : 0 ≤ X := by
    have : (0 : Rat) ≤ (X : Rat) := by rw [← hX]; exact Rat.mul_nonneg h0 (Rat.le_of_lt hd')
    exact Rat.intCast_le_intCast.mp (by simpa using this)
  have hX1 : X ≤ M * d := by
    refine Rat.intCast_le_intCast.mp ?_
    rw [← hX, Rat.intCast_mul]
    exact Rat.mul_le_mul_of_nonneg_right h1 (Rat.le_of_lt hd')
  have hl := low_pr (a := X) hd
  rw [← e] at hl
  have t := low_top hX0 hd
  have l := low_le (a := X) hd
  rw [hl] at t l
  have hdM : 1 * d ≤ M * d := Int.mul_le_mul_of_nonneg_right hM (by omega)
  simp only [pr] at t l
  have := MID_pos
  exact ⟨by omega, by omega, by omega⟩
theorem num_nonneg {x : Rat} (h : 0 ≤ x) : 0 ≤ x.num := Rat.num_nonneg.mpr h
theorem num_pos {x : Rat} (h : 0 < x) : 0 < x.num := by
  have h1 := num_nonneg (Rat.le_of_lt h)
  have h2 : x.num ≠ 0 := fun e => by rw [Rat.num_eq_zero.mp e] at h; exact absurd h (by decide)
  omega
/-- quotients -/
theorem quot_pr {x y : Rat} (hy : 0 < y) : low ((pr x).1 * (pr y).2) ((pr x).2 * (pr y).1) = pr (x / y) := by
  have hn := num_pos hy
  have hp : (0 : Int) < (pr x).2 * (pr y).1 := Int.mul_pos (pr_lw x).1 hn
  refine val_inj (low_lw hp) (pr_lw _) ?_
  rw [val_low hp, val_pr]
  have e1 : (pr x).1 = (pr x).1 := rfl
  have v1 := val_pr x
  have v2 := val_pr y
  unfold val at v1 v2
  have n1 := cast_ne (pr_lw x).1
  have n2 := cast_ne (pr_lw y).1
  have n3 : (((pr y).1 : Int) : Rat) ≠ 0 := cast_ne hn
  rw [Rat.intCast_mul, Rat.intCast_mul]
  generalize (((pr x).1 : Int) : Rat) = a at *
  generalize (((pr x).2 : Int) : Rat) = b at *
  generalize (((pr y).1 : Int) : Rat) = c at *
  generalize (((pr y).2 : Int) : Rat) = d at *
  rw [← v1, ← v2]
  grind
theorem lt_pr (x y : Rat) : (pr x).1 * (pr y).2 < (pr y).1 * (pr x).2 ↔ x < y := (Rat.lt_iff x y).symm
end WT
end

section
set_option Elab.async false
set_option linter.all false
set_option maxRecDepth 100000
set_option autoImplicit false
/-! Q7: sums over figures and rests of a number in base two, as rational numbers. Own work. -/
namespace WT
open PySem
def cR (n : Nat) : Rat := ((n : Int) : Rat)
theorem cR_add (a b : Nat) : cR (a + b) = cR a + cR b := by unfold cR; rw [Int.natCast_add, Rat.intCast_add]
theorem cR_mul (a b : Nat) : cR (a * b) = cR a * cR b := by unfold cR; rw [Int.natCast_mul, Rat.intCast_mul]
theorem cR_0 : cR 0 = 0 := rfl
theorem cR_1 : cR 1 = 1 := rfl
theorem cR_2 : cR 2 = 2 := rfl
theorem cR_le {a b : Nat} (h : a ≤ b) : cR a ≤ cR b := Rat.intCast_le_intCast.mpr (by omega)
theorem cR_lt {a b : Nat} (h : a < b) : cR a < cR b := Rat.intCast_lt_intCast.mpr (by omega)
theorem cR_nn (a : Nat) : 0 ≤ cR a := cR_le (Nat.zero_le a)
theorem cR_pos {a : Nat} (h : 0 < a) : 0 < cR a := cR_lt h
theorem cR_ne {a : Nat} (h : 0 < a) : cR a ≠ 0 := Rat.ne_of_gt (cR_pos h)
def pw (n : Nat) : Rat := cR (2 ^ n)
theorem pw_succ (n : Nat) : pw (n + 1) = 2 * pw n := by unfold pw; rw [Nat.pow_succ, cR_mul, cR_2, Rat.mul_comm]
theorem pw_add (n m : Nat) : pw (n + m) = pw n * pw m := by unfold pw; rw [Nat.pow_add, cR_mul]
theorem pw_pos (n : Nat) : 0 < pw n := cR_pos (Nat.pow_pos (by omega))
theorem pw_ne (n : Nat) : pw n ≠ 0 := Rat.ne_of_gt (pw_pos n)
theorem pw_ge (n : Nat) : 1 ≤ pw n := by
  have := cR_le (show 1 ≤ 2 ^ n from Nat.pow_pos (by omega))
  exact this
def vv (b t i : Nat) : Rat := cR (rst b t i) / cR b
def dd (b t i : Nat) : Rat := cR (dig b 2 t i)
variable {b t : Nat}
theorem le_div {a b c : Rat} (hc : 0 < c) (h : a * c ≤ b) : a ≤ b / c := by
  refine Rat.le_of_mul_le_mul_right ?_ hc
  rw [Rat.div_mul_cancel (Rat.ne_of_gt hc)]; exact h
theorem div_le {a b c : Rat} (hc : 0 < c) (h : a ≤ b * c) : a / c ≤ b := by
  refine Rat.le_of_mul_le_mul_right ?_ hc
  rw [Rat.div_mul_cancel (Rat.ne_of_gt hc)]; exact h
theorem vv_nn (hb : 0 < b) (i : Nat) : 0 ≤ vv b t i := by
  unfold vv
  have h1 := cR_nn (rst b t i)
  have h2 := cR_pos hb
  exact le_div h2 (by rw [Rat.zero_mul]; exact h1)
theorem vv_le (hb : 0 < b) (i : Nat) : vv b t i ≤ 1 := by
  unfold vv
  have h1 := cR_le (Nat.le_of_lt (rst_lt hb t i))
  exact div_le (cR_pos hb) (by rw [Rat.one_mul]; exact h1)
theorem vv_step (hb : 0 < b) (i : Nat) : 2 * vv b t i = dd b t (i + 1) + vv b t (i + 1) := by
  have h : 2 * rst b t i = b * dig b 2 t (i + 1) + rst b t (i + 1) := by rw [← orb_s, orb_split]
  have h2 := congrArg cR h
  rw [cR_add, cR_mul, cR_mul, cR_2] at h2
  have hb' := cR_ne hb
  unfold vv dd
  grind
theorem vv_0 (hb : 0 < b) : cR t / cR b = dd b t 0 + vv b t 0 := by
  have h : t = b * dig b 2 t 0 + rst b t 0 := orb_split b t 0
  have h2 := congrArg cR h
  rw [cR_add, cR_mul] at h2
  have hb' := cR_ne hb
  unfold vv dd
  grind
def sS (b t : Nat) : Nat → Rat
  | 0 => 0
  | n + 1 => sS b t n + vv b t n / pw n
def sA (b t : Nat) : Nat → Rat
  | 0 => 0
  | n + 1 => sA b t n + cR n * dd b t n / pw n
def sB (b t : Nat) : Nat → Rat
  | 0 => 0
  | n + 1 => sB b t n + dd b t n / pw n
theorem sS_succ (n : Nat) : sS b t (n + 1) = sS b t n + vv b t n / pw n := rfl
theorem sA_succ (n : Nat) : sA b t (n + 1) = sA b t n + cR n * dd b t n / pw n := rfl
theorem sB_succ (n : Nat) : sB b t (n + 1) = sB b t n + dd b t n / pw n := rfl
theorem sS_eq (hb : 0 < b) (n : Nat) : sS b t n = sA b t (n + 1) + cR n * vv b t n / pw n := by
  induction n with
  | zero => rw [sA_succ, cR_0]; show (0 : Rat) = 0 + 0 * dd b t 0 / pw 0 + 0 * vv b t 0 / pw 0; grind
  | succ n ih =>
    rw [sS_succ, ih, sA_succ (n + 1), cR_add, cR_1, pw_succ]
    have h := vv_step (t := t) hb n
    have := pw_ne n
    generalize vv b t (n + 1) = v' at *
    generalize dd b t (n + 1) = d' at *
    generalize pw n = P at *
    grind
theorem sB_eq (hb : 0 < b) (n : Nat) : cR t / cR b = sB b t (n + 1) + vv b t n / pw n := by
  induction n with
  | zero => rw [vv_0 hb, sB_succ]; show _ = 0 + dd b t 0 / pw 0 + vv b t 0 / pw 0; rw [show pw 0 = 1 from rfl]; grind
  | succ n ih =>
    rw [ih, sB_succ (n + 1), pw_succ]
    have h := vv_step (t := t) hb n
    have := pw_ne n
    generalize vv b t (n + 1) = v' at *
    generalize dd b t (n + 1) = d' at *
    generalize pw n = P at *
    grind
/-- the cost -/
def c0 (b t N j : Nat) : Rat := sS b t j + (sS b t N - sS b t j) * pw (N - j) / (pw (N - j) - 1)
theorem pw_gt {n : Nat} (h : 0 < n) : 1 < pw n := by
  have := cR_lt (show 1 < 2 ^ n from Nat.one_lt_two_pow (by omega))
  exact this
theorem vv_eq {N j : Nat} (h : rst b t j = rst b t N) : vv b t j = vv b t N := by unfold vv; rw [h]
/-- the cost by the figures, when they differ -/
theorem cost_A (hb : 0 < b) {N j : Nat} (hj : j < N) (h : rst b t j = rst b t N) : c0 b t N j = sA b t (j + 1) + (sA b t (N + 1) - sA b t (j + 1)) * pw (N - j) / (pw (N - j) - 1) + cR (N - j) * (vv b t j / pw j) / (pw (N - j) - 1) := by
  have e1 := sS_eq (t := t) hb j
  have e2 := sS_eq (t := t) hb N
  have e3 := vv_eq h
  obtain ⟨p, rfl⟩ : ∃ p, N = j + p := ⟨N - j, by omega⟩
  rw [show j + p - j = p by omega]
  have hp := pw_gt (n := p) (by omega)
  have h1 : pw p - 1 ≠ 0 := fun e => by have : pw p = 1 := by grind
                                        rw [this] at hp; exact absurd hp (by decide)
  have h2 := pw_ne j
  have h3 := pw_ne p
  unfold c0
  rw [e1, e2, ← e3, pw_add, cR_add, show j + p - j = p by omega]
  generalize sA b t (j + 1) = A1
  generalize sA b t (j + p + 1) = A2
  generalize vv b t j = v
  generalize pw j = J at *
  generalize pw p = P at *
  generalize cR j = cj
  generalize cR p = cp
  grind
theorem worth_A (hb : 0 < b) {N j : Nat} (hj : j < N) (h : rst b t j = rst b t N) : (sB b t (N + 1) - sB b t (j + 1)) * pw (N - j) / (pw (N - j) - 1) = vv b t j / pw j := by
  have e1 := sB_eq (t := t) hb j
  have e2 := sB_eq (t := t) hb N
  have e3 := vv_eq h
  obtain ⟨p, rfl⟩ : ∃ p, N = j + p := ⟨N - j, by omega⟩
  rw [show j + p - j = p by omega]
  have hp := pw_gt (n := p) (by omega)
  have h1 : pw p - 1 ≠ 0 := fun e => by have : pw p = 1 := by grind
                                        rw [this] at hp; exact absurd hp (by decide)
  have h2 := pw_ne j
  have h3 := pw_ne p
  rw [← e3, pw_add] at e2
  generalize sB b t (j + 1) = A1 at *
  generalize sB b t (j + p + 1) = A2 at *
  generalize vv b t j = v at *
  generalize pw j = J at *
  generalize pw p = P at *
  generalize cR t / cR b = x at *
  have e4 : (A2 - A1) * P = v / J * (P - 1) := by
    have : A2 - A1 = v / J - v / (J * P) := by grind
    rw [this]
    grind
  rw [e4]
  grind
/-- and when they are the same -/
theorem cost_B (hb : 0 < b) {N : Nat} (hN : 0 < N) (h : rst b t 0 = rst b t N) (hd : dig b 2 t 0 = dig b 2 t N) : c0 b t N 0 = sA b t 0 + (sA b t N - sA b t 0) * pw N / (pw N - 1) + cR N * (cR t / cR b) / (pw N - 1) := by
  have e2 := sS_eq (t := t) hb N
  have e3 := vv_eq h
  have e4 : dd b t 0 = dd b t N := by unfold dd; rw [hd]
  have e5 := vv_0 (t := t) hb
  have hp := pw_gt hN
  have h1 : pw N - 1 ≠ 0 := fun e => by have : pw N = 1 := by grind
                                        rw [this] at hp; exact absurd hp (by decide)
  have h3 := pw_ne N
  unfold c0
  rw [e2, Nat.sub_zero, e5, e4, e3, sA_succ]
  show (0 : Rat) + (_ - 0) * _ / _ = 0 + (_ - 0) * _ / _ + _
  generalize sA b t N = A2
  generalize vv b t N = v
  generalize dd b t N = d
  generalize pw N = P at *
  generalize cR N = cp
  grind
theorem worth_B (hb : 0 < b) {N : Nat} (hN : 0 < N) (h : rst b t 0 = rst b t N) (hd : dig b 2 t 0 = dig b 2 t N) : (sB b t N - sB b t 0) * pw N / (pw N - 1) = cR t / cR b := by
  have e2 := sB_eq (t := t) hb N
  have e3 := vv_eq h
  have e4 : dd b t 0 = dd b t N := by unfold dd; rw [hd]
  have e5 := vv_0 (t := t) hb
  have hp := pw_gt hN
  have h1 : pw N - 1 ≠ 0 := fun e => by have : pw N = 1 := by grind
                                        rw [this] at hp; exact absurd hp (by decide)
  have h3 := pw_ne N
  rw [sB_succ] at e2
  rw [e4, e3] at e5
  show (sB b t N - 0) * pw N / (pw N - 1) = _
  generalize sB b t N = A2 at *
  generalize vv b t N = v at *
  generalize dd b t N = d at *
  generalize pw N = P at *
  generalize cR t / cR b = x at *
  have e6 : A2 * P = x * (P - 1) := by
    have : A2 = x - x / P := by grind
    rw [this]; grind
  rw [show A2 - 0 = A2 by grind, e6]
  grind
/-! ### what is over -/
def tT (b t N j n : Nat) : Rat := (c0 b t N j - sS b t n) * pw n
theorem tT_step (N j n : Nat) : tT b t N j n = vv b t n + tT b t N j (n + 1) / 2 := by
  unfold tT
  rw [sS_succ, pw_succ]
  have := pw_ne n
  grind
theorem tT_j {N j : Nat} (hj : j < N) : tT b t N j j = (sS b t N - sS b t j) * pw j * pw (N - j) / (pw (N - j) - 1) := by
  unfold tT c0
  grind
theorem tT_N {N j : Nat} (hj : j < N) : tT b t N j N = tT b t N j j := by
  rw [tT_j hj]
  unfold tT c0
  have e : pw N = pw j * pw (N - j) := by rw [← pw_add]; congr 1; omega
  have hp := pw_gt (n := N - j) (by omega)
  have h1 : pw (N - j) - 1 ≠ 0 := fun e => by have : pw (N - j) = 1 := by grind
                                              rw [this] at hp; exact absurd hp (by decide)
  rw [e]
  generalize pw (N - j) = P at *
  generalize pw j = J at *
  generalize sS b t N = X
  generalize sS b t j = Y
  have h2 : (Y + (X - Y) * P / (P - 1) - X) = (X - Y) / (P - 1) := by grind
  rw [h2]
  grind
end WT
end

section
set_option Elab.async false
set_option linter.all false
set_option maxRecDepth 100000
set_option autoImplicit false
/-! Q8: bounds for Q7's sums. Own work. -/
namespace WT
open PySem
variable {b t : Nat}
theorem rst_per {N j : Nat} (hj : j < N) (h : rst b t j = rst b t N) (s : Nat) : rst b t (j + s + (N - j)) = rst b t (j + s) := by
  induction s with
  | zero => rw [show j + 0 + (N - j) = N by omega]; exact h.symm
  | succ s ih => rw [show j + (s + 1) + (N - j) = (j + s + (N - j)) + 1 by omega, rst_s, ih, ← rst_s]; rfl
theorem tT_next (N j n : Nat) : tT b t N j (n + 1) = 2 * (tT b t N j n - vv b t n) := by
  have := tT_step (b := b) (t := t) N j n
  grind
theorem tT_per {N j : Nat} (hj : j < N) (h : rst b t j = rst b t N) (s : Nat) : tT b t N j (j + s + (N - j)) = tT b t N j (j + s) := by
  induction s with
  | zero => rw [show j + 0 + (N - j) = N by omega]; exact tT_N hj
  | succ s ih =>
    have e : vv b t (j + s + (N - j)) = vv b t (j + s) := by unfold vv; rw [rst_per hj h]
    rw [show j + (s + 1) + (N - j) = (j + s + (N - j)) + 1 by omega, tT_next, ih, e, ← tT_next]; rfl
theorem sS_diff (hb : 0 < b) (j n : Nat) : 0 ≤ sS b t (j + n) - sS b t j ∧ (sS b t (j + n) - sS b t j) * pw j * pw n ≤ 2 * (pw n - 1) := by
  induction n with
  | zero => rw [Nat.add_zero, show pw 0 = 1 from rfl]; constructor <;> grind
  | succ n ih =>
    obtain ⟨h1, h2⟩ := ih
    have v0 := vv_nn (t := t) hb (j + n)
    have v1 := vv_le (t := t) hb (j + n)
    have p1 := pw_pos (j + n)
    have n1 := pw_ne j
    have n2 := pw_ne n
    rw [← Nat.add_assoc, sS_succ]
    constructor
    · have : 0 ≤ vv b t (j + n) / pw (j + n) := le_div p1 (by rw [Rat.zero_mul]; exact v0)
      grind
    · rw [pw_succ, pw_add]
      have e : (sS b t (j + n) + vv b t (j + n) / (pw j * pw n) - sS b t j) * pw j * (2 * pw n) = 2 * ((sS b t (j + n) - sS b t j) * pw j * pw n) + 2 * vv b t (j + n) := by
        generalize sS b t (j + n) = X
        generalize sS b t j = Y
        generalize vv b t (j + n) = v
        generalize pw j = J at *
        generalize pw n = P at *
        grind
      rw [e]
      generalize (sS b t (j + n) - sS b t j) * pw j * pw n = Z at *
      generalize vv b t (j + n) = v at *
      generalize pw n = P at *
      grind
theorem pw1_pos {n : Nat} (h : 0 < n) : 0 < pw n - 1 := by
  have := pw_gt h
  grind
theorem tT_j_in (hb : 0 < b) {N j : Nat} (hj : j < N) : 0 ≤ tT b t N j j ∧ tT b t N j j ≤ 2 := by
  rw [tT_j hj]
  obtain ⟨h1, h2⟩ := sS_diff (t := t) hb j (N - j)
  rw [show j + (N - j) = N by omega] at h1 h2
  have hp := pw1_pos (n := N - j) (by omega)
  refine ⟨le_div hp ?_, div_le hp h2⟩
  rw [Rat.zero_mul]
  exact Rat.mul_nonneg (Rat.mul_nonneg h1 (Rat.le_of_lt (pw_pos j))) (Rat.le_of_lt (pw_pos _))
theorem tT_in (hb : 0 < b) {N j : Nat} (hj : j < N) (h : rst b t j = rst b t N) (n : Nat) : 0 ≤ tT b t N j n ∧ tT b t N j n ≤ 2 := by
  have far : ∀ q, tT b t N j (j + q * (N - j)) = tT b t N j j := by
    intro q
    induction q with
    | zero => rw [Nat.zero_mul, Nat.add_zero]
    | succ q ih =>
      have := tT_per hj h (q * (N - j))
      rw [ih] at this
      rw [← this]; congr 1; rw [Nat.add_mul, Nat.one_mul, Nat.add_assoc]
  have back : ∀ s m, 0 ≤ tT b t N j (m + s) ∧ tT b t N j (m + s) ≤ 2 → 0 ≤ tT b t N j m ∧ tT b t N j m ≤ 2 := by
    intro s
    induction s with
    | zero => intro m h; exact h
    | succ s ih =>
      intro m h
      have h2 := ih (m + 1) (by rw [show m + 1 + s = m + (s + 1) by omega]; exact h)
      have e := tT_step (b := b) (t := t) N j m
      have v0 := vv_nn (t := t) hb m
      have v1 := vv_le (t := t) hb m
      grind
  have hle : n ≤ j + n * (N - j) := by
    have : n * 1 ≤ n * (N - j) := Nat.mul_le_mul_left _ (by omega)
    omega
  refine back (j + n * (N - j) - n) n ?_
  rw [show n + (j + n * (N - j) - n) = j + n * (N - j) by omega, far]
  exact tT_j_in hb hj
theorem c0_T (N j : Nat) : tT b t N j 0 = c0 b t N j := by
  unfold tT
  rw [show pw 0 = 1 from rfl]
  show (c0 b t N j - 0) * 1 = _
  grind
theorem c0_split (N j n : Nat) : c0 b t N j = sS b t n + tT b t N j n / pw n := by
  unfold tT
  have := pw_ne n
  grind
/-- the first figures bound the cost -/
theorem c0_bd (hb : 0 < b) {N j : Nat} (hj : j < N) (h : rst b t j = rst b t N) : sA b t 40 ≤ c0 b t N j ∧ c0 b t N j ≤ sA b t 40 + cR 41 / pw 39 := by
  have e1 := c0_split (b := b) (t := t) N j 39
  have e2 := sS_eq (t := t) hb 39
  obtain ⟨h1, h2⟩ := tT_in (t := t) hb hj h 39
  have v0 := vv_nn (t := t) hb 39
  have v1 := vv_le (t := t) hb 39
  have p := pw_pos 39
  have e3 : c0 b t N j = sA b t 40 + (cR 39 * vv b t 39 + tT b t N j 39) / pw 39 := by
    rw [e1, e2]
    have := pw_ne 39
    grind
  have c39 : cR 39 = 39 := rfl
  have c41 : cR 41 = 41 := rfl
  rw [c39] at e3
  rw [c41]
  have l1 : 0 ≤ (39 * vv b t 39 + tT b t N j 39) / pw 39 := le_div p (by grind)
  have l2 : (39 * vv b t 39 + tT b t N j 39) / pw 39 ≤ 41 / pw 39 := div_le p (by rw [Rat.div_mul_cancel (pw_ne 39)]; grind)
  constructor <;> grind
/-! ### whole when multiplied -/
theorem inD_frac (a : Nat) {e d : Nat} (he : 0 < e) (h : e ∣ d) : InD (d : Int) (cR a / cR e) := (InD.div (a : Int) (by omega)).of (Int.natCast_dvd_natCast.mpr h)
theorem vv_pw (hb : 0 < b) (i k : Nat) : vv b t i / pw k = cR (rst b t i) / cR (b * 2 ^ k) := by
  unfold vv pw
  rw [cR_mul]
  have h1 := cR_ne hb
  have h2 := cR_ne (show 0 < 2 ^ k from Nat.pow_pos (by omega))
  grind
theorem inD_vv (hb : 0 < b) {K k : Nat} (hk : k ≤ K) (i : Nat) : InD ((b * 2 ^ K : Nat) : Int) (vv b t i / pw k) := by
  rw [vv_pw hb]
  exact inD_frac _ (Nat.mul_pos hb (Nat.pow_pos (by omega))) (Nat.mul_dvd_mul_left _ (Nat.pow_dvd_pow _ hk))
theorem inD_sS (hb : 0 < b) {K : Nat} : ∀ n, n ≤ K → InD ((b * 2 ^ K : Nat) : Int) (sS b t n)
  | 0, _ => InD.zero _
  | n + 1, h => (inD_sS hb n (by omega)).add (inD_vv hb (by omega) n)
theorem InD.sub {d : Int} {x y : Rat} (h : InD d x) (k : InD d y) : InD d (x - y) := by
  obtain ⟨X, hX⟩ := h; obtain ⟨Y, hY⟩ := k
  exact ⟨X - Y, by rw [Rat.intCast_sub, ← hX, ← hY]; grind⟩
theorem InD.mulN {d : Int} {x : Rat} (h : InD d x) (k : Nat) : InD d (x * cR k) := by
  have := h.mulI (k : Int)
  rw [Rat.mul_comm] at this
  exact this
theorem inD_ag {d : Int} {x : Rat} (h : InD d x) {p : Nat} (hp : 0 < p) : InD (d * ((2 ^ p - 1 : Nat) : Int)) (x * pw p / (pw p - 1)) := by
  have e : pw p - 1 = cR (2 ^ p - 1) := by
    have h1 : 2 ^ p = (2 ^ p - 1) + 1 := by have : 0 < 2 ^ p := Nat.pow_pos (by omega); omega
    have h2 := congrArg cR h1
    rw [cR_add, cR_1] at h2
    unfold pw
    rw [h2]; grind
  have hn : 0 < 2 ^ p - 1 := by have := Nat.one_lt_two_pow (n := p) (by omega); omega
  have h2 := h.mul (inD_frac (2 ^ p) hn (Nat.dvd_refl _))
  rw [e]
  have : x * (cR (2 ^ p) / cR (2 ^ p - 1)) = x * pw p / cR (2 ^ p - 1) := by unfold pw; rw [Rat.div_def, Rat.div_def, Rat.mul_assoc]
  rw [this] at h2
  exact h2
theorem inD_dd (k i : Nat) {K : Nat} (hk : i ≤ K) (a : Nat) : InD ((2 ^ K : Nat) : Int) (cR a / pw i) := inD_frac a (Nat.pow_pos (by omega)) (Nat.pow_dvd_pow _ hk)
theorem inD_sA {K : Nat} : ∀ n, n ≤ K → InD ((2 ^ K : Nat) : Int) (sA b t n)
  | 0, _ => InD.zero _
  | n + 1, h => by
    have h2 := inD_dd 0 n (K := K) (by omega) (n * dig b 2 t n)
    rw [cR_mul] at h2
    exact (inD_sA n (by omega)).add h2
theorem inD_sB {K : Nat} : ∀ n, n ≤ K → InD ((2 ^ K : Nat) : Int) (sB b t n)
  | 0, _ => InD.zero _
  | n + 1, h => (inD_sB n (by omega)).add (inD_dd 0 n (by omega) _)
theorem inD_c0 (hb : 0 < b) {N j K : Nat} (hj : j < N) (hN : N ≤ K) : InD ((b * 2 ^ K : Nat) * ((2 ^ (N - j) - 1 : Nat) : Int)) (c0 b t N j) := by
  unfold c0
  exact ((inD_sS hb j (by omega)).of ⟨_, rfl⟩).add (inD_ag ((inD_sS hb N hN).sub (inD_sS hb j (by omega))) (by omega))
theorem inD_tT (hb : 0 < b) {N j K : Nat} (hj : j < N) (hN : N ≤ K) (n : Nat) (hn : n ≤ K) : InD ((b * 2 ^ K : Nat) * ((2 ^ (N - j) - 1 : Nat) : Int)) (tT b t N j n) := by
  unfold tT
  exact (((inD_c0 hb hj hN).sub ((inD_sS hb n hn).of ⟨_, rfl⟩))).mulN _
/-- bounds of what is met -/
theorem two_MID {n : Nat} (h : n < 4400) : ((2 ^ n : Nat) : Int) < MID := Int.ofNat_lt.mpr (Nat.pow_lt_pow_right (by omega) h)
theorem InD.bdN {d : Int} {M : Nat} {x : Rat} (h : InD d x) (hd : 0 < d) (h0 : 0 ≤ x) (h1 : x ≤ cR M) (hM : 1 ≤ M) {e f : Nat} (h2 : d ≤ ((2 ^ e : Nat) : Int)) (h3 : M ≤ 2 ^ f) (hf : e + f < 4400) : Bd x := by
  refine h.bd hd h0 (M := (M : Int)) h1 (by omega) ?_
  have h4 : (M : Int) * d ≤ ((2 ^ f : Nat) : Int) * ((2 ^ e : Nat) : Int) := Int.mul_le_mul (by omega) h2 (by omega) (by omega)
  rw [← Int.natCast_mul, ← Nat.pow_add] at h4
  have := two_MID (n := f + e) (by omega)
  omega
end WT
end

section
set_option Elab.async false
set_option linter.all false
set_option maxRecDepth 100000
set_option autoImplicit false
namespace Lk35
open PySem WT
theorem sem_law_low {a b : Int} (st : Sto) (h : 0 < b) (h2 : b < BIG) : F_law_low.sem [.int a, .int b] st = .ok (fr (low a b)) st := by
  have hg := gcd_pos_r (a := a) h
  have hle : Nat.gcd a.natAbs b.natAbs ≤ b.natAbs := Nat.gcd_le_right _ (by omega)
  have hd : divOK ((Nat.gcd a.natAbs b.natAbs : Nat) : Int) := divOK_B (by omega) (by omega)
  have ha : (if a < 0 then -a else a) = (a.natAbs : Int) := by split <;> omega
  obtain ⟨m, rfl⟩ : ∃ m : Nat, b = m := ⟨b.toNat, by omega⟩
  rw [ev_law_low]
  simp [b_law_low, ha]
  refine whD_rule (P := fun r => (RS.seq r _).fin = _) (fun n env st' => st' = st ∧ ∃ x : Nat, env = [some (.int a), some (.int m), some (.int x), some (.int n)] ∧ Nat.gcd x n = Nat.gcd a.natAbs m) m
    ⟨rfl, a.natAbs, rfl, rfl⟩ ?_
  rintro y env st' ⟨rfl, x, rfl, hxy⟩
  refine ⟨decide (y ≠ 0), st', by simp [evC_eq, w_law_low1], ?_, ?_⟩
  · intro hk
    have hy : y = 0 := by simpa using hk
    subst hy
    have hx : x = Nat.gcd a.natAbs m := by simpa using hxy
    subst hx
    simp at hd
    simp [hd, fdiv_nn, low, sizeLine]
  · intro hk
    have hy : y ≠ 0 := by simpa using hk
    have hy' : (y : Int) ≠ 0 := by omega
    simp [l_law_low1, hy, hy', fmod_nn]
    refine ⟨x % y, Nat.mod_lt _ (by omega), y, ⟨rfl, by simp⟩, ?_⟩
    rw [← hxy, Nat.gcd_comm x y, Nat.gcd_comm y (x % y), ← Nat.gcd_rec]
theorem sem_is_integer (st : Sto) {d : D} (h : plainD d = true) : F_is_integer.sem [d] st = .ok (.bl (isInt d)) st := by
  rw [ev_is_integer]
  cases d <;> first | (simp [plainD] at h; done) | simp [b_is_integer, isInt]
theorem sem_is_integer_int (st : Sto) (i : Int) : F_is_integer.sem [.int i] st = .ok (.bl true) st := sem_is_integer st rfl
theorem sem_lowest {a b : Int} (st : Sto) (h : 0 < b) (h2 : b < BIG) : F_lowest.sem [.int a, .int b] st = .ok (fr (low a b)) st := by
  have hg := gcd_pos_r (a := a) h
  have hle : Nat.gcd a.natAbs b.natAbs ≤ b.natAbs := Nat.gcd_le_right _ (by omega)
  have hd : divOK ((Nat.gcd a.natAbs b.natAbs : Nat) : Int) := divOK_B (by omega) (by omega)
  have h0 : ¬ b < 0 := by omega
  rw [ev_lowest]
  simp [b_lowest, h0, hd, fdiv_nn, low, sizeLine]
theorem sem_product (st : Sto) (p q : Int × Int) (h1 : 0 < p.2) (h2 : 0 < q.2) (g1 : ∀ z : D, guardO (mulOK p.1 q.1) z = some z) (g2 : ∀ z : D, guardO (mulOK p.2 q.2) z = some z) (hB : p.2 * q.2 < BIG) : F_product.sem [fr p, fr q] st = .ok (fr (timesF p q)) st := by
  have hl := sem_lowest (a := p.1 * q.1) (b := p.2 * q.2) st (Int.mul_pos h1 h2) hB
  rw [ev_product]
  simp [b_product, g1, g2, hl, timesF]
theorem sem_whole (st : Sto) (i : Int) : F_whole.sem [.int i] st = .ok (fr (i, 1)) st := by
  have z2 : (2 : Nat) ≤ sizeLine := by decide
  rw [ev_whole]
  simp [b_whole, z2]
theorem pre_range {n : Nat} {pre post : List Nat} {i : Nat} (e : List.range n = pre ++ i :: post) : i = pre.length ∧ pre.length < n := by
  have h1 := congrArg (fun l => l[pre.length]?) e
  have h2 := congrArg List.length e
  rw [List.length_range, List.length_append, List.length_cons] at h2
  simp only [List.getElem?_append_right (Nat.le_refl _), Nat.sub_self, List.getElem?_cons_zero] at h1
  rw [List.getElem?_range (by omega)] at h1
  exact ⟨(Option.some.inj h1).symm, by omega⟩
structure Stk (st : Sto) (k n : Nat) : Prop where
  e : ∃ a b c : Int, st[k]? = some [.int a, .int b, .int c] ∧ 0 ≤ a ∧ 0 ≤ b ∧ b < 10 ^ 25 ∧ 0 ≤ c ∧ c ≤ n
theorem Stk.mono {st : Sto} {k n m : Nat} (h : Stk st k n) (hm : n ≤ m) : Stk st k m := by
  obtain ⟨a, b, c, h1, h2, h3, h4, h5, h6⟩ := h.e
  exact ⟨a, b, c, h1, h2, h3, h4, h5, by omega⟩
theorem pw3 {x : Int} (h0 : 0 ≤ x) (h : x < 2 ^ 120) {j : Int} (hj : 0 ≤ j) (hj2 : j ≤ 3) {z : D} : guardO (pwOK x j) z = some z := by
  refine guardO_true (.inr ⟨hj, ?_⟩)
  have hl : x.natAbs.log2 < 120 := by
    by_cases h1 : x = 0
    · subst h1; decide
    · exact (Nat.log2_lt (by omega)).mpr (by omega)
  have : ((x.natAbs.log2 + 1 : Nat) : Int) * j ≤ 120 * 3 := Int.mul_le_mul (by omega) hj2 hj (by decide)
  omega
theorem dip_a (st : Sto) (k : Nat) (a b c many : Int) (h : st[k]? = some [.int a, .int b, .int c]) (ha : 0 < a) (hm : 0 < many) (hm2 : many < 2 ^ 64) :
    F_law_dip.sem [.ref k, .int many] st = .ok (.int (a % many)) (st.set k [.int (a / many), .int b, .int c]) := by
  have gd := gdiv (j := many) (z := D.int (a / many)) hm hm2
  have hm0 : many ≠ 0 := by omega
  have e1 : ∀ x y z w : D, setIxL [x, y, z] (.int 0) w = some [w, y, z] := fun _ _ _ _ => rfl
  rw [ev_law_dip]
  simp [b_law_dip, h, ha, hm0, fmod_nn (a := a) (b := many) (by omega), fdiv_nn (a := a) (b := many) (by omega), gd, chg, noL, e1]
theorem dip_b (st : Sto) (k : Nat) (a b c many : Int) (hk : k < st.length) (h : st[k]? = some [.int a, .int b, .int c]) (ha : ¬ 0 < a) (hb : 0 ≤ b) (hb2 : b < 10 ^ 25) (hc : 0 ≤ c) (hc2 : c < 10 ^ 7) (hm : 0 < many) (hm2 : many < 2 ^ 64) :
    ∃ r, F_law_dip.sem [.ref k, .int many] st = .ok (.int (r % many)) (st.set k [.int a, .int b, .int (c + 1)]) := by
  have e2 : ∀ x y z w : D, setIxL [x, y, z] (.int 2) w = some [x, y, w] := fun _ _ _ _ => rfl
  have h2 : (st.set k [.int a, .int b, .int (c + 1)])[k]? = some [.int a, .int b, .int (c + 1)] := by rw [List.getElem?_set_self hk]
  rw [ev_law_dip]
  have hm0 : many ≠ 0 := by omega
  have g1 : ∀ z : D, guardO (mulOK 1000003 (c + 1)) z = some z := fun z => guardO_true (mulOK_l (by decide) (by decide))
  have g2 : ∀ z : D, guardO (pwOK (b + 1000003 * (c + 1)) 3) z = some z := fun z => pw3 (by omega) (by omega) (by decide) (by decide)
  have g3 : ∀ z : D, guardO (pwOK 10 25) z = some z := fun z => guardO_true (.inl (by decide))
  have g3' : ∀ z : D, guardO (pwOK 10 24) z = some z := fun z => guardO_true (.inl (by decide))
  have g4 : ∀ z : D, guardO (mulOK 77347 (c + 1)) z = some z := fun z => guardO_true (mulOK_l (by decide) (by decide))
  have g6 : ∀ z : D, guardO (divOK 4096) z = some z := fun z => gdiv (by decide) (by decide)
  have f1 : ∀ x : Int, x.fmod many = x % many := fun x => fmod_nn (by omega)
  have hM : ∀ x : Int, 0 ≤ x.fmod 10000000000000000000000013 ∧ x.fmod 10000000000000000000000013 < 10000000000000000000000013 := fun x => by
    rw [fmod_nn (by decide)]
    exact ⟨Int.emod_nonneg _ (by decide), Int.emod_lt_of_pos _ (by decide)⟩
  have g7 : ∀ z : D, guardO (pwOK (((b + 1000003 * (c + 1)) ^ 3).fmod 10000000000000000000000013 + 77347 * (c + 1)) 2) z = some z := fun z => by
    have h1 := hM ((b + 1000003 * (c + 1)) ^ 3)
    generalize ((b + 1000003 * (c + 1)) ^ 3).fmod 10000000000000000000000013 = m at *
    exact pw3 (by omega) (by omega) (by decide) (by decide)
  simp [b_law_dip, h, ha, chg, noL, e2, h2, hm0, g1, g2, g3, g3', g4, g6, f1, g7]
  exact ⟨_, rfl⟩
theorem sem_dip (st : Sto) (k n : Nat) (many : Int) (h : Stk st k n) (hn : n < 10 ^ 6) (hm : 0 < many) (hm2 : many < 2 ^ 64) :
    ∃ r st', F_law_dip.sem [.ref k, .int many] st = .ok (.int r) st' ∧ 0 ≤ r ∧ r < many ∧ Stk st' k (n + 1) := by
  obtain ⟨a, b, c, h1, h2, h3, h4, h5, h6⟩ := h.e
  have hk : k < st.length := (List.getElem?_eq_some_iff.mp h1).1
  by_cases ha : 0 < a
  · refine ⟨a % many, _, dip_a st k a b c many h1 ha hm hm2, Int.emod_nonneg _ (by omega), Int.emod_lt_of_pos _ hm, ⟨a / many, b, c, ?_, Int.ediv_nonneg h2 (by omega), h3, h4, h5, by omega⟩⟩
    rw [List.getElem?_set_self hk]
  · obtain ⟨r, hr⟩ := dip_b st k a b c many hk h1 ha h3 h4 h5 (by omega) hm hm2
    refine ⟨r % many, _, hr, Int.emod_nonneg _ (by omega), Int.emod_lt_of_pos _ hm, ⟨a, b, c + 1, ?_, h2, h3, h4, by omega, by omega⟩⟩
    rw [List.getElem?_set_self hk]
theorem getI (ns : List Int) (k : Nat) (h : k < ns.length) : ixD (ilst ns) (k : Int) = some (.int (ns.getD k 0)) := by
  refine ixD_nat ?_
  unfold ilst
  rw [List.getElem?_map, List.getElem?_eq_getElem h]
  simp [List.getD, List.getElem?_eq_getElem h]
theorem wl_1a (st : Sto) (ns : List Int) (len spot cell : Int) (x : Option D) (hlen : biD st .len [.frz ns] = some (.int len)) (hl : spot < len) (hi : ixD (ns.map D.int) spot = some (.int cell)) :
    evS g_law_well t_law_well1 [some (.frz ns), some (.int spot), x] st = .nx [some (.frz ns), some (.int spot), some (.int cell)] st := by
  simp [t_law_well1, -biD_lenf, hlen, hl, hi]
theorem wl_p (st : Sto) (spot p : Int) (x y : Option D) (h : guardO (mulOK spot 7919) (D.int (spot * 7919)) = some (.int p)) :
    evE g_law_well (.bin .Mult (.var 1) (.int 7919)) [y, some (.int spot), x] st = .ok (.int p) st := by
  simp [h]
theorem wl_q (st : Sto) (len q : Int) (ns : List Int) (x y : Option D) (hlen : biD st .len [.frz ns] = some (.int len)) (h : guardO (mulOK len 104729) (D.int (len * 104729)) = some (.int q)) :
    evE g_law_well (.bin .Mult (.bi .len (.cons (.var 0) .nil)) (.int 104729)) [some (.frz ns), y, x] st = .ok (.int q) st := by
  simp [-biD_lenf, hlen, h]
theorem wl_c (st : Sto) (ns : List Int) (len spot : Int) (x : Option D) (hlen : biD st .len [.frz ns] = some (.int len)) :
    evE g_law_well (.cmp .Lt (.var 1) (.bi .len (.cons (.var 0) .nil))) [some (.frz ns), some (.int spot), x] st = .ok (.bl (decide (spot < len))) st := by
  simp [-biD_lenf, hlen]
theorem ev_add {g : GE} {a b : E} {env : WT.Env} {st st1 st2 : Sto} {x y : Int} (h1 : evE g a env st = .ok (.int x) st1) (h2 : evE g b env st1 = .ok (.int y) st2) : evE g (.bin .Add a b) env st = .ok (.int (x + y)) st2 := by
  rw [evE_bin, h1]
  show kBin g .Add b env (.int x) st1 = _
  rw [kBin_ap, h2]
  rfl
theorem ev_ifeF {g : GE} {c a b : E} {env : WT.Env} {st st1 : Sto} (h1 : evE g c env st = .ok (.bl false) st1) : evE g (.ife c a b) env st = evE g b env st1 := by
  rw [evE_ife, h1]
  simp
theorem wl_1b (st : Sto) (ns : List Int) (len spot p q : Int) (x : Option D) (hlen : biD st .len [.frz ns] = some (.int len)) (hl : ¬ spot < len) (h1 : guardO (mulOK spot 7919) (D.int (spot * 7919)) = some (.int p)) (h2 : guardO (mulOK len 104729) (D.int (len * 104729)) = some (.int q)) :
    evS g_law_well t_law_well1 [some (.frz ns), some (.int spot), x] st = .nx [some (.frz ns), some (.int spot), some (.int (p + q))] st := by
  have hc := wl_c st ns len spot x hlen
  rw [decide_eq_false hl] at hc
  rw [t_law_well1, evS_set, ev_ifeF hc, ev_add (wl_p st spot p x _ h1) (wl_q st len q ns x _ hlen h2)]
  rfl
theorem wl_2 (st : Sto) (a : Option D) (spot cell A B X p q m : Int) (hA : biD st .abs [.int cell] = some (.int A)) (hB : A - 1000000000000000000 = B) (hX : biD st .max2 [.int 0, .int B] = some (.int X)) (h1 : cell * 48611 = p) (h2 : spot * 6700417 = q) (h3 : (p + q + 31337).fmod 1000000000000000000000007 = m) :
    evS g_law_well t_law_well2 [a, some (.int spot), some (.int cell)] st = .rt (.lst [.int X, .int m, .int 0]) st := by
  have z3 : (3 : Nat) ≤ sizeLine := by decide
  have g3 : ∀ (i : Int) (z : D), guardO (mulOK i 48611) z = some z := fun i z => guardO_true (mulOK_r (by decide) (by decide))
  have g4 : ∀ (i : Int) (z : D), guardO (mulOK i 6700417) z = some z := fun i z => guardO_true (mulOK_r (by decide) (by decide))
  have g5 : ∀ z : D, guardO (pwOK 10 18) z = some z := fun z => guardO_true (.inl (by decide))
  have g6 : ∀ z : D, guardO (pwOK 10 24) z = some z := fun z => guardO_true (.inl (by decide))
  simp [t_law_well2, -biD_abs, -biD_max2, hA, hB, hX, g3, g4, g5, g6, z3, h1, h2, h3]
theorem well_core (st : Sto) (ns : List Int) (len spot cell A X : Int) (hlen : biD st .len [.frz ns] = some (.int len)) (hi : if spot < len then ixD (ns.map D.int) spot = some (.int cell) else cell = spot * 7919 + len * 104729) (hA : biD st .abs [.int cell] = some (.int A)) (hX : biD st .max2 [.int 0, .int (A - 1000000000000000000)] = some (.int X)) :
    F_law_well.sem [.frz ns, .int spot] st = .ok (.lst [.int X, .int ((cell * 48611 + spot * 6700417 + 31337).fmod 1000000000000000000000007), .int 0]) st := by
  rw [ev_law_well, bt_law_well]
  have e1 : evS g_law_well t_law_well1 [some (.frz ns), some (.int spot), none] st = .nx [some (.frz ns), some (.int spot), some (.int cell)] st := by
    by_cases hl : spot < len
    · rw [if_pos hl] at hi
      exact wl_1a st ns len spot cell _ hlen hl hi
    · rw [if_neg hl] at hi
      subst hi
      exact wl_1b st ns len spot _ _ _ hlen hl (guardO_true (mulOK_r (by decide) (by decide))) (guardO_true (mulOK_r (by decide) (by decide)))
  exact congrArg RS.fin (sq e1 (sqR (wl_2 st _ spot cell A _ X _ _ _ hA rfl hX rfl rfl rfl)))
theorem sem_law_well (st : Sto) (ns : List Int) (k : Nat) (hk : k < 1000) (hn : ns.length < 1000) : ∃ a b : Int, F_law_well.sem [.frz ns, .int k] st = .ok (.lst [.int a, .int b, .int 0]) st ∧ 0 ≤ a ∧ 0 ≤ b ∧ b < 10 ^ 25 := by
  have key : ∀ cell : Int, (if (k : Int) < ns.length then ixD (ns.map D.int) (k : Int) = some (.int cell) else cell = (k : Int) * 7919 + ns.length * 104729) → ∃ a b : Int, F_law_well.sem [.frz ns, .int k] st = .ok (.lst [.int a, .int b, .int 0]) st ∧ 0 ≤ a ∧ 0 ≤ b ∧ b < 10 ^ 25 := fun cell hi =>
    ⟨_, _, well_core st ns ns.length k cell _ _ (biD_lenf _ _) hi (biD_abs _ _) (biD_max2 _ _ _), by split <;> omega, by rw [fmod_nn (by decide)]; exact Int.emod_nonneg _ (by decide), by rw [fmod_nn (by decide)]; exact Int.lt_trans (Int.emod_lt_of_pos _ (by decide)) (by decide)⟩
  by_cases hl : k < ns.length
  · exact key (ns.getD k 0) (by rw [if_pos (by omega)]; exact getI ns k hl)
  · exact key _ (by rw [if_neg (by omega)])
theorem st_same_t (k : Nat) (xs : List D) (x : D) (i : Int) (x2 : Option D) (st : Sto) (hx : ixD xs i = some x) (h : s_law_same k [x, x] st = .ok (.bl true) st) :
    evSs (g_law_same k) l_law_same1 [some (.tup xs), some (.tup xs), x2, some (.int i)] st = .nx [some (.tup xs), some (.tup xs), x2, some (.int i)] st := by
  simp [l_law_same1, hx, h]
theorem st_same_l (k : Nat) (xs : List D) (x : D) (i : Int) (x2 : Option D) (st : Sto) (hx : ixD xs i = some x) (h : s_law_same k [x, x] st = .ok (.bl true) st) :
    evSs (g_law_same k) l_law_same1 [some (.lst xs), some (.lst xs), x2, some (.int i)] st = .nx [some (.lst xs), some (.lst xs), x2, some (.int i)] st := by
  simp [l_law_same1, hx, h]
theorem same_loop (k : Nat) (d : D) (xs : List D) (x2 : Option D) (st : Sto) (hd : ∀ (i : Nat) (x : D), xs[i]? = some x → evSs (g_law_same k) l_law_same1 [some d, some d, x2, some (.int (i : Int))] st = .nx [some d, some d, x2, some (.int (i : Int))] st) :
    ∃ y, forD (.name 3) (evSs (g_law_same k) l_law_same1) ((List.range xs.length).map fun (k : Nat) => D.int (k : Int)) [some d, some d, x2, none] st = .nx [some d, some d, x2, y] st := by
  refine forD_map (P := fun z => ∃ y, z = .nx [some d, some d, x2, y] st) (fun pre env st' => st' = st ∧ ∃ y, env = [some d, some d, x2, y]) ⟨rfl, none, rfl⟩ ?_ ?_
  · rintro pre i post env st' e ⟨rfl, y, rfl⟩
    obtain ⟨hi, hl⟩ := pre_range e
    exact ⟨_, bindTg_name _ _ _, stepN _ rfl (hd i (xs[i]'(by omega)) (List.getElem?_eq_getElem _)) ⟨rfl, _, rfl⟩⟩
  · rintro env st' ⟨rfl, y, rfl⟩
    exact ⟨y, rfl⟩
theorem sm_3t (k : Nat) (xs R : List D) (n : Int) (y : Option D) (st : Sto) (hn : biD st .len [.tup xs] = some (.int n)) (hr : rangeD 0 n 1 = some R) (hw : forD (.name 3) (evSs (g_law_same k) l_law_same1) R [some (.tup xs), some (.tup xs), some (.bl true), none] st = .nx [some (.tup xs), some (.tup xs), some (.bl true), y] st) :
    evS (g_law_same k) t_law_same3 [some (.tup xs), some (.tup xs), none, none] st = .rt (.bl true) st := by
  simp [t_law_same3, -biD_lent, hn, hr, hw]
theorem sm_3l (k : Nat) (xs R : List D) (n : Int) (y : Option D) (st : Sto) (hn : biD st .len [.lst xs] = some (.int n)) (hr : rangeD 0 n 1 = some R) (hw : forD (.name 3) (evSs (g_law_same k) l_law_same1) R [some (.lst xs), some (.lst xs), some (.bl true), none] st = .nx [some (.lst xs), some (.lst xs), some (.bl true), y] st) :
    evS (g_law_same k) t_law_same3 [some (.lst xs), some (.lst xs), none, none] st = .rt (.bl true) st := by
  simp [t_law_same3, -biD_lenl, hn, hr, hw]
theorem same_core_t (k : Nat) (xs R : List D) (y : Option D) (st : Sto) (hr : rangeD 0 (xs.length : Int) 1 = some R) (hw : forD (.name 3) (evSs (g_law_same k) l_law_same1) R [some (.tup xs), some (.tup xs), some (.bl true), none] st = .nx [some (.tup xs), some (.tup xs), some (.bl true), y] st) :
    s_law_same (k + 1) [.tup xs, .tup xs] st = .ok (.bl true) st := by
  have e1 : evS (g_law_same k) t_law_same1 [some (.tup xs), some (.tup xs), none, none] st = .nx [some (.tup xs), some (.tup xs), none, none] st := by simp [t_law_same1]
  have e2 : evS (g_law_same k) t_law_same2 [some (.tup xs), some (.tup xs), none, none] st = .nx [some (.tup xs), some (.tup xs), none, none] st := by simp [t_law_same2]
  rw [ev_law_same, bt_law_same]
  exact congrArg RS.fin (sq e1 (sq e2 (sqR (sm_3t k xs R _ y st (biD_lent _ _) hr hw))))
theorem same_core_l (k : Nat) (xs R : List D) (y : Option D) (st : Sto) (hr : rangeD 0 (xs.length : Int) 1 = some R) (hw : forD (.name 3) (evSs (g_law_same k) l_law_same1) R [some (.lst xs), some (.lst xs), some (.bl true), none] st = .nx [some (.lst xs), some (.lst xs), some (.bl true), y] st) :
    s_law_same (k + 1) [.lst xs, .lst xs] st = .ok (.bl true) st := by
  have e1 : evS (g_law_same k) t_law_same1 [some (.lst xs), some (.lst xs), none, none] st = .nx [some (.lst xs), some (.lst xs), none, none] st := by simp [t_law_same1]
  have e2 : evS (g_law_same k) t_law_same2 [some (.lst xs), some (.lst xs), none, none] st = .nx [some (.lst xs), some (.lst xs), none, none] st := by simp [t_law_same2]
  rw [ev_law_same, bt_law_same]
  exact congrArg RS.fin (sq e1 (sq e2 (sqR (sm_3l k xs R _ y st (biD_lenl _ _) hr hw))))
theorem sem_same : ∀ (n : Nat) (d : D), n ≤ 60 → alD n d = true → ∀ st, s_law_same (n + 1) [d, d] st = .ok (.bl true) st := by
  intro n
  induction n with
  | zero =>
    intro d _ h st
    have h64 : ∀ x, d = .str x → eqD (.str x) (.str x) = some true := fun x e => eqD_refl (by subst e; simpa [alD, okD] using h)
    rw [ev_law_same]
    cases d with
    | str x => simp [b_law_same, h64 x rfl]
    | _ => first | (simp [alD] at h; done) | simp [b_law_same]
  | succ n ih =>
    intro d hn h st
    have h64 : ∀ x, d = .str x → eqD (.str x) (.str x) = some true := fun x e => eqD_refl (by subst e; simpa [alD, okD] using h)
    have key : ∀ xs, alDs n xs = true → ∀ x ∈ xs, ∀ st, s_law_same (n + 1) [x, x] st = .ok (.bl true) st := by
      intro xs hx x hxm st
      rw [alDs_all, List.all_eq_true] at hx
      exact ih x (by omega) (hx x hxm) st
    cases d with
    | tup xs =>
      simp at h
      have hl : xs.length < 2 ^ 60 := Nat.lt_of_le_of_lt h.1 (by decide)
      obtain ⟨y, hw⟩ := same_loop (n + 1) (.tup xs) xs (some (.bl true)) st fun i x hx => st_same_t (n + 1) xs x i _ st (ixD_nat hx) (key xs h.2 x (List.mem_of_getElem? hx) st)
      exact same_core_t (n + 1) xs _ y st (rangeD_n _ (by omega)) hw
    | lst xs =>
      simp at h
      have hl : xs.length < 2 ^ 60 := Nat.lt_of_le_of_lt h.1 (by decide)
      obtain ⟨y, hw⟩ := same_loop (n + 1) (.lst xs) xs (some (.bl true)) st fun i x hx => st_same_l (n + 1) xs x i _ st (ixD_nat hx) (key xs h.2 x (List.mem_of_getElem? hx) st)
      exact same_core_l (n + 1) xs _ y st (rangeD_n _ (by omega)) hw
    | str x => rw [ev_law_same]; simp [b_law_same, h64 x rfl]
    | _ => first | (simp [alD] at h; done) | (rw [ev_law_same]; simp [b_law_same])
theorem sem_law_same {d : D} (h : alD 11 d = true) (st : Sto) : F_law_same.sem [d, d] st = .ok (.bl true) st := sem_same 11 d (by decide) h st
theorem ret_fin {g : GE} {e : E} {env : WT.Env} {st st' : Sto} {d : D} (h : evE g e env st = .ok d st') : (evSs g (.cons (.ret e) .nil) env st).fin = .ok d st' := by
  rw [evSs_cons, evS_ret, h]; rfl
theorem ct_core (st : Sto) (n : Int) (h : 1 ≤ n) : F_check_throws.sem [.int n] st = .ok .non st := by
  have h0 : ¬ n < 1 := by omega
  rw [ev_check_throws]
  simp [b_check_throws, sem_is_integer_int, h0]
theorem alD_fr (n : Nat) (q : Int × Int) : alD (n + 1) (fr q) = true := by
  show alD (n + 1) (.tup [.int q.1, .int q.2]) = true
  have z : (2 : Nat) ≤ sizeLine := by decide
  rw [alD_tup, alDs_cons, alD_int, alDs_cons, alD_int]
  simp [z]
theorem al2 (q : Int × Int) : alD 11 (.lst [fr q, fr q]) = true := by
  have h := alD_fr 9 q
  have z : (2 : Nat) ≤ sizeLine := by decide
  simp [h, z]
theorem al3 (q : Int × Int) : alD 11 (.lst [fr q, fr q, fr q]) = true := by
  have h := alD_fr 9 q
  have z : (3 : Nat) ≤ sizeLine := by decide
  simp [h, z]
end Lk35
end

section
set_option Elab.async false
set_option linter.all false
set_option maxRecDepth 100000
set_option autoImplicit false
namespace Lk35
open PySem WT
/-! ### powers -/
theorem st_lpow (x b : Int) (k : D) (y : Option D) (st : Sto) (g1 : guardO (mulOK x b) (D.int (x * b)) = some (.int (x * b))) : evSs g_law_power l_law_power1 [some (.int b), some k, some (.int x), y] st = .nx [some (.int b), some k, some (.int (x * b)), y] st := by
  simp [l_law_power1, g1]
theorem lpow_loop (st : Sto) (b : Int) (h1 : -2 ^ 64 < b) (h2 : b < 2 ^ 64) (n : Nat) (k : D) (y1 : Option D) : ∃ y, forD (.name 3) (evSs g_law_power l_law_power1) ((List.range n).map fun (k : Nat) => D.int (k : Int)) [some (.int b), some k, some (.int 1), y1] st = .nx [some (.int b), some k, some (.int (b ^ n)), y] st := by
  refine forD_map (P := fun z => ∃ y, z = .nx [some (.int b), some k, some (.int (b ^ n)), y] st) (fun pre env st' => st' = st ∧ ∃ y, env = [some (.int b), some k, some (.int (b ^ pre.length)), y]) ⟨rfl, y1, by rw [List.length_nil, Int.pow_zero]⟩ ?_ ?_
  · rintro pre i post env st' e ⟨rfl, y, rfl⟩
    rw [List.length_append, List.length_singleton]
    refine ⟨_, bindTg_name _ _ _, stepN _ rfl (st_lpow (b ^ pre.length) b k (some (.int i)) st' (guardO_true (mulOK_r h1 h2))) ⟨rfl, some (.int i), ?_⟩⟩
    rw [Int.pow_succ]
  · rintro env st' ⟨rfl, y, rfl⟩
    rw [List.length_range]; exact ⟨y, rfl⟩
theorem lpow_1 (st : Sto) (b k : D) (x2 x3 : Option D) : evS g_law_power t_law_power1 [some b, some k, x2, x3] st = .nx [some b, some k, some (.int 1), x3] st := by
  simp [t_law_power1]
theorem lpow_2 (st : Sto) (k : Int) (R : List D) (e : WT.Env) (x0 x2 x3 : Option D) (hr : rangeD 0 k 1 = some R) (hw : forD (.name 3) (evSs g_law_power l_law_power1) R [x0, some (.int k), x2, x3] st = .nx e st) : evS g_law_power t_law_power2 [x0, some (.int k), x2, x3] st = .nx e st := by
  simp [t_law_power2, hr, hw]
theorem lpow_3 (st : Sto) (d : D) (x0 x1 x3 : Option D) : evS g_law_power t_law_power3 [x0, x1, some d, x3] st = .rt d st := by
  simp [t_law_power3]
theorem sem_law_power (st : Sto) (b : Int) (h1 : -2 ^ 64 < b) (h2 : b < 2 ^ 64) (n : Nat) (hn : n < 2 ^ 60) : F_law_power.sem [.int b, .int n] st = .ok (.int (b ^ n)) st := by
  obtain ⟨y, hw⟩ := lpow_loop st b h1 h2 n (.int n) none
  rw [ev_law_power, bt_law_power]
  exact congrArg RS.fin (sq (lpow_1 st _ _ _ _) (sq (lpow_2 st n _ _ _ _ _ (rangeD_n n (by omega)) hw) (sqR (lpow_3 st _ _ _ _))))
theorem st_pow (x b : Int) (k : D) (y : Option D) (st : Sto) (g1 : guardO (mulOK x b) (D.int (x * b)) = some (.int (x * b))) : evSs g_power l_power1 [some (.int b), some k, some (.int x), y] st = .nx [some (.int b), some k, some (.int (x * b)), y] st := by
  simp [l_power1, g1]
theorem pow_loop (st : Sto) (b : Int) (h1 : -2 ^ 64 < b) (h2 : b < 2 ^ 64) (n : Nat) (k : D) (y1 : Option D) : ∃ y, forD (.name 3) (evSs g_power l_power1) ((List.range n).map fun (k : Nat) => D.int (k : Int)) [some (.int b), some k, some (.int 1), y1] st = .nx [some (.int b), some k, some (.int (b ^ n)), y] st := by
  refine forD_map (P := fun z => ∃ y, z = .nx [some (.int b), some k, some (.int (b ^ n)), y] st) (fun pre env st' => st' = st ∧ ∃ y, env = [some (.int b), some k, some (.int (b ^ pre.length)), y]) ⟨rfl, y1, by rw [List.length_nil, Int.pow_zero]⟩ ?_ ?_
  · rintro pre i post env st' e ⟨rfl, y, rfl⟩
    rw [List.length_append, List.length_singleton]
    refine ⟨_, bindTg_name _ _ _, stepN _ rfl (st_pow (b ^ pre.length) b k (some (.int i)) st' (guardO_true (mulOK_r h1 h2))) ⟨rfl, some (.int i), ?_⟩⟩
    rw [Int.pow_succ]
  · rintro env st' ⟨rfl, y, rfl⟩
    rw [List.length_range]; exact ⟨y, rfl⟩
theorem pow_1 (st : Sto) (b k : D) (x2 x3 : Option D) : evS g_power t_power1 [some b, some k, x2, x3] st = .nx [some b, some k, some (.int 1), x3] st := by
  simp [t_power1]
theorem pow_2 (st : Sto) (k : Int) (R : List D) (e : WT.Env) (x0 x2 x3 : Option D) (hr : rangeD 0 k 1 = some R) (hw : forD (.name 3) (evSs g_power l_power1) R [x0, some (.int k), x2, x3] st = .nx e st) : evS g_power t_power2 [x0, some (.int k), x2, x3] st = .nx e st := by
  simp [t_power2, hr, hw]
theorem pow_3 (st : Sto) (d : D) (x0 x1 x3 : Option D) : evS g_power t_power3 [x0, x1, some d, x3] st = .rt d st := by
  simp [t_power3]
theorem sem_power (st : Sto) (b : Int) (h1 : -2 ^ 64 < b) (h2 : b < 2 ^ 64) (n : Nat) (hn : n < 2 ^ 60) : F_power.sem [.int b, .int n] st = .ok (.int (b ^ n)) st := by
  obtain ⟨y, hw⟩ := pow_loop st b h1 h2 n (.int n) none
  rw [ev_power, bt_power]
  exact congrArg RS.fin (sq (pow_1 st _ _ _ _) (sq (pow_2 st n _ _ _ _ _ (rangeD_n n (by omega)) hw) (sqR (pow_3 st _ _ _ _))))
/-! ### rows -/
def tD (r : List Nat) : D := .tup (nl r)
def ext2 (r : List Nat) : List (List Nat) := [r ++ [0], r ++ [1]]
def rowsN : Nat → List (List Nat)
  | 0 => [[]]
  | k + 1 => (rowsN k).flatMap ext2
theorem ext_len : ∀ l : List (List Nat), (l.flatMap ext2).length = 2 * l.length
  | [] => rfl
  | r :: l => by rw [List.flatMap_cons, List.length_append, ext_len l, List.length_cons]; show 2 + 2 * l.length = _; omega
theorem rowsN_len (k : Nat) : (rowsN k).length = 2 ^ k := by
  induction k with
  | zero => rfl
  | succ k ih => show ((rowsN k).flatMap ext2).length = _; rw [ext_len, ih, Nat.pow_succ]; omega
theorem rowsN_mem : ∀ (k : Nat) (r : List Nat), r ∈ rowsN k → r.length = k
  | 0, r, h => by rw [List.mem_singleton.mp h]; rfl
  | k + 1, r, h => by
    obtain ⟨s, hs, h2⟩ := List.mem_flatMap.mp h
    have := rowsN_mem k s hs
    rcases List.mem_cons.mp h2 with rfl | h2
    · rw [List.length_append, this]; rfl
    · rw [List.mem_singleton.mp h2, List.length_append, this]; rfl
theorem flat_snoc (pre : List (List Nat)) (r : List Nat) : ((pre ++ [r]).flatMap ext2).map tD = (pre.flatMap ext2).map tD ++ [.tup (nl r ++ [.int 0]), .tup (nl r ++ [.int 1])] := by
  rw [List.flatMap_append, List.map_append]
  refine congrArg _ ?_
  show [tD (r ++ [0]), tD (r ++ [1])] = _
  unfold tD
  rw [nl_snoc, nl_snoc]
  rfl
theorem st_rows1 (x0 x1 x2 : Option D) (L R : List D) (st : Sto) (hL : L.length + 2 ≤ sizeLine) (hR : R.length + 1 ≤ sizeLine) :
    evSs g_law_rows l_law_rows1 [x0, x1, x2, some (.lst L), some (.tup R)] st = .nx [x0, x1, x2, some (.lst (L ++ [.tup (R ++ [.int 0]), .tup (R ++ [.int 1])])), some (.tup R)] st := by
  have z1 : (1 : Nat) ≤ sizeLine := by decide
  have z2 : (2 : Nat) ≤ sizeLine := by decide
  simp [l_law_rows1, hL, hR, z1, z2]
theorem rows_in (st : Sto) (l : List (List Nat)) (hl : l.length ≤ 2048) (hr : ∀ r ∈ l, r.length ≤ 1000) (x0 x1 x2 x4 : Option D) :
    ∃ y, forD (.name 4) (evSs g_law_rows l_law_rows1) (l.map tD) [x0, x1, x2, some (.lst []), x4] st = .nx [x0, x1, x2, some (.lst ((l.flatMap ext2).map tD)), y] st := by
  refine forD_map (P := fun z => ∃ y, z = .nx [x0, x1, x2, some (.lst ((l.flatMap ext2).map tD)), y] st)
    (fun pre env st' => st' = st ∧ ∃ y, env = [x0, x1, x2, some (.lst ((pre.flatMap ext2).map tD)), y]) ⟨rfl, x4, rfl⟩ ?_ ?_
  · rintro pre r post env st' e ⟨rfl, y, rfl⟩
    have h1 : pre.length < l.length := by rw [e]; simp
    have h2 := hr r (by rw [e]; simp)
    refine ⟨_, bindTg_name _ _ _, stepN _ rfl (st_rows1 x0 x1 x2 _ (nl r) st' (by rw [List.length_map, ext_len]; unfold sizeLine; omega) (by rw [nl_length]; unfold sizeLine; omega)) ⟨rfl, some (tD r), ?_⟩⟩
    rw [flat_snoc]
    rfl
  · rintro env st' ⟨rfl, y, rfl⟩
    exact ⟨y, rfl⟩
theorem rows_1 (st : Sto) (x0 x1 x2 x3 x4 : Option D) : evS g_law_rows tl_law_rows2_1 [x0, x1, x2, x3, x4] st = .nx [x0, x1, x2, some (.lst []), x4] st := by
  have z0 : (0 : Nat) ≤ sizeLine := by decide
  simp [tl_law_rows2_1, z0]
theorem rows_2 (st : Sto) (L : List D) (e : WT.Env) (x0 x2 x3 x4 : Option D) (hw : forD (.name 4) (evSs g_law_rows l_law_rows1) L [x0, some (.lst L), x2, x3, x4] st = .nx e st) : evS g_law_rows tl_law_rows2_2 [x0, some (.lst L), x2, x3, x4] st = .nx e st := by
  simp [tl_law_rows2_2, hw]
theorem rows_3 (st : Sto) (d : D) (x0 x1 x2 x4 : Option D) : evS g_law_rows tl_law_rows2_3 [x0, x1, x2, some d, x4] st = .nx [x0, some d, x2, some d, x4] st := by
  simp [tl_law_rows2_3]
theorem rows_loop (st : Sto) (n : Nat) (hn : n ≤ 12) (x0 x2 x3 x4 : Option D) :
    ∃ y2 y3 y4, forD (.name 2) (evSs g_law_rows l_law_rows2) ((List.range n).map fun (i : Nat) => D.int (i : Int)) [x0, some (.lst [.tup []]), x2, x3, x4] st = .nx [x0, some (.lst ((rowsN n).map tD)), y2, y3, y4] st := by
  refine forD_map (P := fun z => ∃ y2 y3 y4, z = .nx [x0, some (.lst ((rowsN n).map tD)), y2, y3, y4] st)
    (fun pre env st' => st' = st ∧ ∃ y2 y3 y4, env = [x0, some (.lst ((rowsN pre.length).map tD)), y2, y3, y4]) ⟨rfl, x2, x3, x4, rfl⟩ ?_ ?_
  · rintro pre i post env st' e ⟨rfl, y2, y3, y4, rfl⟩
    obtain ⟨hi, hl⟩ := pre_range e
    have h2 : 2 ^ pre.length ≤ 2 ^ 11 := Nat.pow_le_pow_right (by omega) (by omega)
    have h3 : (2 : Nat) ^ 11 = 2048 := rfl
    obtain ⟨y, w⟩ := rows_in st' (rowsN pre.length) (by rw [rowsN_len]; omega) (fun r hr => by have := rowsN_mem _ r hr; omega) x0 (some (.lst ((rowsN pre.length).map tD))) (some (.int (i : Int))) y4
    rw [List.length_append, List.length_singleton]
    exact ⟨_, bindTg_name _ _ _, stepN _ rfl (by rw [btl_law_rows2]; exact sq (rows_1 st' _ _ _ _ _) (sq (rows_2 st' _ _ _ _ _ _ w) (sq (rows_3 st' _ _ _ _ _) rfl))) ⟨rfl, _, _, _, rfl⟩⟩
  · rintro env st' ⟨rfl, y2, y3, y4, rfl⟩
    rw [List.length_range]
    exact ⟨y2, y3, y4, rfl⟩
theorem rw_1 (st : Sto) (n : D) (x1 x2 x3 x4 : Option D) : evS g_law_rows t_law_rows1 [some n, x1, x2, x3, x4] st = .nx [some n, some (.lst [.tup []]), x2, x3, x4] st := by
  have z0 : (0 : Nat) ≤ sizeLine := by decide
  have z1 : (1 : Nat) ≤ sizeLine := by decide
  simp [t_law_rows1, z0, z1]
theorem rw_2 (st : Sto) (n : Int) (R : List D) (e : WT.Env) (x1 x2 x3 x4 : Option D) (hr : rangeD 0 n 1 = some R) (hw : forD (.name 2) (evSs g_law_rows l_law_rows2) R [some (.int n), x1, x2, x3, x4] st = .nx e st) : evS g_law_rows t_law_rows2 [some (.int n), x1, x2, x3, x4] st = .nx e st := by
  simp [t_law_rows2, hr, hw]
theorem rw_3 (st : Sto) (d : D) (x0 x2 x3 x4 : Option D) : evS g_law_rows t_law_rows3 [x0, some d, x2, x3, x4] st = .rt d st := by
  simp [t_law_rows3]
theorem sem_law_rows (st : Sto) (n : Nat) (hn : n ≤ 12) : F_law_rows.sem [.int n] st = .ok (.lst ((rowsN n).map tD)) st := by
  obtain ⟨y2, y3, y4, hw⟩ := rows_loop st n hn (some (.int n)) none none none
  rw [ev_law_rows, bt_law_rows]
  exact congrArg RS.fin (sq (rw_1 st _ _ _ _ _) (sq (rw_2 st n _ _ _ _ _ _ (rangeD_n n (by omega)) hw) (sqR (rw_3 st _ _ _ _ _))))
end Lk35
end

section
set_option Elab.async false
set_option linter.all false
set_option maxRecDepth 100000
set_option autoImplicit false
namespace Lk35
open PySem WT
/-! ### the best outputs of m rows -/
def bitN (m k : Nat) : Nat := m / 2 ^ k % 2
def tos (m : Nat) : Nat → Nat
  | 0 => 0
  | L + 1 => tos m L + (if bitN m L = 1 then L * 2 ^ L else 0)
def lensum (F : List (List Nat)) : Nat := (F.map List.length).sum
theorem lensum_app (F G : List (List Nat)) : lensum (F ++ G) = lensum F + lensum G := by unfold lensum; rw [List.map_append, List.sum_append]
theorem lensum_const {k : Nat} : ∀ {F : List (List Nat)}, (∀ r ∈ F, r.length = k) → lensum F = F.length * k
  | [], _ => by show 0 = 0 * k; omega
  | r :: F, h => by
    have h1 := lensum_const (F := F) fun r hr => h r (by simp [hr])
    have h2 := h r (by simp)
    show r.length + lensum F = (F.length + 1) * k
    rw [h1, h2, Nat.add_mul]; omega
theorem lensum_rows (k : Nat) : lensum (rowsN k) = 2 ^ k * k := by rw [lensum_const (rowsN_mem k), rowsN_len]
/-- found, while all of bits from k on are done -/
structure Fd (m L k : Nat) (F : List (List Nat)) : Prop where
  l : F.length + m % 2 ^ k = m
  s : lensum F + tos m k = tos m L
theorem Fd.take {m L k : Nat} {F : List (List Nat)} (h : Fd m L (k + 1) F) (hb : bitN m k = 1) : Fd m L k (F ++ rowsN k) := by
  obtain ⟨h1, h2⟩ := h
  have e : m % 2 ^ (k + 1) = m % 2 ^ k + 2 ^ k * (m / 2 ^ k % 2) := Nat.mod_pow_succ
  have e2 : tos m (k + 1) = tos m k + k * 2 ^ k := by show tos m k + (if bitN m k = 1 then k * 2 ^ k else 0) = _; rw [if_pos hb]
  unfold bitN at hb
  rw [hb, Nat.mul_one] at e
  refine ⟨by rw [List.length_append, rowsN_len]; omega, ?_⟩
  rw [lensum_app, lensum_rows, Nat.mul_comm (2 ^ k) k]
  omega
theorem Fd.skip {m L k : Nat} {F : List (List Nat)} (h : Fd m L (k + 1) F) (hb : bitN m k ≠ 1) : Fd m L k F := by
  obtain ⟨h1, h2⟩ := h
  have e : m % 2 ^ (k + 1) = m % 2 ^ k + 2 ^ k * (m / 2 ^ k % 2) := Nat.mod_pow_succ
  have hb0 : m / 2 ^ k % 2 = 0 := by unfold bitN at hb; omega
  rw [hb0, Nat.mul_zero] at e
  have e2 : tos m (k + 1) = tos m k := by show tos m k + (if bitN m k = 1 then k * 2 ^ k else 0) = _; rw [if_neg hb]; rfl
  exact ⟨by omega, by omega⟩
theorem Fd.iff {m L k : Nat} {F : List (List Nat)} (h : Fd m L (k + 1) F) : 2 ^ k ≤ m - F.length ↔ bitN m k = 1 := by
  obtain ⟨h1, h2⟩ := h
  have e : m % 2 ^ (k + 1) = m % 2 ^ k + 2 ^ k * (m / 2 ^ k % 2) := Nat.mod_pow_succ
  have h3 : m % 2 ^ k < 2 ^ k := Nat.mod_lt _ (Nat.pow_pos (by omega))
  unfold bitN
  rcases Nat.mod_two_eq_zero_or_one (m / 2 ^ k) with h4 | h4
  · rw [h4, Nat.mul_zero] at e
    constructor <;> intro <;> omega
  · rw [h4, Nat.mul_one] at e
    constructor <;> intro <;> omega
theorem Fd.init {m L : Nat} (h : m < 2 ^ L) : Fd m L L [] := ⟨by rw [Nat.mod_eq_of_lt h]; simp, by show 0 + _ = _; omega⟩
/-! ### the walk -/
theorem bw1_c (st : Sto) (s m p : Int) (d : D) (x1 x2 x4 x5 x6 : Option D) (hm : biD st .len [d] = some (.int m)) (hp : 2 * s = p) : evC g_law_best w_law_best1 [some d, x1, x2, some (.int s), x4, x5, x6] st = .ok (decide (p ≤ m)) st := by
  have g1 : ∀ (i : Int) (z : D), guardO (mulOK 2 i) z = some z := fun i z => guardO_true (mulOK_l (by decide) (by decide))
  simp [evC_eq, w_law_best1, hm, g1, hp]
theorem bw1_s (st : Sto) (s p : Int) (x0 x1 x2 x4 x5 x6 : Option D) (hp : 2 * s = p) : evSs g_law_best l_law_best1 [x0, x1, x2, some (.int s), x4, x5, x6] st = .nx [x0, x1, x2, some (.int p), x4, x5, x6] st := by
  have g1 : ∀ (i : Int) (z : D), guardO (mulOK 2 i) z = some z := fun i z => guardO_true (mulOK_l (by decide) (by decide))
  simp [l_law_best1, g1, hp]
theorem p2_lt {a b : Nat} (h : a < b) : 2 ^ a < 2 ^ b := Nat.pow_lt_pow_right (by omega) h
theorem p2_le {a b : Nat} (h : a ≤ b) : 2 ^ a ≤ 2 ^ b := Nat.pow_le_pow_right (by omega) h
theorem best_size (st : Sto) (m : Nat) (hm : 0 < m) (d : D) (hd : biD st .len [d] = some (.int m)) (x1 x2 x4 x5 x6 : Option D) :
    whD (evC g_law_best w_law_best1) (evSs g_law_best l_law_best1) [some d, x1, x2, some (.int 1), x4, x5, x6] st = .nx [some d, x1, x2, some (.int ((2 ^ m.log2 : Nat) : Int)), x4, x5, x6] st := by
  have hlog : 2 ^ m.log2 ≤ m := Nat.log2_self_le (by omega)
  have hlog2 : m < 2 ^ (m.log2 + 1) := (Nat.log2_lt (by omega)).mp (by omega)
  refine whD_rule (P := fun r => r = .nx [some d, x1, x2, some (.int ((2 ^ m.log2 : Nat) : Int)), x4, x5, x6] st)
    (fun n env st' => st' = st ∧ ∃ i, i + n = m.log2 ∧ env = [some d, x1, x2, some (.int ((2 ^ i : Nat) : Int)), x4, x5, x6]) m.log2 ⟨rfl, 0, by omega, rfl⟩ ?_
  rintro n env st' ⟨rfl, i, hi, rfl⟩
  have hp : 2 * ((2 ^ i : Nat) : Int) = ((2 ^ (i + 1) : Nat) : Int) := by rw [Nat.pow_succ]; omega
  refine ⟨decide (((2 ^ (i + 1) : Nat) : Int) ≤ (m : Int)), st', bw1_c st' _ m _ d _ _ _ _ _ hd hp, ?_, ?_⟩
  · intro hk
    have hk : ¬ ((2 ^ (i + 1) : Nat) : Int) ≤ (m : Int) := by simpa using hk
    have : i = m.log2 := by
      refine Classical.byContradiction fun h => hk ?_
      have := p2_le (show i + 1 ≤ m.log2 by omega)
      omega
    subst this
    rfl
  · intro hk
    have hk : ((2 ^ (i + 1) : Nat) : Int) ≤ (m : Int) := by simpa using hk
    have : i < m.log2 := by
      refine Classical.byContradiction fun h => ?_
      have := p2_le (show m.log2 + 1 ≤ i + 1 by omega)
      omega
    exact stepN _ rfl (bw1_s st' _ _ _ _ _ _ _ _ hp) ⟨n - 1, by omega, rfl, i + 1, by omega, rfl⟩
theorem st_best2 (x0 x1 x2 x3 x4 : Option D) (L R : List D) (st : Sto) (hL : L.length + 2 ≤ sizeLine) (hR : R.length + 1 ≤ sizeLine) :
    evSs g_law_best l_law_best2 [x0, x1, x2, x3, x4, some (.lst L), some (.tup R)] st = .nx [x0, x1, x2, x3, x4, some (.lst (L ++ [.tup (R ++ [.int 0]), .tup (R ++ [.int 1])])), some (.tup R)] st := by
  have z1 : (1 : Nat) ≤ sizeLine := by decide
  have z2 : (2 : Nat) ≤ sizeLine := by decide
  simp [l_law_best2, hL, hR, z1, z2]
theorem best_in (st : Sto) (l : List (List Nat)) (hl : l.length ≤ 2048) (hr : ∀ r ∈ l, r.length ≤ 1000) (x0 x1 x2 x3 x4 x6 : Option D) :
    ∃ y, forD (.name 6) (evSs g_law_best l_law_best2) (l.map tD) [x0, x1, x2, x3, x4, some (.lst []), x6] st = .nx [x0, x1, x2, x3, x4, some (.lst ((l.flatMap ext2).map tD)), y] st := by
  refine forD_map (P := fun z => ∃ y, z = .nx [x0, x1, x2, x3, x4, some (.lst ((l.flatMap ext2).map tD)), y] st)
    (fun pre env st' => st' = st ∧ ∃ y, env = [x0, x1, x2, x3, x4, some (.lst ((pre.flatMap ext2).map tD)), y]) ⟨rfl, x6, rfl⟩ ?_ ?_
  · rintro pre r post env st' e ⟨rfl, y, rfl⟩
    have h1 : pre.length < l.length := by rw [e]; simp
    have h2 := hr r (by rw [e]; simp)
    refine ⟨_, bindTg_name _ _ _, stepN _ rfl (st_best2 x0 x1 x2 x3 x4 _ (nl r) st' (by rw [List.length_map, ext_len]; unfold sizeLine; omega) (by rw [nl_length]; unfold sizeLine; omega)) ⟨rfl, some (tD r), ?_⟩⟩
    rw [flat_snoc]
    rfl
  · rintro env st' ⟨rfl, y, rfl⟩
    exact ⟨y, rfl⟩
theorem bi_1 (st : Sto) (x0 x1 x2 x3 x4 x5 x6 : Option D) : evS g_law_best tl_law_best3_1 [x0, x1, x2, x3, x4, x5, x6] st = .nx [x0, x1, x2, x3, x4, some (.lst []), x6] st := by
  have z0 : (0 : Nat) ≤ sizeLine := by decide
  simp [tl_law_best3_1, z0]
theorem bi_2 (st : Sto) (L : List D) (e : WT.Env) (x0 x1 x2 x3 x5 x6 : Option D) (hw : forD (.name 6) (evSs g_law_best l_law_best2) L [x0, x1, x2, x3, some (.lst L), x5, x6] st = .nx e st) : evS g_law_best tl_law_best3_2 [x0, x1, x2, x3, some (.lst L), x5, x6] st = .nx e st := by
  simp [tl_law_best3_2, hw]
theorem bi_3 (st : Sto) (d : D) (x0 x1 x2 x3 x4 x6 : Option D) : evS g_law_best tl_law_best3_3 [x0, x1, x2, x3, x4, some d, x6] st = .nx [x0, x1, x2, x3, some d, some d, x6] st := by
  simp [tl_law_best3_3]
theorem bw2_c (st : Sto) (s m : Int) (d : D) (x0 x1 x2 x5 x6 : Option D) (hm : biD st .len [d] = some (.int m)) : evC g_law_best w_law_best2 [x0, x1, x2, some (.int s), some d, x5, x6] st = .ok (decide (m < s)) st := by
  simp [evC_eq, w_law_best2, hm]
theorem best_some (st : Sto) (k : Nat) (hk : k ≤ 11) (x0 x1 x2 x5 x6 : Option D) :
    ∃ y5 y6, whD (evC g_law_best w_law_best2) (evSs g_law_best l_law_best3) [x0, x1, x2, some (.int ((2 ^ k : Nat) : Int)), some (.lst [.tup []]), x5, x6] st = .nx [x0, x1, x2, some (.int ((2 ^ k : Nat) : Int)), some (.lst ((rowsN k).map tD)), y5, y6] st := by
  refine whD_rule (P := fun r => ∃ y5 y6, r = .nx [x0, x1, x2, some (.int ((2 ^ k : Nat) : Int)), some (.lst ((rowsN k).map tD)), y5, y6] st)
    (fun n env st' => st' = st ∧ ∃ i y5 y6, i + n = k ∧ env = [x0, x1, x2, some (.int ((2 ^ k : Nat) : Int)), some (.lst ((rowsN i).map tD)), y5, y6]) k ⟨rfl, 0, x5, x6, by omega, rfl⟩ ?_
  rintro n env st' ⟨rfl, i, y5, y6, hi, rfl⟩
  refine ⟨decide (((2 ^ i : Nat) : Int) < ((2 ^ k : Nat) : Int)), st', bw2_c st' _ _ _ _ _ _ _ _ (by rw [biD_lenl, List.length_map, rowsN_len]), ?_, ?_⟩
  · intro hc
    have hc : ¬ ((2 ^ i : Nat) : Int) < ((2 ^ k : Nat) : Int) := by simpa using hc
    have : i = k := by
      refine Classical.byContradiction fun h => hc ?_
      have := p2_lt (show i < k by omega)
      omega
    subst this
    exact ⟨y5, y6, rfl⟩
  · intro hc
    have hc : ((2 ^ i : Nat) : Int) < ((2 ^ k : Nat) : Int) := by simpa using hc
    have hik : i < k := by
      refine Classical.byContradiction fun h => ?_
      have := p2_le (show k ≤ i by omega)
      omega
    have h2 : 2 ^ i ≤ 2 ^ 11 := p2_le (by omega)
    have h3 : (2 : Nat) ^ 11 = 2048 := rfl
    obtain ⟨y, w⟩ := best_in st' (rowsN i) (by rw [rowsN_len]; omega) (fun r hr => by have := rowsN_mem _ r hr; omega) x0 x1 x2 (some (.int ((2 ^ k : Nat) : Int))) (some (.lst ((rowsN i).map tD))) y6
    exact stepN _ rfl (by rw [btl_law_best3]; exact sq (bi_1 st' _ _ _ _ _ _ _) (sq (bi_2 st' _ _ _ _ _ _ _ _ w) (sq (bi_3 st' _ _ _ _ _ _ _) rfl))) ⟨n - 1, by omega, rfl, i + 1, _, _, by omega, rfl⟩
theorem bt_skip (st : Sto) (m f s : Int) (R F : D) (x1 x4 x5 x6 : Option D) (hR : biD st .len [R] = some (.int m)) (hF : biD st .len [F] = some (.int f)) (hc : ¬ s ≤ m - f) : evS g_law_best tl_law_best4_1 [some R, x1, some F, some (.int s), x4, x5, x6] st = .nx [some R, x1, some F, some (.int s), x4, x5, x6] st := by
  simp [tl_law_best4_1, hR, hF, hc]
theorem bt_in (st : Sto) (F S : List D) (x0 x1 s x4 x5 x6 y5 y6 : Option D) (hw : whD (evC g_law_best w_law_best2) (evSs g_law_best l_law_best3) [x0, x1, some (.lst F), s, some (.lst [.tup []]), x5, x6] st = .nx [x0, x1, some (.lst F), s, some (.lst S), y5, y6] st) (hz : F.length + S.length ≤ sizeLine) :
    evSs g_law_best (.cons (.set 4 .pln (.lst (.cons (.tup .nil) .nil))) (.cons (.whl w_law_best2 l_law_best3) (.cons (.set 2 .pln (.bin .Add (.var 2) (.var 4))) .nil))) [x0, x1, some (.lst F), s, x4, x5, x6] st = .nx [x0, x1, some (.lst (F ++ S)), s, some (.lst S), y5, y6] st := by
  have z0 : (0 : Nat) ≤ sizeLine := by decide
  have z1 : (1 : Nat) ≤ sizeLine := by decide
  simp [z0, z1, hw, hz]
theorem bt_c (st : Sto) (m f s : Int) (R F : D) (x1 x4 x5 x6 : Option D) (hR : biD st .len [R] = some (.int m)) (hF : biD st .len [F] = some (.int f)) (hc : s ≤ m - f) : evC g_law_best (.cmp .GtE (.bin .Sub (.bi .len (.cons (.var 0) .nil)) (.bi .len (.cons (.var 2) .nil))) (.var 3)) [some R, x1, some F, some (.int s), x4, x5, x6] st = .ok true st := by
  simp [evC_eq, hR, hF, hc]
theorem bt_2 (st : Sto) (s q t : Int) (x0 x1 x2 x4 x5 x6 : Option D) (hq : s.fdiv 2 = q) (g : guardO (divOK 2) (D.int q) = some (.int q)) (ht : biD st .max2 [.int 1, .int q] = some (.int t)) : evS g_law_best tl_law_best4_2 [x0, x1, x2, some (.int s), x4, x5, x6] st = .nx [x0, x1, x2, some (.int t), x4, x5, x6] st := by
  simp [tl_law_best4_2, hq, g, -biD_max2, ht]
end Lk35
end

section
set_option Elab.async false
set_option linter.all false
set_option maxRecDepth 100000
set_option autoImplicit false
namespace Lk35
open PySem WT
theorem sem_sum_of_two (st : Sto) (p q : Int × Int) (h1 : 0 < p.2) (h2 : 0 < q.2) (g1 : ∀ z : D, guardO (mulOK p.1 q.2) z = some z) (g2 : ∀ z : D, guardO (mulOK q.1 p.2) z = some z) (g3 : ∀ z : D, guardO (mulOK p.2 q.2) z = some z) (hB : p.2 * q.2 < BIG) : F_sum_of_two.sem [fr p, fr q] st = .ok (fr (plusF p q)) st := by
  have hl := sem_lowest (a := p.1 * q.2 + q.1 * p.2) (b := p.2 * q.2) st (Int.mul_pos h1 h2) hB
  rw [ev_sum_of_two]
  simp [b_sum_of_two, g1, g2, g3, hl, plusF]
theorem st_sall (a : Option D) (p q r : Int × Int) (st : Sto) (h : F_sum_of_two.sem [fr p, fr q] st = .ok (fr r) st) : evSs g_sum_of_all l_sum_of_all1 [a, some (fr p), some (fr q)] st = .nx [a, some (fr r), some (fr q)] st := by
  simp [l_sum_of_all1, h]
theorem sall_core (st : Sto) (xs : List D) (r : D) (y : Option D) (hw : forD (.name 2) (evSs g_sum_of_all l_sum_of_all1) xs [some (.lst xs), some (fr (0, 1)), none] st = .nx [some (.lst xs), some r, y] st) : F_sum_of_all.sem [.lst xs] st = .ok r st := by
  have e1 : (g_sum_of_all.cons[0]?).map (·.2) = some (fr (0, 1)) := rfl
  rw [ev_sum_of_all]
  simp [b_sum_of_all, e1, hw]
theorem sem_sum_of_all (st : Sto) (n : Nat) (f T : Nat → Int × Int) (h0 : T 0 = (0, 1)) (hs : ∀ i < n, F_sum_of_two.sem [fr (T i), fr (f i)] st = .ok (fr (T (i + 1))) st) : F_sum_of_all.sem [.lst ((List.range n).map fun i => fr (f i))] st = .ok (fr (T n)) st := by
  obtain ⟨y, hw⟩ : ∃ y, forD (.name 2) (evSs g_sum_of_all l_sum_of_all1) ((List.range n).map fun i => fr (f i)) [some (.lst ((List.range n).map fun i => fr (f i))), some (fr (0, 1)), none] st = .nx [some (.lst ((List.range n).map fun i => fr (f i))), some (fr (T n)), y] st := by
    generalize D.lst ((List.range n).map fun i => fr (f i)) = a
    refine forD_map (P := fun z => ∃ y, z = .nx [some a, some (fr (T n)), y] st) (fun pre env st' => st' = st ∧ ∃ y, env = [some a, some (fr (T pre.length)), y]) ⟨rfl, none, by rw [List.length_nil, h0]⟩ ?_ ?_
    · rintro pre i post env st' e ⟨rfl, y, rfl⟩
      obtain ⟨rfl, hpre⟩ := pre_range e
      rw [List.length_append, List.length_singleton]
      exact ⟨_, bindTg_name _ _ _, stepN _ rfl (st_sall (some a) _ _ _ st' (hs _ hpre)) ⟨rfl, _, rfl⟩⟩
    · rintro env st' ⟨rfl, y, rfl⟩
      rw [List.length_range]; exact ⟨y, rfl⟩
  exact sall_core st _ _ y hw
theorem sum2 (st : Sto) {x y : Rat} (hx : Bd x) (hy : Bd y) : F_sum_of_two.sem [fr (pr x), fr (pr y)] st = .ok (fr (pr (x + y))) st := by
  rw [← plusF_pr]
  exact sem_sum_of_two st _ _ (pr_lw x).1 (pr_lw y).1 (hx.m12 hy) (hy.m12 hx) (hx.m22 hy) (hx.d22 hy)
theorem prod2 (st : Sto) {x y : Rat} (hx : Bd x) (hy : Bd y) : F_product.sem [fr (pr x), fr (pr y)] st = .ok (fr (pr (x * y))) st := by
  rw [← timesF_pr]
  exact sem_product st _ _ (pr_lw x).1 (pr_lw y).1 (hx.m11 hy) (hx.m22 hy) (hx.d22 hy)
theorem lowest2 (st : Sto) {a b : Int} (hb : 0 < b) (hB : b < BIG) : F_lowest.sem [.int a, .int b] st = .ok (fr (pr ((a : Rat) / (b : Rat)))) st := by
  rw [← low_pr hb]
  exact sem_lowest st hb hB
def rsum (xs : List Rat) : Rat := xs.foldl (· + ·) 0
theorem rsum_snoc (xs : List Rat) (x : Rat) : rsum (xs ++ [x]) = rsum xs + x := by simp [rsum, List.foldl_append]
theorem rsum_nil : rsum [] = 0 := rfl
theorem rsum_in {xs : List Rat} {d : Int} {M : Nat} (h : ∀ x ∈ xs, InD d x ∧ 0 ≤ x ∧ x ≤ cR M) : InD d (rsum xs) ∧ 0 ≤ rsum xs ∧ rsum xs ≤ cR (M * xs.length) := by
  revert h
  refine snoc_cases (fun xs => (∀ x ∈ xs, InD d x ∧ 0 ≤ x ∧ x ≤ cR M) → InD d (rsum xs) ∧ 0 ≤ rsum xs ∧ rsum xs ≤ cR (M * xs.length)) ?_ ?_ xs
  · intro _
    rw [rsum_nil]
    exact ⟨InD.zero _, by decide, cR_nn _⟩
  · intro l x ih h
    obtain ⟨h1, h2, h3⟩ := ih fun y hy => h y (by simp [hy])
    obtain ⟨k1, k2, k3⟩ := h x (by simp)
    rw [rsum_snoc, List.length_append, List.length_singleton, Nat.mul_add, Nat.mul_one, cR_add]
    exact ⟨h1.add k1, by grind, by grind⟩
theorem rsum_range (f T : Nat → Rat) (h0 : T 0 = 0) (hs : ∀ i, T (i + 1) = T i + f i) : ∀ n, rsum ((List.range n).map f) = T n
  | 0 => h0.symm
  | n + 1 => by rw [List.range_succ, List.map_append, List.map_cons, List.map_nil, rsum_snoc, rsum_range f T h0 hs n, hs]
theorem getDg {xs : List Rat} {i : Nat} (h : i < xs.length) : xs.getD i 0 = xs[i] := by simp [List.getD, List.getElem?_eq_getElem h]
theorem sum_list (st : Sto) (xs : List Rat) {d : Int} {M e f : Nat} (hd : 0 < d) (h : ∀ x ∈ xs, InD d x ∧ 0 ≤ x ∧ x ≤ cR M) (h2 : d ≤ ((2 ^ e : Nat) : Int)) (h3 : M * xs.length + M + 1 ≤ 2 ^ f) (hf : e + f < 4400) : F_sum_of_all.sem [.lst (xs.map fun x => fr (pr x))] st = .ok (fr (pr (rsum xs))) st := by
  have key := sem_sum_of_all st xs.length (fun i => pr (xs.getD i 0)) (fun i => pr (rsum (xs.take i))) (by show pr (rsum (xs.take 0)) = (0, 1); rw [List.take_zero]; rfl) fun i hi => by
    have hx : xs.getD i 0 ∈ xs := by rw [getDg hi]; exact List.getElem_mem hi
    obtain ⟨a1, a2, a3⟩ := rsum_in (xs := xs.take i) (d := d) (M := M) fun x hx => h x (List.mem_of_mem_take hx)
    obtain ⟨b1, b2, b3⟩ := h _ hx
    have hlen : (xs.take i).length ≤ xs.length := by rw [List.length_take]; omega
    have hM : M * (xs.take i).length ≤ M * xs.length := Nat.mul_le_mul_left _ hlen
    have e1 : rsum (xs.take (i + 1)) = rsum (xs.take i) + xs.getD i 0 := by
      rw [List.take_succ_eq_append_getElem hi, rsum_snoc, getDg hi]
    have := sum2 st (a1.bdN (M := M * xs.length + M + 1) hd a2 (Rat.le_trans a3 (cR_le (by omega))) (by omega) h2 h3 hf) (b1.bdN (M := M * xs.length + M + 1) hd b2 (Rat.le_trans b3 (cR_le (by omega))) (by omega) h2 h3 hf)
    rw [← e1] at this
    exact this
  have e2 : ((List.range xs.length).map fun i => fr (pr (xs.getD i 0))) = xs.map fun x => fr (pr x) := by
    refine List.ext_getElem? fun i => ?_
    rw [List.getElem?_map, List.getElem?_map]
    by_cases hi : i < xs.length
    · rw [List.getElem?_range hi, List.getElem?_eq_getElem hi]
      show some (fr (pr (xs.getD i 0))) = _
      rw [getDg hi]; rfl
    · rw [List.getElem?_eq_none (by simp; omega), List.getElem?_eq_none (by omega)]; rfl
  rw [e2, List.take_length] at key
  exact key
end Lk35
end

section
set_option Elab.async false
set_option linter.all false
set_option maxRecDepth 100000
set_option autoImplicit false
namespace Lk35
open PySem WT
theorem sum_cast : ∀ ws : List Nat, (ws.map fun (n : Nat) => (n : Int)).sum = ((ws.sum : Nat) : Int)
  | [] => rfl
  | w :: ws => by rw [List.map_cons, List.sum_cons, List.sum_cons, sum_cast ws, Int.natCast_add]
theorem sum_nl (ws : List Nat) (st : Sto) : biD st .sum [.lst (nl ws)] = some (.int ((ws.sum : Nat) : Int)) := by
  show ((seqOf (.lst (nl ws))).bind intsD).map (fun ns => D.int ns.sum) = _
  show (intsD (nl ws)).map (fun ns => D.int ns.sum) = _
  rw [nl_ilst, intsD_ints]
  show some (D.int (ws.map fun (n : Nat) => (n : Int)).sum) = _
  rw [sum_cast]
theorem sum_nlt (ws : List Nat) (st : Sto) : biD st .sum [.tup (nl ws)] = some (.int ((ws.sum : Nat) : Int)) := by
  show ((seqOf (.tup (nl ws))).bind intsD).map (fun ns => D.int ns.sum) = _
  show (intsD (nl ws)).map (fun ns => D.int ns.sum) = _
  rw [nl_ilst, intsD_ints]
  show some (D.int (ws.map fun (n : Nat) => (n : Int)).sum) = _
  rw [sum_cast]
theorem setIxL_nat {xs : List D} {k : Nat} (h : k < xs.length) (d : D) : setIxL xs (.int (k : Int)) d = some (xs.set k d) := by
  unfold setIxL
  simp only [L2.ixN]
  rw [if_pos (by omega), if_pos (by omega)]
  simp
/-! ### best outputs, joined -/
theorem best_turn (st : Sto) (m L k : Nat) (hk : k ≤ 11) (hm : m ≤ 1000) (R : D) (hR : ∀ st, biD st .len [R] = some (.int m)) (F : List (List Nat)) (hF : Fd m L (k + 1) F) (x1 x4 x5 x6 : Option D) :
    ∃ F' y4 y5 y6, Fd m L k F' ∧ evSs g_law_best l_law_best4 [some R, x1, some (.lst (F.map tD)), some (.int ((2 ^ k : Nat) : Int)), x4, x5, x6] st = .nx [some R, x1, some (.lst (F'.map tD)), some (.int ((2 ^ (k - 1) : Nat) : Int)), y4, y5, y6] st := by
  have hi := hF.iff
  have hl := hF.l
  have hlF : biD st .len [.lst (F.map tD)] = some (.int (F.length : Nat)) := by rw [biD_lenl, List.length_map]
  have h2 : ∀ x4 x5 x6 : Option D, ∀ F2 : Option D, evS g_law_best tl_law_best4_2 [some R, x1, F2, some (.int ((2 ^ k : Nat) : Int)), x4, x5, x6] st = .nx [some R, x1, F2, some (.int ((2 ^ (k - 1) : Nat) : Int)), x4, x5, x6] st := fun x4 x5 x6 F2 => by
    refine bt_2 st _ ((2 ^ k / 2 : Nat) : Int) _ _ _ _ _ _ _ ?_ (gdiv (by decide) (by decide)) ?_
    · rw [fdiv_nn (by decide)]; omega
    · rw [biD_max2]
      cases k with
      | zero => rfl
      | succ k =>
        have e : 2 ^ (k + 1) / 2 = 2 ^ k := by rw [Nat.pow_succ]; omega
        have h0 : 0 < 2 ^ k := Nat.pow_pos (by omega)
        rw [e, Nat.add_sub_cancel]
        by_cases hc : 2 ^ k = 1
        · rw [hc]; rfl
        · rw [if_pos (by omega)]
  by_cases hb : bitN m k = 1
  · have hc := hi.mpr hb
    obtain ⟨y5, y6, w⟩ := best_some st k hk (some R) x1 (some (.lst (F.map tD))) x5 x6
    have hz : (F.map tD).length + ((rowsN k).map tD).length ≤ sizeLine := by
      have := (hF.take hb).l
      rw [List.length_append] at this
      rw [List.length_map, List.length_map]; unfold sizeLine; omega
    have h1 : evS g_law_best tl_law_best4_1 [some R, x1, some (.lst (F.map tD)), some (.int ((2 ^ k : Nat) : Int)), x4, x5, x6] st = .nx [some R, x1, some (.lst (F.map tD ++ (rowsN k).map tD)), some (.int ((2 ^ k : Nat) : Int)), some (.lst ((rowsN k).map tD)), y5, y6] st := by
      have e := bt_c st m F.length ((2 ^ k : Nat) : Int) R (.lst (F.map tD)) x1 x4 x5 x6 (hR st) hlF (by omega)
      unfold evC at e
      rw [tl_law_best4_1, evS_ite]
      have e' : (evE g_law_best (.cmp .GtE (.bin .Sub (.bi .len (.cons (.var 0) .nil)) (.bi .len (.cons (.var 2) .nil))) (.var 3)) [some R, x1, some (.lst (F.map tD)), some (.int ((2 ^ k : Nat) : Int)), x4, x5, x6] st).bind kTru = .ok true st := e
      rw [e']
      exact bt_in st _ _ _ _ _ _ _ _ _ _ w hz
    refine ⟨F ++ rowsN k, some (.lst ((rowsN k).map tD)), y5, y6, hF.take hb, ?_⟩
    rw [btl_law_best4, List.map_append]
    exact sq h1 (sq (h2 _ _ _ _) rfl)
  · refine ⟨F, x4, x5, x6, hF.skip hb, ?_⟩
    rw [btl_law_best4]
    exact sq (bt_skip st m F.length _ R _ _ _ _ _ (hR st) hlF (by have := mt hi.mp hb; omega)) (sq (h2 _ _ _ _) rfl)
theorem best_loop (st : Sto) (m L : Nat) (hL : L ≤ 11) (h0 : 0 < L) (hm : m < 2 ^ L) (hm2 : m ≤ 1000) (R : D) (hR : ∀ st, biD st .len [R] = some (.int m)) (x1 x4 x5 x6 : Option D) :
    ∃ F y1 y3 y4 y5 y6, lensum F = tos m L ∧ F.length = m ∧ forD (.name 1) (evSs g_law_best l_law_best4) ((List.range L).map fun (i : Nat) => D.int (i : Int)) [some R, x1, some (.lst []), some (.int ((2 ^ (L - 1) : Nat) : Int)), x4, x5, x6] st = .nx [some R, y1, some (.lst (F.map tD)), y3, y4, y5, y6] st := by
  refine forD_map (P := fun z => ∃ F y1 y3 y4 y5 y6, lensum F = tos m L ∧ F.length = m ∧ z = .nx [some R, y1, some (.lst (F.map tD)), y3, y4, y5, y6] st)
    (fun pre env st' => st' = st ∧ ∃ F y1 y4 y5 y6, Fd m L (L - pre.length) F ∧ env = [some R, y1, some (.lst (F.map tD)), some (.int ((2 ^ (L - pre.length - 1) : Nat) : Int)), y4, y5, y6]) ⟨rfl, [], x1, x4, x5, x6, Fd.init hm, rfl⟩ ?_ ?_
  · rintro pre i post env st' e ⟨rfl, F, y1, y4, y5, y6, hF, rfl⟩
    obtain ⟨hi, hl⟩ := pre_range e
    obtain ⟨k, hk⟩ : ∃ k, L - pre.length = k + 1 := ⟨L - pre.length - 1, by omega⟩
    rw [hk] at hF
    obtain ⟨F', z4, z5, z6, hF', w⟩ := best_turn st' m L k (by omega) hm2 R hR F hF (some (.int (i : Int))) y4 y5 y6
    rw [List.length_append, List.length_singleton]
    refine ⟨_, bindTg_name _ _ _, stepN _ (by rw [hk, Nat.add_sub_cancel]; rfl) w ⟨rfl, F', some (.int (i : Int)), z4, z5, z6, ?_, ?_⟩⟩
    · rw [show L - (pre.length + 1) = k by omega]; exact hF'
    · rw [show L - (pre.length + 1) - 1 = k - 1 by omega]
  · rintro env st' ⟨rfl, F, y1, y4, y5, y6, hF, rfl⟩
    rw [List.length_range, Nat.sub_self] at hF
    obtain ⟨h1, h2⟩ := hF
    refine ⟨F, y1, some (.int ((2 ^ (L - (List.range L).length - 1) : Nat) : Int)), y4, y5, y6, ?_, ?_, rfl⟩
    · have : tos m 0 = 0 := rfl
      omega
    · have : m % 2 ^ 0 = 0 := Nat.mod_one m
      omega
theorem be_1 (st : Sto) (r : D) (x1 x2 x3 x4 x5 x6 : Option D) : evS g_law_best t_law_best1 [some r, x1, x2, x3, x4, x5, x6] st = .nx [some r, x1, some (.lst []), some (.int 1), x4, x5, x6] st := by
  have z0 : (0 : Nat) ≤ sizeLine := by decide
  simp [t_law_best1, z0]
theorem be_2 (st : Sto) (e e' : WT.Env) (hw : whD (evC g_law_best w_law_best1) (evSs g_law_best l_law_best1) e st = .nx e' st) : evS g_law_best t_law_best2 e st = .nx e' st := by
  simp [t_law_best2, hw]
theorem be_3 (st : Sto) (r : D) (m L : Int) (R : List D) (e : WT.Env) (x1 x2 x3 x4 x5 x6 : Option D) (hr : biD st .len [r] = some (.int m)) (hb : op1D .bits (.int m) = some (.int L)) (hR : rangeD 0 L 1 = some R) (hw : forD (.name 1) (evSs g_law_best l_law_best4) R [some r, x1, x2, x3, x4, x5, x6] st = .nx e st) : evS g_law_best t_law_best3 [some r, x1, x2, x3, x4, x5, x6] st = .nx e st := by
  simp [t_law_best3, hr, -op1D_bits, hb, hR, hw]
theorem be_4 (st : Sto) (d : D) (x0 x1 x3 x4 x5 x6 : Option D) : evS g_law_best t_law_best4 [x0, x1, some d, x3, x4, x5, x6] st = .rt d st := by
  simp [t_law_best4]
theorem bits_nat {m : Nat} (h : 0 < m) : Builtin.Int.intBits (m : Int) = m.log2 + 1 := by
  unfold Builtin.Int.intBits
  rw [if_neg (by simp; omega)]
  simp
/-- how many tosses the best outputs of m rows have -/
def tosN (m : Nat) : Nat := tos m (m.log2 + 1)
theorem log_le {m : Nat} (h : 0 < m) (h2 : m ≤ 1000) : m.log2 ≤ 9 := by
  have := (Nat.log2_lt (n := m) (k := 10) (by omega)).mpr (by have : (2 : Nat) ^ 10 = 1024 := rfl; omega)
  omega
theorem sem_law_best (st : Sto) (m : Nat) (h : 0 < m) (hm : m ≤ 1000) (R : D) (hR : ∀ st, biD st .len [R] = some (.int m)) : ∃ F : List (List Nat), lensum F = tosN m ∧ F.length = m ∧ F_law_best.sem [R] st = .ok (.lst (F.map tD)) st := by
  have hlog2 : m < 2 ^ (m.log2 + 1) := (Nat.log2_lt (by omega)).mp (by omega)
  have hl := log_le h hm
  have w1 := best_size st m h R (hR st) none (some (.lst [])) none none none
  obtain ⟨F, y1, y3, y4, y5, y6, hF, hF2, w2⟩ := best_loop st m (m.log2 + 1) (by omega) (by omega) hlog2 hm R hR none none none none
  refine ⟨F, hF, hF2, ?_⟩
  rw [ev_law_best, bt_law_best]
  exact congrArg RS.fin (sq (be_1 st _ _ _ _ _ _ _) (sq (be_2 st _ _ w1) (sq (be_3 st R m ((m.log2 + 1 : Nat) : Int) _ _ _ _ _ _ _ _ (hR st) (by rw [op1D_bits, bits_nat h]) (rangeD_n _ (by omega)) w2) (sqR (be_4 st _ _ _ _ _ _ _)))))
end Lk35
end

section
set_option Elab.async false
set_option linter.all false
set_option maxRecDepth 100000
set_option autoImplicit false
namespace Lk35
open PySem WT
theorem B_of {a : Nat} (h : a < 2 ^ 8999) : (a : Int) < BIG := by unfold BIG; omega
theorem B_lt {u : Nat} (h : u ≤ 8000) {x : Nat} (hx : x < 2 ^ u) : (x : Int) < BIG := B_of (Nat.lt_of_lt_of_le hx (p2_le (by omega)))
theorem mulN {x y : Nat} {u v : Nat} (hx : x < 2 ^ u) (hy : y < 2 ^ v) : x * y < 2 ^ (u + v) := by
  rw [Nat.pow_add]
  exact Nat.mul_lt_mul'' hx hy
theorem mulG {x y : Nat} {u v : Nat} (hx : x < 2 ^ u) (hy : y < 2 ^ v) (h1 : u ≤ 8000) (h2 : v ≤ 8000) (z : D) : guardO (mulOK (x : Int) (y : Int)) z = some z := mulB (by have := BIG_pos; omega) (B_lt h1 hx) (by have := BIG_pos; omega) (B_lt h2 hy)
/-! ### how many rows have so many ones -/
def pas : Nat → Nat → Nat
  | _, 0 => 1
  | 0, _ + 1 => 0
  | n + 1, k + 1 => pas n k + pas n (k + 1)
def cnt : List (List Nat) → Nat → Nat
  | [], _ => 0
  | r :: l, h => (if r.sum = h then 1 else 0) + cnt l h
theorem cnt_app (l k : List (List Nat)) (h : Nat) : cnt (l ++ k) h = cnt l h + cnt k h := by
  induction l with
  | nil => show cnt k h = 0 + cnt k h; omega
  | cons r l ih => show (if r.sum = h then 1 else 0) + cnt (l ++ k) h = (if r.sum = h then 1 else 0) + cnt l h + cnt k h; rw [ih]; omega
theorem cnt_ext0 (l : List (List Nat)) : cnt (l.flatMap ext2) 0 = cnt l 0 := by
  induction l with
  | nil => rfl
  | cons r l ih =>
    rw [List.flatMap_cons, cnt_app, ih]
    show (if (r ++ [0]).sum = 0 then 1 else 0) + ((if (r ++ [1]).sum = 0 then 1 else 0) + 0) + cnt l 0 = (if r.sum = 0 then 1 else 0) + cnt l 0
    rw [List.sum_append, List.sum_append]
    by_cases h0 : r.sum = 0 <;> simp [h0]
theorem cnt_extS (l : List (List Nat)) (h : Nat) : cnt (l.flatMap ext2) (h + 1) = cnt l h + cnt l (h + 1) := by
  induction l with
  | nil => rfl
  | cons r l ih =>
    rw [List.flatMap_cons, cnt_app, ih]
    show (if (r ++ [0]).sum = h + 1 then 1 else 0) + ((if (r ++ [1]).sum = h + 1 then 1 else 0) + 0) + (cnt l h + cnt l (h + 1)) = (if r.sum = h then 1 else 0) + cnt l h + ((if r.sum = h + 1 then 1 else 0) + cnt l (h + 1))
    rw [List.sum_append, List.sum_append]
    by_cases h1 : r.sum = h + 1
    · simp [h1]; omega
    · by_cases h2 : r.sum = h
      · simp [h2]; omega
      · simp [h1, h2]
theorem cnt_pas : ∀ n h, cnt (rowsN n) h = pas n h
  | 0, 0 => rfl
  | 0, h + 1 => rfl
  | n + 1, 0 => by show cnt ((rowsN n).flatMap ext2) 0 = 1; rw [cnt_ext0, cnt_pas n 0]; cases n <;> rfl
  | n + 1, h + 1 => by show cnt ((rowsN n).flatMap ext2) (h + 1) = pas n h + pas n (h + 1); rw [cnt_extS, cnt_pas n h, cnt_pas n (h + 1)]
theorem rowsN_sum : ∀ (k : Nat) (r : List Nat), r ∈ rowsN k → r.sum ≤ k
  | 0, r, h => by rw [List.mem_singleton.mp h]; decide
  | k + 1, r, h => by
    obtain ⟨s, hs, h2⟩ := List.mem_flatMap.mp h
    have := rowsN_sum k s hs
    rcases List.mem_cons.mp h2 with rfl | h2
    · rw [List.sum_append]; simp; omega
    · rw [List.mem_singleton.mp h2, List.sum_append]; simp; omega
def ownL (l : List (List Nat)) (n : Nat) : List D := (List.range (n + 1)).map fun h => D.int ((cnt l h : Nat) : Int)
theorem ownL_ix {l : List (List Nat)} {n h : Nat} (hh : h ≤ n) : ixD (ownL l n) (h : Int) = some (.int (cnt l h : Nat)) := ixD_nat (by unfold ownL; rw [List.getElem?_map, List.getElem?_range (by omega)]; rfl)
theorem ownL_set {l : List (List Nat)} {n : Nat} {r : List Nat} (hr : r.sum ≤ n) : setIxL (ownL l n) (.int (r.sum : Nat)) (.int ((cnt l r.sum : Nat) + 1 : Int)) = some (ownL (l ++ [r]) n) := by
  rw [setIxL_nat (by unfold ownL; rw [List.length_map, List.length_range]; omega)]
  refine congrArg some (List.ext_getElem? fun i => ?_)
  unfold ownL
  rw [List.getElem?_set, List.getElem?_map, List.getElem?_map, List.length_map, List.length_range]
  have e : ∀ h, cnt (l ++ [r]) h = cnt l h + (if r.sum = h then 1 else 0) := fun h => by rw [cnt_app]; rfl
  by_cases hi : r.sum = i
  · subst hi
    rw [if_pos rfl, if_pos (by omega), List.getElem?_range (by omega)]
    show some (D.int _) = some (D.int ((cnt (l ++ [r]) r.sum : Nat) : Int))
    rw [e, if_pos rfl]
    rfl
  · rw [if_neg hi]
    by_cases h2 : i < n + 1
    · rw [List.getElem?_range h2]
      show some (D.int _) = some (D.int ((cnt (l ++ [r]) i : Nat) : Int))
      rw [e, if_neg hi]
      rfl
    · rw [List.getElem?_eq_none (by simp; omega)]; rfl
/-! ### the law's mean -/
theorem st_m1 (x0 x1 x3 x4 x5 x7 x8 x9 : Option D) (O O' R : List D) (s c : Int) (st : Sto) (hs : ∀ st, biD st .sum [.tup R] = some (.int s)) (hc : ixD O s = some (.int c)) (hO : setIxL O (.int s) (.int (c + 1)) = some O') :
    evSs g_law_mean l_law_mean1 [x0, x1, some (.tup R), x3, x4, x5, some (.lst O), x7, x8, x9] st = .nx [x0, x1, some (.tup R), x3, x4, x5, some (.lst O'), x7, x8, x9] st := by
  simp [l_law_mean1, hs, hc, chg, noL, hO]
theorem own_loop (st : Sto) (n : Nat) (x0 x1 x2 x3 x4 x5 x7 x8 x9 : Option D) :
    ∃ y, forD (.name 2) (evSs g_law_mean l_law_mean1) ((rowsN n).map tD) [x0, x1, x2, x3, x4, x5, some (.lst (ownL [] n)), x7, x8, x9] st = .nx [x0, x1, y, x3, x4, x5, some (.lst (ownL (rowsN n) n)), x7, x8, x9] st := by
  refine forD_map (P := fun z => ∃ y, z = .nx [x0, x1, y, x3, x4, x5, some (.lst (ownL (rowsN n) n)), x7, x8, x9] st)
    (fun pre env st' => st' = st ∧ ∃ y, env = [x0, x1, y, x3, x4, x5, some (.lst (ownL pre n)), x7, x8, x9]) ⟨rfl, x2, rfl⟩ ?_ ?_
  · rintro pre r post env st' e ⟨rfl, y, rfl⟩
    have hr := rowsN_sum n r (by rw [e]; simp)
    exact ⟨_, bindTg_name _ _ _, stepN _ rfl (st_m1 x0 x1 x3 x4 x5 x7 x8 x9 _ _ (nl r) _ _ st' (sum_nlt r) (ownL_ix hr) (ownL_set hr)) ⟨rfl, some (tD r), rfl⟩⟩
  · rintro env st' ⟨rfl, y, rfl⟩
    exact ⟨y, rfl⟩
theorem mulL (d : D) (k : Nat) (hk : k ≤ 1000) : binD .Mult (.lst [d]) (.int (k : Int)) = some (.lst (List.replicate k d)) := by
  show guardO (repOK 1 (k : Int)) (D.lst (List.replicate (k : Int).toNat [d]).flatten) = _
  have hr : repOK 1 (k : Int) := ⟨by omega, by omega, by simp; unfold sizeLine; omega⟩
  rw [guardO_true hr, Int.toNat_natCast]
  refine congrArg some (congrArg D.lst ?_)
  clear hr hk
  induction k with
  | zero => rfl
  | succ k ih => rw [List.replicate_succ, List.flatten_cons, ih, List.replicate_succ]; rfl
theorem m2_a (st : Sto) (O : List D) (h c : Int) (B G : D) (x0 x1 x2 x4 x5 x7 x8 x9 : Option D) (hc : ixD O h = some (.int c)) (hB : binD .Mult (.lst [.tup []]) (.int c) = some B) (hG : F_law_best.sem [B] st = .ok G st) :
    evE g_law_mean (.call 5 (.cons (.bin .Mult (.lst (.cons (.tup .nil) .nil)) (.idx (.var 6) (.var 3))) .nil) .nil []) [x0, x1, x2, some (.int h), x4, x5, some (.lst O), x7, x8, x9] st = .ok G st := by
  have z0 : (0 : Nat) ≤ sizeLine := by decide
  have z1 : (1 : Nat) ≤ sizeLine := by decide
  simp [z0, z1, hc, hB, hG]
theorem m2_c (st : Sto) (r : List D) (env : WT.Env) (l : Int) (x0 x1 x2 x3 x4 x5 x6 x7 x8 x9 : Option D) (he : env = [x0, x1, x2, x3, x4, x5, x6, x7, x8, x9]) (hl : biD st .len [.tup r] = some (.int l)) : kCb g_law_mean (.name 9) false .non e_law_mean1 env (.tup r) st = .ok (some (.int l)) st := by
  subst he
  simp [e_law_mean1, -biD_lent, hl]
theorem m2_1 (st : Sto) (X : E) (G C : List D) (s : Int) (e : WT.Env) (hX : evE g_law_mean X e st = .ok (.lst G) st) (c : compLoop (kCb g_law_mean (.name 9) false .non e_law_mean1 e) G st = .ok C st) (hz : C.length ≤ sizeLine) (hs : biD st .sum [.lst C] = some (.int s)) :
    evS g_law_mean (.set 8 .pln (.bi .sum (.cons (.comp (.name 9) (.seq X) false .non e_law_mean1) .nil))) e st = .nx (e.set 8 (some (.int s))) st := by
  simp [hX, c, hz, hs]
theorem m2_2 (st : Sto) (n h t b T W u k p q v w z : Int) (x1 x2 x6 x9 : Option D) (hu : b - t = u) (hk : n - h = k) (h1 : F_law_power.sem [.int t, .int h] st = .ok (.int p) st) (h2 : F_law_power.sem [.int u, .int k] st = .ok (.int q) st) (g1 : guardO (mulOK T p) (D.int (T * p)) = some (.int v)) (g2 : guardO (mulOK v q) (D.int (v * q)) = some (.int w)) (hz : W + w = z) :
    evS g_law_mean tl_law_mean2_2 [some (.int n), x1, x2, some (.int h), some (.int t), some (.int b), x6, some (.int W), some (.int T), x9] st = .nx [some (.int n), x1, x2, some (.int h), some (.int t), some (.int b), x6, some (.int z), some (.int T), x9] st := by
  simp [tl_law_mean2_2, hu, hk, h1, h2, g1, g2, hz]
end Lk35
end

section
set_option Elab.async false
set_option linter.all false
set_option maxRecDepth 100000
set_option autoImplicit false
namespace Lk35
open PySem WT
theorem pas_ok : ∀ n : Fin 13, ∀ k : Fin 13, k.val ≤ n.val → combI n.val k.val = ((pas n.val k.val : Nat) : Int) ∧ pas n.val (n.val - k.val) = pas n.val k.val ∧ 0 < pas n.val k.val ∧ pas n.val k.val ≤ 924 ∧ tosN (pas n.val k.val) < 2 ^ 14 := by decide +kernel
theorem pasN {n k : Nat} (hn : n ≤ 12) (hk : k ≤ n) : combI n k = ((pas n k : Nat) : Int) ∧ pas n (n - k) = pas n k ∧ 0 < pas n k ∧ pas n k ≤ 924 ∧ tosN (pas n k) < 2 ^ 14 := pas_ok ⟨n, by omega⟩ ⟨k, by omega⟩ hk
def trm (n t u h : Nat) : Nat := tosN (pas n h) * t ^ h * u ^ (n - h)
def totN (n t u : Nat) : Nat → Nat
  | 0 => 0
  | k + 1 => totN n t u k + trm n t u k
theorem pow64 {t h : Nat} (ht : t < 64) (hh : h ≤ 12) : t ^ h < 2 ^ 73 := by
  have h1 : t ^ h ≤ 64 ^ h := Nat.pow_le_pow_left (by omega) h
  have h2 : (64 : Nat) ^ h ≤ 64 ^ 12 := Nat.pow_le_pow_right (by omega) hh
  have h3 : (64 : Nat) ^ 12 < 2 ^ 73 := by decide
  omega
theorem trm_lt {n t u h : Nat} (hn : n ≤ 12) (hh : h ≤ n) (ht : t < 64) (hu : u < 64) : trm n t u h < 2 ^ 160 := mulN (u := 87) (v := 73) (mulN (u := 14) (v := 73) (pasN hn hh).2.2.2.2 (pow64 ht (by omega))) (pow64 hu (by omega))
theorem tot_lt {n t u : Nat} (hn : n ≤ 12) (ht : t < 64) (hu : u < 64) : ∀ k, k ≤ n + 1 → totN n t u k ≤ k * 2 ^ 160
  | 0, _ => by show 0 ≤ 0 * _; omega
  | k + 1, h => by
    have h1 := tot_lt hn ht hu k (by omega)
    have h2 := trm_lt hn (show k ≤ n by omega) ht hu
    show totN n t u k + trm n t u k ≤ _
    rw [Nat.add_mul]
    omega
theorem lpowN (st : Sto) (t h : Nat) (ht : t < 64) (hh : h ≤ 12) : F_law_power.sem [.int t, .int h] st = .ok (.int ((t ^ h : Nat) : Int)) st := by
  rw [sem_law_power st t (by omega) (by omega) h (by omega), Int.natCast_pow]
theorem powN (st : Sto) (t h : Nat) (ht : t < 64) (hh : h ≤ 12) : F_power.sem [.int t, .int h] st = .ok (.int ((t ^ h : Nat) : Int)) st := by
  rw [sem_power st t (by omega) (by omega) h (by omega), Int.natCast_pow]
theorem mean_step (st : Sto) (n t b h W : Nat) (hn : n ≤ 12) (hh : h ≤ n) (ht : t < b) (hb : b < 64) (x1 x2 x8 x9 : Option D) :
    ∃ y8, evSs g_law_mean l_law_mean2 [some (.int n), x1, x2, some (.int h), some (.int t), some (.int b), some (.lst (ownL (rowsN n) n)), some (.int W), x8, x9] st
      = .nx [some (.int n), x1, x2, some (.int h), some (.int t), some (.int b), some (.lst (ownL (rowsN n) n)), some (.int ((W + trm n t (b - t) h : Nat) : Int)), y8, x9] st := by
  obtain ⟨c1, c2, c3, c4, c5⟩ := pasN hn hh
  have hix : ixD (ownL (rowsN n) n) (h : Int) = some (.int (pas n h : Nat)) := by rw [ownL_ix hh, cnt_pas]
  obtain ⟨F, f1, f2, fG⟩ := sem_law_best st (pas n h) c3 (by omega) (.lst (List.replicate (pas n h) (.tup []))) (fun st => by rw [biD_lenl, List.length_replicate])
  have ha := m2_a st _ h _ _ _ (some (.int n)) x1 x2 (some (.int t)) (some (.int b)) (some (.int W)) x8 x9 hix (mulL (.tup []) _ (by omega)) fG
  have hc : compLoop (kCb g_law_mean (.name 9) false .non e_law_mean1 [some (.int n), x1, x2, some (.int h), some (.int t), some (.int b), some (.lst (ownL (rowsN n) n)), some (.int W), x8, x9]) (F.map tD) st = .ok (F.map fun r => D.int ((r.length : Nat) : Int)) st :=
    compLoop_mm tD (fun r => D.int ((r.length : Nat) : Int)) fun r _ => m2_c st (nl r) _ _ _ _ _ _ _ _ _ _ _ _ rfl (by rw [biD_lent, nl_length])
  have eC : (F.map fun r => D.int ((r.length : Nat) : Int)) = nl (F.map List.length) := by
    unfold nl
    rw [List.map_map]; rfl
  rw [eC] at hc
  have s1 := m2_1 st _ _ _ _ _ ha hc (by rw [nl_length, List.length_map, f2]; unfold sizeLine; omega) (sum_nl _ st)
  have f1' : (F.map List.length).sum = tosN (pas n h) := f1
  rw [f1'] at s1
  generalize hT : tosN (pas n h) = T at *
  have p1 := pow64 (t := t) (h := h) (by omega) (by omega)
  have p2 := pow64 (t := b - t) (h := n - h) (by omega) (by omega)
  have q1 := mulN c5 p1
  have s2 := m2_2 st n h t b T W ((b - t : Nat) : Int) ((n - h : Nat) : Int) ((t ^ h : Nat) : Int) (((b - t) ^ (n - h) : Nat) : Int) ((T * t ^ h : Nat) : Int) ((T * t ^ h * (b - t) ^ (n - h) : Nat) : Int) ((W + trm n t (b - t) h : Nat) : Int) x1 x2 (some (.lst (ownL (rowsN n) n))) x9 (by omega) (by omega) (lpowN st t h (by omega) (by omega)) (lpowN st (b - t) (n - h) (by omega) (by omega))
    (by rw [Int.natCast_mul]; exact mulG c5 p1 (by omega) (by omega) _) (by rw [Int.natCast_mul]; exact mulG q1 p2 (by omega) (by omega) _) (by unfold trm; rw [hT, Int.natCast_add])
  refine ⟨some (.int (T : Int)), ?_⟩
  rw [btl_law_mean2]
  exact sq s1 (sq s2 rfl)
theorem mean_loop (st : Sto) (n t b : Nat) (hn : n ≤ 12) (ht : t < b) (hb : b < 64) (x1 x2 x3 x8 x9 : Option D) :
    ∃ y3 y8, forD (.name 3) (evSs g_law_mean l_law_mean2) ((List.range (n + 1)).map fun (i : Nat) => D.int (i : Int)) [some (.int n), x1, x2, x3, some (.int t), some (.int b), some (.lst (ownL (rowsN n) n)), some (.int 0), x8, x9] st
      = .nx [some (.int n), x1, x2, y3, some (.int t), some (.int b), some (.lst (ownL (rowsN n) n)), some (.int (totN n t (b - t) (n + 1) : Nat)), y8, x9] st := by
  refine forD_map (P := fun z => ∃ y3 y8, z = .nx [some (.int n), x1, x2, y3, some (.int t), some (.int b), some (.lst (ownL (rowsN n) n)), some (.int (totN n t (b - t) (n + 1) : Nat)), y8, x9] st)
    (fun pre env st' => st' = st ∧ ∃ y3 y8, env = [some (.int n), x1, x2, y3, some (.int t), some (.int b), some (.lst (ownL (rowsN n) n)), some (.int (totN n t (b - t) pre.length : Nat)), y8, x9]) ⟨rfl, x3, x8, rfl⟩ ?_ ?_
  · rintro pre i post env st' e ⟨rfl, y3, y8, rfl⟩
    obtain ⟨hi, hl⟩ := pre_range e
    rw [List.length_append, List.length_singleton]
    obtain ⟨z8, w⟩ := mean_step st' n t b i (totN n t (b - t) pre.length) hn (by omega) ht hb x1 x2 y8 x9
    exact ⟨_, bindTg_name _ _ _, stepN _ rfl w ⟨rfl, some (.int (i : Int)), z8, by rw [hi]; rfl⟩⟩
  · rintro env st' ⟨rfl, y3, y8, rfl⟩
    rw [List.length_range]
    exact ⟨y3, y8, rfl⟩
theorem lm_1 (st : Sto) (t b : Int) (x0 x2 x3 x4 x5 x6 x7 x8 x9 : Option D) : evS g_law_mean t_law_mean1 [x0, some (fr (t, b)), x2, x3, x4, x5, x6, x7, x8, x9] st = .nx [x0, some (fr (t, b)), x2, x3, some (.int t), some (.int b), x6, x7, x8, x9] st := by
  rw [t_law_mean1, evS_setT]
  rfl
theorem lm_2 (st : Sto) (n m : Int) (O : List D) (x1 x2 x3 x4 x5 x6 x7 x8 x9 : Option D) (hm : n + 1 = m) (hO : binD .Mult (.lst [.int 0]) (.int m) = some (.lst O)) : evS g_law_mean t_law_mean2 [some (.int n), x1, x2, x3, x4, x5, x6, x7, x8, x9] st = .nx [some (.int n), x1, x2, x3, x4, x5, some (.lst O), some (.int 0), x8, x9] st := by
  have z1 : (1 : Nat) ≤ sizeLine := by decide
  simp [t_law_mean2, hm, hO, z1]
theorem lm_3 (st : Sto) (n : D) (R : List D) (e : WT.Env) (x1 x2 x3 x4 x5 x6 x7 x8 x9 : Option D) (h : F_law_rows.sem [n] st = .ok (.lst R) st) (hw : forD (.name 2) (evSs g_law_mean l_law_mean1) R [some n, x1, x2, x3, x4, x5, x6, x7, x8, x9] st = .nx e st) : evS g_law_mean t_law_mean3 [some n, x1, x2, x3, x4, x5, x6, x7, x8, x9] st = .nx e st := by
  simp [t_law_mean3, h, hw]
theorem lm_4 (st : Sto) (n m : Int) (R : List D) (e : WT.Env) (x1 x2 x3 x4 x5 x6 x7 x8 x9 : Option D) (hm : n + 1 = m) (hr : rangeD 0 m 1 = some R) (hw : forD (.name 3) (evSs g_law_mean l_law_mean2) R [some (.int n), x1, x2, x3, x4, x5, x6, x7, x8, x9] st = .nx e st) : evS g_law_mean t_law_mean4 [some (.int n), x1, x2, x3, x4, x5, x6, x7, x8, x9] st = .nx e st := by
  simp [t_law_mean4, hm, hr, hw]
theorem lm_5 (st : Sto) (n b W p d : D) (x1 x2 x3 x4 x6 x8 x9 : Option D) (h : F_law_power.sem [b, n] st = .ok p st) (hl : F_law_low.sem [W, p] st = .ok d st) : evS g_law_mean t_law_mean5 [some n, x1, x2, x3, x4, some b, x6, some W, x8, x9] st = .rt d st := by
  simp [t_law_mean5, h, hl]
theorem sem_law_mean (st : Sto) (n t b : Nat) (hn : n ≤ 12) (ht : t < b) (hb : b < 64) : F_law_mean.sem [.int n, fr ((t : Int), (b : Int))] st = .ok (fr (pr (cR (totN n t (b - t) (n + 1)) / cR (b ^ n)))) st := by
  obtain ⟨y2, w1⟩ := own_loop st n (some (.int n)) (some (fr ((t : Int), (b : Int)))) none none (some (.int t)) (some (.int b)) (some (.int 0)) none none
  obtain ⟨y3, y8, w2⟩ := mean_loop st n t b hn ht hb (some (fr ((t : Int), (b : Int)))) y2 none none none
  have h0 : binD .Mult (.lst [.int 0]) (.int ((n + 1 : Nat) : Int)) = some (.lst (ownL [] n)) := by
    rw [mulL _ _ (by omega)]
    unfold ownL
    have : (fun h => D.int ((cnt [] h : Nat) : Int)) = fun _ => D.int 0 := rfl
    rw [this, List.map_const', List.length_range]
  have hbp := pow64 (t := b) (h := n) hb hn
  have hb0 : 0 < b ^ n := Nat.pow_pos (by omega)
  have hl := sem_law_low (a := ((totN n t (b - t) (n + 1) : Nat) : Int)) (b := ((b ^ n : Nat) : Int)) st (by omega) (B_lt (by omega) hbp)
  rw [low_pr (by omega)] at hl
  rw [ev_law_mean, bt_law_mean]
  exact congrArg RS.fin (sq (lm_1 st t b _ _ _ _ _ _ _ _ _) (sq (lm_2 st n ((n + 1 : Nat) : Int) _ _ _ _ _ _ _ _ _ _ (by omega) h0) (sq (lm_3 st _ _ _ _ _ _ _ _ _ _ _ _ (sem_law_rows st n hn) w1) (sq (lm_4 st n ((n + 1 : Nat) : Int) _ _ _ _ _ _ _ _ _ _ _ (by omega) (rangeD_n _ (by omega)) w2) (sqR (lm_5 st _ _ _ _ _ _ _ _ _ _ _ _ (lpowN st b n hb hn) hl))))))
end Lk35
end

section
set_option Elab.async false
set_option linter.all false
set_option maxRecDepth 100000
set_option autoImplicit false
namespace Lk35
open PySem WT
/-! ### the program's stretches -/
theorem sr_y (st : Sto) (m p P Q : Int) (x1 : Option D) (h1 : F_power.sem [.int 2, .int p] st = .ok (.int P) st) (hQ : m.fdiv P = Q) (g : guardO (divOK P) (D.int Q) = some (.int Q)) (hR : Q.fmod 2 = 1) : kCb g_stretches (.name 1) true q_stretches1 e_stretches1 [some (.int m), x1] (.int p) st = .ok (some (.int p)) st := by
  simp [q_stretches1, e_stretches1, h1, hQ, g, hR]
theorem sr_n (st : Sto) (m p P Q R : Int) (x1 : Option D) (h1 : F_power.sem [.int 2, .int p] st = .ok (.int P) st) (hQ : m.fdiv P = Q) (g : guardO (divOK P) (D.int Q) = some (.int Q)) (hR : Q.fmod 2 = R) (hR1 : R ≠ 1) : kCb g_stretches (.name 1) true q_stretches1 e_stretches1 [some (.int m), x1] (.int p) st = .ok none st := by
  simp [q_stretches1, e_stretches1, h1, hQ, g, hR, hR1]
def plc (m L k : Nat) : Option Nat := if bitN m (L - 1 - k) = 1 then some (L - 1 - k) else none
def plcs (m L : Nat) : List Nat := (List.range L).filterMap (plc m L)
theorem plcs_succ (m L : Nat) : plcs m (L + 1) = (if bitN m L = 1 then [L] else []) ++ plcs m L := by
  unfold plcs
  rw [List.range_succ_eq_map, List.filterMap_cons, List.filterMap_map]
  have e : plc m (L + 1) ∘ Nat.succ = plc m L := by
    funext k
    show plc m (L + 1) (k + 1) = plc m L k
    unfold plc
    rw [show L + 1 - 1 - (k + 1) = L - 1 - k by omega]
  rw [e]
  have e2 : plc m (L + 1) 0 = if bitN m L = 1 then some L else none := rfl
  rw [e2]
  by_cases h : bitN m L = 1
  · rw [if_pos h, if_pos h]; rfl
  · rw [if_neg h, if_neg h]; rfl
theorem plcs_sum (m : Nat) : ∀ L, ((plcs m L).map fun k => k * 2 ^ k).sum = tos m L
  | 0 => rfl
  | L + 1 => by
    rw [plcs_succ, List.map_append, List.sum_append, plcs_sum m L]
    show _ = tos m L + (if bitN m L = 1 then L * 2 ^ L else 0)
    by_cases h : bitN m L = 1
    · rw [if_pos h, if_pos h]; simp; omega
    · rw [if_neg h, if_neg h]; simp
theorem plcs_lt {m L k : Nat} (h : k ∈ plcs m L) : k < L := by
  obtain ⟨i, hi, e⟩ := List.mem_filterMap.mp h
  have := List.mem_range.mp hi
  unfold plc at e
  split at e
  · cases e; omega
  · cases e
theorem sr_1 (st : Sto) (m L L1 : Int) (R C : List D) (hb : op1D .bits (.int m) = some (.int L)) (hL : L - 1 = L1) (hr : rangeD L1 (-1) (-1) = some R) (c : compLoop (kCb g_stretches (.name 1) true q_stretches1 e_stretches1 [some (.int m), none]) R st = .ok C st) (hz : C.length ≤ sizeLine) : F_stretches.sem [.int m] st = .ok (.lst C) st := by
  rw [ev_stretches]
  simp [b_stretches, -op1D_bits, hb, hL, hr, c, hz]
theorem rangeD_dn (n : Nat) (h : n < 2 ^ 60) : rangeD ((n : Int) - 1) (-1) (-1) = some ((List.range n).map fun (k : Nat) => D.int ((n - 1 - k : Nat) : Int)) := by
  unfold rangeD
  rw [if_pos (by omega), if_neg (by decide), if_pos rfl]
  rw [show ((n : Int) - 1 - -1).toNat = n by omega]
  refine congrArg some (List.map_congr_left fun k hk => ?_)
  have := List.mem_range.mp hk
  refine congrArg D.int ?_
  omega
theorem sem_stretches (st : Sto) (m : Nat) (h : 0 < m) (hm : m ≤ 1000) : F_stretches.sem [.int m] st = .ok (.lst (nl (plcs m (m.log2 + 1)))) st := by
  have hl := log_le h hm
  have hm' : (m : Int) < BIG := B_lt (u := 10) (by omega) (by have : (2 : Nat) ^ 10 = 1024 := rfl; omega)
  have c : compLoop (kCb g_stretches (.name 1) true q_stretches1 e_stretches1 [some (.int m), none]) ((List.range (m.log2 + 1)).map fun (k : Nat) => D.int ((m.log2 + 1 - 1 - k : Nat) : Int)) st = .ok ((List.range (m.log2 + 1)).filterMap fun k => (plc m (m.log2 + 1) k).map fun (p : Nat) => D.int (p : Int)) st := by
    refine compLoop_tm (fun (k : Nat) => D.int ((m.log2 + 1 - 1 - k : Nat) : Int)) (fun k => (plc m (m.log2 + 1) k).map fun (p : Nat) => D.int (p : Int)) fun k hk => ?_
    have hk := List.mem_range.mp hk
    have hp := powN st 2 (m.log2 + 1 - 1 - k) (by omega) (by omega)
    have h0 : 0 < 2 ^ (m.log2 + 1 - 1 - k) := Nat.pow_pos (by omega)
    have hlt := pow64 (t := 2) (h := m.log2 + 1 - 1 - k) (by omega) (by omega)
    have hQ : (m : Int).fdiv ((2 ^ (m.log2 + 1 - 1 - k) : Nat) : Int) = ((m / 2 ^ (m.log2 + 1 - 1 - k) : Nat) : Int) := by
      rw [fdiv_nn (by omega)]
      first | exact (Int.natCast_ediv _ _).symm | rfl
    have hR : ((m / 2 ^ (m.log2 + 1 - 1 - k) : Nat) : Int).fmod 2 = ((bitN m (m.log2 + 1 - 1 - k) : Nat) : Int) := by
      rw [fmod_nn (by decide)]
      unfold bitN
      omega
    show _ = R.ok ((plc m (m.log2 + 1) k).map fun (p : Nat) => D.int (p : Int)) st
    unfold plc
    by_cases hb : bitN m (m.log2 + 1 - 1 - k) = 1
    · rw [if_pos hb]
      exact sr_y st m _ _ _ none hp hQ (divB (by omega) (B_lt (by omega) hlt)) (by rw [hR, hb]; rfl)
    · rw [if_neg hb]
      exact sr_n st m _ _ _ _ none hp hQ (divB (by omega) (B_lt (by omega) hlt)) hR (by omega)
  have e : ((List.range (m.log2 + 1)).filterMap fun k => (plc m (m.log2 + 1) k).map fun (p : Nat) => D.int (p : Int)) = nl (plcs m (m.log2 + 1)) := by
    unfold nl plcs
    rw [List.map_filterMap]
    rfl
  rw [e] at c
  have hlen : (plcs m (m.log2 + 1)).length ≤ m.log2 + 1 := by
    unfold plcs
    have := List.length_filterMap_le (plc m (m.log2 + 1)) (List.range (m.log2 + 1))
    rw [List.length_range] at this
    exact this
  exact sr_1 st m ((m.log2 + 1 : Nat) : Int) _ _ _ (by rw [op1D_bits, bits_nat h]) rfl (rangeD_dn _ (by omega)) c (by rw [nl_length]; unfold sizeLine; omega)
/-! ### most_of -/
theorem mo_i (st : Sto) (k p w : Int) (x0 x1 x2 : Option D) (h : F_power.sem [.int 2, .int k] st = .ok (.int p) st) (g : guardO (mulOK k p) (D.int (k * p)) = some (.int w)) : kCb g_most_of (.name 2) false .non e_most_of1 [x0, x1, x2] (.int k) st = .ok (some (.int w)) st := by
  simp [e_most_of1, h, g]
theorem mo_c (st : Sto) (n h f : D) (s : Int) (P C : List D) (x1 x2 : Option D) (hf : biD st .comb [n, h] = some f) (hS : F_stretches.sem [f] st = .ok (.lst P) st) (c : compLoop (kCb g_most_of (.name 2) false .non e_most_of1 [some n, some h, x2]) P st = .ok C st) (hz : C.length ≤ sizeLine) (hs : biD st .sum [.lst C] = some (.int s)) : kCb g_most_of (.name 1) false .non e_most_of2 [some n, x1, x2] h st = .ok (some (.int s)) st := by
  simp [e_most_of2, hf, hS, c, hz, hs]
theorem mo_1 (st : Sto) (n m : Int) (R C : List D) (hm : n + 1 = m) (hr : rangeD 0 m 1 = some R) (c : compLoop (kCb g_most_of (.name 1) false .non e_most_of2 [some (.int n), none, none]) R st = .ok C st) (hz : C.length ≤ sizeLine) : F_most_of.sem [.int n] st = .ok (.tup C) st := by
  rw [ev_most_of]
  simp [b_most_of, hm, hr, c, hz]
theorem biD_comb_ok (st : Sto) (n k : Nat) (f : Nat) (hk : k ≤ n) (hn : n ≤ 12) (hf : combI n k = (f : Int)) (h2 : f ≤ 1000) : biD st .comb [.int n, .int k] = some (.int (f : Int)) := by
  rw [biD_comb, hf]
  refine guardO_true ⟨by omega, by omega, by omega, ?_⟩
  rw [hf]
  have h1 : f < 2 ^ 20000 := by
    have h2 : 1000 < 2 ^ 10 := by decide
    have := p2_le (a := 10) (b := 20000) (by omega)
    omega
  by_cases h0 : f = 0
  · subst h0; decide
  · exact (Nat.log2_lt (by omega)).mpr (by simpa using h1)
theorem sem_most_of (st : Sto) (n : Nat) (hn : n ≤ 12) : F_most_of.sem [.int n] st = .ok (.tup ((List.range (n + 1)).map fun h => D.int ((tosN (pas n h) : Nat) : Int))) st := by
  have c : compLoop (kCb g_most_of (.name 1) false .non e_most_of2 [some (.int n), none, none]) ((List.range (n + 1)).map fun (k : Nat) => D.int (k : Int)) st = .ok ((List.range (n + 1)).map fun h => D.int ((tosN (pas n h) : Nat) : Int)) st := by
    refine compLoop_mm (fun (k : Nat) => D.int (k : Int)) (fun h => D.int ((tosN (pas n h) : Nat) : Int)) fun h hh => ?_
    have hh := List.mem_range.mp hh
    obtain ⟨c1, c2, c3, c4, c5⟩ := pasN hn (show h ≤ n by omega)
    have hS := sem_stretches st (pas n h) c3 (by omega)
    have hl := log_le c3 (show pas n h ≤ 1000 by omega)
    have ci : compLoop (kCb g_most_of (.name 2) false .non e_most_of1 [some (.int n), some (.int h), none]) (nl (plcs (pas n h) ((pas n h).log2 + 1))) st = .ok ((plcs (pas n h) ((pas n h).log2 + 1)).map fun k => D.int ((k * 2 ^ k : Nat) : Int)) st := by
      refine compLoop_mm vI (fun k => D.int ((k * 2 ^ k : Nat) : Int)) fun k hk => ?_
      have hk := plcs_lt hk
      have := pow64 (t := 2) (h := k) (by omega) (by omega)
      refine mo_i st k ((2 ^ k : Nat) : Int) _ _ _ _ (powN st 2 k (by omega) (by omega)) ?_
      rw [Int.natCast_mul]
      exact mulG (u := 10) (v := 73) (by have : (2 : Nat) ^ 10 = 1024 := rfl; omega) this (by omega) (by omega) _
    have e : ((plcs (pas n h) ((pas n h).log2 + 1)).map fun k => D.int ((k * 2 ^ k : Nat) : Int)) = nl ((plcs (pas n h) ((pas n h).log2 + 1)).map fun k => k * 2 ^ k) := by
      unfold nl
      rw [List.map_map]; rfl
    rw [e] at ci
    have hlen : (plcs (pas n h) ((pas n h).log2 + 1)).length ≤ (pas n h).log2 + 1 := by
      unfold plcs
      have := List.length_filterMap_le (plc (pas n h) ((pas n h).log2 + 1)) (List.range ((pas n h).log2 + 1))
      rw [List.length_range] at this
      exact this
    exact mo_c st _ _ _ _ _ _ _ _ (biD_comb_ok st n h _ (by omega) hn c1 (by omega)) hS ci (by rw [nl_length, List.length_map]; unfold sizeLine; omega) (by rw [sum_nl, plcs_sum]; rfl)
  exact mo_1 st n ((n + 1 : Nat) : Int) _ _ (by omega) (rangeD_n _ (by omega)) c (by rw [List.length_map, List.length_range]; unfold sizeLine; omega)
end Lk35
end

section
set_option Elab.async false
set_option linter.all false
set_option maxRecDepth 100000
set_option autoImplicit false
namespace Lk35
open PySem WT
/-! ### mean_out -/
theorem sem_is_pair_tup (st : Sto) (xs : List D) : F_is_pair.sem [.tup xs] st = .ok (.bl (decide (xs.length = 2))) st := by
  rw [ev_is_pair]
  simp [b_is_pair]
  omega
theorem sem_is_number_of (st : Sto) {p : Int × Int} (h : Lw p) (h2 : p.2 < 2 ^ 64) : F_is_number_of.sem [fr p] st = .ok (.bl true) st := by
  have hp : F_is_pair.sem [fr p] st = .ok (.bl true) st := sem_is_pair_tup st [.int p.1, .int p.2]
  have h0 := h.1
  have hl := sem_lowest (a := p.1) (b := p.2) st h.1 (small_BIG h2)
  rw [low_self h] at hl
  rw [ev_is_number_of]
  simp [b_is_number_of, hp, sem_is_integer_int, hl, h0]
theorem sem_difference (st : Sto) (t b : Int) (d : D) (h : F_lowest.sem [.int (b - t), .int b] st = .ok d st) : F_difference.sem [fr (1, 1), fr (t, b)] st = .ok d st := by
  have g1 : ∀ (i : Int) (z : D), guardO (mulOK 1 i) z = some z := fun i z => guardO_true (mulOK_l (by decide) (by decide))
  have g2 : ∀ (i : Int) (z : D), guardO (mulOK i 1) z = some z := fun i z => guardO_true (mulOK_r (by decide) (by decide))
  rw [ev_difference]
  simp [b_difference, g1, g2, h]
theorem mp_1 (st : Sto) (n h k t u b p q z : Int) (v w d : D) (x3 x5 x6 : Option D) (hk : n - h = k) (h1 : F_power.sem [.int t, .int h] st = .ok (.int p) st) (h2 : F_power.sem [.int u, .int k] st = .ok (.int q) st) (g : guardO (mulOK p q) (D.int (p * q)) = some v) (h3 : F_power.sem [.int b, .int n] st = .ok w st) (h4 : F_lowest.sem [v, w] st = .ok d st) :
    evS g_mean_out tl_mean_out1_1 [some (.int n), some (.tup [.int t, .int b]), some (.tup [.int u, .int z]), x3, some (.int h), x5, x6] st = .nx [some (.int n), some (.tup [.int t, .int b]), some (.tup [.int u, .int z]), x3, some (.int h), x5, some d] st := by
  simp [tl_mean_out1_1, hk, h1, h2, g, h3, h4]
theorem mp_2 (st : Sto) (T : List D) (m c w d : D) (x0 x1 x2 x4 : Option D) (h1 : F_whole.sem [m] st = .ok w st) (h2 : F_product.sem [w, c] st = .ok d st) (hd : noL d = true) (hz : T.length < sizeLine) :
    evS g_mean_out tl_mean_out1_2 [x0, x1, x2, some (.lst T), x4, some m, some c] st = .nx [x0, x1, x2, some (.lst (T ++ [d])), x4, some m, some c] st := by
  simp [tl_mean_out1_2, h1, h2, chg, hd, hz, isLs]
end Lk35
end

section
set_option Elab.async false
set_option linter.all false
set_option maxRecDepth 100000
set_option autoImplicit false
namespace Lk35
open PySem WT
def trR (n t u b h : Nat) : Rat := cR (tosN (pas n h)) * (cR (t ^ h * u ^ (n - h)) / cR (b ^ n))
theorem trR_eq (n t u b h : Nat) : trR n t u b h = cR (trm n t u h) / cR (b ^ n) := by
  unfold trR trm
  rw [Nat.mul_assoc]
  generalize t ^ h * u ^ (n - h) = z
  rw [cR_mul, Rat.div_def, Rat.div_def, Rat.mul_assoc]
theorem bpow {b n : Nat} (hb : 0 < b) (hb2 : b < 64) (hn : n ≤ 12) : 0 < b ^ n ∧ b ^ n < 2 ^ 73 := ⟨Nat.pow_pos hb, pow64 hb2 hn⟩
theorem frac_le {a e M : Nat} (he : 0 < e) (h : a ≤ M) : 0 ≤ cR a / cR e ∧ cR a / cR e ≤ cR M := by
  refine ⟨le_div (cR_pos he) (by rw [Rat.zero_mul]; exact cR_nn a), div_le (cR_pos he) ?_⟩
  rw [← cR_mul]
  exact cR_le (Nat.le_trans h (Nat.le_mul_of_pos_right M he))
theorem in_b (a b n : Nat) (hb : 0 < b) : InD ((b ^ n : Nat) : Int) (cR a / cR (b ^ n)) := inD_frac a (Nat.pow_pos hb) (Nat.dvd_refl _)
theorem step_mo (st : Sto) (n t b h : Nat) (hn : n ≤ 12) (hh : h ≤ n) (ht : t < b) (hb : b < 64) (T : List D) (hz : T.length < sizeLine) (x6 : Option D) :
    ∃ y6, evSs g_mean_out l_mean_out1 [some (.int n), some (.tup [.int t, .int b]), some (.tup [.int ((b - t : Nat) : Int), .int b]), some (.lst T), some (.int h), some (.int (tosN (pas n h) : Nat)), x6] st
      = .nx [some (.int n), some (.tup [.int t, .int b]), some (.tup [.int ((b - t : Nat) : Int), .int b]), some (.lst (T ++ [fr (pr (trR n t (b - t) b h))])), some (.int h), some (.int (tosN (pas n h) : Nat)), y6] st := by
  obtain ⟨c1, c2, c3, c4, c5⟩ := pasN hn hh
  obtain ⟨b0, b1⟩ := bpow (b := b) (n := n) (by omega) hb hn
  have p1 := pow64 (t := t) (h := h) (by omega) (by omega)
  have p2 := pow64 (t := b - t) (h := n - h) (by omega) (by omega)
  have q1 := mulN p1 p2
  have hl := sem_lowest (a := ((t ^ h * (b - t) ^ (n - h) : Nat) : Int)) (b := ((b ^ n : Nat) : Int)) st (by omega) (B_lt (by omega) b1)
  rw [low_pr (by omega)] at hl
  have s1 := mp_1 st n h ((n - h : Nat) : Int) t ((b - t : Nat) : Int) b _ _ b (.int ((t ^ h * (b - t) ^ (n - h) : Nat) : Int)) _ _ (some (.lst T)) (some (.int (tosN (pas n h) : Nat))) x6 (by omega) (powN st t h (by omega) (by omega)) (powN st (b - t) (n - h) (by omega) (by omega)) (by rw [← Int.natCast_mul]; exact mulG p1 p2 (by omega) (by omega) _) (powN st b n hb hn) hl
  have hy : Bd (cR (t ^ h * (b - t) ^ (n - h)) / cR (b ^ n)) := by
    obtain ⟨f0, f1⟩ := frac_le b0 (Nat.le_of_lt q1)
    exact (in_b _ b n (by omega)).bdN (by omega) f0 f1 (Nat.pow_pos (by omega)) (e := 73) (by omega) (f := 146) (Nat.le_refl _) (by omega)
  have hx : Bd (cR (tosN (pas n h))) := by
    have e : cR (tosN (pas n h)) = cR (tosN (pas n h)) / cR 1 := by rw [cR_1]; grind
    rw [e]
    obtain ⟨f0, f1⟩ := frac_le (e := 1) (by omega) (Nat.le_of_lt c5)
    exact (inD_frac _ (by omega) (Nat.dvd_refl 1)).bdN (by decide) f0 f1 (Nat.pow_pos (by omega)) (e := 1) (by decide) (f := 14) (Nat.le_refl _) (by omega)
  have hp := prod2 st hx hy
  have hw : F_whole.sem [.int (tosN (pas n h) : Nat)] st = .ok (fr (pr (cR (tosN (pas n h))))) st := by
    unfold cR
    rw [pr_cast]
    exact sem_whole st _
  refine ⟨some (fr (pr (cR (t ^ h * (b - t) ^ (n - h)) / cR (b ^ n)))), ?_⟩
  rw [btl_mean_out1]
  exact sq s1 (sq (mp_2 st T _ _ _ _ _ _ _ _ hw hp rfl hz) rfl)
theorem enum_range (f : Nat → D) (m : Nat) : enumD ((List.range m).map f) = (List.range m).map fun (h : Nat) => D.tup [.int (h : Int), f h] := by
  unfold enumD
  refine List.ext_getElem (by simp) fun i h1 h2 => ?_
  simp
theorem mo_loop (st : Sto) (n t b : Nat) (hn : n ≤ 12) (ht : t < b) (hb : b < 64) (x4 x5 x6 : Option D) :
    ∃ y4 y5 y6, forD (.tup (.cons (.name 4) (.cons (.name 5) .nil))) (evSs g_mean_out l_mean_out1) ((List.range (n + 1)).map fun (h : Nat) => D.tup [.int (h : Int), .int ((tosN (pas n h) : Nat) : Int)]) [some (.int n), some (.tup [.int t, .int b]), some (.tup [.int ((b - t : Nat) : Int), .int b]), some (.lst []), x4, x5, x6] st
      = .nx [some (.int n), some (.tup [.int t, .int b]), some (.tup [.int ((b - t : Nat) : Int), .int b]), some (.lst (((List.range (n + 1)).map (trR n t (b - t) b)).map fun x => fr (pr x))), y4, y5, y6] st := by
  refine forD_map (P := fun z => ∃ y4 y5 y6, z = .nx [some (.int n), some (.tup [.int t, .int b]), some (.tup [.int ((b - t : Nat) : Int), .int b]), some (.lst (((List.range (n + 1)).map (trR n t (b - t) b)).map fun x => fr (pr x))), y4, y5, y6] st)
    (fun pre env st' => st' = st ∧ ∃ y4 y5 y6, env = [some (.int n), some (.tup [.int t, .int b]), some (.tup [.int ((b - t : Nat) : Int), .int b]), some (.lst ((pre.map (trR n t (b - t) b)).map fun x => fr (pr x))), y4, y5, y6]) ⟨rfl, x4, x5, x6, rfl⟩ ?_ ?_
  · rintro pre i post env st' e ⟨rfl, y4, y5, y6, rfl⟩
    obtain ⟨hi, hl⟩ := pre_range e
    obtain ⟨z6, w⟩ := step_mo st' n t b i hn (by omega) ht hb ((pre.map (trR n t (b - t) b)).map fun x => fr (pr x)) (by rw [List.length_map, List.length_map]; unfold sizeLine; omega) y6
    refine ⟨_, bindTg_fr 4 5 ((i : Int), ((tosN (pas n i) : Nat) : Int)) _, stepN _ rfl w ⟨rfl, some (.int (i : Int)), some (.int (tosN (pas n i) : Nat)), z6, ?_⟩⟩
    rw [List.map_append, List.map_append]
    rfl
  · rintro env st' ⟨rfl, y4, y5, y6, rfl⟩
    exact ⟨y4, y5, y6, rfl⟩
theorem mo_a (st : Sto) (n : D) (x1 x2 x3 x4 x5 x6 : Option D) (h : F_check_throws.sem [n] st = .ok .non st) : evS g_mean_out t_mean_out1 [some n, x1, x2, x3, x4, x5, x6] st = .nx [some n, x1, x2, x3, x4, x5, x6] st := by
  simp [t_mean_out1, h]
theorem mo_b (st : Sto) (t b : Int) (x0 x2 x3 x4 x5 x6 : Option D) (h : F_is_number_of.sem [fr (t, b)] st = .ok (.bl true) st) (h0 : 0 < t) (h1 : t < b) : evS g_mean_out t_mean_out2 [x0, some (fr (t, b)), x2, x3, x4, x5, x6] st = .nx [x0, some (fr (t, b)), x2, x3, x4, x5, x6] st := by
  simp [t_mean_out2, h, h0, h1]
theorem mo_d (st : Sto) (s o : D) (x0 x2 x3 x4 x5 x6 : Option D) (h : F_difference.sem [fr (1, 1), s] st = .ok o st) (ho : noL o = true) : evS g_mean_out t_mean_out3 [x0, some s, x2, x3, x4, x5, x6] st = .nx [x0, some s, some o, some (.lst []), x4, x5, x6] st := by
  have z0 : (0 : Nat) ≤ sizeLine := by decide
  have e1 : (g_mean_out.cons[1]?).map (·.2) = some (fr (1, 1)) := rfl
  simp [t_mean_out3, e1, h, z0]
theorem mo_e (st : Sto) (n : D) (M Z : List D) (e : WT.Env) (x1 x2 x3 x4 x5 x6 : Option D) (h : F_most_of.sem [n] st = .ok (.tup M) st) (hZ : enumD M = Z) (hw : forD (.tup (.cons (.name 4) (.cons (.name 5) .nil))) (evSs g_mean_out l_mean_out1) Z [some n, x1, x2, x3, x4, x5, x6] st = .nx e st) : evS g_mean_out t_mean_out4 [some n, x1, x2, x3, x4, x5, x6] st = .nx e st := by
  simp [t_mean_out4, h, hZ, hw]
theorem mo_f (st : Sto) (T : List D) (d : D) (x0 x1 x2 x4 x5 x6 : Option D) (h : F_sum_of_all.sem [.lst T] st = .ok d st) : evS g_mean_out t_mean_out5 [x0, x1, x2, some (.lst T), x4, x5, x6] st = .rt d st := by
  simp [t_mean_out5, h]
theorem sem_mean_out (st : Sto) (n t b : Nat) (h1 : 1 ≤ n) (hn : n ≤ 12) (h0 : 0 < t) (ht : t < b) (hb : b < 64) (hc : Nat.gcd t b = 1) : F_mean_out.sem [.int n, fr ((t : Int), (b : Int))] st = .ok (fr (pr (cR (totN n t (b - t) (n + 1)) / cR (b ^ n)))) st := by
  have L : Lw ((t : Int), (b : Int)) := ⟨by show (0 : Int) < b; omega, by show Nat.gcd (t : Int).natAbs (b : Int).natAbs = 1; simpa using hc⟩
  have hcu : Nat.gcd (b - t) b = 1 := by
    have d1 := Nat.gcd_dvd_left (b - t) b
    have d2 := Nat.gcd_dvd_right (b - t) b
    have d3 := Nat.dvd_sub d2 d1
    rw [show b - (b - t) = t by omega] at d3
    have d4 := Nat.dvd_gcd d3 d2
    rw [hc] at d4
    exact Nat.dvd_one.mp d4
  have Lu : Lw (((b - t : Nat) : Int), (b : Int)) := ⟨by show (0 : Int) < b; omega, by show Nat.gcd ((b - t : Nat) : Int).natAbs (b : Int).natAbs = 1; simpa using hcu⟩
  have hd : F_difference.sem [fr (1, 1), fr ((t : Int), (b : Int))] st = .ok (fr (((b - t : Nat) : Int), (b : Int))) st := by
    have hl := sem_lowest (a := (b : Int) - (t : Int)) (b := (b : Int)) st (by omega) (small_BIG (by omega))
    rw [show (b : Int) - (t : Int) = ((b - t : Nat) : Int) by omega, low_self Lu] at hl
    refine sem_difference st t b _ ?_
    rw [show (b : Int) - (t : Int) = ((b - t : Nat) : Int) by omega]
    exact hl
  have hi := sem_is_number_of st L (by show (b : Int) < 2 ^ 64; omega)
  obtain ⟨y4, y5, y6, w⟩ := mo_loop st n t b hn ht hb none none none
  obtain ⟨b0, b1⟩ := bpow (b := b) (n := n) (by omega) hb hn
  have hsum := sum_list st ((List.range (n + 1)).map (trR n t (b - t) b)) (d := ((b ^ n : Nat) : Int)) (M := 2 ^ 160) (e := 73) (f := 170) (by omega) (fun x hx => by
    obtain ⟨h, hh, rfl⟩ := List.mem_map.mp hx
    have hh := List.mem_range.mp hh
    rw [trR_eq]
    obtain ⟨f0, f1⟩ := frac_le b0 (Nat.le_of_lt (trm_lt hn (show h ≤ n by omega) (t := t) (u := b - t) (by omega) (by omega)))
    exact ⟨in_b _ b n (by omega), f0, f1⟩) (by omega) (by
      rw [List.length_map, List.length_range]
      have : 2 ^ 160 * (n + 1) ≤ 2 ^ 160 * 13 := Nat.mul_le_mul_left _ (by omega)
      have e2 : (2 : Nat) ^ 160 * 13 + 2 ^ 160 + 1 ≤ 2 ^ 170 := by decide
      omega) (by omega)
  have er : rsum ((List.range (n + 1)).map (trR n t (b - t) b)) = cR (totN n t (b - t) (n + 1)) / cR (b ^ n) := by
    refine rsum_range (trR n t (b - t) b) (fun k => cR (totN n t (b - t) k) / cR (b ^ n)) ?_ (fun k => ?_) (n + 1)
    · show cR 0 / cR (b ^ n) = 0
      rw [cR_0]
      grind
    · show cR (totN n t (b - t) k + trm n t (b - t) k) / cR (b ^ n) = _
      rw [trR_eq, cR_add]
      grind
  rw [er] at hsum
  rw [ev_mean_out, bt_mean_out]
  exact congrArg RS.fin (sq (mo_a st _ _ _ _ _ _ _ (ct_core st n (by omega))) (sq (mo_b st t b _ _ _ _ _ _ hi (by omega) (by omega)) (sq (mo_d st _ _ _ _ _ _ _ _ hd rfl) (sq (mo_e st _ _ _ _ _ _ _ _ _ _ (sem_most_of st n hn) (enum_range _ _) w) (sqR (mo_f st _ _ _ _ _ _ _ _ hsum))))))
/-! ### the other side -/
theorem tot_flip (n t u : Nat) (hn : n ≤ 12) : totN n u t (n + 1) = totN n t u (n + 1) := by
  have key : ∀ (f g : Nat → Nat) (S T : Nat → Nat), S 0 = 0 → T 0 = 0 → (∀ k, S (k + 1) = S k + f k) → (∀ k, T (k + 1) = T k + g k) → ∀ m, (∀ k, k < m → f k = g (m - 1 - k)) → S m = T m := by
    intro f g S T s0 t0 sS tS
    have head : ∀ m, T (m + 1) = g 0 + (T (m + 1) - g 0) := fun m => by
      have : ∀ m, g 0 ≤ T (m + 1) := fun m => by
        induction m with
        | zero => rw [tS, t0]; omega
        | succ m ih => rw [tS]; omega
      have := this m
      omega
    have sum : ∀ m (F : Nat → Nat) (W : Nat → Nat), W 0 = 0 → (∀ k, W (k + 1) = W k + F k) → W m = ((List.range m).map F).sum := by
      intro m F W w0 wS
      induction m with
      | zero => rw [w0]; rfl
      | succ m ih => rw [wS, ih, List.range_succ, List.map_append, List.sum_append]; simp
    intro m h
    rw [sum m f S s0 sS, sum m g T t0 tS]
    have e : (List.range m).map f = ((List.range m).map g).reverse := by
      refine List.ext_getElem (by simp) fun i h1 h2 => ?_
      rw [List.getElem_reverse]
      simp
      simp at h1
      exact h i h1
    rw [e, List.sum_reverse]
  refine key (trm n u t) (trm n t u) _ _ rfl rfl (fun _ => rfl) (fun _ => rfl) (n + 1) fun k hk => ?_
  unfold trm
  rw [show n + 1 - 1 - k = n - k by omega, (pasN hn (show k ≤ n by omega)).2.1, show n - (n - k) = k by omega, Nat.mul_assoc, Nat.mul_assoc, Nat.mul_comm (u ^ k)]
end Lk35
end

section
set_option Elab.async false
set_option linter.all false
set_option maxRecDepth 100000
set_option autoImplicit false
namespace Lk35
open PySem WT
theorem gcd_u {t b : Nat} (ht : t < b) (hc : Nat.gcd t b = 1) : Nat.gcd (b - t) b = 1 := by
  have d1 := Nat.gcd_dvd_left (b - t) b
  have d2 := Nat.gcd_dvd_right (b - t) b
  have d3 := Nat.dvd_sub d2 d1
  rw [show b - (b - t) = t by omega] at d3
  have d4 := Nat.dvd_gcd d3 d2
  rw [hc] at d4
  exact Nat.dvd_one.mp d4
theorem low_nat {x B : Int} (hx : 0 < x) (hB : x < B) : ∃ t b : Nat, low x B = ((t : Int), (b : Int)) ∧ 0 < t ∧ t < b ∧ (b : Int) ≤ B ∧ Nat.gcd t b = 1 := by
  have hb : 0 < B := by omega
  obtain ⟨m1, m2⟩ := low_mul (a := x) hb
  have L := low_lw (a := x) hb
  have hg := gcd_pos_r (a := x) hb
  have hle := low_le (a := x) hb
  generalize low x B = p at *
  obtain ⟨p1, p2⟩ := p
  simp only at m1 m2 hle
  have h2 : 0 < p2 := L.1
  have h1 : 0 < p1 := by
    rcases Int.lt_or_le 0 p1 with hh | hh
    · exact hh
    · exfalso
      have := Int.mul_le_mul_of_nonneg_right hh (Int.natCast_nonneg (Nat.gcd x.natAbs B.natAbs))
      omega
  have h3 : p1 < p2 := by
    rcases Int.lt_or_le p1 p2 with hh | hh
    · exact hh
    · exfalso
      have := Int.mul_le_mul_of_nonneg_right hh (Int.natCast_nonneg (Nat.gcd x.natAbs B.natAbs))
      omega
  have hc : Nat.gcd p1.natAbs p2.natAbs = 1 := L.2
  obtain ⟨t, rfl⟩ : ∃ t : Nat, p1 = t := ⟨p1.toNat, by omega⟩
  obtain ⟨b, rfl⟩ : ∃ b : Nat, p2 = b := ⟨p2.toNat, by omega⟩
  exact ⟨t, b, rfl, by omega, by omega, by omega, by simpa using hc⟩
theorem lw_1 (st : Sto) (s p : D) (a b : Int) (x2 x3 x4 x5 x6 x7 x8 x9 : Option D) (h : F_law_well.sem [s, p] st = .ok (.lst [.int a, .int b, .int 0]) st) : evS g_law tl_law2_1 [some s, some p, x2, x3, x4, x5, x6, x7, x8, x9] st = .nx [some s, some p, some (.ref st.length), x3, x4, x5, x6, x7, x8, x9] (st ++ [[.int a, .int b, .int 0]]) := by
  have hn : noLs [D.int a, .int b, .int 0] = true := rfl
  simp [tl_law2_1, h, hn]
theorem lw_dip2 (st st1 st2 : Sto) (k : Nat) (m : D) (e : WT.Env) (a : E) (d : D) (x0 x1 x3 x4 x5 x6 x7 x8 x9 : Option D) (he : e = [x0, x1, some (.ref k), x3, x4, x5, x6, x7, x8, x9]) (hm : evE g_law a e st = .ok m st1) (h : F_law_dip.sem [.ref k, m] st1 = .ok d st2) : evE g_law (.call 1 (.cons (.var 2) (.cons a .nil)) .nil []) e st = .ok d st2 := by
  subst he
  simp [hm, h]
theorem lw_ix (st st1 : Sto) (e : WT.Env) (p q : Int) (a : E) (r m : D) (h : evE g_law a e st = .ok r st1) (hm : idxD st1 (.lst [.int p, .int q]) r = some m) : evE g_law (.idx (.lst (.cons (.int p) (.cons (.int q) .nil))) a) e st = .ok m st1 := by
  have z2 : (2 : Nat) ≤ sizeLine := by decide
  simp [z2, h, hm]
theorem ev_kp {g : GE} {b : E} {env : WT.Env} {st st2 : Sto} {k y z : Int} (h2 : evE g b env st = .ok (.int y) st2) (hz : k + y = z) : evE g (.bin .Add (.int k) b) env st = .ok (.int z) st2 := by
  rw [← hz]
  exact ev_add rfl h2
theorem set_ok {g : GE} {i : Nat} {b : E} {env : WT.Env} {st st2 : Sto} {d : D} (h : evE g b env st = .ok d st2) : evS g (.set i .pln b) env st = .nx (env.set i (some d)) st2 := by
  rw [evS_set, h]
  rfl
theorem lw_b1 (st : Sto) (b c : Int) (x0 x1 x2 x3 x4 x6 x7 x8 x9 : Option D) (h : b - 1 = c) : evE g_law (.bin .Sub (.var 5) (.int 1)) [x0, x1, x2, x3, x4, some (.int b), x6, x7, x8, x9] st = .ok (.int c) st := by
  rw [← h]; rfl
theorem lw_low (st st1 : Sto) (a : E) (x b : Int) (d : D) (x0 x1 x2 x3 x4 x6 x7 x8 x9 : Option D) (hx : evE g_law a [x0, x1, x2, x3, x4, some (.int b), x6, x7, x8, x9] st = .ok (.int x) st1) (h : F_law_low.sem [.int x, .int b] st1 = .ok d st1) : evE g_law (.call 2 (.cons a (.cons (.var 5) .nil)) .nil []) [x0, x1, x2, x3, x4, some (.int b), x6, x7, x8, x9] st = .ok d st1 := by
  simp [hx, h]
theorem lw_3 (st : Sto) (n d : D) (t b u : Int) (x0 x1 x2 x4 x5 x7 x8 x9 : Option D) (hu : b - t = u) (h : F_law_mean.sem [n, fr (t, b)] st = .ok d st) : evS g_law tl_law1_3 [x0, x1, x2, some n, x4, x5, some (fr (t, b)), x7, x8, x9] st = .nx [x0, x1, x2, some n, x4, x5, some (fr (t, b)), x7, some d, some (fr (u, b))] st := by
  have z2 : (2 : Nat) ≤ sizeLine := by decide
  simp [tl_law1_3, h, hu, z2]
theorem lw_4 (st : Sto) (n s o d : D) (x0 x1 x2 x4 x5 x7 x8 : Option D) (h1 : F_mean_out.sem [n, s] st = .ok d st) (h2 : F_mean_out.sem [n, o] st = .ok d st) : evS g_law tl_law1_4 [x0, x1, x2, some n, x4, x5, some s, x7, x8, some o] st = .nx [x0, x1, x2, some n, x4, x5, some s, some (.lst [d, d, d]), x8, some o] st := by
  have z3 : (3 : Nat) ≤ sizeLine := by decide
  simp [tl_law1_4, h1, h2, z3, show permL [1, 0] [s, n] = [n, s] from rfl]
theorem lw_5 (st : Sto) (d : D) (x0 x1 x2 x3 x4 x5 x6 x9 : Option D) (hs : F_law_same.sem [.lst [d, d, d], .lst [d, d, d]] st = .ok (.bl true) st) : evS g_law tl_law1_5 [x0, x1, x2, x3, x4, x5, x6, some (.lst [d, d, d]), some d, x9] st = .nx [x0, x1, x2, x3, x4, x5, x6, some (.lst [d, d, d]), some d, x9] st := by
  have z3 : (3 : Nat) ≤ sizeLine := by decide
  simp [tl_law1_5, hs, z3]
theorem ix2 (p q : Int) {r : Int} (h : 0 ≤ r) (h2 : r < 2) (st : Sto) (h3 : p ≤ q) : ∃ m : Int, idxD st (.lst [.int p, .int q]) (.int r) = some (.int m) ∧ p ≤ m ∧ m ≤ q := by
  rcases (show r = 0 ∨ r = 1 by omega) with rfl | rfl
  · exact ⟨p, rfl, by omega, by omega⟩
  · exact ⟨q, rfl, by omega, by omega⟩
theorem turn_step (st : Sto) (k m n : Nat) (hS : Stk st k m) (hm : m < 10 ^ 5) (h1 : 1 ≤ n) (hn : n ≤ 12) (x0 x1 x4 x5 x6 x7 x8 x9 : Option D) :
    ∃ st' y5 y6 y7 y8 y9, Stk st' k (m + 3) ∧ evSs g_law l_law1 [x0, x1, some (.ref k), some (.int n), x4, x5, x6, x7, x8, x9] st = .nx [x0, x1, some (.ref k), some (.int n), x4, y5, y6, y7, y8, y9] st' := by
  obtain ⟨r1, st1, p1, r10, r11, S1⟩ := sem_dip st k _ 2 hS (by omega) (by omega) (by omega)
  obtain ⟨q, hq, q0, q1⟩ := ix2 3 59 r10 r11 st1 (by decide)
  obtain ⟨r2, st2, p2, r20, r21, S2⟩ := sem_dip st1 k _ q S1 (by omega) (by omega) (by omega)
  generalize hB : 2 + r2 = B at *
  obtain ⟨r3, st3, p3, r30, r31, S3⟩ := sem_dip st2 k _ (B - 1) S2 (by omega) (by omega) (by omega)
  generalize hX : 1 + r3 = X at *
  have s1 : evS g_law tl_law1_1 [x0, x1, some (.ref k), some (.int n), x4, x5, x6, x7, x8, x9] st = .nx [x0, x1, some (.ref k), some (.int n), x4, some (.int B), x6, x7, x8, x9] st2 :=
    set_ok (ev_kp (lw_dip2 _ _ _ k _ _ _ _ _ _ _ _ _ _ _ _ _ rfl (lw_ix _ _ _ _ _ _ _ _ (lw_dip2 _ _ _ k _ _ _ _ _ _ _ _ _ _ _ _ _ rfl rfl p1) hq) p2) hB)
  obtain ⟨t, b, e, t0, tb, bB, hc⟩ := low_nat (x := X) (B := B) (by omega) (by omega)
  have hl := sem_law_low (a := X) (b := B) st3 (by omega) (small_BIG (by omega))
  rw [e] at hl
  have s2 : evS g_law tl_law1_2 [x0, x1, some (.ref k), some (.int n), x4, some (.int B), x6, x7, x8, x9] st2 = .nx [x0, x1, some (.ref k), some (.int n), x4, some (.int B), some (fr ((t : Int), (b : Int))), x7, x8, x9] st3 :=
    set_ok (lw_low st2 st3 _ X B _ _ _ _ _ _ _ _ _ _ (ev_kp (lw_dip2 _ _ _ k _ _ _ _ _ _ _ _ _ _ _ _ _ rfl (lw_b1 st2 B _ _ _ _ _ _ _ _ _ _ rfl) p3) hX) hl)
  have a1 := sem_law_mean st3 n t b hn tb (by omega)
  have a2 := sem_mean_out st3 n t b h1 hn t0 tb (by omega) hc
  have a3 := sem_mean_out st3 n (b - t) b h1 hn (by omega) (by omega) (by omega) (gcd_u tb hc)
  rw [show b - (b - t) = t by omega, tot_flip n t (b - t) hn] at a3
  generalize pr (cR (totN n t (b - t) (n + 1)) / cR (b ^ n)) = v at *
  have s3 := lw_3 st3 (.int n) _ t b ((b - t : Nat) : Int) x0 x1 (some (.ref k)) x4 (some (.int B)) x7 x8 x9 (by omega) a1
  have s4 := lw_4 st3 (.int n) _ _ _ x0 x1 (some (.ref k)) x4 (some (.int B)) x7 (some (fr v)) a2 a3
  have s5 := lw_5 st3 (fr v) x0 x1 (some (.ref k)) (some (.int n)) x4 (some (.int B)) (some (fr ((t : Int), (b : Int)))) (some (fr (((b - t : Nat) : Int), (b : Int)))) (sem_law_same (al3 v) st3)
  refine ⟨st3, some (.int B), some (fr ((t : Int), (b : Int))), some (.lst [fr v, fr v, fr v]), some (fr v), some (fr (((b - t : Nat) : Int), (b : Int))), S3, ?_⟩
  rw [btl_law1]
  exact sq s1 (sq s2 (sq s3 (sq s4 (sq s5 rfl))))
theorem lw_t (st : Sto) (R : List D) (e e' : WT.Env) (st' : Sto) (hr : rangeD 0 2 1 = some R) (hw : forD (.name 4) (evSs g_law l_law1) R e st = .nx e' st') : evS g_law tl_law2_3 e st = .nx e' st' := by
  simp [tl_law2_3, hr, hw]
theorem spot_step (ns : List Int) (hns : ns.length ≤ 63) (st : Sto) (sp : Nat) (hs : sp < 1000) (x2 x3 x4 x5 x6 x7 x8 x9 : Option D) :
    ∃ st' y2 y3 y4 y5 y6 y7 y8 y9, evSs g_law l_law2 [some (.frz ns), some (.int (sp : Int)), x2, x3, x4, x5, x6, x7, x8, x9] st = .nx [some (.frz ns), some (.int (sp : Int)), y2, y3, y4, y5, y6, y7, y8, y9] st' := by
  obtain ⟨a, b, h, a0, b0, b1⟩ := sem_law_well st ns sp hs (by omega)
  have S : Stk (st ++ [[.int a, .int b, .int 0]]) st.length 0 := ⟨a, b, 0, by simp, a0, b0, b1, by decide, by decide⟩
  generalize hst0 : st ++ [[.int a, .int b, .int 0]] = st0 at *
  have s1 := lw_1 st (.frz ns) (.int (sp : Int)) a b x2 x3 x4 x5 x6 x7 x8 x9 h
  rw [hst0] at s1
  generalize st.length = k at *
  obtain ⟨r1, st1, p1, r10, r11, S1⟩ := sem_dip st0 k _ 2 S (by omega) (by omega) (by omega)
  obtain ⟨q, hq, q0, q1⟩ := ix2 5 12 r10 r11 st1 (by decide)
  obtain ⟨r2, st2, p2, r20, r21, S2⟩ := sem_dip st1 k _ q S1 (by omega) (by omega) (by omega)
  obtain ⟨n, hn⟩ : ∃ n : Nat, 1 + r2 = (n : Int) := ⟨(1 + r2).toNat, by omega⟩
  have s2 : evS g_law tl_law2_2 [some (.frz ns), some (.int (sp : Int)), some (.ref k), x3, x4, x5, x6, x7, x8, x9] st0 = .nx [some (.frz ns), some (.int (sp : Int)), some (.ref k), some (.int (n : Int)), x4, x5, x6, x7, x8, x9] st2 :=
    set_ok (ev_kp (lw_dip2 _ _ _ k _ _ _ _ _ _ _ _ _ _ _ _ _ rfl (lw_ix _ _ _ _ _ _ _ _ (lw_dip2 _ _ _ k _ _ _ _ _ _ _ _ _ _ _ _ _ rfl rfl p1) hq) p2) hn)
  have hloop : ∃ st' y4 y5 y6 y7 y8 y9, forD (.name 4) (evSs g_law l_law1) ((List.range 2).map fun (i : Nat) => D.int (i : Int)) [some (.frz ns), some (.int (sp : Int)), some (.ref k), some (.int (n : Int)), x4, x5, x6, x7, x8, x9] st2 = .nx [some (.frz ns), some (.int (sp : Int)), some (.ref k), some (.int (n : Int)), y4, y5, y6, y7, y8, y9] st' := by
    refine forD_map (P := fun z => ∃ st' y4 y5 y6 y7 y8 y9, z = .nx [some (.frz ns), some (.int (sp : Int)), some (.ref k), some (.int (n : Int)), y4, y5, y6, y7, y8, y9] st')
      (fun pre env st' => Stk st' k (2 + 3 * pre.length) ∧ ∃ y4 y5 y6 y7 y8 y9, env = [some (.frz ns), some (.int (sp : Int)), some (.ref k), some (.int (n : Int)), y4, y5, y6, y7, y8, y9]) ⟨S2.mono (by simp), x4, x5, x6, x7, x8, x9, rfl⟩ ?_ ?_
    · rintro pre i post env st' e ⟨S3, y4, y5, y6, y7, y8, y9, rfl⟩
      obtain ⟨hi, hl⟩ := pre_range e
      obtain ⟨st4, z5, z6, z7, z8, z9, S4, w⟩ := turn_step st' k _ n S3 (by omega) (by omega) (by omega) (some (.frz ns)) (some (.int (sp : Int))) (some (.int (i : Int))) y5 y6 y7 y8 y9
      refine ⟨_, bindTg_name _ _ _, stepN _ rfl w ⟨?_, some (.int (i : Int)), z5, z6, z7, z8, z9, rfl⟩⟩
      rw [List.length_append, List.length_singleton]
      exact S4.mono (by omega)
    · rintro env st' ⟨S3, y4, y5, y6, y7, y8, y9, rfl⟩
      exact ⟨st', y4, y5, y6, y7, y8, y9, rfl⟩
  obtain ⟨st3, y4, y5, y6, y7, y8, y9, hw⟩ := hloop
  refine ⟨st3, some (.ref k), some (.int (n : Int)), y4, y5, y6, y7, y8, y9, ?_⟩
  rw [btl_law2]
  exact sq s1 (sq s2 (sq (lw_t _ _ _ _ _ (rangeD_n 2 (by omega)) hw) rfl))
theorem pl_1 (st : Sto) (ns : List Int) (len m M : Int) (R : List D) (x1 x2 x3 x4 x5 x6 x7 x8 x9 : Option D) (hlen : (ns.length : Int) = len) (e1 : ∀ st, biD st .min2 [.int 6, .int len] = some (.int m)) (e2 : ∀ st, biD st .max2 [.int 1, .int m] = some (.int M)) (e3 : rangeD 0 M 1 = some R) :
    evIt g_law (.range1 (.bi .max2 (.cons (.int 1) (.cons (.bi .min2 (.cons (.int 6) (.cons (.bi .len (.cons (.var 0) .nil)) .nil))) .nil)))) [some (.frz ns), x1, x2, x3, x4, x5, x6, x7, x8, x9] st = .ok R st := by
  have hlen' : ∀ st, biD st .len [.frz ns] = some (.int len) := fun st => by rw [biD_lenf, hlen]
  simp [-biD_lenf, -biD_min2, -biD_max2, hlen', e1, e2, e3]
theorem plain (ns : List Int) (h : ns.length ≤ 63) : ∃ st, F_law.sem [.frz ns] [] = .ok (.bl true) st := by
  obtain ⟨N, hN, hit⟩ : ∃ N : Nat, N ≤ 6 ∧ evIt g_law (.range1 (.bi .max2 (.cons (.int 1) (.cons (.bi .min2 (.cons (.int 6) (.cons (.bi .len (.cons (.var 0) .nil)) .nil))) .nil)))) [some (.frz ns), none, none, none, none, none, none, none, none, none] [] = .ok ((List.range N).map fun (i : Nat) => D.int (i : Int)) [] := by
    refine ⟨max 1 (min 6 ns.length), by omega, ?_⟩
    have e1 : ∀ st, biD st .min2 [.int 6, .int ns.length] = some (.int ((min 6 ns.length : Nat) : Int)) := fun st => by
      rw [biD_min2]
      by_cases hc : ns.length < 6
      · rw [if_pos (by omega), Nat.min_eq_right (by omega)]
      · rw [if_neg (by omega), Nat.min_eq_left (by omega)]; rfl
    have e2 : ∀ st, biD st .max2 [.int 1, .int ((min 6 ns.length : Nat) : Int)] = some (.int ((max 1 (min 6 ns.length) : Nat) : Int)) := fun st => by
      rw [biD_max2]
      by_cases hc : 1 < min 6 ns.length
      · rw [if_pos (by omega), Nat.max_eq_right (by omega)]
      · rw [if_neg (by omega), Nat.max_eq_left (by omega)]; rfl
    exact pl_1 [] ns ns.length _ _ _ _ _ _ _ _ _ _ _ _ rfl e1 e2 (rangeD_n (max 1 (min 6 ns.length)) (by omega))
  have hloop : ∃ st' y1 y2 y3 y4 y5 y6 y7 y8 y9, evS g_law t_law1 [some (.frz ns), none, none, none, none, none, none, none, none, none] [] = .nx [some (.frz ns), y1, y2, y3, y4, y5, y6, y7, y8, y9] st' := by
    rw [t_law1, evS_for, hit, R.toS_ok, kFor_ap]
    refine forD_map (P := fun z => ∃ st' y1 y2 y3 y4 y5 y6 y7 y8 y9, z = .nx [some (.frz ns), y1, y2, y3, y4, y5, y6, y7, y8, y9] st')
      (fun pre env st' => ∃ y1 y2 y3 y4 y5 y6 y7 y8 y9, env = [some (.frz ns), y1, y2, y3, y4, y5, y6, y7, y8, y9]) ⟨_, _, _, _, _, _, _, _, _, rfl⟩ ?_ ?_
    · rintro pre x post env st' e ⟨y1, y2, y3, y4, y5, y6, y7, y8, y9, rfl⟩
      have hx : x < N := List.mem_range.mp (by rw [e]; simp)
      obtain ⟨st2, z2, z3, z4, z5, z6, z7, z8, z9, h⟩ := spot_step ns h st' x (by omega) y2 y3 y4 y5 y6 y7 y8 y9
      exact ⟨_, bindTg_name _ _ _, stepN _ rfl h ⟨_, _, _, _, _, _, _, _, _, rfl⟩⟩
    · rintro env st' ⟨y1, y2, y3, y4, y5, y6, y7, y8, y9, rfl⟩
      exact ⟨st', y1, y2, y3, y4, y5, y6, y7, y8, y9, rfl⟩
  obtain ⟨st', y1, y2, y3, y4, y5, y6, y7, y8, y9, hl⟩ := hloop
  refine ⟨st', ?_⟩
  rw [ev_law, bt_law]
  exact congrArg RS.fin (sq hl (sqR (d := .bl true) (st' := st') rfl))
end Lk35
end

set_option Elab.async false
set_option linter.all false
set_option maxRecDepth 100000
set_option maxHeartbeats 0
open PySem PySem.W PySem.Calls PyProof.Rows
namespace Lk35
open HandSHeadRun
theorem walk : WalkO prgQ loose (XL prgQ []) hk.says rowR.toRowW defD [] (fun f vs => PySem.call f vs) := by
  refine WT.walk_ofW (l := PySem.Challenge.rw_wholetosses_k35_whole_means_of_a_crooked) (n := 63) (k := Lk35.lvl) (x := "script") rfl (by decide) asm10 ⟨rfl, by decide, by decide⟩ ?F
  intro w mg fa h Y G hmg0
  obtain ⟨K, KX, c⟩ := Y
  have hmg : mg "law" = some (.ref fa) := asm9 ▸ hmg0
  have e := hmg.symm.trans (WT.facts_glo c.look KX G (x := "law") (by decide))
  cases e
  obtain ⟨fd, F, hb⟩ := Lk35.all_ok (P := PySem.Challenge.rw_wholetosses_k35_whole_means_of_a_crooked.prog) (w := w) KX G c
  refine ⟨K, fd, _, KX, hb, ?_, fun base _ _ => F base⟩
  intro H a ns hl hO hS
  obtain ⟨st, hst⟩ := Lk35.plain ns hl
  exact WT.law_sp hst hO hS
end Lk35
theorem PySem.Challenge.cw_wholetosses_k35_whole_means_of_a_crooked_holds : PySem.Challenge.rw_wholetosses_k35_whole_means_of_a_crooked.Holds := by
  w_on; o_law
  exact HandSHeadRun.head_imp (r := Lk35.rowR) (q := Lk35.prgQ) (H := Lk35.hk) (ob := Lk35.ob) (M := 2000) (loose := Lk35.loose) (d := Lk35.defD) (kwd := []) Lk35.ob_eq
    Lk35.run Lk35.asm1 Lk35.asm2 Lk35.asm3 Lk35.asm4 Lk35.asm5 Lk35.asm6 Lk35.asm7 Lk35.asm8 Lk35.walk

import PyProof.Rows.All
import Wide.All
import OpenK.AllK
import Wide.FinOn
import HandS.ForMost
import HandS.Exc
import HandS.Wide
import HandS.WideBits
import HandS.Gcd
import HandS.IsInst
import HandS.Flow
import HandS.Zip
import HandS.Rev
import HandS.TupMul
import HandS.TupAny
import HandS.ExcOwn
import HandS.Style
import KE.KStateDown
import Lean
import HandS.Ends
import HandS.More
import HandS.Words
import HandS.WordsExc
import HandS.Defaults
import HandS.Head0
import HandS.Head1
import HandS.Head2
import HandS.HeadEnd
import HandS.HeadHook1
import HandS.HeadHook2
import HandS.Deep
import KE.KDictKeyed
import PyProof.Rows.TupTab
import HandS.ExcInit
import HandS.ExcField
import HandS.ExcIs
import HandS.ExcValue
import KE.KMathG
import PyProof.ReprRoads
import PyProof.CallFns
import HandS.Conv
import PyProof.Draws
import PyProof.EnumMake
import KE.KDictWalk
import HandS.Set
import PyProof.ListNew
import HandS.TupSets
import PyProof.SumAny
import KE.KDictPairs
import KE.KDictDisplayH
import PySem.Challenge.RW_wholetosses_k57_errors_of_games_and_sour
import HandS.Head3
section
set_option Elab.async false
set_option linter.all false
set_option maxRecDepth 100000
/-! K1: values D, stores, results, the small language E / S, its evaluator. Own work. -/
namespace WT
open PySem

inductive D where
  | non | bl (b : Bool) | int (i : Int) | str (x : Str) | tup (xs : List D) | lst (xs : List D) | frz (ns : List Int)
  | dK (ks : List L2.Key) (vs : List D) | dT (ks : List NestedKey) (vs : List D) | ref (k : Nat) | exc (c : Str) (d : D)

abbrev Sto := List (List D)
inductive R (α : Type) where
  | ok (a : α) (st : Sto) | exn (c : Str) (d : D) (st : Sto) | bad
def R.bind {α β : Type} : R α → (α → Sto → R β) → R β
  | .ok a st, f => f a st
  | .exn c d st, _ => .exn c d st
  | .bad, _ => .bad
/-- no error leaves -/
def R.nox {α : Type} : R α → R α
  | .exn _ _ _ => .bad
  | r => r
@[simp] theorem R.nox_ok {α : Type} (a : α) (st : Sto) : (R.ok a st).nox = .ok a st := rfl
def R.ofO {α : Type} (st : Sto) : Option α → R α
  | some a => .ok a st
  | none => .bad
@[simp] theorem R.bind_ok {α β : Type} (a : α) (st : Sto) (f : α → Sto → R β) : (R.ok a st).bind f = f a st := rfl
@[simp] theorem R.bind_exn {α β : Type} (c : Str) (d : D) (st : Sto) (f : α → Sto → R β) : (R.exn c d st).bind f = .exn c d st := rfl
@[simp] theorem R.bind_bad {α β : Type} (f : α → Sto → R β) : (R.bad).bind f = .bad := rfl
@[simp] theorem R.ofO_some {α : Type} (st : Sto) (a : α) : R.ofO st (some a) = .ok a st := rfl
@[simp] theorem R.ofO_none {α : Type} (st : Sto) : R.ofO st (none : Option α) = .bad := rfl

def D.isNil : List D → Bool
  | [] => true
  | _ => false
/-! ### data without dicts, references: for == -/
mutual
def toPy : D → Option PyData
  | .non => some .none
  | .bl b => some (.bool b)
  | .int i => some (.int i)
  | .str x => some (.str x)
  | .tup xs => (toPys xs).map .tuple
  | .lst xs => (toPys xs).map .list
  | .frz _ => none
  | .dK _ _ => none
  | .dT _ _ => none
  | .ref _ => none
  | .exc _ _ => none
def toPys : List D → Option (List PyData)
  | [] => some []
  | x :: xs => match toPy x, toPys xs with
    | some a, some b => some (a :: b)
    | _, _ => none
end
/-- == of two data, where it is served -/
def eqD0 (a b : D) : Option Bool := match toPy a, toPy b with
  | some x, some y => if SeqAt.shaped x = true ∧ SeqAt.shaped y = true then some (PyData.eqv x y) else none
  | _, _ => none
/-- .. of anything with what is empty -/
def eqE : D → D → Option Bool
  | .tup xs, .tup [] => some xs.isEmpty
  | .lst xs, .lst [] => some xs.isEmpty
  | _, _ => none
def eqD (a b : D) : Option Bool := (eqD0 a b).or (eqE a b)
/-! no list, no dict within -/
mutual
def noL : D → Bool
  | .non | .bl _ | .int _ | .str _ | .frz _ | .ref _ => true
  | .tup xs => noLs xs
  | .lst _ | .dK _ _ | .dT _ _ | .exc _ _ => false
def noLs : List D → Bool
  | [] => true
  | x :: xs => noL x && noLs xs
end
def flatD : D → Bool
  | .non | .bl _ | .int _ | .str _ => true
  | _ => false
def eqF : D → D → Bool
  | .non, .non => true
  | .bl a, .bl b => a == b
  | .bl a, .int j => (if a then 1 else 0) == j
  | .int i, .bl b => i == (if b then 1 else 0)
  | .int i, .int j => i == j
  | .str x, .str y => x == y
  | _, _ => false

/-! ### operations -/
def log2Lt (i : Int) (n : Nat) : Prop := i.natAbs.log2 < n
instance (i : Int) (n : Nat) : Decidable (log2Lt i n) := inferInstanceAs (Decidable (_ < _))
def mulOK (i j : Int) : Prop := ((-(2 ^ 64) < i ∧ i < 2 ^ 64) ∨ (-(2 ^ 64) < j ∧ j < 2 ^ 64)) ∨ (i.natAbs.log2 + j.natAbs.log2 < 1000000)
instance (i j : Int) : Decidable (mulOK i j) := inferInstanceAs (Decidable (_ ∨ _))
def divOK (j : Int) : Prop := j ≠ 0 ∧ log2Lt j 9000
instance (j : Int) : Decidable (divOK j) := inferInstanceAs (Decidable (_ ∧ _))
/-- or the quotient is not too great -/
def dv2OK (i j : Int) : Prop := j ≠ 0 ∧ i.natAbs.log2 ≤ j.natAbs.log2 + 4400
instance (i j : Int) : Decidable (dv2OK i j) := inferInstanceAs (Decidable (_ ∧ _))
def powOK (i j : Int) : Prop := 0 ≤ j ∧ j ≤ 1000000 ∧ i.natAbs < 2 ^ 64
instance (i j : Int) : Decidable (powOK i j) := inferInstanceAs (Decidable (_ ∧ _))
def pwOK (i j : Int) : Prop := powOK i j ∨ (0 ≤ j ∧ ((i.natAbs.log2 + 1 : Nat) : Int) * j ≤ 2 ^ 27)
instance (i j : Int) : Decidable (pwOK i j) := inferInstanceAs (Decidable (_ ∨ _))
def repOK (n : Nat) (k : Int) : Prop := -(2 ^ 63) ≤ k ∧ k < 2 ^ 63 ∧ n * k.toNat ≤ sizeLine
instance (n : Nat) (k : Int) : Decidable (repOK n k) := inferInstanceAs (Decidable (_ ∧ _))
def repTOK (n : Nat) (k : Int) : Prop := n ≠ 0 ∧ 2 ≤ k ∧ k ≤ 1000 ∧ n ≤ 1000
instance (n : Nat) (k : Int) : Decidable (repTOK n k) := inferInstanceAs (Decidable (_ ∧ _))
def guardO {α : Type} (p : Prop) [Decidable p] (x : α) : Option α := if p then some x else none

def addD : D → D → Option D
  | .int a, .int b => some (.int (a + b))
  | .str a, .str b => guardO (a.length + b.length ≤ sizeLine) (.str (a ++ b))
  | .tup a, .tup b => guardO (a.length + b.length ≤ sizeLine) (.tup (a ++ b))
  | .lst a, .lst b => guardO (a.length + b.length ≤ sizeLine) (.lst (a ++ b))
  | _, _ => none
def mulD : D → D → Option D
  | .int a, .int b => guardO (mulOK a b) (.int (a * b))
  | .lst a, .int k => guardO (repOK a.length k) (.lst (List.replicate k.toNat a).flatten)
  | .tup a, .int k => if k = 1 ∨ a.isEmpty = true then guardO (-(2 ^ 63) ≤ k ∧ k < 2 ^ 63) (.tup a) else if k ≤ 0 then guardO (-1000 ≤ k) (.tup []) else guardO (repTOK a.length k) (.tup (List.replicate k.toNat a).flatten)
  | _, _ => none
def binD : Operator → D → D → Option D
  | .Add, a, b => addD a b
  | .Mult, a, b => mulD a b
  | .Sub, .int a, .int b => some (.int (a - b))
  | .FloorDiv, .int a, .int b => (guardO (divOK b) (.int (a.fdiv b))).or (guardO (dv2OK a b) (.int (a.fdiv b)))
  | .Mod, .int a, .int b => guardO (b ≠ 0) (.int (a.fmod b))
  | .Pow, .int a, .int b => guardO (pwOK a b) (.int (a ^ b.toNat))
  | .LShift, .int a, .int b => guardO (powOK a b) (.int (a * 2 ^ b.toNat))
  | _, _, _ => none

/-- the items of a list or tuple that is walked or asked -/
def seqD (st : Sto) : D → Option (List D)
  | .lst xs => some xs
  | .tup xs => some xs
  | .ref k => st[k]?
  | _ => none
/-- dicts whose keys are ints and texts, whose values hold no lists: a key -/
def keyOf : D → Option L2.Key
  | .int i => some (.inl i)
  | .str x => some (.inr x)
  | _ => none
mutual
/-- a key of a dict whose keys are tuples of ints, also of such tuples -/
def keyNO : D → Option NestedKey
  | .non => some .none
  | .bl _ => none
  | .int i => some (.num i)
  | .tup xs => (keyNOs xs).map .tup
  | .str x => some (.text x)
  | .lst _ => none
  | .frz _ => none
  | .dK _ _ => none
  | .dT _ _ => none
  | .ref _ => none
  | .exc _ _ => none
def keyNOs : List D → Option (List NestedKey)
  | [] => some []
  | x :: xs => match keyNO x, keyNOs xs with
    | some a, some b => some (a :: b)
    | _, _ => none
end
def keyTO : D → Option NestedKey
  | .tup xs => (keyNO (.tup xs)).bind fun k => if k.depth ≤ 8 then some k else none
  | _ => none
def valP {κ α : Type} [DecidableEq κ] : List κ → List α → κ → Option α
  | k' :: ks, v :: vs, k => if k' = k then some v else valP ks vs k
  | _, _, _ => none
def repP {κ α : Type} [DecidableEq κ] (k : κ) (v : α) : List κ → List α → List α
  | k' :: ks, w :: vs => (if k' = k then v else w) :: repP k v ks vs
  | _, _ => []
def inD (x : D) (xs : List D) : Bool := xs.any fun y => eqF y x
def lexLtD : List Int → List Int → Bool
  | x :: xs, y :: ys => if x = y then lexLtD xs ys else decide (x < y)
  | [], _ :: _ => true
  | _, [] => false
def cmpD : CmpOp → D → D → Option Bool
  | .Eq, .dK _ _, .tup _ => some false
  | .Eq, a, b => eqD a b
  | .NotEq, a, b => (eqD a b).map (!·)
  | .Lt, .int a, .int b => some (decide (a < b))
  | .LtE, .int a, .int b => some (decide (a ≤ b))
  | .Gt, .int a, .int b => some (decide (b < a))
  | .GtE, .int a, .int b => some (decide (b ≤ a))
  | .In, a, .lst xs => guardO (flatD a = true ∧ xs.all flatD = true) (inD a xs)
  | .In, a, .tup xs => guardO (flatD a = true ∧ xs.all flatD = true) (inD a xs)
  | .NotIn, a, .lst xs => guardO (flatD a = true ∧ xs.all flatD = true) (!inD a xs)
  | .NotIn, a, .tup xs => guardO (flatD a = true ∧ xs.all flatD = true) (!inD a xs)
  | .In, a, .dK ks vs => (keyOf a).map fun k => (valP ks vs k).isSome
  | .NotIn, a, .dK ks vs => (keyOf a).map fun k => !(valP ks vs k).isSome
  | .In, a, .dT ks vs => (keyTO a).map fun k => (valP ks vs k).isSome
  | .NotIn, a, .dT ks vs => (keyTO a).map fun k => !(valP ks vs k).isSome
  | .Is, a, .non => some (match a with | .non => true | _ => false)
  | .IsNot, a, .non => some (match a with | .non => false | _ => true)
  | .Is, .bl a, .bl b => some (decide (a = b))
  | .IsNot, .bl a, .bl b => some (!decide (a = b))
  | _, _, _ => none
/-- truth -/
def truD (st : Sto) : D → Option Bool
  | .non => some false
  | .bl b => some b
  | .int i => some (i != 0)
  | .str x => guardO (x.length ≤ sizeLine) (x.length != 0)
  | .lst xs => some (!xs.isEmpty)
  | .tup xs => some (!xs.isEmpty)
  | _ => none
/-- x[i] -/
def ixD {α : Type} (xs : List α) (i : Int) : Option α := L2.atI xs i
def idxD (st : Sto) : D → D → Option D
  | .lst xs, .int i => ixD xs i
  | .tup xs, .int i => ixD xs i
  | .ref k, .int i => (st[k]?).bind fun xs => ixD xs i
  | .frz ns, .int i => ixD (ns.map D.int) i
  | .str z, .int i => if z.length ≤ sizeLine then (ixD z.cps.toList i).map fun c => .str ⟨#[c]⟩ else none
  | .dK ks vs, y => (keyOf y).bind fun k => valP ks vs k
  | .dT ks vs, y => (keyTO y).bind fun k => valP ks vs k
  | _, _ => none
/-- x[lo:hi] -/
def cutL {α : Type} (xs : List α) (lo hi : Option Int) : List α := (xs.drop (HT.sIx xs.length 0 lo)).take (HT.sIx xs.length xs.length hi - HT.sIx xs.length 0 lo)
def intO : Option D → Option (Option Int)
  | none => some none
  | some (.int i) => some (some i)
  | _ => none
def sliceD (x : D) (lo hi : Option Int) : Option D := match x with
  | .lst xs => some (.lst (cutL xs lo hi))
  | .tup xs => some (.tup (cutL xs lo hi))
  | _ => none
def revD : D → Option D
  | .lst xs => some (.lst xs.reverse)
  | .tup xs => some (.tup xs.reverse)
  | _ => none
/-- the built-in classes of isinstance -/
inductive Ty where
  | int | bool | str | tuple | list | dict
  deriving DecidableEq
def tyD : D → Option (List Ty)
  | .non => some []
  | .bl _ => some [.bool, .int]
  | .int _ => some [.int]
  | .str _ => some [.str]
  | .tup _ => some [.tuple]
  | .lst _ => some [.list]
  | .dK _ _ => some [.dict]
  | _ => none
def isiD (x : D) (ts : List Ty) : Option Bool := (tyD x).map fun own => ts.any fun t => own.contains t

/-- built-in functions -/
inductive Bi where
  | len | int | sum | all | any | max | min | max2 | min2 | tuple | list | abs | gcd | sorted | comb | fact
  deriving DecidableEq
def intsD : List D → Option (List Int)
  | [] => some []
  | .int i :: r => (intsD r).map (i :: ·)
  | _ => none
def blsD : List D → Option (List Bool)
  | [] => some []
  | .bl i :: r => (blsD r).map (i :: ·)
  | _ => none
def seqOf : D → Option (List D)
  | .lst xs => some xs
  | .tup xs => some xs
  | _ => none
def maxI : List Int → Option Int
  | [] => none
  | x :: xs => some (xs.foldl (fun m y => if m < y then y else m) x)
def minI : List Int → Option Int
  | [] => none
  | x :: xs => some (xs.foldl (fun m y => if y < m then y else m) x)
def insI (x : Int) : List Int → List Int
  | [] => [x]
  | y :: r => if x ≤ y then x :: y :: r else y :: insI x r
def sortI (xs : List Int) : List Int := xs.foldr insI []
/-- n over k, as it is worked out -/
def combI (n k : Int) : Int := Builtin.Math.fallingProduct n (min k (n - k)).toNat / Builtin.Math.fallingProduct (min k (n - k)) (min k (n - k)).toNat
def factI (n : Int) : Int := ((Builtin.Math.factorialNat n.toNat : Nat) : Int)
def combOK (n k : Int) : Prop := 0 ≤ k ∧ k ≤ n ∧ n ≤ 1000 ∧ (combI n k).natAbs.log2 < 20000
instance (n k : Int) : Decidable (combOK n k) := inferInstanceAs (Decidable (_ ∧ _))
def factOK (n : Int) : Prop := 0 ≤ n ∧ n ≤ 1000 ∧ (factI n).natAbs.log2 < 20000
instance (n : Int) : Decidable (factOK n) := inferInstanceAs (Decidable (_ ∧ _))
def keysI : List L2.Key → Option (List Int)
  | [] => some []
  | .inl i :: r => (keysI r).map (i :: ·)
  | .inr _ :: _ => none
def biD (st : Sto) : Bi → List D → Option D
  | .len, [.lst xs] => some (.int xs.length)
  | .len, [.tup xs] => some (.int xs.length)
  | .len, [.frz xs] => some (.int xs.length)
  | .len, [.dK ks _] => some (.int ks.length)
  | .len, [.str x] => guardO (x.length ≤ sizeLine) (.int x.length)
  | .len, [.ref k] => (st[k]?).map fun xs => .int xs.length
  | .int, [.int i] => some (.int i)
  | .int, [.bl b] => some (.int (if b then 1 else 0))
  | .sum, [x] => ((seqOf x).bind intsD).map fun ns => .int ns.sum
  | .all, [.lst x] => (blsD x).map fun bs => .bl (bs.all id)
  | .any, [.lst x] => (blsD x).map fun bs => .bl (bs.any id)
  | .max, [.lst x] => ((intsD x).bind maxI).map D.int
  | .min, [.lst x] => ((intsD x).bind minI).map D.int
  | .max2, [.int i, .int j] => some (.int (if j > i then j else i))
  | .min2, [.int i, .int j] => some (.int (if j < i then j else i))
  | .tuple, [.lst x] => some (.tup x)
  | .tuple, [.tup x] => some (.tup x)
  | .list, [.lst x] => some (.lst x)
  | .list, [.tup x] => some (.lst x)
  | .list, [.frz ns] => some (.lst (ns.map D.int))
  | .abs, [.int i] => some (.int (if i < 0 then -i else i))
  | .gcd, [.int i, .int j] => some (.int (Nat.gcd i.natAbs j.natAbs : Nat))
  | .sorted, [.lst x] => (intsD x).bind fun ns => guardO (ns.length < 64) (.lst ((sortI ns).map D.int))
  | .sorted, [.dK ks _] => (keysI ks).bind fun ns => guardO (ns.length < 64) (.lst ((sortI ns).map D.int))
  | .comb, [.int n, .int k] => guardO (combOK n k) (.int (combI n k))
  | .fact, [.int n] => guardO (factOK n) (.int (factI n))
  | _, _ => none

/-! ### dicts: operations -/
def isDK : D → Bool
  | .dK _ _ => true
  | .dT _ _ => true
  | _ => false
def isLst : D → Bool
  | .lst _ => true
  | _ => false
def dgetoD : D → D → D → Option D
  | .dK ks vs, y, z => if noL z then (keyOf y).map fun k => (valP ks vs k).getD z else none
  | .dT ks vs, y, z => if noL z then (keyTO y).map fun k => (valP ks vs k).getD z else none
  | _, _, _ => none
/-- d[k] = v -/
def dputD : D → D → D → Option D
  | .dK ks vs, y, v => if noL v && decide (ks.length < sizeLine) then (keyOf y).map fun k => if (valP ks vs k).isSome then .dK ks (repP k v ks vs) else .dK (ks ++ [k]) (vs ++ [v]) else none
  | .dT ks vs, y, v => if noL v && decide (ks.length < sizeLine) then (keyTO y).map fun k => if (valP ks vs k).isSome then .dT ks (repP k v ks vs) else .dT (ks ++ [k]) (vs ++ [v]) else none
  | _, _, _ => none
/-- xs.index(x) -/
def midxD (l x : D) : Option D := match toPy l, toPy x with
  | some (.list ps), some p => if SeqAt.shaped (.list ps) = true ∧ SeqAt.shaped p = true then (ps.findIdx? fun z => PyData.eqv z p).map fun j => D.int (j : Nat) else none
  | _, _ => none
/-- statements that change a list -/
inductive Mth where
  | extend | insert | reverse
  deriving DecidableEq
def mthD : Mth → List D → List D → Option (List D)
  | .extend, xs, [.lst ys] => guardO (noLs ys = true ∧ xs.length + ys.length ≤ sizeLine) (xs ++ ys)
  | .insert, xs, [.int i, d] => guardO (noL d = true ∧ xs.length < sizeLine ∧ 0 ≤ i ∧ i < 2 ^ 63) (xs.take i.toNat ++ [d] ++ xs.drop i.toNat)
  | .reverse, xs, [] => some xs.reverse
  | _, _, _ => none

/-- operations of one argument, with a text of their own -/
inductive Op1 where
  | bits | lenSet | sortSet | sortD | mkK | sumT | rep | dctI (k : Int)
  deriving DecidableEq
/-- the first ones met -/
def nubI (ns : List Int) : List Int := ns.foldl (fun acc x => if acc.any (· == x) then acc else acc ++ [x]) []
/-- pairs of integers, none below 0 -/
def prsD : List D → Option (List (List Int))
  | [] => some []
  | .tup [.int a, .int b] :: xs => if 0 ≤ a ∧ 0 ≤ b then (prsD xs).map ([a, b] :: ·) else none
  | _ => none
def nubL (l : List (List Int)) : List (List Int) := l.foldl (fun acc y => if y ∈ acc then acc else acc ++ [y]) []
def insL (x : List Int) : List (List Int) → List (List Int)
  | [] => [x]
  | y :: l => if lexLtD y x then y :: insL x l else x :: y :: l
def sortL : List (List Int) → List (List Int)
  | [] => []
  | x :: l => insL x (sortL l)
/-- pairs, the first parts keys, the others without lists -/
def prsK : List D → Option (List (L2.Key × D))
  | [] => some []
  | .tup [k, v] :: xs => match keyOf k, prsK xs with
    | some y, some l => if noL v then some ((y, v) :: l) else none
    | _, _ => none
  | _ => none
def mkP {κ α : Type} [DecidableEq κ] : List (κ × α) → List κ → List α → List κ × List α
  | [], ks, vs => (ks, vs)
  | (k, v) :: r, ks, vs => if (valP ks vs k).isSome then mkP r ks (repP k v ks vs) else mkP r (ks ++ [k]) (vs ++ [v])
def dkP (p : List L2.Key × List D) : D := .dK p.1 p.2
/-- tuples, none empty -/
def tupsD : List D → Option (List (List D))
  | [] => some []
  | .tup (y :: ys) :: xs => (tupsD xs).map ((y :: ys) :: ·)
  | _ => none
/-- a dict whose keys are integers, its values without lists, as data -/
def repK (ks : List L2.Key) (vs : List D) : Option PyData := match keysI ks, toPys vs with
  | some ns, some ps => if noLs vs = true ∧ ns.length = ps.length then some (.dict (List.zip (ns.map PyData.int) ps)) else none
  | _, _ => none
def op1D : Op1 → D → Option D
  | .bits, .int i => some (.int ((Builtin.Int.intBits i : Nat) : Int))
  | .lenSet, .lst xs => (intsD xs).bind fun ns => guardO (ns.length ≤ 4000) (.int ((nubI ns).length : Nat))
  | .sortSet, .lst xs => (intsD xs).bind fun ns => guardO (ns.length < 64) (.lst ((sortI (nubI ns)).map D.int))
  | .sumT, .lst xs => (tupsD xs).bind fun l => guardO (noLs l.flatten = true ∧ l.flatten.length ≤ sizeLine) (.tup l.flatten)
  | .mkK, .lst xs => (prsK xs).bind fun l => guardO (xs.length ≤ sizeLine) (dkP (mkP l [] []))
  | .sortD, .dK ks _ => (keysI ks).bind fun ns => guardO (ns.length < 64) (.lst ((sortI ns).map D.int))
  | .dctI k, d => if noL d then some (.dK [.inl k] [d]) else none
  | .rep, .dK ks vs => (repK ks vs).bind fun p => guardO (p.showable = true ∧ p.depth ≤ 64 ∧ p.shown.length ≤ sizeLine) (.str p.shown)
  | .rep, d => (toPy d).bind fun p => guardO (p.canLay0 = true ∧ p.hasDict = false ∧ p.showable = true ∧ p.depth ≤ 64 ∧ p.shown.length ≤ sizeLine) (.str p.shown)
  | .sortSet, .tup xs => (prsD xs).bind fun ps => guardO ((nubL ps).length ≤ 62) (.lst ((sortL (nubL ps)).map fun l => .tup (l.map D.int)))
  | _, _ => none
/-- operations of two arguments, with a text of their own: xs.count(x), {k: v} -/
inductive Op2 where
  | cnt | dct1 | dctI2 (k l : Int)
  deriving DecidableEq
def cntD (l x : D) : Option D := match toPy l, toPy x with
  | some (.list ps), some p => if SeqAt.shaped (.list ps) = true ∧ SeqAt.shaped p = true then some (.int ((ps.countP fun z => PyData.eqv z p : Nat) : Int)) else none
  | _, _ => none
/-- the first argument's kind, looked at ahead of the second -/
def op2A : Op2 → D → Bool
  | .cnt, .lst _ => true
  | .dct1, _ => true
  | .dctI2 _ _, _ => true
  | _, _ => false
def op2D : Op2 → D → D → Option D
  | .cnt, l, x => cntD l x
  | .dctI2 k l, a, b => if noL a && noL b && decide (k ≠ l) then some (.dK [.inl k, .inl l] [a, b]) else none
  | .dct1, k, v => if noL v then (keyTO k).map fun k => .dT [k] [v] else none
/-- isinstance of an error -/
def isxD (cs : List Str) (all : Bool) (y : Str) : D → Option D
  | .exc c _ => if c ∈ cs then some (.bl (all || y == c)) else none
  | _ => none
/-- an error's value -/
def xvalD (cs : List Str) : D → Option D
  | .exc c d => if c ∈ cs then some d else none
  | _ => none
/-- what stands in an except suite: texts, truths, None, the error's value -/
inductive Xa where
  | str (x : Str) | bl (b : Bool) | non | val
inductive Xs where
  | atom (a : Xa) | tup (as : List Xa) | lst (as : List Xa)
inductive Sx where
  | set (j : Nat) (x : Xs) | ret (x : Xs)
  /-- the error itself is kept under a name -/
  | keep (j : Nat)
def evXa (d : D) : Xa → D
  | .str x => .str x
  | .bl b => .bl b
  | .non => .non
  | .val => d
def evXs (d : D) : Xs → D
  | .atom a => evXa d a
  | .tup as => .tup (as.map (evXa d))
  | .lst as => .lst (as.map (evXa d))
/-- an except clause: its class, whether it is the base of all, the slot of its name, its suite -/
structure Cls where
  cls : Str
  all : Bool
  nm : Nat
  body : Sx

/-! ### the language -/
mutual
inductive Tg where
  | name (i : Nat) | tup (ts : Tgs)
inductive Tgs where
  | nil | cons (t : Tg) (ts : Tgs)
end
mutual
inductive E where
  | var (i : Nat) | int (i : Int) | bl (b : Bool) | non | str (x : Str) | glob (c : Nat)
  | bin (op : Operator) (a b : E) | neg (a : E) | not (a : E)
  | cmp (op : CmpOp) (a b : E) | cmp2 (op op' : CmpOp) (a b c : E)
  | and (a b : E) | or (a b : E) | ife (c a b : E)
  | tup (es : Es) | lst (es : Es)
  | idx (a i : E) | slice (a : E) (lo hi : Eo)
  | isi (a : E) (ts : List Ty) (tupled : Bool)
  /-- isinstance of an error; its class is one of cs -/
  | isx (a : E) (cs : List Str) (all : Bool) (y : Str)
  /-- an error's value -/
  | xval (a : E) (cs : List Str)
  /-- the value of an error that is made here -/
  | xmk (y : Str) (a : E)
  | rev (a : E)
  | rg1 (l : Bool) (b : E) | rg2 (l : Bool) (a b : E)
  | bi (f : Bi) (es : Es)
  | call (f : Nat) (es kes : Es) (ord : List Nat)
  | box (e : E)
  | comp (tg : Tg) (it : It) (hasIf : Bool) (cond elt : E)
  | comp2 (tg : Tg) (it : It) (tg1 : Tg) (it1 : It) (elt : E)
  | dnew (t : Bool) | dgeto (d k x : E) | midx (l x : E)
  | op1 (o : Op1) (a : E)
  | op2 (o : Op2) (a b : E)
  | popE (i : Nat) (e : E)
  | dead
inductive Es where
  | nil | cons (e : E) (es : Es)
inductive Eo where
  | no | yes (e : E)
inductive It where
  | seq (e : E) | range1 (a : E) | range2 (a b : E) | range3 (a b c : E) | enum (a : E) | zip (a b : E) | items (a : E) | keys (a : E)
end

abbrev Env := List (Option D)
structure FnI where
  name : Str
  ps : List Str
  sem : List D → Sto → R D
structure GE where
  fns : List FnI
  cons : List (Str × D)

def slot (env : Env) (i : Nat) : Option D := (env[i]?).getD none
/-- an item is taken out of the list that a name refers to -/
def popR (k : Nat) (x : D) (st : Sto) : R D := match x, st[k]? with
  | .int j, some xs => if -(2 ^ 63) ≤ j ∧ j < 2 ^ 63 then (match L2.ixN xs.length j with
    | some n => (match xs[n]? with
      | some y => .ok y (st.set k (xs.eraseIdx n))
      | none => .bad)
    | none => .bad) else .bad
  | _, _ => .bad
def popK : Option D → R D → R D
  | some (.ref k), r => r.bind (popR k)
  | _, _ => .bad
mutual
def bindTg : Tg → D → Env → Option Env
  | .name i, d, env => some (env.set i (some d))
  | .tup ts, d, env => match d with
    | .tup ds => bindTgs ts ds env
    | _ => none
def bindTgs : Tgs → List D → Env → Option Env
  | .nil, ds, env => match ds with
    | [] => some env
    | _ => none
  | .cons t ts, ds, env => match ds with
    | d :: ds => (bindTg t d env).bind fun env' => bindTgs ts ds env'
    | [] => none
end
mutual
def Tg.slots : Tg → List Nat
  | .name i => [i]
  | .tup ts => ts.slots
def Tgs.slots : Tgs → List Nat
  | .nil => []
  | .cons t ts => t.slots ++ ts.slots
end
def Tgs.len : Tgs → Nat
  | .nil => 0
  | .cons _ ts => ts.len + 1
def compLoop (f : D → Sto → R (Option D)) : List D → Sto → R (List D)
  | [], st => .ok [] st
  | x :: xs, st => (f x st).bind fun y st1 => (compLoop f xs st1).bind fun ys st2 => .ok (match y with | some z => z :: ys | none => ys) st2
def compCat (f : D → Sto → R (List D)) : List D → Sto → R (List D)
  | [], st => .ok [] st
  | x :: xs, st => (f x st).bind fun ys st1 => (compCat f xs st1).bind fun zs st2 => .ok (ys ++ zs) st2
/-- the slots forgotten -/
def clrs (env : Env) : List Nat → Env
  | [] => env
  | i :: is => (clrs env is).set i none
def rangeD (lo hi c : Int) : Option (List D) :=
  if -(2 ^ 62) ≤ lo ∧ lo < 2 ^ 62 ∧ -(2 ^ 62) ≤ hi ∧ hi < 2 ^ 62 then
    (if c = 1 then some ((List.range (hi - lo).toNat).map fun (k : Nat) => D.int (lo + k))
     else if c = -1 then some ((List.range (lo - hi).toNat).map fun (k : Nat) => D.int (lo - k)) else none)
  else none
/-- tuple(range(a, b)), list(range(a, b)) -/
def rgL (a b : Int) : List D := (List.range (b - a).toNat).map fun (i : Nat) => D.int (a + (i : Int))
def rgOk (a b : Int) : Prop := -(2 ^ 62) ≤ a ∧ a < 2 ^ 62 ∧ -(2 ^ 62) ≤ b ∧ b < 2 ^ 62 ∧ (b - a).toNat ≤ 2 ^ 24
instance (a b : Int) : Decidable (rgOk a b) := inferInstanceAs (Decidable (_ ∧ _))
def rgD (l : Bool) : D → D → Option D
  | .int a, .int b => guardO (rgOk a b) (if l then .lst (rgL a b) else .tup (rgL a b))
  | _, _ => none
def enumD (xs : List D) : List D := xs.mapIdx fun i x => D.tup [.int i, x]
mutual
/-- a key as a value -/
def nkD : NestedKey → D
  | .none => .non
  | .num i => .int i
  | .text x => .str x
  | .tup ks => .tup (nkDs ks)
def nkDs : List NestedKey → List D
  | [] => []
  | k :: ks => nkD k :: nkDs ks
end
def itmD (ks : List NestedKey) (vs : List D) : List D := List.zipWith (fun k v => D.tup [nkD k, v]) ks vs
def zipD (xs ys : List D) : List D := List.zipWith (fun x y => D.tup [x, y]) xs ys
/-- the named arguments in the parameters' order -/
def permL {α : Type} (ord : List Nat) (zs : List α) : List α := ord.filterMap fun i => zs[i]?
mutual
def evE (g : GE) : E → Env → Sto → R D
  | .var i, env, st => .ofO st (slot env i)
  | .int i, _, st => .ok (.int i) st
  | .bl b, _, st => .ok (.bl b) st
  | .non, _, st => .ok .non st
  | .str x, _, st => .ok (.str x) st
  | .glob c, _, st => .ofO st ((g.cons[c]?).map (·.2))
  | .bin op a b, env, st => (evE g a env st).bind fun x st1 => (evE g b env st1).bind fun y st2 => .ofO st2 (binD op x y)
  | .neg a, env, st => (evE g a env st).bind fun x st1 => match x with | .int i => .ok (.int (-i)) st1 | _ => .bad
  | .not a, env, st => (evE g a env st).bind fun x st1 => .ofO st1 ((truD st1 x).map fun b => D.bl (!b))
  | .cmp op a b, env, st => (evE g a env st).bind fun x st1 => (evE g b env st1).bind fun y st2 => .ofO st2 ((cmpD op x y).map D.bl)
  | .cmp2 op op' a b c, env, st => (evE g a env st).bind fun x st1 => (evE g b env st1).bind fun y st2 => match cmpD op x y with
    | some true => (evE g c env st2).bind fun z st3 => .ofO st3 ((cmpD op' y z).map D.bl)
    | some false => .ok (.bl false) st2
    | none => .bad
  | .and a b, env, st => (evE g a env st).bind fun x st1 => match truD st1 x with
    | some true => evE g b env st1
    | some false => .ok x st1
    | none => .bad
  | .or a b, env, st => (evE g a env st).bind fun x st1 => match truD st1 x with
    | some true => .ok x st1
    | some false => evE g b env st1
    | none => .bad
  | .ife c a b, env, st => (evE g c env st).bind fun x st1 => match truD st1 x with
    | some true => evE g a env st1
    | some false => evE g b env st1
    | none => .bad
  | .tup es, env, st => (evEs g es env st).bind fun xs st1 => .ofO st1 (guardO (xs.length ≤ sizeLine) (.tup xs))
  | .lst es, env, st => (evEs g es env st).bind fun xs st1 => .ofO st1 (guardO (xs.length ≤ sizeLine) (.lst xs))
  | .idx a i, env, st => (evE g a env st).bind fun x st1 => (evE g i env st1).bind fun y st2 => .ofO st2 (idxD st2 x y)
  | .slice a lo hi, env, st => (evE g a env st).bind fun x st1 => (evEo g lo env st1).bind fun l st2 => (evEo g hi env st2).bind fun u st3 => .ofO st3 (sliceD x l u)
  | .isi a ts _, env, st => (evE g a env st).bind fun x st1 => .ofO st1 ((isiD x ts).map D.bl)
  | .isx a cs all y, env, st => (evE g a env st).bind fun x st1 => .ofO st1 (isxD cs all y x)
  | .xval a cs, env, st => (evE g a env st).bind fun x st1 => .ofO st1 (xvalD cs x)
  | .xmk _ a, env, st => evE g a env st
  | .rev a, env, st => (evE g a env st).bind fun x st1 => .ofO st1 (revD x)
  | .rg1 l b, env, st => (evE g b env st).bind fun y st1 => .ofO st1 (rgD l (.int 0) y)
  | .rg2 l a b, env, st => (evE g a env st).bind fun x st1 => (evE g b env st1).bind fun y st2 => .ofO st2 (rgD l x y)
  | .bi f es, env, st => (evEs g es env st).bind fun xs st1 => .ofO st1 (biD st1 f xs)
  | .call f es kes ord, env, st => (evEs g es env st).bind fun xs st1 => (evEs g kes env st1).bind fun zs st2 => match g.fns[f]? with
    | some fi => if xs.length + (permL ord zs).length = fi.ps.length then fi.sem (xs ++ permL ord zs) st2 else .bad
    | none => .bad
  | .box e, env, st => (evE g e env st).bind fun x st1 => match x with
    | .lst xs => if noLs xs then .ok (.ref st1.length) (st1 ++ [xs]) else .bad
    | _ => .bad
  | .comp tg it hasIf cond elt, env, st => (evIt g it env st).bind fun xs st1 =>
      (compLoop (fun x st2 => match bindTg tg x env with
        | some env' => (if hasIf then (evE g cond env' st2).bind fun c st3 => match truD st3 c with
            | some true => (evE g elt env' st3).bind fun y st4 => .ok (some y) st4
            | some false => .ok none st3
            | none => .bad
          else (evE g elt env' st2).bind fun y st3 => .ok (some y) st3).nox
        | none => .bad) xs st1).bind fun ys st5 => .ofO st5 (guardO (ys.length ≤ sizeLine) (.lst ys))
  | .comp2 tg it tg1 it1 elt, env, st => (evIt g it env st).bind fun xs st1 =>
      (compCat (fun x st2 => match bindTg tg x (clrs env (tg.slots ++ tg1.slots)) with
        | some env' => ((evIt g it1 env' st2).bind fun ys st3 => compLoop (fun y st4 => match bindTg tg1 y env' with
          | some env2 => ((evE g elt env2 st4).bind fun z st5 => .ok (some z) st5).nox
          | none => .bad) ys st3).nox
        | none => .bad) xs st1).bind fun ys st5 => .ofO st5 (guardO (ys.length ≤ sizeLine) (.lst ys))
  | .dnew t, _, st => .ok (if t then .dT [] [] else .dK [] []) st
  | .dgeto d k e, env, st => (evE g d env st).bind fun x st1 => if isDK x then (evE g k env st1).bind fun y st2 => (evE g e env st2).bind fun z st3 => .ofO st3 (dgetoD x y z) else .bad
  | .midx l e, env, st => (evE g l env st).bind fun x st1 => if isLst x then (evE g e env st1).bind fun y st2 => .ofO st2 (midxD x y) else .bad
  | .op1 o a, env, st => (evE g a env st).bind fun x st1 => .ofO st1 (op1D o x)
  | .op2 o a b, env, st => (evE g a env st).bind fun x st1 => if op2A o x then (evE g b env st1).bind fun y st2 => .ofO st2 (op2D o x y) else .bad
  | .popE i e, env, st => popK (slot env i) (evE g e env st)
  | .dead, _, _ => .bad
def evEs (g : GE) : Es → Env → Sto → R (List D)
  | .nil, _, st => .ok [] st
  | .cons e es, env, st => (evE g e env st).bind fun x st1 => (evEs g es env st1).bind fun xs st2 => .ok (x :: xs) st2
def evEo (g : GE) : Eo → Env → Sto → R (Option Int)
  | .no, _, st => .ok none st
  | .yes e, env, st => (evE g e env st).bind fun x st1 => match x with | .int i => .ok (some i) st1 | _ => .bad
def evIt (g : GE) : It → Env → Sto → R (List D)
  | .seq e, env, st => (evE g e env st).bind fun x st1 => .ofO st1 (seqOf x)
  | .range1 a, env, st => (evE g a env st).bind fun x st1 => match x with | .int n => .ofO st1 (rangeD 0 n 1) | _ => .bad
  | .range2 a b, env, st => (evE g a env st).bind fun x st1 => (evE g b env st1).bind fun y st2 => match x, y with | .int m, .int n => .ofO st2 (rangeD m n 1) | _, _ => .bad
  | .range3 a b c, env, st => (evE g a env st).bind fun x st1 => (evE g b env st1).bind fun y st2 => (evE g c env st2).bind fun z st3 =>
      match x, y, z with | .int m, .int n, .int c => .ofO st3 (rangeD m n c) | _, _, _ => .bad
  | .enum a, env, st => (evE g a env st).bind fun x st1 => match x with | .lst xs => .ok (enumD xs) st1 | .tup xs => .ok (enumD xs) st1 | _ => .bad
  | .items a, env, st => (evE g a env st).bind fun x st1 => match x with | .dT ks vs => .ok (itmD ks vs) st1 | _ => .bad
  | .keys a, env, st => (evE g a env st).bind fun x st1 => match x with | .dT ks vs => .ok (ks.map nkD) st1 | _ => .bad
  | .zip a b, env, st => (evE g a env st).bind fun x st1 => (evE g b env st1).bind fun y st2 => match x, y with
      | .lst xs, .lst ys => .ok (zipD xs ys) st2
      | .tup xs, .tup ys => .ok (zipD xs ys) st2
      | _, _ => .bad
end

/-! ### statements -/
inductive RS where
  | nx (env : Env) (st : Sto) | rt (d : D) (st : Sto) | bk (env : Env) (st : Sto) | ct (env : Env) (st : Sto)
  | exn (c : Str) (d : D) (env : Env) (st : Sto) | bad
/-- how a value goes to a name: a list of one's own that is changed later; a value that stands; one without lists (looked at) -/
inductive Ak where
  | own | pln | nl | n1
  deriving DecidableEq
mutual
inductive S where
  | ret (e : E) | retN
  | set (i : Nat) (k : Ak) (e : E)
  | setT (tg : Tg) (e : E)
  | par (i j : Nat) (ki kj : Ak) (a b : E)
  | par3 (i j l : Nat) (ki kj kl : Ak) (a b c : E)
  | move (i j : Nat)
  | aug (i : Nat) (op : Operator) (e : E)
  | setIx (i : Nat) (o nl : Bool) (ix e : E)
  | augIx (i : Nat) (o : Bool) (op : Operator) (ix e : E)
  | app (i : Nat) (o nl : Bool) (e : E)
  | mth (i : Nat) (o : Bool) (f : Mth) (es : Es)
  | dput (i : Nat) (k e : E)
  | ite (c : E) (a b : Ss)
  | whl (c : E) (body : Ss)
  | for_ (tg : Tg) (it : It) (body : Ss)
  | brk | cont | pass | drop (e : E)
  | kill (i : Nat)
  | raise_ (c : Str) (e : E)
  | popApp (i j : Nat) (oi oj : Bool) (e : E)
  | popDrop (j : Nat) (o : Bool) (e : E)
  | try_ (n : Nat) (b : Ss) (cs : List Cls)
  | dead
inductive Ss where
  | nil | cons (s : S) (ss : Ss)
end
def R.toS (r : R α) (env : Env) (f : α → Sto → RS) : RS := match r with
  | .ok a st => f a st
  | .exn c d st => .exn c d env st
  | .bad => .bad
@[simp] theorem R.toS_ok {α : Type} (a : α) (st : Sto) (env : Env) (f : α → Sto → RS) : (R.ok a st).toS env f = f a st := rfl
@[simp] theorem R.toS_exn {α : Type} (c : Str) (d : D) (st : Sto) (env : Env) (f : α → Sto → RS) : (R.exn c d st : R α).toS env f = .exn c d env st := rfl
@[simp] theorem R.toS_bad {α : Type} (env : Env) (f : α → Sto → RS) : (R.bad : R α).toS env f = .bad := rfl
/-- no list among its items -/
def noI : D → Bool
  | .lst xs => noLs xs
  | d => noL d
def akOk (k : Ak) (d : D) : Bool := match k with
  | .nl => noL d
  | .n1 => noI d
  | _ => true
def whN (c : Env → Sto → R Bool) (b : Env → Sto → RS) : Nat → Env → Sto → RS
  | 0, _, _ => .bad
  | n + 1, env, st => (c env st).toS env fun k st1 => match k with
    | false => .nx env st1
    | true => match b env st1 with
      | .nx env' st' => whN c b n env' st'
      | .ct env' st' => whN c b n env' st'
      | .bk env' st' => .nx env' st'
      | r => r
open Classical in
noncomputable def whD (c : Env → Sto → R Bool) (b : Env → Sto → RS) (env : Env) (st : Sto) : RS :=
  if h : ∃ n, whN c b n env st ≠ .bad then whN c b (Classical.choose h) env st else .bad
def forD (tg : Tg) (b : Env → Sto → RS) : List D → Env → Sto → RS
  | [], env, st => .nx env st
  | x :: xs, env, st => match bindTg tg x env with
    | none => .bad
    | some env1 => match b env1 st with
      | .nx env' st' => forD tg b xs env' st'
      | .ct env' st' => forD tg b xs env' st'
      | .bk env' st' => .nx env' st'
      | r => r
def setIxL (xs : List D) (ix : D) (d : D) : Option (List D) := match ix with
  | .int k => (L2.ixN xs.length k).map fun j => xs.set j d
  | _ => none
/-- a name's list is changed: the name's own, or the one that it refers to -/
def chg (i : Nat) (o ok : Bool) (env : Env) (st : Sto) (f : List D → Option (List D)) : RS := match slot env i with
  | some (.lst xs) => if o then match f xs with
    | some ys => .nx (env.set i (some (.lst ys))) st
    | none => .bad else .bad
  | some (.ref k) => if ok then match (st[k]?).bind f with
    | some ys => .nx env (st.set k ys)
    | none => .bad else .bad
  | _ => .bad
def isLs (env : Env) (st : Sto) (i : Nat) : Bool := match slot env i with
  | some (.lst _) => true
  | some (.ref k) => decide (k < st.length)
  | _ => false
/-- an item of a name's own list is taken out -/
def popD (j : Nat) (o : Bool) (k : D) (env : Env) (st : Sto) (f : D → Env → Sto → RS) : RS := match slot env j, k with
  | some (.lst xs), .int i => if o && decide (-(2 ^ 63) ≤ i ∧ i < 2 ^ 63) then match L2.ixN xs.length i with
    | some n => match xs[n]? with
      | some y => f y (env.set j (some (.lst (xs.eraseIdx n)))) st
      | none => .bad
    | none => .bad else .bad
  | _, _ => .bad
/-- the clauses, one behind another -/
def catchD (n : Nat) (x : Str) (d : D) (env : Env) (st : Sto) : List Cls → RS
  | [] => .exn x d env st
  | c :: r => if c.all || c.cls == x then (if env.length = n ∧ c.nm < n then (match c.body with
      | .set j e => .nx ((env.set j (some (evXs d e))).set c.nm none) st
      | .keep j => .nx ((env.set j (some (.exc x d))).set c.nm none) st
      | .ret e => .rt (evXs d e) st) else .bad) else catchD n x d env st r
def evC (g : GE) (c : E) (env : Env) (st : Sto) : R Bool := (evE g c env st).bind fun x st1 => .ofO st1 (truD st1 x)
mutual
noncomputable def evS (g : GE) : S → Env → Sto → RS
  | .ret e, env, st => (evE g e env st).toS env fun d st1 => .rt d st1
  | .retN, _, st => .rt .non st
  | .set i k e, env, st => (evE g e env st).toS env fun d st1 => if akOk k d then .nx (env.set i (some d)) st1 else .bad
  | .setT tg e, env, st => (evE g e env st).toS env fun d st1 => match bindTg tg d env with
    | some env' => .nx env' st1
    | none => .bad
  | .par i j ki kj a b, env, st => (evE g a env st).toS env fun x st1 => if akOk ki x then (evE g b env st1).toS env fun y st2 =>
      if akOk kj y then .nx ((env.set i (some x)).set j (some y)) st2 else .bad else .bad
  | .par3 i j l ki kj kl a b c, env, st => (evE g a env st).toS env fun x st1 => if akOk ki x then (evE g b env st1).toS env fun y st2 =>
      if akOk kj y then (evE g c env st2).toS env fun z st3 => if akOk kl z then .nx (((env.set i (some x)).set j (some y)).set l (some z)) st3 else .bad else .bad else .bad
  | .move i j, env, st => match slot env j with
    | some d => .nx ((env.set i (some d)).set j none) st
    | none => .bad
  | .aug i op e, env, st => match slot env i with
    | some x => (evE g e env st).toS env fun y st1 => match x, y, binD op x y with
      | .int _, .int _, some z => .nx (env.set i (some z)) st1
      | _, _, _ => .bad
    | none => .bad
  | .setIx i o nl ix e, env, st => if (slot env i).isNone then .bad else (evE g e env st).toS env fun d st1 => (evE g ix env st1).toS env fun k st2 =>
      if nl && !noL d then .bad else chg i o (noL d) env st2 fun xs => setIxL xs k d
  | .augIx i o op ix e, env, st => if !isLs env st i then .bad else (evE g ix env st).toS env fun k st1 => match (slot env i).bind fun d => idxD st1 d k with
    | some x => (evE g e env st1).toS env fun y st2 => match x, y, binD op x y with
      | .int _, .int _, some z => chg i o true env st2 fun xs => setIxL xs k z
      | _, _, _ => .bad
    | none => .bad
  | .app i o nl e, env, st => if !isLs env st i then .bad else (evE g e env st).toS env fun d st1 =>
      if nl && !noL d then .bad else chg i o (noL d) env st1 fun xs => guardO (xs.length < sizeLine) (xs ++ [d])
  | .mth i o f es, env, st => if !isLs env st i then .bad else (evEs g es env st).toS env fun ds st1 => chg i o true env st1 fun xs => mthD f xs ds
  | .dput i k e, env, st => if (slot env i).isNone then .bad else (evE g e env st).toS env fun v st1 => (evE g k env st1).toS env fun y st2 => match (slot env i).bind fun d => dputD d y v with
    | some d' => .nx (env.set i (some d')) st2
    | none => .bad
  | .ite c a b, env, st => (evC g c env st).toS env fun k st1 => match k with
    | true => evSs g a env st1
    | false => evSs g b env st1
  | .whl c body, env, st => whD (evC g c) (evSs g body) env st
  | .for_ tg it body, env, st => (evIt g it env st).toS env fun xs st1 => forD tg (evSs g body) xs env st1
  | .brk, env, st => .bk env st
  | .cont, env, st => .ct env st
  | .pass, env, st => .nx env st
  | .drop e, env, st => (evE g e env st).toS env fun _ st1 => .nx env st1
  | .kill i, env, st => .nx (env.set i none) st
  | .raise_ c e, env, st => (evE g e env st).toS env fun d st1 => .exn c d env st1
  | .popApp i j oi oj e, env, st => if !isLs env st i then .bad else if !isLs env st j then .bad else (evE g e env st).toS env fun k st1 => popD j oj k env st1 fun y env1 st2 =>
      if noL y then chg i oi true env1 st2 fun xs => guardO (xs.length < sizeLine) (xs ++ [y]) else .bad
  | .popDrop j o e, env, st => if !isLs env st j then .bad else (evE g e env st).toS env fun k st1 => popD j o k env st1 fun _ env1 st2 => .nx env1 st2
  | .try_ n b cs, env, st => if env.length = n then (match evSs g b env st with
    | .exn x d env' st' => catchD n x d env' st' cs
    | r => r) else .bad
  | .dead, _, _ => .bad
noncomputable def evSs (g : GE) : Ss → Env → Sto → RS
  | .nil, env, st => .nx env st
  | .cons s ss, env, st => match evS g s env st with
    | .nx env' st' => evSs g ss env' st'
    | r => r
end
def RS.fin : RS → R D
  | .nx _ st => .ok .non st
  | .rt d st => .ok d st
  | .exn c d _ st => .exn c d st
  | _ => .bad
/-- a def's body at its arguments -/
noncomputable def evF (g : GE) (n : Nat) (body : Ss) (as : List D) (st : Sto) : R D := (evSs g body (as.map some ++ List.replicate (n - as.length) none) st).fin

/-! ### while, unfolded -/
theorem whN_mono {c : Env → Sto → R Bool} {b : Env → Sto → RS} : ∀ {n : Nat} {env : Env} {st : Sto}, whN c b n env st ≠ .bad → ∀ k, whN c b (n + k) env st = whN c b n env st
  | 0, _, _, h, _ => absurd rfl h
  | n + 1, env, st, h, k => by
    rw [show n + 1 + k = (n + k) + 1 by omega]
    unfold whN at h ⊢
    cases e : c env st with
    | bad => rfl
    | exn _ _ _ => rfl
    | ok t st1 =>
      rw [e] at h
      simp only [R.toS_ok] at h ⊢
      cases t with
      | false => rfl
      | true =>
        simp only at h ⊢
        cases e2 : b env st1 with
        | nx env' st' => rw [e2] at h; exact whN_mono h k
        | ct env' st' => rw [e2] at h; exact whN_mono h k
        | bk _ _ => rfl
        | rt _ _ => rfl
        | exn _ _ _ _ => rfl
        | bad => rfl
theorem whD_of {c : Env → Sto → R Bool} {b : Env → Sto → RS} {n : Nat} {env : Env} {st : Sto} (h : whN c b n env st ≠ .bad) : whD c b env st = whN c b n env st := by
  have ex : ∃ n, whN c b n env st ≠ .bad := ⟨n, h⟩
  unfold whD
  rw [dif_pos ex]
  have h2 := Classical.choose_spec ex
  generalize Classical.choose ex = m at h2
  rcases Nat.le_total n m with hl | hl
  · obtain ⟨k, rfl⟩ := Nat.exists_eq_add_of_le hl
    exact whN_mono h k
  · obtain ⟨k, rfl⟩ := Nat.exists_eq_add_of_le hl
    exact (whN_mono h2 k).symm
theorem whD_ne {c : Env → Sto → R Bool} {b : Env → Sto → RS} {env : Env} {st : Sto} (h : whD c b env st ≠ .bad) : ∃ n, whN c b n env st ≠ .bad := by
  unfold whD at h
  split at h
  · rename_i ex; exact ex
  · exact absurd rfl h
theorem whD_eq (c : Env → Sto → R Bool) (b : Env → Sto → RS) (env : Env) (st : Sto) : whD c b env st = (c env st).toS env fun k st1 => match k with
    | false => .nx env st1
    | true => match b env st1 with
      | .nx env' st' => whD c b env' st'
      | .ct env' st' => whD c b env' st'
      | .bk env' st' => .nx env' st'
      | r => r := by
  have key : ∀ env' st', ∀ r, (∃ n, whN c b n env' st' ≠ .bad) → (∀ n, whN c b n env' st' ≠ .bad → whN c b n env' st' = r) → whD c b env' st' = r := fun env' st' r ⟨n, hn⟩ h => by rw [whD_of hn, h n hn]
  have nokey : ∀ env' st', ¬ (∃ n, whN c b n env' st' ≠ .bad) → whD c b env' st' = .bad := fun env' st' h => by unfold whD; rw [dif_neg h]
  by_cases ex : ∃ n, whN c b n env st ≠ .bad
  · obtain ⟨n, hn⟩ := ex
    rw [whD_of hn]
    cases n with
    | zero => exact absurd rfl hn
    | succ n =>
      unfold whN at hn ⊢
      cases e : c env st with
      | bad => rfl
      | exn _ _ _ => rfl
      | ok t st1 =>
        rw [e] at hn
        simp only [R.toS_ok] at hn ⊢
        cases t with
        | false => rfl
        | true =>
          simp only at hn ⊢
          cases e2 : b env st1 with
          | nx env' st' => rw [e2] at hn; exact (whD_of hn).symm
          | ct env' st' => rw [e2] at hn; exact (whD_of hn).symm
          | bk _ _ => rfl
          | rt _ _ => rfl
          | exn _ _ _ _ => rfl
          | bad => rfl
  · rw [nokey env st ex]
    have h1 : whN c b 1 env st = .bad := Classical.byContradiction fun z => ex ⟨1, z⟩
    have hs : ∀ n, whN c b (n + 1) env st = .bad := fun n => Classical.byContradiction fun z => ex ⟨n + 1, z⟩
    unfold whN at hs
    cases e : c env st with
    | bad => rfl
    | exn _ _ _ => have := hs 0; rw [e] at this; cases this
    | ok t st1 =>
      rw [e] at hs
      simp only [R.toS_ok] at hs ⊢
      cases t with
      | false => have := hs 0; cases this
      | true =>
        simp only at hs ⊢
        cases e2 : b env st1 with
        | nx env' st' =>
          rw [e2] at hs
          exact (nokey env' st' fun ⟨n, hn⟩ => hn (hs n)).symm
        | ct env' st' =>
          rw [e2] at hs
          exact (nokey env' st' fun ⟨n, hn⟩ => hn (hs n)).symm
        | bk _ _ => have := hs 0; rw [e2] at this; cases this
        | rt _ _ => have := hs 0; rw [e2] at this; cases this
        | exn _ _ _ _ => have := hs 0; rw [e2] at this; cases this
        | bad => rfl
end WT
end

section
set_option Elab.async false
set_option linter.all false
set_option maxRecDepth 100000
/-! K2: how data stand in the abstract heap; states; what a step keeps. -/
namespace WT
open PySem PySem.Spec PyProof.Rows L2

abbrev St := L2.St
/-- what is fixed: the objects that are known, the world -/
structure FW where
  F : PySem.W.Frag
  w : World
instance : CoeOut FW PySem.W.Frag := ⟨FW.F⟩
abbrev _root_.L2.Cx.KW (X : L2.Cx) : FW := ⟨X.K, X.w⟩
abbrev kw (K : PySem.W.Frag) (w : World) : FW := ⟨K, w⟩
/-- the script, known to the object -/
def Fz (K : FW) (H : Hp) (a : Addr) (ns : List Int) : Prop :=
  (∃ o, H a = some (.frz o (.lst (ns.map V.int)))) ∨
    ∃ (o : Obj) (its : Array Value) (n : Nat), K.F.lookup a = some o ∧ o.cls = .type "list" ∧ o.dict = none ∧ o.data = .seq its n ∧ its.size ≤ sizeLine ∧ Vals (ns.map V.int) its.toList
theorem Fz.sq {K : FW} {H : Hp} {a : Addr} {ns : List Int} (h : Fz K H a ns) : SqL K H a (ns.map V.int) := by
  rcases h with ⟨o, h⟩ | h
  · exact .inl (.inr ⟨o, h⟩)
  · exact .inr h
/-! ### dicts whose keys are tuples of ints, texts, None, such tuples -/
def noTx (_ : NestedKey) : Bool := true
def noTxs (_ : List NestedKey) : Bool := true
/-- the dict's own object -/
def DTq (w : World) (a : Addr) (o : Obj) (xs : List (NestedKey × Addr × Value)) (h : Heap) : Prop :=
  h.get? a = some o ∧ o.ExactDict ∧ ∃ es ep, o.data = .dict es ep ∧ es.toList = xs.map (fun x => (⟨x.1.hash w, .ref x.2.1, x.2.2⟩ : DictEntry)) ∧ (xs.map (·.1)).Nodup
def DTo (w : World) (a : Addr) (o : Obj) (xs : List (NestedKey × Addr × Value)) : HO := .ext (DTq w a o xs)
mutual
/-- a value is a key -/
inductive NK (K : FW) (H : Hp) : NestedKey → V → Prop
  | none : NK K H .none .non
  | num (i : Int) : NK K H (.num i) (.int i)
  | str (x : Str) : NK K H (.text x) (.str x)
  | tup {b : Addr} {vs : List V} {ks : List NestedKey} : SqT K H b vs → NKs K H ks vs → NK K H (.tup ks) (.ref b)
inductive NKs (K : FW) (H : Hp) : List NestedKey → List V → Prop
  | nil : NKs K H [] []
  | cons {k : NestedKey} {v : V} {ks : List NestedKey} {vs : List V} : NK K H k v → NKs K H ks vs → NKs K H (k :: ks) (v :: vs)
end
mutual
theorem NK.mono {K : FW} {H H' : Hp} (m : ∀ a vs, SqT K H a vs → SqT K H' a vs) : ∀ {k : NestedKey} {v : V}, NK K H k v → NK K H' k v
  | _, _, .none => .none
  | _, _, .num i => .num i
  | _, _, .str x => .str x
  | _, _, .tup e r => .tup (m _ _ e) (NKs.mono m r)
theorem NKs.mono {K : FW} {H H' : Hp} (m : ∀ a vs, SqT K H a vs → SqT K H' a vs) : ∀ {ks : List NestedKey} {vs : List V}, NKs K H ks vs → NKs K H' ks vs
  | _, _, .nil => .nil
  | _, _, .cons r s => .cons (NK.mono m r) (NKs.mono m s)
end
/-- the entries: keys that stand -/
def NKx (K : FW) (H : Hp) (xs : List (NestedKey × Addr × Value)) : Prop := ∀ x ∈ xs, NK K H x.1 (.ref x.2.1) ∧ noTx x.1 = true ∧ x.1.depth ≤ 8
theorem NKx.mono {K : FW} {H H' : Hp} {xs : List (NestedKey × Addr × Value)} (h : NKx K H xs) (m : ∀ a vs, SqT K H a vs → SqT K H' a vs) : NKx K H' xs := fun x hx => ⟨(h x hx).1.mono m, (h x hx).2⟩
/-- an error that is kept: its object -/
def exC (a : Addr) (cls : Value) (d : Option Addr) : HO := .ext fun h => ∃ oe, h.get? a = some oe ∧ Zc cls d oe ∧ ∃ fs, oe.data = .fields fs
mutual
inductive Rep (K : FW) (H : Hp) (μ : List Addr) : D → V → List Addr → List Addr → Prop
  | non : Rep K H μ .non .non [] []
  | bl (b : Bool) : Rep K H μ (.bl b) (.bl b) [] []
  | int (i : Int) : Rep K H μ (.int i) (.int i) [] []
  | str (x : Str) : Rep K H μ (.str x) (.str x) [] []
  | tup {a : Addr} {vs : List V} {ds : List D} {F : List Addr} : SqT K H a vs → Reps K H μ ds vs F → Rep K H μ (.tup ds) (.ref a) [] F
  | lst {a : Addr} {vs : List V} {ds : List D} {F : List Addr} : H a = some (.lst vs) → Reps K H μ ds vs F → Rep K H μ (.lst ds) (.ref a) [a] F
  | frz {a : Addr} {ns : List Int} : Fz K H a ns → Rep K H μ (.frz ns) (.ref a) [] []
  | dK {a : Addr} {kvs : List (Key × V)} {ks : List Key} {vs : List V} {ds : List D} {F : List Addr} : H a = some (.dK kvs) → kvs.map (·.1) = ks → kvs.map (·.2) = vs → Reps K H μ ds vs F → F = [] → Rep K H μ (.dK ks ds) (.ref a) [a] []
  | dT {a : Addr} {o : Obj} {xs : List (NestedKey × Addr × Value)} {ks : List NestedKey} {vs : List V} {ds : List D} {F : List Addr} : H a = some (DTo K.w a o xs) → (a == sysModules) = false → xs.length ≤ sizeLine → xs.map (·.1) = ks → NKx K H xs → Vals vs (xs.map (·.2.2)) → Reps K H μ ds vs F → F = [] → Rep K H μ (.dT ks ds) (.ref a) [a] []
  | ref {a : Addr} {k : Nat} : μ[k]? = some a → Rep K H μ (.ref k) (.ref a) [] []
  | exc {a dx : Addr} {c : Str} {d : D} {v : V} {t F : List Addr} : H a = some (exC a (.ref (He.ga K.F c)) (some dx)) → H dx = some (.xd [("value", v)]) → Rep K H μ d v t F → Rep K H μ (.exc c d) (.ref a) [] (a :: dx :: (t ++ F))
inductive Reps (K : FW) (H : Hp) (μ : List Addr) : List D → List V → List Addr → Prop
  | nil : Reps K H μ [] [] []
  | cons {d : D} {v : V} {t F : List Addr} {ds : List D} {vs : List V} {G : List Addr} : Rep K H μ d v t F → Reps K H μ ds vs G → Reps K H μ (d :: ds) (v :: vs) (t ++ F ++ G)
end

section
variable {K : FW} {H H1 H2 H' : Hp} {μ μ1 μ2 μ' : List Addr}
theorem Reps.length : ∀ {ds : List D} {vs : List V} {F : List Addr}, Reps K H μ ds vs F → ds.length = vs.length
  | _, _, _, .nil => rfl
  | _, _, _, .cons _ t => by simp [Reps.length t]
theorem Reps.get : ∀ {ds : List D} {vs : List V} {F : List Addr} {i : Nat} {d : D}, Reps K H μ ds vs F → ds[i]? = some d → ∃ v t G, vs[i]? = some v ∧ Rep K H μ d v t G ∧ ∀ a ∈ t ++ G, a ∈ F
  | _, _, _, _, _, .nil, h => by simp at h
  | _, _, _, 0, _, .cons r _, h => by
    simp at h
    subst h
    exact ⟨_, _, _, rfl, r, fun a ha => List.mem_append_left _ ha⟩
  | _, _, _, i + 1, d, .cons _ s, h => by
    obtain ⟨v, t, G, e, r, k⟩ := Reps.get s (i := i) (d := d) (by simpa using h)
    exact ⟨v, t, G, by simpa using e, r, fun a ha => List.mem_append_right _ (k a ha)⟩
theorem Reps.append : ∀ {ds : List D} {vs : List V} {F : List Addr} {es : List D} {ws : List V} {G : List Addr}, Reps K H μ ds vs F → Reps K H μ es ws G → ∃ L, Reps K H μ (ds ++ es) (vs ++ ws) L ∧ ∀ a ∈ L, a ∈ F ∨ a ∈ G
  | _, _, _, _, _, _, .nil, s => ⟨_, s, fun a h => .inr h⟩
  | _, _, _, _, _, _, .cons (t := t) (F := F) r u, s => by
    obtain ⟨L, h1, h2⟩ := Reps.append u s
    refine ⟨_, .cons r h1, fun a h => ?_⟩
    rcases List.mem_append.mp h with h | h
    · exact .inl (List.mem_append_left _ h)
    · rcases h2 a h with h | h
      · exact .inl (List.mem_append_right _ h)
      · exact .inr h
theorem Reps.drop : ∀ {ds : List D} {vs : List V} {F : List Addr} (n : Nat), Reps K H μ ds vs F → ∃ L, Reps K H μ (ds.drop n) (vs.drop n) L ∧ ∀ a ∈ L, a ∈ F
  | _, _, _, 0, r => ⟨_, r, fun _ h => h⟩
  | _, _, _, _ + 1, .nil => ⟨_, .nil, fun _ h => h⟩
  | _, _, _, n + 1, .cons _ s => by
    obtain ⟨L, h1, h2⟩ := Reps.drop n s
    exact ⟨L, h1, fun a h => List.mem_append_right _ (h2 a h)⟩
theorem Reps.take : ∀ {ds : List D} {vs : List V} {F : List Addr} (n : Nat), Reps K H μ ds vs F → ∃ L, Reps K H μ (ds.take n) (vs.take n) L ∧ ∀ a ∈ L, a ∈ F
  | _, _, _, 0, _ => ⟨[], .nil, fun _ h => by simp at h⟩
  | _, _, _, _ + 1, .nil => ⟨[], .nil, fun _ h => h⟩
  | _, _, _, n + 1, .cons r s => by
    obtain ⟨L, h1, h2⟩ := Reps.take n s
    refine ⟨_, .cons r h1, fun a h => ?_⟩
    rcases List.mem_append.mp h with h | h
    · exact List.mem_append_left _ h
    · exact List.mem_append_right _ (h2 a h)
theorem Reps.rep {ds : List D} {vs : List V} {F : List Addr} (r : Reps K H μ ds vs F) : ∀ n : Nat, ∃ L, Reps K H μ (List.replicate n ds).flatten (List.replicate n vs).flatten L ∧ ∀ a ∈ L, a ∈ F
  | 0 => ⟨[], .nil, fun _ h => by simp at h⟩
  | n + 1 => by
    obtain ⟨L, h1, h2⟩ := Reps.rep r n
    rw [List.replicate_succ, List.replicate_succ, List.flatten_cons, List.flatten_cons]
    obtain ⟨M, h3, h4⟩ := Reps.append r h1
    exact ⟨M, h3, fun a h => (h4 a h).elim id (h2 a)⟩
theorem Reps.set : ∀ {ds : List D} {vs : List V} {F : List Addr} (i : Nat) {d : D} {v : V} {t G : List Addr}, Reps K H μ ds vs F → Rep K H μ d v t G → ∃ L, Reps K H μ (ds.set i d) (vs.set i v) L ∧ ∀ a ∈ L, a ∈ F ∨ a ∈ t ++ G
  | _, _, _, _, _, _, _, _, .nil, _ => ⟨[], .nil, fun _ h => by simp at h⟩
  | _, _, _, 0, _, _, _, _, .cons _ s, r => ⟨_, .cons r s, fun a h => by
      rcases List.mem_append.mp h with h | h
      · exact .inr h
      · exact .inl (List.mem_append_right _ h)⟩
  | _, _, _, i + 1, _, _, _, _, .cons q s, r => by
    obtain ⟨L, h1, h2⟩ := Reps.set i s r
    refine ⟨_, .cons q h1, fun a h => ?_⟩
    rcases List.mem_append.mp h with h | h
    · exact .inl (List.mem_append_left _ h)
    · rcases h2 a h with h | h
      · exact .inl (List.mem_append_right _ h)
      · exact .inr h
mutual
theorem Rep.there : ∀ {d : D} {v : V} {t F : List Addr}, Rep K H μ d v t F → ∀ a ∈ t ++ F, H a ≠ none
  | _, _, _, _, .non, a, h => by simp at h
  | _, _, _, _, .bl _, a, h => by simp at h
  | _, _, _, _, .int _, a, h => by simp at h
  | _, _, _, _, .str _, a, h => by simp at h
  | _, _, _, _, .tup _ r, a, h => Reps.there r a (by simpa using h)
  | _, _, _, _, .lst e r, a, h => by
    rcases List.mem_append.mp h with h | h
    · have z := List.mem_singleton.mp h
      rw [z, e]
      simp
    · exact Reps.there r a h
  | _, _, _, _, .frz _, a, h => by simp at h
  | _, _, _, _, .ref _, a, h => by simp at h
  | _, _, _, _, .dT e _ _ _ _ _ _ _, a, h => by
    have z := List.mem_singleton.mp (by simpa using h : a ∈ [_])
    rw [z, e]
    simp
  | _, _, _, _, .dK e _ _ _ _, a, h => by
    have z := List.mem_singleton.mp (by simpa using h : a ∈ [_])
    rw [z, e]
    simp
  | _, _, _, _, .exc e1 e2 r, a, h => by
    rcases List.mem_cons.mp (by simpa using h : a ∈ _ :: _ :: (_ ++ _)) with z | h
    · rw [z, e1]
      simp
    · rcases List.mem_cons.mp h with z | h
      · rw [z, e2]
        simp
      · exact Rep.there r a h
theorem Reps.there : ∀ {ds : List D} {vs : List V} {F : List Addr}, Reps K H μ ds vs F → ∀ a ∈ F, H a ≠ none
  | _, _, _, .nil, a, h => by simp at h
  | _, _, _, .cons r s, a, h => by
    rcases List.mem_append.mp h with h | h
    · exact Rep.there r a h
    · exact Reps.there s a h
end
mutual
theorem Rep.noL : ∀ {d : D} {v : V} {t F : List Addr}, Rep K H μ d v t F → noL d = true → t = [] ∧ F = []
  | _, _, _, _, .non, _ => ⟨rfl, rfl⟩
  | _, _, _, _, .bl _, _ => ⟨rfl, rfl⟩
  | _, _, _, _, .int _, _ => ⟨rfl, rfl⟩
  | _, _, _, _, .str _, _ => ⟨rfl, rfl⟩
  | _, _, _, _, .tup _ r, h => ⟨rfl, Reps.noL r (by simpa [WT.noL] using h)⟩
  | _, _, _, _, .lst _ _, h => by simp [WT.noL] at h
  | _, _, _, _, .dK _ _ _ _ _, h => by simp [WT.noL] at h
  | _, _, _, _, .dT _ _ _ _ _ _ _ _, h => by simp [WT.noL] at h
  | _, _, _, _, .frz _, _ => ⟨rfl, rfl⟩
  | _, _, _, _, .ref _, _ => ⟨rfl, rfl⟩
  | _, _, _, _, .exc _ _ _, h => by simp [WT.noL] at h
theorem Reps.noL : ∀ {ds : List D} {vs : List V} {F : List Addr}, Reps K H μ ds vs F → noLs ds = true → F = []
  | _, _, _, .nil, _ => rfl
  | _, _, _, .cons r s, h => by
    rw [noLs, Bool.and_eq_true] at h
    obtain ⟨e1, e2⟩ := Rep.noL r h.1
    rw [e1, e2, Reps.noL s h.2]
    rfl
end

/-! ### steps -/
structure Step (μ : List Addr) (H : Hp) (μ' : List Addr) (H' : Hp) : Prop where
  keep : ∀ a o, H a = some o → a ∉ μ → H' a = some o
  tups : ∀ a xs, H a = some (.tup xs) → H' a = some (.tup xs)
  frzs : ∀ a o u, H a = some (.frz o u) → H' a = some (.frz o u)
  dom : ∀ a, H a ≠ none → H' a ≠ none
  ext : ∃ ν, μ' = μ ++ ν ∧ ∀ a ∈ ν, H a = none
theorem Step.refl : Step μ H μ H := ⟨fun _ _ h _ => h, fun _ _ h => h, fun _ _ _ h => h, fun _ h => h, [], by simp, fun _ h => by simp at h⟩
theorem Step.notin (s : Step μ H μ' H') {a : Addr} (h : H a ≠ none) (n : a ∉ μ) : a ∉ μ' := by
  obtain ⟨ν, rfl, hν⟩ := s.ext
  intro z
  rcases List.mem_append.mp z with z | z
  · exact n z
  · exact h (hν a z)
theorem Step.trans (s : Step μ H μ1 H1) (r : Step μ1 H1 μ2 H2) : Step μ H μ2 H2 where
  keep := fun a o h n => r.keep a o (s.keep a o h n) (s.notin (by rw [h]; simp) n)
  tups := fun a xs h => r.tups a xs (s.tups a xs h)
  frzs := fun a o u h => r.frzs a o u (s.frzs a o u h)
  dom := fun a h => r.dom a (s.dom a h)
  ext := by
    obtain ⟨ν, rfl, hν⟩ := s.ext
    obtain ⟨ν', rfl, hν'⟩ := r.ext
    refine ⟨ν ++ ν', by simp, fun a h => ?_⟩
    rcases List.mem_append.mp h with h | h
    · exact hν a h
    · cases e : H a with
      | none => rfl
      | some o => exact absurd (hν' a h) (s.dom a (by rw [e]; simp))
theorem Step.new {p : Addr} {o : HO} (h : H p = none) : Step μ H μ (upd H p o) where
  keep := fun a u e _ => by rw [upd_ne (ne_of_none e h)]; exact e
  tups := fun a u e => by rw [upd_ne (ne_of_none e h)]; exact e
  frzs := fun a o u e => by rw [upd_ne (ne_of_none e h)]; exact e
  dom := fun a e => by
    by_cases q : a = p
    · rw [q, upd_same]; simp
    · rw [upd_ne q]; exact e
  ext := ⟨[], by simp, fun _ h => by simp at h⟩
theorem Step.wasNone (s : Step μ H μ' H') {a : Addr} (h : H' a = none) : H a = none := by
  cases e : H a with
  | none => rfl
  | some o => exact absurd h (s.dom a (by rw [e]; simp))
theorem SqT.step {a : Addr} {vs : List V} (h : SqT K H a vs) (s : Step μ H μ' H') : SqT K H' a vs := by
  rcases h with (h | ⟨o, h⟩) | h
  · exact .inl (.inl (s.tups _ _ h))
  · exact .inl (.inr ⟨o, s.frzs _ _ _ h⟩)
  · exact .inr h
theorem Fz.step {a : Addr} {ns : List Int} (h : Fz K H a ns) (s : Step μ H μ' H') : Fz K H' a ns := by
  rcases h with ⟨o, h⟩ | h
  · exact .inl ⟨o, s.frzs _ _ _ h⟩
  · exact .inr h
mutual
theorem Rep.step : ∀ {d : D} {v : V} {t F : List Addr}, Rep K H μ d v t F → Step μ H μ' H' → (∀ a ∈ t ++ F, a ∉ μ) → Rep K H' μ' d v t F
  | _, _, _, _, .non, _, _ => .non
  | _, _, _, _, .bl b, _, _ => .bl b
  | _, _, _, _, .int b, _, _ => .int b
  | _, _, _, _, .str b, _, _ => .str b
  | _, _, _, _, .tup e r, s, n => .tup (SqT.step e s) (Reps.step r s fun a h => n a (by simpa using h))
  | _, _, _, _, .lst e r, s, n => .lst (s.keep _ _ e (n _ (by simp))) (Reps.step r s fun a h => n a (by simp [h]))
  | _, _, _, _, .frz e, s, _ => .frz (Fz.step e s)
  | _, _, _, _, .dT e h1 h2 h3 h4 h5 r hF, s, n => .dT (s.keep _ _ e (n _ (by simp))) h1 h2 h3 (h4.mono fun _ _ z => SqT.step z s) h5 (Reps.step r s fun a h => by rw [hF] at h; simp at h) hF
  | _, _, _, _, .dK e h1 h2 r hF, s, n => .dK (s.keep _ _ e (n _ (by simp))) h1 h2 (Reps.step r s fun a h => by rw [hF] at h; simp at h) hF
  | _, _, _, _, .ref e, s, _ => .ref (by
      obtain ⟨ν, rfl, _⟩ := s.ext
      rw [List.getElem?_append_left (List.getElem?_eq_some_iff.mp e).1]
      exact e)
  | _, _, _, _, .exc e1 e2 r, s, n => .exc (s.keep _ _ e1 (n _ (by simp))) (s.keep _ _ e2 (n _ (by simp))) (Rep.step r s fun a h => n a (by
      rcases List.mem_append.mp h with h | h <;> simp [h]))
theorem Reps.step : ∀ {ds : List D} {vs : List V} {F : List Addr}, Reps K H μ ds vs F → Step μ H μ' H' → (∀ a ∈ F, a ∉ μ) → Reps K H' μ' ds vs F
  | _, _, _, .nil, _, _ => .nil
  | _, _, _, .cons r t, s, n => .cons (Rep.step r s fun a h => n a (List.mem_append_left _ h)) (Reps.step t s fun a h => n a (List.mem_append_right _ h))
end

/-! ### states -/
/-- the boxes: lists that a reference stands for; their items hold no lists -/
def BoxOk (K : FW) (H : Hp) (μ : List Addr) (st : Sto) : Prop := ∀ (k : Nat) (xs : List D), st[k]? = some xs → ∃ a vs, μ[k]? = some a ∧ H a = some (.lst vs) ∧ Reps K H μ xs vs []
structure SI (K : FW) (ow : Nat → Bool) (Ok : Addr → Prop) (env : Env) (st : Sto) (μ : List Addr) (G : Addr → Option Nat) (σ : St) (H : Hp) : Prop where
  slot : ∀ (i : Nat) (d : D), WT.slot env i = some d → ∃ v t F, σ[i]? = some (some v) ∧ Rep K H μ d v t F ∧ (∀ a ∈ t, G a = if ow i then some i else none) ∧ (∀ a ∈ F, G a = none) ∧ ∀ a ∈ t ++ F, a ∉ μ ∧ Ok a
  box : BoxOk K H μ st
  muLen : μ.length = st.length
  muNd : μ.Nodup
  gmu : ∀ a ∈ μ, G a = none ∧ H a ≠ none
  gdom : ∀ a, G a ≠ none → H a ≠ none
  okn : ∀ a, H a = none → Ok a
  len : env.length ≤ σ.length
variable {ow : Nat → Bool} {Ok : Addr → Prop} {env : Env} {st : Sto} {G : Addr → Option Nat} {σ : St}
theorem SI.notLst (I : SI K ow Ok env st μ G σ H) {a : Addr} (h : a ∈ μ) : ∃ vs, H a = some (.lst vs) := by
  obtain ⟨k, hk, e⟩ := List.mem_iff_getElem.mp h
  have hk2 : k < st.length := by rw [← I.muLen]; exact hk
  obtain ⟨b, vs, e1, e2, _⟩ := I.box k _ (List.getElem?_eq_getElem hk2)
  rw [List.getElem?_eq_getElem hk] at e1
  cases e1
  rw [← e]
  exact ⟨vs, e2⟩
/-- a new object that is no box -/
theorem SI.new (I : SI K ow Ok env st μ G σ H) {p : Addr} {o : HO} (h : H p = none) : SI K ow Ok env st μ G σ (upd H p o) := by
  have s : Step μ H μ (upd H p o) := .new h
  refine ⟨fun i d e => ?_, fun k xs e => ?_, I.muLen, I.muNd, fun a ha => ⟨(I.gmu a ha).1, s.dom a (I.gmu a ha).2⟩, fun a ha => s.dom a (I.gdom a ha), fun a ha => I.okn a (s.wasNone ha), I.len⟩
  · obtain ⟨v, t, F, e1, r, g1, g2, g3⟩ := I.slot i d e
    exact ⟨v, t, F, e1, r.step s fun a ha => (g3 a ha).1, g1, g2, g3⟩
  · obtain ⟨a, vs, e1, e2, r⟩ := I.box k xs e
    exact ⟨a, vs, e1, by rw [upd_ne (ne_of_none e2 h)]; exact e2, r.step s fun b hb => by simp at hb⟩

/-- what is known of a value's lists: it is new, or it may be (top), or hold (inn), a list of these names' own -/
structure Pv where
  new : Bool
  top : List Nat
  inn : List Nat
structure PO (p : Pv) (G : Addr → Option Nat) (H : Hp) (μ' : List Addr) (Ok : Addr → Prop) (t F : List Addr) : Prop where
  top : ∀ a ∈ t, if p.new = true then H a = none ∧ a ∉ F else (G a = none ∨ ∃ i ∈ p.top, G a = some i)
  inn : ∀ a ∈ F, G a = none ∨ ∃ i ∈ p.inn, G a = some i
  out : ∀ a ∈ t ++ F, a ∉ μ' ∧ Ok a
/-- an error that leaves: its class's address by its name, its value in its own dict -/
def XR (CA : Str → Option Addr) (K : FW) (H : Hp) (μ : List Addr) (Ok : Addr → Prop) (c : Str) (d : D) (cls : Value) (dd : Option Addr) : Prop :=
  ∃ C dx v t F, CA c = some C ∧ cls = .ref C ∧ dd = some dx ∧ H dx = some (.xd [("value", v)]) ∧ Rep K H μ d v t F ∧ ∀ a ∈ dx :: (t ++ F), a ∉ μ ∧ Ok a
end

/-- the reading of an expression by its evaluation -/
structure Cfg where
  g : GE
  ow : Nat → Bool
  Ok : Addr → Prop
  CA : Str → Option Addr
  W : WX
def okE (c : Cfg) (K : FW) (p : Pv) (env : Env) (μ : List Addr) (G : Addr → Option Nat) (σ : St) (H : Hp) (Q : VK) : D → Sto → Prop := fun d st' =>
  ∀ v H' μ' t F, SI K c.ow c.Ok env st' μ' G σ H' → Step μ H μ' H' → Rep K H' μ' d v t F → PO p G H μ' c.Ok t F → Q v H'
def exE (c : Cfg) (K : FW) (env : Env) (μ : List Addr) (G : Addr → Option Nat) (σ : St) (H : Hp) : Str → D → Sto → Prop := fun x d st' =>
  ∀ cls dd H' μ', SI K c.ow c.Ok env st' μ' G σ H' → Step μ H μ' H' → XR c.CA K H' μ' c.Ok x d cls dd → c.W cls dd σ H'
def Fin {α : Type} (ok : α → Sto → Prop) (ex : Str → D → Sto → Prop) : R α → Prop
  | .ok a st => ok a st
  | .exn x d st => ex x d st
  | .bad => False
theorem Fin.bind {α β : Type} {ok : β → Sto → Prop} {ex : Str → D → Sto → Prop} {r : R α} {f : α → Sto → R β} : Fin ok ex (r.bind f) ↔ Fin (fun a st => Fin ok ex (f a st)) ex r := by cases r <;> rfl
theorem Fin.mono {α : Type} {ok ok' : α → Sto → Prop} {ex ex' : Str → D → Sto → Prop} {r : R α} (h : Fin ok ex r) (h1 : ∀ a st, r = .ok a st → ok a st → ok' a st) (h2 : ∀ x d st, ex x d st → ex' x d st) : Fin ok' ex' r := by
  cases r with
  | ok a st => exact h1 a st rfl h
  | exn x d st => exact h2 x d st h
  | bad => exact h
theorem Fin.ofO {α : Type} {ok : α → Sto → Prop} {ex : Str → D → Sto → Prop} {o : Option α} {st : Sto} (h : Fin ok ex (R.ofO st o)) : ∃ a, o = some a ∧ ok a st := by
  cases o with
  | none => exact h.elim
  | some a => exact ⟨a, rfl, h⟩
def TEv (c : Cfg) (K : FW) (p : Pv) (s : Env → Sto → R D) : TE := fun σ H Q => ∃ env st μ G, SI K c.ow c.Ok env st μ G σ H ∧ Fin (okE c K p env μ G σ H Q) (exE c K env μ G σ H) (s env st)
/-- .. of a test -/
def okT (c : Cfg) (K : FW) (env : Env) (μ : List Addr) (G : Addr → Option Nat) (σ : St) (H : Hp) (Q : Bool → Hp → Prop) : Bool → Sto → Prop := fun b st' =>
  ∀ H' μ', SI K c.ow c.Ok env st' μ' G σ H' → Step μ H μ' H' → Q b H'
def TTv (c : Cfg) (K : FW) (s : Env → Sto → R Bool) : TT := fun σ H Q => ∃ env st μ G, SI K c.ow c.Ok env st μ G σ H ∧ Fin (okT c K env μ G σ H Q) (exE c K env μ G σ H) (s env st)
/-- .. of a list of expressions -/
def okA (c : Cfg) (K : FW) (inn : List Nat) (env : Env) (μ : List Addr) (G : Addr → Option Nat) (σ : St) (H : Hp) (Q : List V → Hp → Prop) : List D → Sto → Prop := fun ds st' =>
  ∀ vs H' μ' F, SI K c.ow c.Ok env st' μ' G σ H' → Step μ H μ' H' → Reps K H' μ' ds vs F → (∀ a ∈ F, (G a = none ∨ ∃ i ∈ inn, G a = some i) ∧ a ∉ μ' ∧ c.Ok a) → Q vs H'
def TAv (c : Cfg) (K : FW) (inn : List Nat) (s : Env → Sto → R (List D)) : TA := fun σ H Q => ∃ env st μ G, SI K c.ow c.Ok env st μ G σ H ∧ Fin (okA c K inn env μ G σ H Q) (exE c K env μ G σ H) (s env st)
theorem _root_.L2.PE.mono {X : Cx} {e : Expr} {t t' : TE} (h : PE X e t) (m : ∀ σ H Q, t' σ H Q → t σ H Q) : PE X e t' := ⟨fun pins s σ H Q I q => h.run pins s σ H Q I (m σ H Q q)⟩
theorem _root_.L2.PA.mono {X : Cx} {e : List Expr} {t t' : TA} (h : PA X e t) (m : ∀ σ H Q, t' σ H Q → t σ H Q) : PA X e t' := ⟨fun pos pins s σ H Q I q => h.run pos pins s σ H Q I (m σ H Q q)⟩
theorem _root_.L2.PT.mono {X : Cx} {e : Expr} {t t' : TT} (h : PT X e t) (m : ∀ σ H Q, t' σ H Q → t σ H Q) : PT X e t' := ⟨fun pins s σ H Q I q => h.run pins s σ H Q I (m σ H Q q)⟩
theorem _root_.L2.PSs.mono {X : Cx} {e : List Stmt} {t t' : TS} (h : PSs X e t) (m : ∀ D σ H, t' D σ H → t D σ H) : PSs X e t' := ⟨fun pins s σ H D I q => h.run pins s σ H D I (m D σ H q)⟩
theorem _root_.L2.PS.mono {X : Cx} {e : Stmt} {t t' : TS} (h : PS X e t) (m : ∀ D σ H, t' D σ H → t D σ H) : PS X e t' := ⟨fun pins s σ H D I q => h.run pins s σ H D I (m D σ H q)⟩

section
variable {c : Cfg} {K : FW} {p : Pv} {env : Env} {μ μ1 : List Addr} {G : Addr → Option Nat} {σ : St} {H H1 : Hp}
theorem exE.step {x : Str} {d : D} {st : Sto} (h : exE c K env μ G σ H x d st) (s : Step μ H μ1 H1) : exE c K env μ1 G σ H1 x d st := fun cls dd H' μ' I s' e => h cls dd H' μ' I (s.trans s') e
/-- a value that was ahead stands behind a step -/
structure Held (K : FW) (c : Cfg) (G : Addr → Option Nat) (p : Pv) (H0 : Hp) (d : D) (v : V) (t F : List Addr) (μ : List Addr) (H : Hp) : Prop where
  rep : Rep K H μ d v t F
  po : PO p G H0 μ c.Ok t F
theorem Held.step {H0 : Hp} {d : D} {v : V} {t F : List Addr} (h : Held K c G p H0 d v t F μ H) (s : Step μ H μ1 H1) : Held K c G p H0 d v t F μ1 H1 :=
  ⟨h.rep.step s fun a ha => (h.po.out a ha).1, h.po.top, h.po.inn, fun a ha => ⟨s.notin (h.rep.there a ha) (h.po.out a ha).1, (h.po.out a ha).2⟩⟩
/-- new of a later heap is new of an earlier one -/
theorem PO.back {H0 : Hp} {t F : List Addr} (h : PO p G H μ c.Ok t F) {μ2 : List Addr} (s : Step μ1 H0 μ2 H) : PO p G H0 μ c.Ok t F :=
  ⟨fun a ha => by
    have z := h.top a ha
    split at z
    · rename_i hn
      rw [if_pos hn]
      exact ⟨s.wasNone z.1, z.2⟩
    · rename_i hn
      rw [if_neg hn]
      exact z, h.inn, h.out⟩
end
end WT
end

section
set_option Elab.async false
set_option linter.all false
set_option maxRecDepth 100000
/-! K3: the operators and built-in functions by values. -/
namespace WT
open PySem PySem.Spec PyProof.Rows L2

/-- the heap as it was, or with one new object -/
def New1 (H H' : Hp) : Prop := H' = H ∨ ∃ p o, H p = none ∧ H' = upd H p o
section
variable {K : FW} {H H' : Hp} {μ : List Addr}
theorem New1.keep (n : New1 H H') : ∀ a o, H a = some o → H' a = some o := fun a o e => by
  rcases n with rfl | ⟨p, u, hp, rfl⟩
  · exact e
  · rw [upd_ne (ne_of_none e hp)]; exact e
theorem SqT.ext {a : Addr} {vs : List V} (h : SqT K H a vs) (k : ∀ a o, H a = some o → H' a = some o) : SqT K H' a vs := by
  rcases h with (h | ⟨o, h⟩) | h
  · exact .inl (.inl (k _ _ h))
  · exact .inl (.inr ⟨o, k _ _ h⟩)
  · exact .inr h
mutual
theorem Rep.ext : ∀ {d : D} {v : V} {t F : List Addr}, Rep K H μ d v t F → (∀ a o, H a = some o → H' a = some o) → Rep K H' μ d v t F
  | _, _, _, _, .non, _ => .non
  | _, _, _, _, .bl b, _ => .bl b
  | _, _, _, _, .int b, _ => .int b
  | _, _, _, _, .str b, _ => .str b
  | _, _, _, _, .tup e r, k => .tup (SqT.ext e k) (Reps.ext r k)
  | _, _, _, _, .lst e r, k => .lst (k _ _ e) (Reps.ext r k)
  | _, _, _, _, .frz e, k => .frz (by
      rcases e with ⟨o, h⟩ | h
      · exact .inl ⟨o, k _ _ h⟩
      · exact .inr h)
  | _, _, _, _, .ref e, _ => .ref e
  | _, _, _, _, .exc e1 e2 r, k => .exc (k _ _ e1) (k _ _ e2) (Rep.ext r k)
  | _, _, _, _, .dT e h1 h2 h3 h4 h5 r hF, k => .dT (k _ _ e) h1 h2 h3 (h4.mono fun _ _ z => SqT.ext z k) h5 (Reps.ext r k) hF
  | _, _, _, _, .dK e h1 h2 r hF, k => .dK (k _ _ e) h1 h2 (Reps.ext r k) hF
theorem Reps.ext : ∀ {ds : List D} {vs : List V} {F : List Addr}, Reps K H μ ds vs F → (∀ a o, H a = some o → H' a = some o) → Reps K H' μ ds vs F
  | _, _, _, .nil, _ => .nil
  | _, _, _, .cons r t, k => .cons (Rep.ext r k) (Reps.ext t k)
end
mutual
theorem Rep.moreMu : ∀ {d : D} {v : V} {t F ν : List Addr}, Rep K H μ d v t F → Rep K H (μ ++ ν) d v t F
  | _, _, _, _, _, .non => .non
  | _, _, _, _, _, .bl b => .bl b
  | _, _, _, _, _, .int b => .int b
  | _, _, _, _, _, .str b => .str b
  | _, _, _, _, _, .tup e r => .tup e (Reps.moreMu r)
  | _, _, _, _, _, .lst e r => .lst e (Reps.moreMu r)
  | _, _, _, _, _, .frz e => .frz e
  | _, _, _, _, _, .dT e h1 h2 h3 h4 h5 r hF => .dT e h1 h2 h3 h4 h5 (Reps.moreMu r) hF
  | _, _, _, _, _, .dK e h1 h2 r hF => .dK e h1 h2 (Reps.moreMu r) hF
  | _, _, _, _, _, .exc e1 e2 r => .exc e1 e2 (Rep.moreMu r)
  | _, _, _, _, _, .ref e => .ref (by rw [List.getElem?_append_left (List.getElem?_eq_some_iff.mp e).1]; exact e)
theorem Reps.moreMu : ∀ {ds : List D} {vs : List V} {F ν : List Addr}, Reps K H μ ds vs F → Reps K H (μ ++ ν) ds vs F
  | _, _, _, _, .nil => .nil
  | _, _, _, _, .cons r t => .cons (Rep.moreMu r) (Reps.moreMu t)
end
/-- what a value's rule hands on -/
def Out (K : FW) (H : Hp) (μ : List Addr) (d : D) (B : Addr → Prop) (Q : VK) : Prop :=
  ∀ v H' t F, New1 H H' → Rep K H' μ d v t F → (∀ a ∈ t, H a = none ∧ a ∉ F) → (∀ a ∈ F, B a) → Q v H'
variable {B : Addr → Prop} {Q : VK}
theorem Out.int {i : Int} (h : Out K H μ (.int i) B Q) : Q (.int i) H := h _ _ _ _ (.inl rfl) (.int i) (fun _ h => by simp at h) fun _ h => by simp at h
theorem Out.bl {i : Bool} (h : Out K H μ (.bl i) B Q) : Q (.bl i) H := h _ _ _ _ (.inl rfl) (.bl i) (fun _ h => by simp at h) fun _ h => by simp at h
theorem Out.str {i : Str} (h : Out K H μ (.str i) B Q) : Q (.str i) H := h _ _ _ _ (.inl rfl) (.str i) (fun _ h => by simp at h) fun _ h => by simp at h
theorem Out.tup {ds : List D} {vs : List V} {F : List Addr} (h : Out K H μ (.tup ds) B Q) (r : Reps K H μ ds vs F) (b : ∀ a ∈ F, B a) {p : Addr} (hp : H p = none) : Q (.ref p) (upd H p (.tup vs)) :=
  h _ _ _ _ (.inr ⟨p, _, hp, rfl⟩) (.tup (.of upd_same) (r.ext (New1.keep (.inr ⟨p, _, hp, rfl⟩)))) (fun _ h => by simp at h) b
theorem Out.tupSame {ds : List D} {vs : List V} {F : List Addr} {a : Addr} (h : Out K H μ (.tup ds) B Q) (e : SqT K H a vs) (r : Reps K H μ ds vs F) (b : ∀ a ∈ F, B a) : Q (.ref a) H :=
  h _ _ _ _ (.inl rfl) (.tup e r) (fun _ h => by simp at h) b
theorem Out.lst {ds : List D} {vs : List V} {F : List Addr} (h : Out K H μ (.lst ds) B Q) (r : Reps K H μ ds vs F) (b : ∀ a ∈ F, B a) {p : Addr} (hp : H p = none) : Q (.ref p) (upd H p (.lst vs)) :=
  h _ _ _ _ (.inr ⟨p, _, hp, rfl⟩) (.lst upd_same (r.ext (New1.keep (.inr ⟨p, _, hp, rfl⟩)))) (fun a ha => by
    have e := List.mem_singleton.mp ha
    subst e
    exact ⟨hp, fun hm => r.there a hm hp⟩) b
/-- an operator by its evaluation -/
def R2v (K : FW) (g : D → D → Option D) : R2 := fun x y H Q => ∃ μ d1 d2 d t1 F1 t2 F2, Rep K H μ d1 x t1 F1 ∧ Rep K H μ d2 y t2 F2 ∧ g d1 d2 = some d ∧ Out K H μ d (fun a => a ∈ F1 ∨ a ∈ F2) Q
end

theorem guardO_some {α : Type} {p : Prop} [Decidable p] {x y : α} (h : guardO p x = some y) : p ∧ x = y := by
  unfold guardO at h
  split at h
  · rename_i hp
    exact ⟨hp, Option.some.inj h⟩
  · cases h

section
variable {X : Cx}
theorem op_add_v : OpR X (binaryOp .Add) (R2v X.KW addD) := by
  intro pins s σ H x y v u Q I rx ry h
  obtain ⟨μ, d1, d2, d, t1, F1, t2, F2, r1, r2, hg, q⟩ := h
  cases r1 <;> cases r2 <;> simp only [addD] at hg <;> first | (cases hg; done) | skip
  case int.int i j =>
    cases hg
    exact op_add pins s σ H _ _ v u Q I rx ry ⟨_, _, rfl, rfl, q.int⟩
  case str.str i j =>
    obtain ⟨hp, rfl⟩ := guardO_some hg
    exact op_add_str pins s σ H _ _ v u Q I rx ry ⟨_, _, rfl, rfl, hp, q.str⟩
  case tup.tup a vs ds e1 s1 b ws es e2 s2 =>
    obtain ⟨hp, rfl⟩ := guardO_some hg
    obtain ⟨L, s3, hL⟩ := s1.append s2
    refine op_catA pins s σ H _ _ v u Q I rx ry ⟨_, _, _, _, rfl, rfl, e1, e2, by rw [← s1.length, ← s2.length]; exact hp, fun z => ?_, fun z z2 => ?_, fun z z2 p hp => q.tup s3 hL hp⟩
    · subst z
      have z2 : ds = [] := List.eq_nil_of_length_eq_zero s1.length
      subst z2
      exact q.tupSame e2 (by simpa using s2) fun a ha => .inr ha
    · subst z2
      have z2 : es = [] := List.eq_nil_of_length_eq_zero s2.length
      subst z2
      exact q.tupSame e1 (by simpa using s1) fun a ha => .inl ha
  case lst.lst a vs ds e1 s1 b ws es e2 s2 =>
    obtain ⟨hp, rfl⟩ := guardO_some hg
    obtain ⟨L, s3, hL⟩ := s1.append s2
    exact op_cat pins s σ H _ _ v u Q I rx ry ⟨_, _, _, _, rfl, rfl, e1, e2, by rw [← s1.length, ← s2.length]; exact hp, fun p hp => q.lst s3 hL hp⟩

theorem tuple_mul1 (l : Addr) (items : Array Value) (n : Nat) (dd : Option Addr) (sl : Array (Option Value)) (x : Int) (u : Tok) (c0 : (decide (x < -(2 ^ 63)) || decide (x ≥ 2 ^ 63)) = false) (c1 : (items.isEmpty || x == 1) = true) :
    Meets (Builtin.«tuple.__mul__» ⟨[.ref l, .int x u], []⟩) (fun _ R s => s.heap.get? l = some { cls := .type "tuple", dict := dd, data := .seq items n, slots := sl } ∧ R (.ok (.ret (Value.ref l))) s) :=
  .of_wp fun prog w A R s h => by
    obtain ⟨hp, g, d, tk, os⟩ := s
    obtain ⟨hl, h⟩ := h
    have f1 := AutoSeq1.idx_int
    wp_walk using AutoSeq1.wpAny_loadPart' hl
    repeat (first
      | (refine wpAny_ite_false (decide_eq_false (by rw [c0]; exact Bool.false_ne_true)) ?_; wp_walk using AutoSeq1.wpAny_loadPart' hl)
      | (refine wpAny_ite_true (decide_eq_true c1) ?_; wp_walk using AutoSeq1.wpAny_loadPart' hl))
    all_goals exact ⟨_, rfl, h⟩
theorem tuple_mul0 (l : Addr) (items : Array Value) (n : Nat) (dd : Option Addr) (sl : Array (Option Value)) (x : Int) (u : Tok) (c0 : (decide (x < -(2 ^ 63)) || decide (x ≥ 2 ^ 63)) = false) (c1 : (items.isEmpty || x == 1) = false) (c2 : (decide (x ≤ 0) || items.isEmpty) = true) :
    Meets (Builtin.«tuple.__mul__» ⟨[.ref l, .int x u], []⟩) (fun _ R s => s.heap.get? l = some { cls := .type "tuple", dict := dd, data := .seq items n, slots := sl } ∧
      R (.ok (.ret (Value.ref s.heap.objs.size))) { s with heap := s.heap.push { cls := Value.type "tuple", data := Data.seq #[] }, toks := s.toks }) :=
  .of_wp fun prog w A R s h => by
    obtain ⟨hp, g, d, tk, os⟩ := s
    obtain ⟨hl, h⟩ := h
    have f1 := AutoSeq1.idx_int
    wp_walk using AutoSeq1.wpAny_loadPart' hl
    repeat (first
      | (refine wpAny_ite_false (decide_eq_false (by rw [c0]; exact Bool.false_ne_true)) ?_; wp_walk using AutoSeq1.wpAny_loadPart' hl)
      | (refine wpAny_ite_false (decide_eq_false (by rw [c1]; exact Bool.false_ne_true)) ?_; wp_walk using AutoSeq1.wpAny_loadPart' hl)
      | (refine wpAny_ite_true (decide_eq_true c2) ?_; wp_walk using AutoSeq1.wpAny_loadPart' hl))
    all_goals exact ⟨_, rfl, h⟩
/-- t * k: t itself (k = 1, or t empty); none (k below 1) -/
def rRep1 (K : FW) : R2 := fun x y H Q => ∃ l k xs, x = .ref l ∧ y = .int k ∧ SqT K H l xs ∧ (-(2 ^ 63) ≤ k ∧ k < 2 ^ 63) ∧ (xs = [] ∨ k = 1) ∧ Q (.ref l) H
def rRep0 (K : FW) : R2 := fun x y H Q => ∃ l k xs, x = .ref l ∧ y = .int k ∧ SqT K H l xs ∧ (-(2 ^ 63) ≤ k ∧ k ≤ 0) ∧ xs ≠ [] ∧ ∀ p, H p = none → Q (.ref p) (upd H p (.tup []))
theorem isE {xs : List V} {its : List Value} (r : L2.Vals xs its) : its.toArray.isEmpty = xs.isEmpty := by cases r <;> simp
theorem op_rep1 : OpR X (binaryOp .Mult) (rRep1 X.KW) := by
  intro pins s σ H x y v u Q I rx ry h
  obtain ⟨l, k, xs, rfl, rfl, hT, ⟨h1, h2⟩, h3, q⟩ := h
  cases rx
  obtain ⟨t, rfl⟩ := ry
  obtain ⟨its, r, ⟨⟨cls, dd, data, sl⟩, ho, hc, n, hd⟩, hs⟩ := I.tuple hT
  simp only at hc hd
  subst hc hd
  have c0 : (decide (k < -(2 ^ 63)) || decide (k ≥ 2 ^ 63)) = false := by
    rw [decide_eq_false (by omega), decide_eq_false (by omega)] <;> rfl
  have c1 : (its.toArray.isEmpty || k == 1) = true := by
    rw [isE r]
    rcases h3 with h3 | h3
    · rw [h3] <;> rfl
    · rw [h3]; simp
  exact wpAny_binaryOp_repeat_ref (T := "tuple") (U := "int") (by decide) ⟨_, ho, rfl⟩ (fun s' => typeIs_int s' k t) noFill_tuple_mul F.fills_int_mul F.slot_int_rmul repeat_tuple F.slot_int_index.lookup
    (call_meets F.slot_int_rmul (typeIs_int s k t) F.entry_int_rmul (F.args_int_rmul_2 _ _) (int_rmul_tuple k t l its.toArray n dd sl)
      ⟨ho, rfl, ⟨_, ho, rfl⟩, call_meets F.slot_tuple_mul ⟨_, ho, rfl⟩ F.entry_tuple_mul (F.args_tuple_mul_2 _ _) (tuple_mul1 l its.toArray n dd sl k t c0 c1) ⟨ho, ⟨.ref l, H, I, rfl, q⟩⟩⟩)
theorem op_rep0 : OpR X (binaryOp .Mult) (rRep0 X.KW) := by
  intro pins s σ H x y v u Q I rx ry h
  obtain ⟨l, k, xs, rfl, rfl, hT, ⟨h1, h2⟩, h3, q⟩ := h
  cases rx
  obtain ⟨t, rfl⟩ := ry
  obtain ⟨its, r, ⟨⟨cls, dd, data, sl⟩, ho, hc, n, hd⟩, hs⟩ := I.tuple hT
  simp only at hc hd
  subst hc hd
  have c0 : (decide (k < -(2 ^ 63)) || decide (k ≥ 2 ^ 63)) = false := by
    rw [decide_eq_false (by omega), decide_eq_false (by omega)] <;> rfl
  have c1 : (its.toArray.isEmpty || k == 1) = false := by
    rw [isE r]
    cases xs with
    | nil => exact absurd rfl h3
    | cons a b =>
      show (false || k == 1) = false
      rw [Bool.false_or]
      exact beq_eq_false_iff_ne.mpr (by omega)
  have c2 : (decide (k ≤ 0) || its.toArray.isEmpty) = true := by rw [decide_eq_true h2] <;> rfl
  refine wpAny_binaryOp_repeat_ref (T := "tuple") (U := "int") (by decide) ⟨_, ho, rfl⟩ (fun s' => typeIs_int s' k t) noFill_tuple_mul F.fills_int_mul F.slot_int_rmul repeat_tuple F.slot_int_index.lookup
    (call_meets F.slot_int_rmul (typeIs_int s k t) F.entry_int_rmul (F.args_int_rmul_2 _ _) (int_rmul_tuple k t l its.toArray n dd sl)
      ⟨ho, rfl, ⟨_, ho, rfl⟩, call_meets F.slot_tuple_mul ⟨_, ho, rfl⟩ F.entry_tuple_mul (F.args_tuple_mul_2 _ _) (tuple_mul0 l its.toArray n dd sl k t c0 c1 c2) ⟨ho, ?_⟩⟩)
  refine ⟨.ref s.heap.objs.size, _, I.laid (t' := s.toks) (o := .tup []) (fun b ob q => Heap.get?_push_of_some _ q) (Nat.le_refl _) ?_, rfl, q _ (I.hok.fresh (Nat.le_refl _))⟩
  exact ⟨Nat.zero_le _, [], .nil, IsTup.new _ _⟩
theorem mulOK.ok {i j : Int} (h : mulOK i j) : IntMulOk i j := by
  rcases h with h | h
  · exact CMul.ok h
  · exact CMulW.ok h
theorem op_mul_v : OpR X (binaryOp .Mult) (R2v X.KW mulD) := by
  intro pins s σ H x y v u Q I rx ry h
  obtain ⟨μ, d1, d2, d, t1, F1, t2, F2, r1, r2, hg, q⟩ := h
  cases r1 <;> cases r2 <;> simp only [mulD] at hg <;> first | (cases hg; done) | skip
  case int.int i j =>
    obtain ⟨hp, rfl⟩ := guardO_some hg
    obtain ⟨t, rfl⟩ := rx
    obtain ⟨t', rfl⟩ := ry
    exact mul_int ⟨.int _, H, I.tok _, ⟨_, rfl⟩, q.int⟩ hp.ok
  case lst.int a vs ds e1 s1 k =>
    obtain ⟨⟨h1, h2, h3⟩, rfl⟩ := guardO_some hg
    obtain ⟨L, s3, hL⟩ := s1.rep k.toNat
    exact op_rep pins s σ H _ _ v u Q I rx ry ⟨_, _, _, rfl, rfl, e1, h1, h2, by rw [← s1.length]; exact h3, fun p hp => q.lst s3 (fun a ha => .inl (hL a ha)) hp⟩
  case tup.int a vs ds e1 s1 k =>
    split at hg
    · rename_i hk
      obtain ⟨hb, rfl⟩ := guardO_some hg
      refine op_rep1 pins s σ H _ _ v u Q I rx ry ⟨_, _, _, rfl, rfl, e1, hb, ?_, q.tupSame e1 s1 fun a ha => .inl ha⟩
      rcases hk with hk | hk
      · exact .inr hk
      · refine .inl ?_
        cases s1 with
        | nil => rfl
        | cons _ _ => cases hk
    · rename_i hk
      have hne : vs ≠ [] := fun z => by
        subst z
        cases s1
        exact hk (.inr rfl)
      split at hg
      · rename_i hk0
        obtain ⟨hb, rfl⟩ := guardO_some hg
        exact op_rep0 pins s σ H _ _ v u Q I rx ry ⟨_, _, _, rfl, rfl, e1, ⟨by omega, hk0⟩, hne, fun p hp => q.tup .nil (fun _ h => by simp at h) hp⟩
      · obtain ⟨⟨h1, h2, h3, h4⟩, rfl⟩ := guardO_some hg
        obtain ⟨L, s3, hL⟩ := s1.rep k.toNat
        exact op_repT pins s σ H _ _ v u Q I rx ry ⟨_, _, _, rfl, rfl, e1, hne, h2, h3, by rw [← s1.length]; exact h4, fun p hp => q.tup s3 (fun a ha => .inl (hL a ha)) hp⟩
theorem op_sub_v : OpR X (binaryOp .Sub) (R2v X.KW (binD .Sub)) := by
  intro pins s σ H x y v u Q I rx ry h
  obtain ⟨μ, d1, d2, d, t1, F1, t2, F2, r1, r2, hg, q⟩ := h
  cases r1 <;> cases r2 <;> simp only [binD] at hg <;> first | (cases hg; done) | skip
  case int.int i j =>
    cases hg
    exact op_sub pins s σ H _ _ v u Q I rx ry ⟨_, _, rfl, rfl, q.int⟩
theorem fdiv_ok {a b : Int} {d z : WT.D} (h : (guardO (divOK b) z).or (guardO (dv2OK a b) z) = some d) : b ≠ 0 ∧ Builtin.divisionGoesByPylong a b = false ∧ z = d := by
  rcases Option.or_eq_some_iff.mp h with h | ⟨_, h⟩
  · obtain ⟨⟨h1, h2⟩, e⟩ := guardO_some h
    exact ⟨h1, PyProof.noPylong_of_log2 h2, e⟩
  · obtain ⟨⟨h1, h2⟩, e⟩ := guardO_some h
    refine ⟨h1, ?_, e⟩
    show (decide ((if b == 0 then 0 else b.natAbs.log2 / 30 + 1) > 300) && decide ((if a == 0 then 0 else a.natAbs.log2 / 30 + 1) > (if b == 0 then 0 else b.natAbs.log2 / 30 + 1) + 150)) = false
    have hb : ¬ (b == 0) = true := by simpa using h1
    have key : (if a == 0 then 0 else a.natAbs.log2 / 30 + 1) ≤ (if b == 0 then 0 else b.natAbs.log2 / 30 + 1) + 150 := by
      rw [if_neg hb]
      split <;> omega
    rw [decide_eq_false (Nat.not_lt.mpr key), Bool.and_false]
theorem op_div_v : OpR X (binaryOp .FloorDiv) (R2v X.KW (binD .FloorDiv)) := by
  intro pins s σ H x y v u Q I rx ry h
  obtain ⟨μ, d1, d2, d, t1, F1, t2, F2, r1, r2, hg, q⟩ := h
  cases r1 <;> cases r2 <;> simp only [binD] at hg <;> first | (cases hg; done) | skip
  case int.int i j =>
    obtain ⟨h1, h2, rfl⟩ := fdiv_ok hg
    obtain ⟨t, rfl⟩ := rx
    obtain ⟨t', rfl⟩ := ry
    exact floordiv_int h1 ⟨.int _, H, I.tok _, ⟨_, rfl⟩, q.int⟩ (.inl h2)
theorem op_mod_v : OpR X (binaryOp .Mod) (R2v X.KW (binD .Mod)) := by
  intro pins s σ H x y v u Q I rx ry h
  obtain ⟨μ, d1, d2, d, t1, F1, t2, F2, r1, r2, hg, q⟩ := h
  cases r1 <;> cases r2 <;> simp only [binD] at hg <;> first | (cases hg; done) | skip
  case int.int i j =>
    obtain ⟨h1, rfl⟩ := guardO_some hg
    exact op_modN pins s σ H _ _ v u Q I rx ry ⟨_, _, rfl, rfl, h1, q.int⟩
theorem op_pow_v : OpR X (binaryOp .Pow) (R2v X.KW (binD .Pow)) := by
  intro pins s σ H x y v u Q I rx ry h
  obtain ⟨μ, d1, d2, d, t1, F1, t2, F2, r1, r2, hg, q⟩ := h
  cases r1 <;> cases r2 <;> simp only [binD] at hg <;> first | (cases hg; done) | skip
  case int.int i j =>
    obtain ⟨h1, rfl⟩ := guardO_some hg
    rcases h1 with h1 | ⟨h1, h2⟩
    · exact op_pow pins s σ H _ _ v u Q I rx ry ⟨_, _, rfl, rfl, h1, q.int⟩
    · obtain ⟨t, rfl⟩ := rx
      obtain ⟨t', rfl⟩ := ry
      refine pow_int h1 (Int.le_trans (Int.mul_le_mul_of_nonneg_right (Int.ofNat_le.mpr ?_) h1) h2) ⟨.int _, H, I.tok _, ⟨_, rfl⟩, q.int⟩
      unfold Builtin.Int.intBits
      split <;> omega
theorem op_shl_v : OpR X (binaryOp .LShift) (R2v X.KW (binD .LShift)) := by
  intro pins s σ H x y v u Q I rx ry h
  obtain ⟨μ, d1, d2, d, t1, F1, t2, F2, r1, r2, hg, q⟩ := h
  cases r1 <;> cases r2 <;> simp only [binD] at hg <;> first | (cases hg; done) | skip
  case int.int i j =>
    obtain ⟨h1, rfl⟩ := guardO_some hg
    exact op_shl pins s σ H _ _ v u Q I rx ry ⟨_, _, rfl, rfl, h1, q.int⟩
theorem op_none_v {op : Operator} {f : Value → Value → Sem Value} (h : ∀ x y, binD op x y = none) : OpR X f (R2v X.KW (binD op)) := by
  intro pins s σ H x y v u Q I rx ry hh
  obtain ⟨μ, d1, d2, d, t1, F1, t2, F2, r1, r2, hg, q⟩ := hh
  rw [h] at hg
  cases hg
theorem op_bin_v (op : Operator) : OpR X (binaryOp op) (R2v X.KW (binD op)) := by
  cases op with
  | Add => exact op_add_v
  | Mult => exact op_mul_v
  | Sub => exact op_sub_v
  | FloorDiv => exact op_div_v
  | Mod => exact op_mod_v
  | Pow => exact op_pow_v
  | LShift => exact op_shl_v
  | _ => exact op_none_v fun _ _ => rfl
end
end WT
end

section
set_option Elab.async false
set_option linter.all false
set_option maxRecDepth 100000
/-! K4: comparisons, truth, subscripts, slices, isinstance, built-in functions by values. -/
namespace WT
open PySem PySem.Spec PyProof.Rows L2

section
variable {K : FW} {H H' : Hp} {μ : List Addr}
mutual
theorem Rep.dp : ∀ {d : D} {v : V} {t F : List Addr} {y : PyData}, Rep K H μ d v t F → toPy d = some y → Dp K H v y
  | _, _, _, _, _, .non, h => by cases h; exact .non
  | _, _, _, _, _, .bl b, h => by cases h; exact .bl b
  | _, _, _, _, _, .int b, h => by cases h; exact .int b
  | _, _, _, _, _, .str b, h => by cases h; exact .str b
  | _, _, _, _, _, .tup e r, h => by
    rw [toPy] at h
    obtain ⟨ys, h1, rfl⟩ := Option.map_eq_some_iff.mp h
    exact .tup e (Reps.dp r h1)
  | _, _, _, _, _, .lst e r, h => by
    rw [toPy] at h
    obtain ⟨ys, h1, rfl⟩ := Option.map_eq_some_iff.mp h
    exact .lst (.of e) (Reps.dp r h1)
  | _, _, _, _, _, .frz _, h => by rw [toPy] at h; cases h
  | _, _, _, _, _, .ref _, h => by rw [toPy] at h; cases h
  | _, _, _, _, _, .dK _ _ _ _ _, h => by rw [toPy] at h; cases h
  | _, _, _, _, _, .dT _ _ _ _ _ _ _ _, h => by rw [toPy] at h; cases h
theorem Reps.dp : ∀ {ds : List D} {vs : List V} {F : List Addr} {ys : List PyData}, Reps K H μ ds vs F → toPys ds = some ys → DpAll K H vs ys
  | _, _, _, _, .nil, h => by cases h; exact .nil
  | _, _, _, _, .cons (d := d) (ds := ds) r t, h => by
    rw [toPys] at h
    cases e1 : toPy d with
    | none => rw [e1] at h; cases h
    | some a =>
      cases e2 : toPys ds with
      | none => rw [e1, e2] at h; cases h
      | some b =>
        rw [e1, e2] at h
        cases h
        exact .cons (Rep.dp r e1) (Reps.dp t e2)
end
def toV : D → V
  | .bl b => .bl b
  | .int i => .int i
  | .str x => .str x
  | _ => .non
theorem Rep.flat {d : D} {v : V} {t F : List Addr} (r : Rep K H μ d v t F) (f : flatD d = true) : v = toV d ∧ flatV v = true := by
  cases r <;> first | exact ⟨rfl, rfl⟩ | (cases f; done)
theorem Reps.flats : ∀ {ds : List D} {vs : List V} {F : List Addr}, Reps K H μ ds vs F → ds.all flatD = true → vs = ds.map toV ∧ vs.all flatV = true
  | _, _, _, .nil, _ => ⟨rfl, rfl⟩
  | _, _, _, .cons r t, f => by
    rw [List.all_cons, Bool.and_eq_true] at f
    obtain ⟨e1, e2⟩ := r.flat f.1
    obtain ⟨e3, e4⟩ := Reps.flats t f.2
    refine ⟨by rw [List.map_cons, ← e1, ← e3], ?_⟩
    rw [List.all_cons, e2, e4] <;> rfl
theorem eqV_to {a b : D} (ha : flatD a = true) (hb : flatD b = true) : eqV (toV a) (toV b) = eqF a b := by
  cases a <;> cases b <;> first | rfl | (cases ha; done) | (cases hb; done)
theorem inV_to {a : D} (ha : flatD a = true) : ∀ {xs : List D}, xs.all flatD = true → inV (toV a) (xs.map toV) = inD a xs
  | [], _ => rfl
  | x :: xs, h => by
    rw [List.all_cons, Bool.and_eq_true] at h
    have ih := inV_to ha h.2
    unfold inV inD at ih ⊢
    rw [List.map_cons, List.any_cons, List.any_cons, eqV_to h.1 ha, ih]
theorem Rep.non_iff {d : D} {v : V} {t F : List Addr} (r : Rep K H μ d v t F) : decide (v = .non) = (match d with | .non => true | _ => false) := by
  cases r <;> simp
theorem Rep.key {d : D} {v : V} {t F : List Addr} {k : Key} (r : Rep K H μ d v t F) (h : keyOf d = some k) : v = kV k := by
  cases r <;> cases h <;> rfl
/-- what a dict holds -/
theorem Reps.valP : ∀ {kvs : List (Key × V)} {ks : List Key} {vs : List V} {ds : List D} {F : List Addr} (k : Key), kvs.map (·.1) = ks → kvs.map (·.2) = vs → Reps K H μ ds vs F →
    (∃ d v t G, WT.valP ks ds k = some d ∧ valV kvs k = some v ∧ Rep K H μ d v t G ∧ ∀ a ∈ t ++ G, a ∈ F) ∨ (WT.valP ks ds k = none ∧ valV kvs k = none)
  | [], _, _, _, _, k, h1, h2, .nil => by cases h1; exact .inr ⟨rfl, rfl⟩
  | [], _, _, _, _, k, h1, h2, .cons _ _ => by cases h2
  | p :: kvs, ks, vs, ds, F, k, h1, h2, r => by
    cases r with
    | nil => cases h2
    | @cons d v t F ds vs G r rs =>
    rw [List.map_cons] at h1 h2
    obtain ⟨e1, e2⟩ := List.cons.inj h2
    subst h1
    by_cases e : p.1 = k
    · refine .inl ⟨d, v, t, F, ?_, ?_, r, fun a ha => List.mem_append_left _ ha⟩
      · unfold WT.valP; exact if_pos e
      · rw [valV_pos e, e1]
    · rcases Reps.valP k rfl e2 rs with ⟨d', v', t', G', a1, a2, a3, a4⟩ | ⟨a1, a2⟩
      · refine .inl ⟨d', v', t', G', ?_, ?_, a3, fun a ha => List.mem_append_right _ (a4 a ha)⟩
        · unfold WT.valP; rw [if_neg e]; exact a1
        · rw [valV_neg e]; exact a2
      · refine .inr ⟨?_, ?_⟩
        · unfold WT.valP; rw [if_neg e]; exact a1
        · rw [valV_neg e]; exact a2
mutual
theorem Rep.nk : ∀ {d : D} {v : V} {t F : List Addr} {k : NestedKey}, Rep K H μ d v t F → keyNO d = some k → NK K H k v
  | _, _, _, _, _, .non, h => by cases h; exact .none
  | _, _, _, _, _, .bl b, h => by cases h
  | _, _, _, _, _, .int b, h => by cases h; exact .num b
  | _, _, _, _, _, .str b, h => by cases h; exact .str b
  | _, _, _, _, _, .tup e r, h => by
    rw [keyNO] at h
    obtain ⟨ks, h1, rfl⟩ := Option.map_eq_some_iff.mp h
    exact .tup e (Reps.nk r h1)
  | _, _, _, _, _, .lst _ _, h => by cases h
  | _, _, _, _, _, .frz _, h => by cases h
  | _, _, _, _, _, .ref _, h => by cases h
  | _, _, _, _, _, .dK _ _ _ _ _, h => by cases h
  | _, _, _, _, _, .dT _ _ _ _ _ _ _ _, h => by cases h
theorem Reps.nk : ∀ {ds : List D} {vs : List V} {F : List Addr} {ks : List NestedKey}, Reps K H μ ds vs F → keyNOs ds = some ks → NKs K H ks vs
  | _, _, _, _, .nil, h => by cases h; exact .nil
  | _, _, _, _, .cons (d := d) (ds := ds) r t, h => by
    rw [keyNOs] at h
    cases e1 : keyNO d with
    | none => rw [e1] at h; cases h
    | some a =>
      cases e2 : keyNOs ds with
      | none => rw [e1, e2] at h; cases h
      | some b =>
        rw [e1, e2] at h
        cases h
        exact .cons (Rep.nk r e1) (Reps.nk t e2)
end
theorem keyNO_tx {d : D} {k : NestedKey} (_ : keyNO d = some k) : noTx k = true := rfl
/-- a key of a dict of tuples: the tuple's address -/
theorem Rep.keyT {d : D} {v : V} {t F : List Addr} {k : NestedKey} (r : Rep K H μ d v t F) (h : keyTO d = some k) : ∃ b, v = .ref b ∧ NK K H k (.ref b) ∧ noTx k = true ∧ k.depth ≤ 8 := by
  cases d <;> first | (cases h; done) | skip
  unfold keyTO at h
  obtain ⟨k', h1, h2⟩ := Option.bind_eq_some_iff.mp h
  split at h2
  · rename_i hd
    cases h2
    have n := r.nk h1
    cases r with
    | tup e rs => exact ⟨_, rfl, n, keyNO_tx h1, hd⟩
  · cases h2
theorem Reps.valT : ∀ {xs : List (NestedKey × Addr × Value)} {ks : List NestedKey} {vs : List V} {ds : List D} {F : List Addr} (k : NestedKey), xs.map (·.1) = ks → Vals vs (xs.map (·.2.2)) → Reps K H μ ds vs F →
    (∃ d v t G b u, WT.valP ks ds k = some d ∧ atKey xs k = some (b, u) ∧ RelV v u ∧ Rep K H μ d v t G ∧ ∀ a ∈ t ++ G, a ∈ F) ∨ (WT.valP ks ds k = none ∧ atKey xs k = none)
  | [], _, _, _, _, k, h1, h2, r => by
    subst h1
    cases h2
    cases r
    exact .inr ⟨rfl, rfl⟩
  | p :: xs, ks, vs, ds, F, k, h1, h2, r => by
    rw [List.map_cons] at h1 h2
    subst h1
    cases h2 with
    | cons e1 e2 =>
      cases r with
      | cons r rs =>
      by_cases e : p.1 = k
      · refine .inl ⟨_, _, _, _, p.2.1, p.2.2, ?_, ?_, e1, r, fun a ha => List.mem_append_left _ ha⟩
        · unfold WT.valP; exact if_pos e
        · simp [atKey, List.find?_cons, e]
      · have q : atKey (p :: xs) k = atKey xs k := by simp [atKey, List.find?_cons, e]
        rcases Reps.valT k rfl e2 rs with ⟨d', v', t', G', b, u, a1, a2, a3, a4, a5⟩ | ⟨a1, a2⟩
        · refine .inl ⟨d', v', t', G', b, u, ?_, by rw [q]; exact a2, a3, a4, fun a ha => List.mem_append_right _ (a5 a ha)⟩
          unfold WT.valP; rw [if_neg e]; exact a1
        · refine .inr ⟨?_, by rw [q]; exact a2⟩
          unfold WT.valP; rw [if_neg e]; exact a1
section
variable {X : Cx} {pins : List (Addr × Obj)} {σ : St} {H : Hp} {s : Shared}
mutual
theorem NK.is (I : Inv X pins σ H s) : ∀ {k : NestedKey} {v : V} {u : Value}, NK X.KW H k v → RelV v u → NestedIs s.heap k u
  | _, _, u, .none, r => by obtain rfl : u = Value.none := r; exact .none
  | _, _, u, .num i, r => by obtain ⟨t, rfl⟩ := r; exact .int i t
  | _, _, u, .str x, r => by obtain ⟨t, rfl⟩ := r; exact .text x t
  | _, _, u, .tup (b := b) e ns, r => by
    obtain rfl : u = Value.ref b := r
    obtain ⟨its, rv, ⟨o, ho, hc, n, hd⟩, hz⟩ := I.tuple e
    exact .tup ho hc hd (NKs.is I ns rv)
theorem NKs.is (I : Inv X pins σ H s) : ∀ {ks : List NestedKey} {vs : List V} {us : List Value}, NKs X.KW H ks vs → Vals vs us → NestedAll s.heap ks us
  | _, _, _, .nil, r => by cases r; exact .nil
  | _, _, _, .cons n ns, r => by
    cases r with
    | cons r rs => exact .cons (NK.is I n r) (NKs.is I ns rs)
end
theorem dto_of (I : Inv X pins σ H s) {a : Addr} {o : Obj} {xs : List (NestedKey × Addr × Value)} (e : H a = some (DTo X.w a o xs)) (hk : NKx X.KW H xs) : s.heap.DictOfH (nestedKind X.prog X.w) a xs := by
  obtain ⟨⟨h1, h2, es, ep, h3, h4, h5⟩, _⟩ := I.hok a _ e
  refine ⟨o, es, ep, h1, h2, h3, ?_, fun x hx => ⟨(hk x hx).1.is I rfl, (hk x hx).2.2⟩, h5⟩
  rw [h4]
  refine List.map_congr_left fun x hx => ?_
  rfl
theorem nk_room {prog : Program} {w : World} {A : Around} (hu : A.units + 64 < cLine) : (nestedKind prog w).room A.in1 := by
  show A.units + 1 + 8 < cLine
  omega
end
def R2c (K : FW) (op : CmpOp) : R2 := fun x y H Q => ∃ μ d1 d2 b t1 F1 t2 F2, Rep K H μ d1 x t1 F1 ∧ Rep K H μ d2 y t2 F2 ∧ cmpD op d1 d2 = some b ∧ Q (.bl b) H
end

section
variable {X : Cx}
theorem eqD0_some {a b : D} {r : Bool} (h : eqD0 a b = some r) : ∃ x y, toPy a = some x ∧ toPy b = some y ∧ SeqAt.shaped x = true ∧ SeqAt.shaped y = true ∧ r = PyData.eqv x y := by
  unfold eqD0 at h
  split at h
  · rename_i x y e1 e2
    split at h
    · rename_i hs
      cases h
      exact ⟨x, y, e1, e2, hs.1, hs.2, rfl⟩
    · cases h
  · cases h
theorem tuple_eq_declines_dict (l b : Addr) (items : Array Value) (n : Nat) (dd dd2 : Option Addr) (sl sl2 : Array (Option Value)) (es : Array DictEntry) (ep : Nat) :
    Meets (Builtin.«tuple.__eq__» ⟨[.ref l, .ref b], []⟩) (fun _ R s => s.heap.get? l = some { cls := .type "tuple", dict := dd, data := .seq items n, slots := sl } ∧ s.heap.get? b = some { cls := .type "dict", dict := dd2, data := .dict es ep, slots := sl2 } ∧ R (.ok (.ret .notImplemented)) s) :=
  .of_wp fun prog w A R s h => by obtain ⟨hp, g, d, tk, os⟩ := s; obtain ⟨hl, hb, h⟩ := h; have f1 := F.sub_dict_tuple; wp_walk using AutoSeq1.wpAny_loadPart' hl, AutoSeq1.wpAny_loadPart' hb; exact ⟨_, rfl, h⟩
theorem op_eqDT (hu : X.A.units + 64 < cLine) : OpR X (compareOp .Eq) (fun x y H Q => ∃ a b kvs xs, x = .ref a ∧ y = .ref b ∧ H a = some (.dK kvs) ∧ SqT X.K H b xs ∧ Q (.bl false) H) := by
  intro pins s σ H x y v u Q I rx ry h
  obtain ⟨a, b, kvs, xs, rfl, rfl, e1, e2, q⟩ := h
  cases rx
  cases ry
  obtain ⟨_, _, vs, _, da⟩ := I.hok a _ e1
  obtain ⟨its, _, pt, _⟩ := I.tuple e2
  obtain ⟨⟨cls2, dd2, data2, sl2⟩, ho2, hc2, n2, hd2⟩ := id pt
  simp only at hc2 hd2
  subst hc2 hd2
  obtain ⟨⟨cls, dd, data, sl⟩, es, ep, ho, ⟨hc, hdd, hsl⟩, hd, _⟩ := id da
  simp only at hc hdd hsl hd
  subst hc hdd hsl hd
  have hne : a ≠ b := fun z => by
    subst z
    rw [ho] at ho2
    have e := congrArg Obj.cls (Option.some.inj ho2)
    exact absurd e (by simp)
  have hq : wpAny (model X.prog X.w) X.A (richCompare .Eq (.ref a) (.ref b)) (fun r s' => ∃ y H', Inv X pins σ H' s' ∧ RelV y r ∧ Q y H') X.xe s := by
    refine SeqAt.rc_eq_decline_or (k := false) ⟨_, ho, rfl⟩ ⟨_, ho2, rfl⟩ (by decide) F.sub_tuple_dict F.slot_dict_eq F.slot_tuple_eq_refl
      (fun _ hq => wpAny_call_entry F.slot_dict_eq ⟨_, ho, rfl⟩ F.entry_dict_eq ?_ (F.args_dict_eq_2 _ _))
      (fun _ hq => call_meets F.slot_tuple_eq_refl ⟨_, ho2, rfl⟩ F.entry_tuple_eq (F.args_tuple_eq_2 _ _) (tuple_eq_declines_dict b a its.toArray n2 dd2 _ sl2 _ es ep) ⟨ho2, ho, hq⟩)
      (fun _ hq => ?_) (.inr (by omega)) ⟨.bl false, H, I, rfl, q⟩
    · show wpAny _ _ (Builtin.Dict.dictSlotArgs "__eq__" ⟨[.ref a, .ref b], []⟩ >>= _) _ _ s
      refine wpAny_bind ?_
      unfold Builtin.Dict.dictSlotArgs
      refine wpAny_bind (wpAny_notOrdered_dict ⟨_, ho, rfl⟩ ?_)
      show wpAny _ _ (pure (Value.ref a, Value.ref b)) _ _ s
      refine wpAny_pure ?_
      refine wpAny_bind (wpAny_isInstance (T := "tuple") ⟨_, ho2, rfl⟩ PySem.F.sub_tuple_dict ?_)
      simp only [Bool.not_false, if_true]
      refine wpAny_bind (wpAny_rule ?_)
      exact wpAny_pure ⟨_, rfl, hq⟩
    · exact wpAny_isSame_ref_other hne ho ho2 (by simp) hq
  exact hq
/-! == and != with what is empty -/
def eqEs (K : PySem.W.Frag) (H : Hp) (a b : Addr) (xs : List V) : Prop := (SqT K H a xs ∧ SqT K H b []) ∨ (SqL K H a xs ∧ SqL K H b [])
theorem eqD_cases {a b : D} {r : Bool} (h : eqD a b = some r) : eqD0 a b = some r ∨ eqE a b = some r := by
  unfold eqD at h
  cases e : eqD0 a b with
  | none => rw [e] at h; exact .inr h
  | some z => rw [e] at h; exact .inl h
theorem eqE_rep {K : FW} {H : Hp} {μ : List Addr} {d1 d2 : D} {b : Bool} {x y : V} {t1 F1 t2 F2 : List Addr} (h : eqE d1 d2 = some b) (r1 : Rep K H μ d1 x t1 F1) (r2 : Rep K H μ d2 y t2 F2) :
    ∃ a c xs, x = .ref a ∧ y = .ref c ∧ eqEs K H a c xs ∧ b = xs.isEmpty := by
  unfold eqE at h
  split at h
  · cases h
    cases r1
    rename_i n vs e rs
    cases r2
    rename_i n2 vs2 e2 rs2
    cases rs2
    refine ⟨_, _, vs, rfl, rfl, .inl ⟨e, e2⟩, ?_⟩
    cases rs <;> rfl
  · cases h
    cases r1
    rename_i n vs e rs
    cases r2
    rename_i n2 vs2 e2 rs2
    cases rs2
    refine ⟨_, _, vs, rfl, rfl, .inr ⟨.of e, .of e2⟩, ?_⟩
    cases rs <;> rfl
  · cases h
theorem none_at {A : Around} {s : Shared} {its : Array Value} {e : Nat → Bool} : ∀ j (h1 : j < its.size) (h2 : j < (#[] : Array Value).size), SeqAt.EqAt A s its[j] (#[] : Array Value)[j] (e j) := fun j _ h2 => absurd h2 (by simp)
theorem vals_empty {xs : List V} {its : List Value} (r : Vals xs its) : (its.toArray.size == (#[] : Array Value).size) = xs.isEmpty := by
  cases r <;> simp
theorem op_eqE (hu : X.A.units + 64 < cLine) : OpR X (compareOp .Eq) (fun x y H Q => ∃ a b xs, x = .ref a ∧ y = .ref b ∧ eqEs X.K H a b xs ∧ Q (.bl xs.isEmpty) H) := by
  intro pins s σ H x y v u Q I rx ry h
  obtain ⟨a, b, xs, rfl, rfl, e, q⟩ := h
  cases rx
  cases ry
  rcases e with ⟨e1, e2⟩ | ⟨e1, e2⟩
  · obtain ⟨its, rv, pt, _⟩ := I.tuple e1
    obtain ⟨its2, rv2, pt2, _⟩ := I.tuple e2
    cases rv2
    refine SeqAt.eq_tupleAt (e := fun _ => true) pt pt2 (by omega) none_at ⟨.bl xs.isEmpty, H, I, ?_, q⟩
    rw [← vals_empty rv]
    show Value.bool _ = Value.bool _
    simp
  · obtain ⟨its, rv, pt, _⟩ := I.list e1
    obtain ⟨its2, rv2, pt2, _⟩ := I.list e2
    cases rv2
    cases xs with
    | nil =>
      cases rv
      exact SeqAt.eq_listAt (e := fun _ => true) pt.isList pt2.isList rfl (by omega) none_at ⟨.bl true, H, I, rfl, q⟩
    | cons x xs =>
      cases rv
      exact SeqAt.eq_list_lengthsAt pt.isList pt2.isList rfl (by omega) ⟨.bl false, H, I, rfl, q⟩
theorem op_neE (hu : X.A.units + 64 < cLine) : OpR X (compareOp .NotEq) (fun x y H Q => ∃ a b xs, x = .ref a ∧ y = .ref b ∧ eqEs X.K H a b xs ∧ Q (.bl (!xs.isEmpty)) H) := by
  intro pins s σ H x y v u Q I rx ry h
  obtain ⟨a, b, xs, rfl, rfl, e, q⟩ := h
  cases rx
  cases ry
  rcases e with ⟨e1, e2⟩ | ⟨e1, e2⟩
  · obtain ⟨its, rv, pt, _⟩ := I.tuple e1
    obtain ⟨its2, rv2, pt2, _⟩ := I.tuple e2
    cases rv2
    refine SeqAt.RcNeAt.tuples (e := fun _ => true) pt pt2 (by omega) none_at _ _ _ _ ⟨.bl (!xs.isEmpty), H, I, ?_, q⟩
    rw [← vals_empty rv]
    show Value.bool _ = Value.bool _
    simp
  · obtain ⟨its, rv, pt, _⟩ := I.list e1
    obtain ⟨its2, rv2, pt2, _⟩ := I.list e2
    cases rv2
    cases xs with
    | nil =>
      cases rv
      exact SeqAt.RcNeAt.lists (e := fun _ => true) pt.isList pt2.isList rfl (by omega) none_at _ _ _ _ ⟨.bl false, H, I, rfl, q⟩
    | cons x xs =>
      cases rv
      exact SeqAt.RcNeAt.lists_lengths pt.isList pt2.isList rfl (by omega) _ _ _ _ ⟨.bl true, H, I, rfl, q⟩
theorem op_eq_v (hu : X.A.units + 64 < cLine) : OpR X (compareOp .Eq) (R2c X.KW .Eq) := by
  intro pins s σ H x y v u Q I rx ry h
  obtain ⟨μ, d1, d2, b, t1, F1, t2, F2, r1, r2, hg, q⟩ := h
  have hg2 : eqD d1 d2 = some b ∨ (∃ ks ws xs, d1 = .dK ks ws ∧ d2 = .tup xs ∧ b = false) := by
    cases d1 with
    | dK ks ws => cases d2 with
      | tup xs => cases hg; exact .inr ⟨ks, ws, xs, rfl, rfl, rfl⟩
      | _ => exact .inl hg
    | _ => exact .inl hg
  rcases hg2 with hg | ⟨ks, ws, xs, rfl, rfl, rfl⟩
  rotate_left
  · cases r1
    rename_i e _ _ _ _
    cases r2
    rename_i e2 _
    exact op_eqDT hu pins s σ H _ _ v u Q I rx ry ⟨_, _, _, _, rfl, rfl, e, e2, q⟩
  rcases eqD_cases hg with hg | hg
  rotate_left
  · obtain ⟨a, c, xs, e1, e2, h3, rfl⟩ := eqE_rep hg r1 r2
    exact op_eqE hu pins s σ H _ _ v u Q I rx ry ⟨a, c, xs, e1, e2, h3, q⟩
  obtain ⟨a, c, e1, e2, s1, s2, rfl⟩ := eqD0_some hg
  exact op_eqD hu pins s σ H _ _ v u Q I rx ry ⟨_, _, r1.dp e1, r2.dp e2, s1, s2, q⟩
theorem op_ne_v (hu : X.A.units + 64 < cLine) : OpR X (compareOp .NotEq) (R2c X.KW .NotEq) := by
  intro pins s σ H x y v u Q I rx ry h
  obtain ⟨μ, d1, d2, b, t1, F1, t2, F2, r1, r2, hg, q⟩ := h
  obtain ⟨z, h1, rfl⟩ := Option.map_eq_some_iff.mp (show (eqD d1 d2).map (!·) = some b from hg)
  rcases eqD_cases h1 with hg | hg
  rotate_left
  · obtain ⟨a, c, xs, e1, e2, h3, rfl⟩ := eqE_rep hg r1 r2
    exact op_neE hu pins s σ H _ _ v u Q I rx ry ⟨a, c, xs, e1, e2, h3, q⟩
  obtain ⟨a, c, e1, e2, s1, s2, rfl⟩ := eqD0_some hg
  exact op_neD hu pins s σ H _ _ v u Q I rx ry ⟨_, _, r1.dp e1, r2.dp e2, s1, s2, q⟩
theorem op_lt_v : OpR X (compareOp .Lt) (R2c X.KW .Lt) := by
  intro pins s σ H x y v u Q I rx ry h
  obtain ⟨μ, d1, d2, d, t1, F1, t2, F2, r1, r2, hg, q⟩ := h
  cases r1 <;> cases r2 <;> simp only [cmpD] at hg <;> first | (cases hg; done) | skip
  cases hg
  exact op_lt pins s σ H _ _ v u Q I rx ry ⟨_, _, rfl, rfl, q⟩
theorem op_le_v : OpR X (compareOp .LtE) (R2c X.KW .LtE) := by
  intro pins s σ H x y v u Q I rx ry h
  obtain ⟨μ, d1, d2, d, t1, F1, t2, F2, r1, r2, hg, q⟩ := h
  cases r1 <;> cases r2 <;> simp only [cmpD] at hg <;> first | (cases hg; done) | skip
  cases hg
  exact op_le pins s σ H _ _ v u Q I rx ry ⟨_, _, rfl, rfl, q⟩
theorem op_gt_v : OpR X (compareOp .Gt) (R2c X.KW .Gt) := by
  intro pins s σ H x y v u Q I rx ry h
  obtain ⟨μ, d1, d2, d, t1, F1, t2, F2, r1, r2, hg, q⟩ := h
  cases r1 <;> cases r2 <;> simp only [cmpD] at hg <;> first | (cases hg; done) | skip
  cases hg
  exact op_gt pins s σ H _ _ v u Q I rx ry ⟨_, _, rfl, rfl, q⟩
theorem op_ge_v : OpR X (compareOp .GtE) (R2c X.KW .GtE) := by
  intro pins s σ H x y v u Q I rx ry h
  obtain ⟨μ, d1, d2, d, t1, F1, t2, F2, r1, r2, hg, q⟩ := h
  cases r1 <;> cases r2 <;> simp only [cmpD] at hg <;> first | (cases hg; done) | skip
  cases hg
  exact op_ge pins s σ H _ _ v u Q I rx ry ⟨_, _, rfl, rfl, q⟩
theorem op_in_v (hu : X.A.units + 64 < cLine) : OpR X (compareOp .In) (R2c X.KW .In) := by
  intro pins s σ H x y v u Q I rx ry h
  obtain ⟨μ, d1, d2, b, t1, F1, t2, F2, r1, r2, hg, q⟩ := h
  cases r2 <;> simp only [cmpD] at hg <;> first | (cases hg; done) | skip
  case dT a od xs ks vs ds F e hs hl hk nk hv r2 hF =>
    obtain ⟨k, hk1, rfl⟩ := Option.map_eq_some_iff.mp hg
    obtain ⟨b, rfl, n1, n2, n3⟩ := r1.keyT hk1
    obtain rfl : u = Value.ref a := ry
    obtain rfl : v = Value.ref b := rx
    refine wpAny_in_heap (knd := nestedKind X.prog X.w) (k := k) (nk_room hu) ⟨n1.is I rfl, n3⟩ hs (dto_of I e nk) ⟨.bl (atKey xs k).isSome, H, I.tok _, rfl, ?_⟩
    rcases Reps.valT k hk hv r2 with ⟨d', v', t', G', b', u', a1, a2, a3, a4, a5⟩ | ⟨a1, a2⟩
    · rw [a1] at q; rw [a2]; exact q
    · rw [a1] at q; rw [a2]; exact q
  case dK a kvs ks vs ds F e hk hv r2 hF =>
    obtain ⟨k, hk1, rfl⟩ := Option.map_eq_some_iff.mp hg
    obtain rfl := r1.key hk1
    obtain rfl : u = Value.ref a := ry
    refine d_in (by omega) I (.k e) rx fun s' I' => ⟨.bl (valV kvs k).isSome, H, I', rfl, ?_⟩
    rcases Reps.valP k hk hv r2 with ⟨d', v', t', G', a1, a2, a3, a4⟩ | ⟨a1, a2⟩
    · rw [a1] at q; rw [a2]; exact q
    · rw [a1] at q; rw [a2]; exact q
  case tup a vs ds e r =>
    obtain ⟨⟨h1, h2⟩, rfl⟩ := guardO_some hg
    obtain ⟨rfl, f1⟩ := r1.flat h1
    obtain ⟨rfl, f2⟩ := r.flats h2
    rw [← inV_to h1 h2] at q
    exact op_in_seq pins s σ H _ _ v u Q I rx ry ⟨_, _, rfl, .inr e, f1, f2, q⟩
  case lst a vs ds e r =>
    obtain ⟨⟨h1, h2⟩, rfl⟩ := guardO_some hg
    obtain ⟨rfl, f1⟩ := r1.flat h1
    obtain ⟨rfl, f2⟩ := r.flats h2
    rw [← inV_to h1 h2] at q
    exact op_in_seq pins s σ H _ _ v u Q I rx ry ⟨_, _, rfl, .inl (.of e), f1, f2, q⟩
theorem op_notin_v (hu : X.A.units + 64 < cLine) : OpR X (compareOp .NotIn) (R2c X.KW .NotIn) := by
  intro pins s σ H x y v u Q I rx ry h
  obtain ⟨μ, d1, d2, b, t1, F1, t2, F2, r1, r2, hg, q⟩ := h
  cases r2 <;> simp only [cmpD] at hg <;> first | (cases hg; done) | skip
  case dT a od xs ks vs ds F e hs hl hk nk hv r2 hF =>
    obtain ⟨k, hk1, rfl⟩ := Option.map_eq_some_iff.mp hg
    obtain ⟨b, rfl, n1, n2, n3⟩ := r1.keyT hk1
    obtain rfl : u = Value.ref a := ry
    obtain rfl : v = Value.ref b := rx
    refine wpAny_notIn_heap (knd := nestedKind X.prog X.w) (k := k) (nk_room hu) ⟨n1.is I rfl, n3⟩ hs (dto_of I e nk) ⟨.bl (!(atKey xs k).isSome), H, I.tok _, rfl, ?_⟩
    rcases Reps.valT k hk hv r2 with ⟨d', v', t', G', b', u', a1, a2, a3, a4, a5⟩ | ⟨a1, a2⟩
    · rw [a1] at q; rw [a2]; exact q
    · rw [a1] at q; rw [a2]; exact q
  case dK a kvs ks vs ds F e hk hv r2 hF =>
    obtain ⟨k, hk1, rfl⟩ := Option.map_eq_some_iff.mp hg
    obtain rfl := r1.key hk1
    obtain rfl : u = Value.ref a := ry
    refine d_notIn (by omega) I (.k e) rx fun s' I' => ⟨.bl (!(valV kvs k).isSome), H, I', rfl, ?_⟩
    rcases Reps.valP k hk hv r2 with ⟨d', v', t', G', a1, a2, a3, a4⟩ | ⟨a1, a2⟩
    · rw [a1] at q; rw [a2]; exact q
    · rw [a1] at q; rw [a2]; exact q
  case tup a vs ds e r =>
    obtain ⟨⟨h1, h2⟩, rfl⟩ := guardO_some hg
    obtain ⟨rfl, f1⟩ := r1.flat h1
    obtain ⟨rfl, f2⟩ := r.flats h2
    rw [← inV_to h1 h2] at q
    exact op_notIn_seq pins s σ H _ _ v u Q I rx ry ⟨_, _, rfl, .inr e, f1, f2, q⟩
  case lst a vs ds e r =>
    obtain ⟨⟨h1, h2⟩, rfl⟩ := guardO_some hg
    obtain ⟨rfl, f1⟩ := r1.flat h1
    obtain ⟨rfl, f2⟩ := r.flats h2
    rw [← inV_to h1 h2] at q
    exact op_notIn_seq pins s σ H _ _ v u Q I rx ry ⟨_, _, rfl, .inl (.of e), f1, f2, q⟩
theorem op_is_v : OpR X (compareOp .Is) (R2c X.KW .Is) := by
  intro pins s σ H x y v u Q I rx ry h
  obtain ⟨μ, d1, d2, b, t1, F1, t2, F2, r1, r2, hg, q⟩ := h
  have e := r1.non_iff
  cases r2 with
  | non => cases d1 <;> simp only [cmpD] at hg <;> cases hg <;> exact op_isN pins s σ H _ _ v u Q I rx ry ⟨rfl, by rw [e]; exact q⟩
  | bl c =>
    cases r1 <;> simp only [cmpD] at hg <;> first | (cases hg; done) | skip
    cases hg
    exact op_isBl pins s σ H _ _ v u Q I rx ry ⟨_, _, rfl, rfl, q⟩
  | _ => cases d1 <;> simp only [cmpD] at hg <;> cases hg
theorem op_isnot_v : OpR X (compareOp .IsNot) (R2c X.KW .IsNot) := by
  intro pins s σ H x y v u Q I rx ry h
  obtain ⟨μ, d1, d2, b, t1, F1, t2, F2, r1, r2, hg, q⟩ := h
  have e := r1.non_iff
  cases r2 with
  | non => cases d1 <;> simp only [cmpD] at hg <;> cases hg <;> exact op_notN pins s σ H _ _ v u Q I rx ry ⟨rfl, by rw [e]; exact q⟩
  | bl c =>
    cases r1 <;> simp only [cmpD] at hg <;> first | (cases hg; done) | skip
    cases hg
    exact op_notBl pins s σ H _ _ v u Q I rx ry ⟨_, _, rfl, rfl, q⟩
  | _ => cases d1 <;> simp only [cmpD] at hg <;> cases hg
theorem op_cmp_v (hu : X.A.units + 64 < cLine) (op : CmpOp) : OpR X (compareOp op) (R2c X.KW op) := by
  cases op with
  | Eq => exact op_eq_v hu
  | NotEq => exact op_ne_v hu
  | Lt => exact op_lt_v
  | LtE => exact op_le_v
  | Gt => exact op_gt_v
  | GtE => exact op_ge_v
  | In => exact op_in_v hu
  | NotIn => exact op_notin_v hu
  | Is => exact op_is_v
  | IsNot => exact op_isnot_v

/-! ### truth -/
theorem Rep.tru {K : FW} {H : Hp} {μ : List Addr} {d : D} {v : V} {t F : List Addr} {st : Sto} {b : Bool} (r : Rep K H μ d v t F) (h : truD st d = some b) : TruV K v H b := by
  cases r <;> simp only [truD] at h <;> first | (cases h; done) | skip
  · cases h; rfl
  · cases h; rfl
  · cases h; rfl
  · obtain ⟨h1, rfl⟩ := guardO_some h
    refine ⟨h1, ?_⟩
    rename_i x
    cases e : x.length with
    | zero => rfl
    | succ n =>
      have e2 : ((n + 1 : Nat) : Int) ≠ 0 := by omega
      rw [bne_iff_ne.mpr e2, bne_iff_ne.mpr (Nat.succ_ne_zero n)]
  · cases h
    rename_i a vs ds e r
    exact .inr (.inl ⟨_, e, by cases r <;> rfl⟩)
  · cases h
    rename_i a vs ds e r
    exact .inl ⟨_, .of e, by cases r <;> rfl⟩

/-! ### x[i] -/
/-- what the boxes hold -/
def Bx (K : FW) (H : Hp) (μ : List Addr) (st : Sto) (B : Addr → Prop) : Prop := ∀ (k : Nat) (xs : List D), st[k]? = some xs → ∃ a vs F, μ[k]? = some a ∧ H a = some (.lst vs) ∧ Reps K H μ xs vs F ∧ ∀ b ∈ F, B b
theorem atI_rep {K : FW} {H : Hp} {μ : List Addr} {ds : List D} {vs : List V} {F : List Addr} {i : Int} {d : D} (r : Reps K H μ ds vs F) (h : ixD ds i = some d) : ∃ v t G, atI vs i = some v ∧ Rep K H μ d v t G ∧ ∀ a ∈ t ++ G, a ∈ F := by
  unfold ixD atI at h
  obtain ⟨j, h1, h2⟩ := Option.bind_eq_some_iff.mp h
  obtain ⟨v, t, G, e, q, k⟩ := r.get h2
  refine ⟨v, t, G, ?_, q, k⟩
  unfold atI
  rw [← r.length, h1]
  exact e
def R2i (K : FW) : R2 := fun x y H Q => ∃ μ d1 d2 d t1 F1 t2 F2 st B, Rep K H μ d1 x t1 F1 ∧ Rep K H μ d2 y t2 F2 ∧ Bx K H μ st B ∧ idxD st d1 d2 = some d ∧
  ∀ v t F, Rep K H μ d v t F → (∀ a ∈ t ++ F, a ∈ F1 ∨ B a) → Q v H
theorem ix_dict (hu : X.A.units + 64 < cLine) : IxR X (fun x y H Q => ∃ a v, x = .ref a ∧ DGet H a y (some v) ∧ Q v H) := by
  intro value slice pins s σ H x y v u Q I rx ry h hs
  obtain ⟨a, w, rfl, g, q⟩ := h
  obtain rfl : v = Value.ref a := rx
  exact tail_any (dict_typeIs I g) PySem.F.slot_dict_getitem.lookup (d_getItem (by omega) I g ry fun w' s' I' rw' => ⟨w, H, I', rw', q⟩) hs
theorem ix_v (hu : X.A.units + 64 < cLine) : IxR X (R2i X.KW) := by
  intro value slice pins s σ H x y v u Q I rx ry h hps
  obtain ⟨μ, d1, d2, d, t1, F1, t2, F2, st, B, r1, r2, bx, hg, q⟩ := h
  have dict : ∀ {a : Addr} {kvs : List (Key × V)} {ks : List Key} {vs : List V} {ds : List D} {F : List Addr} {k : Key}, x = .ref a → y = kV k → H a = some (.dK kvs) → kvs.map (·.1) = ks → kvs.map (·.2) = vs → Reps X.KW H μ ds vs F → F = [] → WT.valP ks ds k = some d →
      wpAny (model X.prog X.w) X.A (subscriptTail value slice v u) (EP X pins σ Q) X.xe s := by
    intro a kvs ks vs ds F k ex ey e h1 h2 r hF hv
    subst ex ey
    rcases Reps.valP k h1 h2 r with ⟨d', v', t', G', a1, a2, a3, a4⟩ | ⟨a1, a2⟩
    · rw [hv] at a1
      cases a1
      refine ix_dict hu value slice pins s σ H _ _ v u Q I rx ry ⟨a, v', rfl, ?_, q _ _ _ a3 fun b hb => ?_⟩ hps
      · rw [← a2]; exact .k e
      · have := a4 b hb; rw [hF] at this; simp at this
    · rw [hv] at a1; cases a1
  have dictT : ∀ {a : Addr} {o : Obj} {xs : List (NestedKey × Addr × Value)} {ks : List NestedKey} {vs : List V} {ds : List D} {F : List Addr} {k : NestedKey}, x = .ref a → keyTO d2 = some k → H a = some (DTo X.w a o xs) → xs.map (·.1) = ks → NKx X.KW H xs → Vals vs (xs.map (·.2.2)) → Reps X.KW H μ ds vs F → F = [] → WT.valP ks ds k = some d →
      wpAny (model X.prog X.w) X.A (subscriptTail value slice v u) (EP X pins σ Q) X.xe s := by
    intro a o xs ks vs ds F k ex ek e h1 nk h2 r hF hv
    subst ex
    obtain ⟨b, rfl, n1, n2, n3⟩ := r2.keyT ek
    obtain rfl : v = Value.ref a := rx
    obtain rfl : u = Value.ref b := ry
    rcases Reps.valT k h1 h2 r with ⟨d', v', t', G', b', u', a1, a2, a3, a4, a5⟩ | ⟨a1, a2⟩
    · rw [hv] at a1
      cases a1
      have dd := dto_of I e nk
      refine tail_any dd.typeIs PySem.F.slot_dict_getitem.lookup (wpAny_getItem_heap (knd := nestedKind X.prog X.w) (k := k) (nk_room hu) ⟨n1.is I rfl, n3⟩ dd a2 ⟨v', H, I.tok _, a3, q _ _ _ a4 fun c hc => ?_⟩) hps
      have := a5 c hc
      rw [hF] at this; simp at this
    · rw [hv] at a1; cases a1
  cases r1
  case dT a o xs ks vs ds F e hs hl hk nk hv r hF =>
    obtain ⟨k, hk1, hk2⟩ := Option.bind_eq_some_iff.mp (show (keyTO d2).bind (fun k => WT.valP ks ds k) = some d from by cases d2 <;> exact hg)
    exact dictT rfl hk1 e hk nk hv r hF hk2
  all_goals (cases r2 <;> simp only [idxD] at hg <;> first | (cases hg; done) | skip)
  case str.int z i =>
    split at hg
    · rename_i hz
      obtain ⟨c, h1, rfl⟩ := Option.map_eq_some_iff.mp hg
      exact ix_str value slice pins s σ H _ _ v u Q I rx ry ⟨_, _, _, rfl, rfl, hz, h1, q _ _ _ (.str _) fun _ h => by simp at h⟩ hps
    · cases hg
  case tup.int a vs ds e r i =>
    obtain ⟨w', t, G, e1, r3, k⟩ := atI_rep r hg
    exact ix_tup value slice pins s σ H _ _ v u Q I rx ry ⟨_, _, _, _, rfl, rfl, e, e1, q _ _ _ r3 fun a ha => .inl (k a ha)⟩ hps
  case lst.int a vs ds e r i =>
    obtain ⟨w', t, G, e1, r3, k⟩ := atI_rep r hg
    exact ix_list value slice pins s σ H _ _ v u Q I rx ry ⟨_, _, _, _, rfl, rfl, .of e, e1, q _ _ _ r3 fun a ha => .inl (k a ha)⟩ hps
  case frz.int a ns e i =>
    unfold ixD atI at hg
    obtain ⟨j, h1, h2⟩ := Option.bind_eq_some_iff.mp hg
    rw [List.getElem?_map] at h2
    obtain ⟨n, h3, rfl⟩ := Option.map_eq_some_iff.mp h2
    rw [List.length_map] at h1
    refine ix_list value slice pins s σ H _ _ v u Q I rx ry ⟨_, _, _, .int n, rfl, rfl, e.sq, ?_, q _ _ _ (.int n) fun _ h => by simp at h⟩ hps
    unfold atI
    rw [List.length_map, h1, Option.bind_some, List.getElem?_map, h3] <;> rfl
  case dK.int a kvs ks vs ds F e h1 h2 r hF i => exact dict rfl rfl e h1 h2 r hF (k := .inl i) hg
  case dK.str a kvs ks vs ds F e h1 h2 r hF i => exact dict rfl rfl e h1 h2 r hF (k := .inr i) hg
  case ref.int a k e i =>
    obtain ⟨xs, h1, h2⟩ := Option.bind_eq_some_iff.mp hg
    obtain ⟨a', vs, F, e1, e2, r, hB⟩ := bx _ _ h1
    rw [e] at e1
    cases e1
    obtain ⟨w', t, G, e3, r3, k⟩ := atI_rep r h2
    exact ix_list value slice pins s σ H _ _ v u Q I rx ry ⟨_, _, _, _, rfl, rfl, .of e2, e3, q _ _ _ r3 fun a ha => .inr (hB a (k a ha))⟩ hps

/-! ### x[lo:hi] -/
theorem cut_rep {K : FW} {H : Hp} {μ : List Addr} {ds : List D} {vs : List V} {F : List Addr} (r : Reps K H μ ds vs F) (lo hi : Option Int) : ∃ L, Reps K H μ (cutL ds lo hi) (cutV vs lo hi) L ∧ ∀ a ∈ L, a ∈ F := by
  unfold cutL cutV
  rw [← r.length]
  obtain ⟨L, h1, h2⟩ := r.drop (HT.sIx ds.length 0 lo)
  obtain ⟨M, h3, h4⟩ := h1.take (HT.sIx ds.length ds.length hi - HT.sIx ds.length 0 lo)
  exact ⟨M, h3, fun a ha => h2 a (h4 a ha)⟩
def R2s (K : FW) : V → Option Int → Option Int → Hp → VK → Prop := fun x lo hi H Q => ∃ μ d1 d t1 F1, Rep K H μ d1 x t1 F1 ∧ sliceD d1 lo hi = some d ∧ Out K H μ d (fun a => a ∈ F1) Q
theorem sl_v : SlR X (R2s X.KW) := by
  intro pins s σ H x v vl vu lo hi sl Q I rx hs pl pu h
  obtain ⟨μ, d1, d, t1, F1, r1, hg, q⟩ := h
  cases r1 <;> simp only [sliceD] at hg <;> first | (cases hg; done) | skip
  case tup a vs ds e r =>
    cases hg
    obtain ⟨L, h1, h2⟩ := cut_rep r lo hi
    refine sl_tupA pins s σ H _ v vl vu lo hi sl Q I rx hs pl pu ⟨_, _, rfl, e, fun z => ?_, fun z p hp => q.tup h1 h2 hp⟩
    have e2 : cutL ds lo hi = ds := by
      unfold cutL
      rw [r.length, z.1, z.2, List.drop_zero, Nat.sub_zero, ← r.length, List.take_length]
    rw [e2] at q
    exact q.tupSame e r fun _ h => h
  case lst a vs ds e r =>
    cases hg
    obtain ⟨L, h1, h2⟩ := cut_rep r lo hi
    exact sl_list pins s σ H _ v vl vu lo hi sl Q I rx hs pl pu ⟨_, _, rfl, .of e, fun p hp => q.lst h1 h2 hp⟩

/-! ### isinstance -/
def Ty.nm : Ty → String
  | .int => "int" | .bool => "bool" | .str => "str" | .tuple => "tuple" | .list => "list" | .dict => "dict"
def tyS : D → Option String
  | .non => some "NoneType"
  | .bl _ => some "bool"
  | .int _ => some "int"
  | .str _ => some "str"
  | .tup _ => some "tuple"
  | .lst _ => some "list"
  | .dK _ _ => some "dict"
  | _ => none
theorem kit_all : ∀ (d : D) (own : List Ty) (a : String), tyD d = some own → tyS d = some a → ∀ t : Ty, kitB a t.nm = some (own.contains t) := by
  intro d own a h1 h2 t
  cases d <;> cases h1 <;> cases h2 <;> cases t <;> decide +kernel
theorem Rep.ty {K : FW} {H : Hp} {μ : List Addr} {d : D} {v : V} {t F : List Addr} {a : String} (r : Rep K H μ d v t F) (h : tyS d = some a) : TyX K H v (.type a) := by
  cases r <;> cases h
  · exact .base .non
  · exact .base (.bl _)
  · exact .base (.int _)
  · exact .base (.str _)
  · rename_i a vs ds e r
    rcases e with (e | ⟨o, e⟩) | ⟨o, its, n, e1, e2, _⟩
    · exact .base (.tup e)
    · exact .fTuple e
    · exact .kTuple e1 e2
  · rename_i a vs ds e r
    exact .base (.lst e)
  · rename_i e _ _ _ _
    exact .base (.dK e)
theorem kitAny_v {K : FW} {d : D} {own : List Ty} {a : String} (h1 : tyD d = some own) (h2 : tyS d = some a) : ∀ ts : List Ty, PySem.W.kitAny K (.type a) (ts.map fun t => Value.type t.nm) = some (ts.any fun t => own.contains t)
  | [] => rfl
  | t :: ts => by
    refine kitAny_cons (b := own.contains t) (kit_ty (kit_all d own a h1 h2 t)) (fun hb => ?_) fun hb => ?_
    · rw [List.any_cons, hb, Bool.false_or]
      exact kitAny_v h1 h2 ts
    · rw [List.any_cons, hb, Bool.true_or]
theorem tyD_tyS {d : D} {own : List Ty} (h : tyD d = some own) : ∃ a, tyS d = some a := by
  cases d <;> first | (cases h; done) | exact ⟨_, rfl⟩

/-! ### built-in functions -/
def RBi (K : FW) (f : Bi) : List V → Hp → VK → Prop := fun xs H Q => ∃ μ ds F st B d, Reps K H μ ds xs F ∧ Bx K H μ st B ∧ biD st f ds = some d ∧ Out K H μ d (fun a => a ∈ F) Q
theorem Reps.one {K : FW} {H : Hp} {μ : List Addr} {d : D} {vs : List V} {F : List Addr} (r : Reps K H μ [d] vs F) : ∃ v t G, vs = [v] ∧ Rep K H μ d v t G ∧ F = t ++ G := by
  cases r with
  | cons r s =>
    cases s
    exact ⟨_, _, _, rfl, r, by simp⟩
theorem Reps.two {K : FW} {H : Hp} {μ : List Addr} {d e : D} {vs : List V} {F : List Addr} (r : Reps K H μ [d, e] vs F) : ∃ v t G w u L, vs = [v, w] ∧ Rep K H μ d v t G ∧ Rep K H μ e w u L := by
  cases r with
  | cons r s =>
    cases s with
    | cons r2 s2 =>
      cases s2
      exact ⟨_, _, _, _, _, _, rfl, r, r2⟩
theorem Reps.ints {K : FW} {H : Hp} {μ : List Addr} : ∀ {ds : List D} {vs : List V} {F : List Addr} {ns : List Int}, Reps K H μ ds vs F → intsD ds = some ns → vs = ns.map V.int
  | _, _, _, _, .nil, h => by cases h; rfl
  | _, _, _, _, .cons (d := d) r s, h => by
    cases r <;> simp only [intsD] at h <;> first | (cases h; done) | skip
    obtain ⟨ms, h1, rfl⟩ := Option.map_eq_some_iff.mp h
    rw [s.ints h1] <;> rfl
theorem Reps.bls {K : FW} {H : Hp} {μ : List Addr} : ∀ {ds : List D} {vs : List V} {F : List Addr} {ns : List Bool}, Reps K H μ ds vs F → blsD ds = some ns → vs = ns.map V.bl
  | _, _, _, _, .nil, h => by cases h; rfl
  | _, _, _, _, .cons (d := d) r s, h => by
    cases r <;> simp only [blsD] at h <;> first | (cases h; done) | skip
    obtain ⟨ms, h1, rfl⟩ := Option.map_eq_some_iff.mp h
    rw [s.bls h1] <;> rfl
theorem max_foldl : ∀ (xs : List Int) (x m : Int), m ∈ x :: xs → (∀ y ∈ x :: xs, y ≤ m) → xs.foldl (fun m y => if m < y then y else m) x = m
  | [], x, m, h, _ => (List.mem_singleton.mp h).symm
  | y :: ys, x, m, h, b => by
    rw [List.foldl_cons]
    refine max_foldl ys _ m ?_ fun z hz => ?_
    · have b1 := b x (by simp)
      have b2 := b y (by simp)
      rcases List.mem_cons.mp h with h | h
      · rw [if_neg (by omega)]; simp [h]
      · rcases List.mem_cons.mp h with h | h
        · split
          · simp [h]
          · have : x = m := by omega
            simp [this]
        · simp [h]
    · rcases List.mem_cons.mp hz with e | hz
      · rw [e]; split
        · exact b y (by simp)
        · exact b x (by simp)
      · exact b z (by simp [hz])
theorem min_foldl : ∀ (xs : List Int) (x m : Int), m ∈ x :: xs → (∀ y ∈ x :: xs, m ≤ y) → xs.foldl (fun m y => if y < m then y else m) x = m
  | [], x, m, h, _ => (List.mem_singleton.mp h).symm
  | y :: ys, x, m, h, b => by
    rw [List.foldl_cons]
    refine min_foldl ys _ m ?_ fun z hz => ?_
    · have b1 := b x (by simp)
      have b2 := b y (by simp)
      rcases List.mem_cons.mp h with h | h
      · rw [if_neg (by omega)]; simp [h]
      · rcases List.mem_cons.mp h with h | h
        · split
          · simp [h]
          · have : x = m := by omega
            simp [this]
        · simp [h]
    · rcases List.mem_cons.mp hz with e | hz
      · rw [e]; split
        · exact b y (by simp)
        · exact b x (by simp)
      · exact b z (by simp [hz])
theorem insI_perm (x : Int) : ∀ xs : List Int, (insI x xs).Perm (x :: xs)
  | [] => .refl _
  | y :: r => by
    unfold insI
    split
    · exact .refl _
    · exact ((insI_perm x r).cons y).trans (.swap x y r)
theorem insI_sorted (x : Int) : ∀ xs : List Int, xs.Pairwise (· ≤ ·) → (insI x xs).Pairwise (· ≤ ·)
  | [], _ => by simp [insI]
  | y :: r, h => by
    unfold insI
    have h1 := List.pairwise_cons.mp h
    split
    · rename_i hxy
      refine List.pairwise_cons.mpr ⟨fun z hz => ?_, h⟩
      rcases List.mem_cons.mp hz with e | hz
      · rw [e]; exact hxy
      · exact Int.le_trans hxy (h1.1 z hz)
    · rename_i hxy
      refine List.pairwise_cons.mpr ⟨fun z hz => ?_, insI_sorted x r h1.2⟩
      rcases List.mem_cons.mp ((insI_perm x r).mem_iff.mp hz) with e | hz
      · omega
      · exact h1.1 z hz
theorem sortI_perm : ∀ xs : List Int, (sortI xs).Perm xs
  | [] => .refl _
  | x :: xs => (insI_perm x _).trans ((sortI_perm xs).cons x)
theorem sortI_sorted : ∀ xs : List Int, (sortI xs).Pairwise (· ≤ ·)
  | [] => .nil
  | x :: xs => insI_sorted x _ (sortI_sorted xs)
theorem sorted_one {xs ys : List Int} (p : xs.Perm ys) (h1 : xs.Pairwise (· ≤ ·)) (h2 : ys.Pairwise (· ≤ ·)) : xs = ys :=
  p.eq_of_pairwise (fun a b _ _ h3 h4 => Int.le_antisymm h3 h4) h1 h2
theorem preSum_list (ns : List Int) : ∀ n, n ≤ ns.length → preSum (fun i => ns.getD i 0) n = (ns.take n).sum
  | 0, _ => by simp [preSum]
  | n + 1, h => by
    rw [preSum, preSum_list ns n (by omega), List.take_succ, List.sum_append, List.getD_eq_getElem?_getD]
    rw [List.getElem?_eq_getElem (by omega)]
    simp
theorem cr_sumT (hc : X.calm = true) : CallR X (.builtin "sum") (fun vs H Q => ∃ (a : Addr) (ns : List Int), vs = [V.ref a] ∧ SqT X.KW H a (ns.map V.int) ∧ Q (.int ns.sum) H) := by
  intro pins s σ H vs us Q I r h
  obtain ⟨a, ns, rfl, hs, q⟩ := h
  obtain ⟨its, rv, hl, _⟩ := I.tuple hs
  rw [Vals.ref1 r]
  refine call_sum_walkG (wpAny_pyIter_tuple (show s.heap.IsTuple a its.toArray from hl) ?_)
  have hlt : a < s.heap.objs.size := hl.lt
  refine ⟨_, _, _, _, _, _, (fun i => ns.getD i 0), rfl, Walks.tuple (A := X.A.in1) (I.ok.hd hc) s.heap.objs.size a (Nat.ne_of_lt hlt) its.toArray, ?_, ?_, ?_, ?_⟩
  · exact ⟨⟨_, Heap.get?_push_size _ rfl, rfl, rfl⟩, hl.push _⟩
  · intro b hb
    rw [Heap.size_push]
    rcases List.mem_cons.mp hb with e | hb
    · rw [e]; exact Nat.lt_succ_self _
    · rw [List.mem_singleton.mp hb]; exact Nat.lt_succ_of_lt hlt
  · intro i v hv
    have hv' : its[i]? = some v := by simpa using hv
    have hi := (Vals.ints rv)
    have hlen : its.length = ns.length := by rw [← rv.length, List.length_map]
    have hin : i < ns.length := by rw [← hlen]; exact (List.getElem?_eq_some_iff.mp hv').1
    obtain ⟨u, hu, ru⟩ := rv.get (i := i) (x := V.int (ns.getD i 0)) (by
      rw [List.getElem?_map, List.getElem?_eq_getElem hin, List.getD_eq_getElem?_getD, List.getElem?_eq_getElem hin] <;> rfl)
    rw [hv'] at hu
    cases hu
    exact ru
  · intro h' tk t' hk
    have hlen : its.length = ns.length := by rw [← rv.length, List.length_map]
    have e : preSum (fun i => ns.getD i 0) its.toArray.size = ns.sum := by
      rw [List.size_toArray, hlen, preSum_list ns _ (Nat.le_refl _), List.take_length]
    rw [e]
    refine ⟨.int _, H, I.kept fun b o eo => hk b o (fun hmem => ?_) (Heap.get?_push_of_some _ eo), ⟨_, rfl⟩, q⟩
    rw [List.mem_singleton.mp hmem] at eo
    exact absurd (Heap.lt_size eo) (Nat.lt_irrefl _)

theorem Out.frame {K : FW} {H : Hp} {μ : List Addr} {d : D} {B B' : Addr → Prop} {Q : VK} (h : Out K H μ d B Q) (hb : ∀ a, B' a → B a) : Out K H μ d B' Q := fun v H' t F n r x y => h v H' t F n r x fun a ha => hb a (y a ha)
def BiOk (X : Cx) (f : Bi) (v : Value) : Prop := CallR X v (RBi X.KW f)
theorem bi_len : CallR X (.builtin "len") (RBi X.KW .len) := by
  intro pins s σ H xs us Q I r h
  obtain ⟨μ, ds, F, st, B, d, rs, bx, hg, q⟩ := h
  match ds, rs, hg with
  | [], _, hg => cases hg
  | _ :: _ :: _, _, hg => simp [biD] at hg
  | [x], rs, hg =>
    obtain ⟨v, t, G, rfl, r1, -⟩ := rs.one
    clear rs
    cases r1 <;> simp only [biD] at hg <;> first | (cases hg; done) | skip
    case str x =>
      obtain ⟨h1, rfl⟩ := guardO_some hg
      exact call_len pins s σ H _ us Q I r ⟨_, x.length, rfl, ⟨h1, rfl⟩, q.int⟩
    case tup a vs ds e r1 =>
      cases hg
      exact call_len pins s σ H _ us Q I r ⟨_, ds.length, rfl, .inr ⟨_, e, r1.length⟩, q.int⟩
    case lst a vs ds e r1 =>
      cases hg
      exact call_len pins s σ H _ us Q I r ⟨_, ds.length, rfl, .inl ⟨_, .of e, r1.length⟩, q.int⟩
    case frz a ns e =>
      cases hg
      exact call_len pins s σ H _ us Q I r ⟨_, ns.length, rfl, .inl ⟨_, e.sq, by rw [List.length_map]⟩, q.int⟩
    case ref a k e =>
      obtain ⟨ys, h1, rfl⟩ := Option.map_eq_some_iff.mp hg
      obtain ⟨a', vs, F', e1, e2, r2, _⟩ := bx _ _ h1
      rw [e] at e1
      cases e1
      exact call_len pins s σ H _ us Q I r ⟨_, ys.length, rfl, .inl ⟨_, .of e2, r2.length⟩, q.int⟩
    case dK a kvs ks vs ds F e hk hv r2 hF =>
      cases hg
      refine call_lenD pins s σ H _ us Q I r ⟨_, kvs, rfl, e, ?_⟩
      rw [show kvs.length = ks.length by rw [← hk, List.length_map]]
      exact q.int
theorem bi_int : CallR X (.type "int") (RBi X.KW .int) := by
  intro pins s σ H xs us Q I r h
  obtain ⟨μ, ds, F, st, B, d, rs, bx, hg, q⟩ := h
  match ds, rs, hg with
  | [], _, hg => cases hg
  | _ :: _ :: _, _, hg => simp [biD] at hg
  | [x], rs, hg =>
    obtain ⟨v, t, G, rfl, r1, -⟩ := rs.one
    clear rs
    cases r1 <;> simp only [biD] at hg <;> first | (cases hg; done) | skip
    case bl b =>
      cases hg
      exact call_int1 pins s σ H _ us Q I r (.inr ⟨b, rfl, q.int⟩)
    case int b =>
      cases hg
      exact call_int1 pins s σ H _ us Q I r (.inl ⟨b, rfl, q.int⟩)
theorem bi_abs : CallR X (.builtin "abs") (RBi X.KW .abs) := by
  intro pins s σ H xs us Q I r h
  obtain ⟨μ, ds, F, st, B, d, rs, bx, hg, q⟩ := h
  match ds, rs, hg with
  | [], _, hg => cases hg
  | _ :: _ :: _, _, hg => simp [biD] at hg
  | [x], rs, hg =>
    obtain ⟨v, t, G, rfl, r1, -⟩ := rs.one
    clear rs
    cases r1 <;> simp only [biD] at hg <;> first | (cases hg; done) | skip
    case int b =>
      cases hg
      exact call_abs pins s σ H _ us Q I r ⟨b, rfl, q.int⟩
theorem bi_sum (hc : X.calm = true) : CallR X (.builtin "sum") (RBi X.KW .sum) := by
  intro pins s σ H xs us Q I r h
  obtain ⟨μ, ds, F, st, B, d, rs, bx, hg, q⟩ := h
  match ds, rs, hg with
  | [], _, hg => cases hg
  | _ :: _ :: _, _, hg => simp [biD] at hg
  | [x], rs, hg =>
    obtain ⟨v, t, G, rfl, r1, -⟩ := rs.one
    clear rs
    obtain ⟨ns, h1, rfl⟩ := Option.map_eq_some_iff.mp (show ((seqOf x).bind intsD).map (fun ns => D.int ns.sum) = some d from hg)
    cases r1 <;> simp only [seqOf, Option.bind_none, Option.bind_some] at h1 <;> first | (cases h1; done) | skip
    case tup a vs ds e r1 =>
      have e2 := r1.ints h1
      subst e2
      exact cr_sumT hc pins s σ H _ us Q I r ⟨_, _, rfl, e, q.int⟩
    case lst a vs ds e r1 =>
      have e2 := r1.ints h1
      subst e2
      exact cr_sum hc pins s σ H _ us Q I r ⟨_, _, rfl, .of e, q.int⟩
theorem bi_all (hc : X.calm = true) : CallR X (.builtin "all") (RBi X.KW .all) := by
  intro pins s σ H xs us Q I r h
  obtain ⟨μ, ds, F, st, B, d, rs, bx, hg, q⟩ := h
  match ds, rs, hg with
  | [], _, hg => cases hg
  | _ :: _ :: _, _, hg => simp [biD] at hg
  | [x], rs, hg =>
    obtain ⟨v, t, G, rfl, r1, -⟩ := rs.one
    clear rs
    cases r1 <;> simp only [biD] at hg <;> first | (cases hg; done) | skip
    case lst a vs ds e r1 =>
      obtain ⟨ns, h1, rfl⟩ := Option.map_eq_some_iff.mp hg
      have e2 := r1.bls h1
      subst e2
      exact cr_all hc pins s σ H _ us Q I r ⟨_, _, rfl, .of e, q.bl⟩
theorem bi_any (hc : X.calm = true) : CallR X (.builtin "any") (RBi X.KW .any) := by
  intro pins s σ H xs us Q I r h
  obtain ⟨μ, ds, F, st, B, d, rs, bx, hg, q⟩ := h
  match ds, rs, hg with
  | [], _, hg => cases hg
  | _ :: _ :: _, _, hg => simp [biD] at hg
  | [x], rs, hg =>
    obtain ⟨v, t, G, rfl, r1, -⟩ := rs.one
    clear rs
    cases r1 <;> simp only [biD] at hg <;> first | (cases hg; done) | skip
    case lst a vs ds e r1 =>
      obtain ⟨ns, h1, rfl⟩ := Option.map_eq_some_iff.mp hg
      have e2 := r1.bls h1
      subst e2
      exact cr_any hc pins s σ H _ us Q I r ⟨_, _, rfl, .of e, q.bl⟩
theorem bi_max (hc : X.calm = true) : CallR X (.builtin "max") (RBi X.KW .max) := by
  intro pins s σ H xs us Q I r h
  obtain ⟨μ, ds, F, st, B, d, rs, bx, hg, q⟩ := h
  match ds, rs, hg with
  | [], _, hg => cases hg
  | _ :: _ :: _, _, hg => simp [biD] at hg
  | [x], rs, hg =>
    obtain ⟨v, t, G, rfl, r1, -⟩ := rs.one
    clear rs
    cases r1 <;> simp only [biD] at hg <;> first | (cases hg; done) | skip
    case lst a vs ds e r1 =>
      obtain ⟨m, h1, rfl⟩ := Option.map_eq_some_iff.mp hg
      obtain ⟨ns, h2, h3⟩ := Option.bind_eq_some_iff.mp h1
      have e2 := r1.ints h2
      subst e2
      cases ns with
      | nil => cases h3
      | cons x ys =>
        cases h3
        exact cr_max hc pins s σ H _ us Q I r ⟨_, _, rfl, .of e, by simp, fun m hm hle => by rw [← max_foldl ys x m hm hle]; exact q.int⟩
theorem bi_min (hc : X.calm = true) : CallR X (.builtin "min") (RBi X.KW .min) := by
  intro pins s σ H xs us Q I r h
  obtain ⟨μ, ds, F, st, B, d, rs, bx, hg, q⟩ := h
  match ds, rs, hg with
  | [], _, hg => cases hg
  | _ :: _ :: _, _, hg => simp [biD] at hg
  | [x], rs, hg =>
    obtain ⟨v, t, G, rfl, r1, -⟩ := rs.one
    clear rs
    cases r1 <;> simp only [biD] at hg <;> first | (cases hg; done) | skip
    case lst a vs ds e r1 =>
      obtain ⟨m, h1, rfl⟩ := Option.map_eq_some_iff.mp hg
      obtain ⟨ns, h2, h3⟩ := Option.bind_eq_some_iff.mp h1
      have e2 := r1.ints h2
      subst e2
      cases ns with
      | nil => cases h3
      | cons x ys =>
        cases h3
        exact cr_min hc pins s σ H _ us Q I r ⟨_, _, rfl, .of e, by simp, fun m hm hle => by rw [← min_foldl ys x m hm hle]; exact q.int⟩
theorem bi_max2 (hc : X.calm = true) : CallR X (.builtin "max") (RBi X.KW .max2) := by
  intro pins s σ H xs us Q I r h
  obtain ⟨μ, ds, F, st, B, d, rs, bx, hg, q⟩ := h
  match ds, rs, hg with
  | [], _, hg => cases hg
  | [_], _, hg => simp [biD] at hg
  | _ :: _ :: _ :: _, _, hg => simp [biD] at hg
  | [x, y], rs, hg =>
    obtain ⟨v, t, G, v2, t2, G2, rfl, r1, r2⟩ := rs.two
    clear rs
    cases r1 <;> cases r2 <;> simp only [biD] at hg <;> first | (cases hg; done) | skip
    cases hg
    exact call_max2 hc pins s σ H _ us Q I r ⟨_, _, rfl, q.int⟩
theorem bi_min2 (hc : X.calm = true) : CallR X (.builtin "min") (RBi X.KW .min2) := by
  intro pins s σ H xs us Q I r h
  obtain ⟨μ, ds, F, st, B, d, rs, bx, hg, q⟩ := h
  match ds, rs, hg with
  | [], _, hg => cases hg
  | [_], _, hg => simp [biD] at hg
  | _ :: _ :: _ :: _, _, hg => simp [biD] at hg
  | [x, y], rs, hg =>
    obtain ⟨v, t, G, v2, t2, G2, rfl, r1, r2⟩ := rs.two
    clear rs
    cases r1 <;> cases r2 <;> simp only [biD] at hg <;> first | (cases hg; done) | skip
    cases hg
    exact call_min2 hc pins s σ H _ us Q I r ⟨_, _, rfl, q.int⟩
theorem bi_gcd : CallR X (.builtin "math.gcd") (RBi X.KW .gcd) := by
  intro pins s σ H xs us Q I r h
  obtain ⟨μ, ds, F, st, B, d, rs, bx, hg, q⟩ := h
  match ds, rs, hg with
  | [], _, hg => cases hg
  | [_], _, hg => simp [biD] at hg
  | _ :: _ :: _ :: _, _, hg => simp [biD] at hg
  | [x, y], rs, hg =>
    obtain ⟨v, t, G, v2, t2, G2, rfl, r1, r2⟩ := rs.two
    clear rs
    cases r1 <;> cases r2 <;> simp only [biD] at hg <;> first | (cases hg; done) | skip
    cases hg
    exact cr_gcd pins s σ H _ us Q I r ⟨_, _, rfl, q.int⟩
theorem bi_tuple : CallR X (.type "tuple") (RBi X.KW .tuple) := by
  intro pins s σ H xs us Q I r h
  obtain ⟨μ, ds, F, st, B, d, rs, bx, hg, q⟩ := h
  match ds, rs, hg with
  | [], _, hg => cases hg
  | _ :: _ :: _, _, hg => simp [biD] at hg
  | [x], rs, hg =>
    obtain ⟨v, t, G, rfl, r1, rfl⟩ := rs.one
    clear rs
    cases r1 <;> simp only [biD] at hg <;> first | (cases hg; done) | skip
    case tup a vs ds e r1 =>
      cases hg
      exact call_tuple_of pins s σ H _ us Q I r ⟨_, _, rfl, .inr ⟨e, q.tupSame e r1 fun a ha => List.mem_append_right _ ha⟩⟩
    case lst a vs ds e r1 =>
      cases hg
      exact call_tuple_of pins s σ H _ us Q I r ⟨_, _, rfl, .inl ⟨.of e, fun p hp => q.tup r1 (fun a ha => List.mem_append_right _ ha) hp⟩⟩
theorem reps_ints {K : FW} {H : Hp} {μ : List Addr} : ∀ ns : List Int, Reps K H μ (ns.map D.int) (ns.map V.int) []
  | [] => .nil
  | n :: ns => .cons (.int n) (reps_ints ns)
theorem bi_list : CallR X (.type "list") (RBi X.KW .list) := by
  intro pins s σ H xs us Q I r h
  obtain ⟨μ, ds, F, st, B, d, rs, bx, hg, q⟩ := h
  match ds, rs, hg with
  | [], _, hg => cases hg
  | _ :: _ :: _, _, hg => simp [biD] at hg
  | [x], rs, hg =>
    obtain ⟨v, t, G, rfl, r1, rfl⟩ := rs.one
    clear rs
    cases r1 <;> simp only [biD] at hg <;> first | (cases hg; done) | skip
    case tup a vs ds e r1 =>
      cases hg
      exact call_list_of pins s σ H _ us Q I r ⟨_, _, rfl, .inr e, fun p hp => q.lst r1 (fun a ha => List.mem_append_right _ ha) hp⟩
    case lst a vs ds e r1 =>
      cases hg
      exact call_list_of pins s σ H _ us Q I r ⟨_, _, rfl, .inl (.of e), fun p hp => q.lst r1 (fun a ha => List.mem_append_right _ ha) hp⟩
    case frz a ns e =>
      cases hg
      exact call_list_of pins s σ H _ us Q I r ⟨_, _, rfl, .inl e.sq, fun p hp => q.lst (reps_ints ns) (fun _ h => by simp at h) hp⟩
theorem keysI_eq : ∀ {ks : List Key} {ns : List Int}, keysI ks = some ns → ks = ns.map Sum.inl
  | [], _, h => by cases h; rfl
  | .inl i :: ks, _, h => by
    rw [keysI] at h
    obtain ⟨ns, h1, rfl⟩ := Option.map_eq_some_iff.mp h
    rw [keysI_eq h1]; rfl
  | .inr _ :: _, _, h => by cases h
theorem bi_sorted (hc : X.calm = true) : CallR X (.builtin "sorted") (RBi X.KW .sorted) := by
  intro pins s σ H xs us Q I r h
  obtain ⟨μ, ds, F, st, B, d, rs, bx, hg, q⟩ := h
  match ds, rs, hg with
  | [], _, hg => cases hg
  | _ :: _ :: _, _, hg => simp [biD] at hg
  | [x], rs, hg =>
    obtain ⟨v, t, G, rfl, r1, rfl⟩ := rs.one
    clear rs
    cases r1 <;> simp only [biD] at hg <;> first | (cases hg; done) | skip
    case lst a vs ds e r1 =>
      obtain ⟨ns, h1, h2⟩ := Option.bind_eq_some_iff.mp hg
      obtain ⟨h3, rfl⟩ := guardO_some h2
      have e2 := r1.ints h1
      subst e2
      refine cr_sorted pins s σ H _ us Q I r ⟨_, _, rfl, .of e, h3, fun ns' p p1 p2 hp => ?_⟩
      have e3 : ns' = sortI ns := sorted_one (p1.trans (sortI_perm ns).symm) p2 (sortI_sorted ns)
      subst e3
      exact q.lst (reps_ints _) (fun _ h => by simp at h) hp
    case dK a kvs ks vs ds F e h1 h2 r1 hF =>
      obtain ⟨ns, h3, h4⟩ := Option.bind_eq_some_iff.mp hg
      obtain ⟨h5, rfl⟩ := guardO_some h4
      have e2 := keysI_eq h3
      refine call_sortedDI hc pins s σ H _ us Q I r ⟨_, kvs, ns, rfl, .of e, h1.trans e2, h5, fun ns' p p1 p2 hp => ?_⟩
      have e3 : ns' = sortI ns := sorted_one (p1.trans (sortI_perm ns).symm) p2 (sortI_sorted ns)
      subst e3
      exact q.lst (reps_ints _) (fun _ h => by simp at h) hp
theorem bits_few {i : Int} (h : i.natAbs.log2 < 20000) : i.natAbs.log2 < bitsLine := Nat.lt_of_lt_of_le h (by decide)
theorem bi_fact : CallR X (.builtin "math.factorial") (RBi X.KW .fact) := by
  intro pins s σ H xs us Q I r h
  obtain ⟨μ, ds, F, st, B, d, rs, bx, hg, q⟩ := h
  match ds, rs, hg with
  | [], _, hg => cases hg
  | _ :: _ :: _, _, hg => simp [biD] at hg
  | [x], rs, hg =>
    obtain ⟨v, t, G, rfl, r1, rfl⟩ := rs.one
    clear rs
    cases r1 <;> simp only [biD] at hg <;> first | (cases hg; done) | skip
    rename_i n
    obtain ⟨⟨h1, h2, h3⟩, rfl⟩ := guardO_some hg
    obtain ⟨u, rfl, ru⟩ := r.one
    obtain ⟨t, rfl⟩ := ru
    refine PySem.W.mg_factorial (by show ¬ n > 2 ^ 63 - 1; omega) (by omega) (by show ¬ n > 20000; omega) (bits_few h3) ⟨.int _, H, I.tok _, ⟨_, rfl⟩, q.int⟩
namespace MG
theorem entry_comb : entryFor table "math.comb" = some Builtin.«math.comb» := entryFor_of_tree (by kernel_rfl)
theorem kind_comb : builtinKind "math.comb" = none := by kernel_rfl
theorem plain_comb : plainId "math.comb" = true := by decide +kernel
theorem args_comb (a b : Value) : argsOk "math.comb" ⟨[a, b], []⟩ := by unfold argsOk; kernel_rfl
end MG
theorem run_comb (n : Int) (t : Tok) (k : Int) (u : Tok) (h0 : ¬ n < 0) (h1 : ¬ k < 0) (h2 : ¬ k > n) (h3 : ¬ min k (n - k) > Builtin.Math.maxSsize) (h4 : ¬ min k (n - k) > Builtin.Math.manyFactors) (h5 : ¬ min k (n - k) > 9000) (hz : (combI n k).natAbs.log2 < bitsLine) :
    Gives (Builtin.«math.comb» ⟨[.int n t, .int k u], []⟩) (.int (combI n k)) :=
  .of_wp fun M A E s Q h => by
    obtain ⟨hp, g, d, tk, os⟩ := s
    unfold combI at hz h
    wp_walk
    (try (refine wpAny_ite_false (decide_eq_false (Nat.not_le.mpr hz)) ?_; wp_walk))
    exact ⟨_, rfl, h⟩
theorem bi_comb : CallR X (.builtin "math.comb") (RBi X.KW .comb) := by
  intro pins s σ H xs us Q I r h
  obtain ⟨μ, ds, F, st, B, d, rs, bx, hg, q⟩ := h
  match ds, rs, hg with
  | [], _, hg => cases hg
  | [_], _, hg => simp [biD] at hg
  | _ :: _ :: _ :: _, _, hg => simp [biD] at hg
  | [x, y], rs, hg =>
    obtain ⟨v, t, G, v2, t2, G2, rfl, r1, r2⟩ := rs.two
    clear rs
    cases r1 <;> cases r2 <;> simp only [biD] at hg <;> first | (cases hg; done) | skip
    rename_i n k
    obtain ⟨⟨h1, h2, h3, h4⟩, rfl⟩ := guardO_some hg
    obtain ⟨t, u, rfl⟩ := Vals.int2 r
    have hm : min k (n - k) ≤ 1000 := by omega
    exact call_function_meets MG.kind_comb MG.plain_comb MG.entry_comb (MG.args_comb _ _) (run_comb n t k u (by omega) (by omega) (by omega) (by show ¬ min k (n - k) > 2 ^ 63 - 1; omega) (by show ¬ min k (n - k) > 20000; omega) (by omega) (bits_few h4)).meets ⟨.int _, H, I.tok _, ⟨_, rfl⟩, q.int⟩
/-- the name of a built-in function, what it stands for; gcd is the module's -/
def Bi.nm : Bi → Str
  | .len => "len" | .int => "int" | .sum => "sum" | .all => "all" | .any => "any" | .max => "max" | .min => "min" | .max2 => "max" | .min2 => "min" | .tuple => "tuple" | .list => "list" | .abs => "abs" | .gcd => "gcd" | .sorted => "sorted"
  | .comb => "comb" | .fact => "factorial"
/-- the module's own -/
def Bi.math : Bi → Bool
  | .gcd => true
  | .comb => true
  | .fact => true
  | _ => false
def Bi.vl : Bi → Value
  | .len => .builtin "len" | .int => .type "int" | .sum => .builtin "sum" | .all => .builtin "all" | .any => .builtin "any" | .max => .builtin "max" | .min => .builtin "min" | .max2 => .builtin "max" | .min2 => .builtin "min"
  | .tuple => .type "tuple" | .list => .type "list" | .abs => .builtin "abs" | .gcd => .builtin "math.gcd" | .sorted => .builtin "sorted"
  | .comb => .builtin "math.comb" | .fact => .builtin "math.factorial"
theorem bi_ok (hc : X.calm = true) (f : Bi) : CallR X f.vl (RBi X.KW f) := by
  cases f with
  | len => exact bi_len
  | int => exact bi_int
  | sum => exact bi_sum hc
  | all => exact bi_all hc
  | any => exact bi_any hc
  | max => exact bi_max hc
  | min => exact bi_min hc
  | max2 => exact bi_max2 hc
  | min2 => exact bi_min2 hc
  | tuple => exact bi_tuple
  | list => exact bi_list
  | abs => exact bi_abs
  | gcd => exact bi_gcd
  | sorted => exact bi_sorted hc
  | comb => exact bi_comb
  | fact => exact bi_fact
end
end WT
end

section
set_option Elab.async false
set_option linter.all false
set_option maxRecDepth 100000
set_option autoImplicit false
/-! K4r: x[::-1] of a tuple. -/
namespace WT
open PySem PySem.Spec PyProof.Rows L2 HT
section
variable {prog : Program} {w : World} {A : Around} {E : Value → Shared → Prop} {s : Shared}
theorem adjust_rev (n : Int) : Builtin.Slice.sliceAdjust none none (-1) n = (n - 1, -1) := by
  unfold Builtin.Slice.sliceAdjust
  simp
theorem places_rev (n : Nat) : Builtin.Slice.slicePlaces ((n : Int) - 1) (-1) (-1) = n := by
  unfold Builtin.Slice.slicePlaces
  rw [if_neg (by decide)]
  split
  · have e : (-(-1) : Int) = 1 := by decide
    rw [e, Int.ediv_one]
    omega
  · have : n = 0 := by omega
    subst this
    rfl
theorem sliceApplied_rev {sl : Addr} {vl vu vs : Value} {n : Nat} {Q : Int × Int × Nat → Shared → Prop} (hs : s.heap.IsSliceOf sl vl vu vs) (pl : IsPart vl none) (pu : IsPart vu none) (ps : IsPart vs (some (-1))) (h : Q ((n : Int) - 1, -1, n) s) :
    wpAny (model prog w) A (Builtin.Slice.sliceApplied (.ref sl) (pure (n : Int))) Q E s := by
  obtain ⟨os, hos, hcs, hds⟩ := id hs
  cases pl
  cases pu
  cases ps with
  | int i t =>
    unfold Builtin.Slice.sliceApplied Builtin.Slice.sliceFields
    refine wpAny_bind (wpAny_bind (wpAny_field hos hds (x := .none) rfl (wpAny_bind (wpAny_field hos hds (x := .none) rfl (wpAny_bind (wpAny_field hos hds (x := .int (-1) t) rfl (wpAny_pure ?_)))))))
    refine wpAny_bind (slicePart_int ?_)
    show wpAny _ _ (if ((-1 : Int) == 0) = true then _ else _) _ _ s
    rw [if_neg (by decide)]
    refine wpAny_bind (slicePart_none (wpAny_bind (slicePart_none (wpAny_bind (wpAny_pure ?_)))))
    show wpAny _ _ (match Builtin.Slice.sliceAdjust none none (-1) (n : Int) with | (lo, hi) => pure (lo, (-1 : Int), Builtin.Slice.slicePlaces lo hi (-1))) _ _ s
    rw [adjust_rev]
    show wpAny _ _ (pure ((n : Int) - 1, (-1 : Int), Builtin.Slice.slicePlaces ((n : Int) - 1) (-1) (-1))) _ _ s
    rw [places_rev]
    exact wpAny_pure h
theorem pick_rev (xs : Array Value) : (List.range xs.size).filterMap (fun (m : Nat) => xs[(((xs.size : Int) - 1) + (m : Int) * -1).toNat]?) = xs.toList.reverse := by
  have e : (fun (m : Nat) => xs[(((xs.size : Int) - 1) + (m : Int) * -1).toNat]?) = fun (m : Nat) => xs[xs.size - 1 - m]? := by
    funext m
    have : (((xs.size : Int) - 1) + (m : Int) * -1).toNat = xs.size - 1 - m := by omega
    rw [this]
  rw [e]
  have h1 : (List.range xs.size).filterMap (fun (m : Nat) => xs[xs.size - 1 - m]?) = ((List.range xs.size).map fun k => xs.size - 1 - k).filterMap (xs[·]?) := by
    rw [List.filterMap_map]
    rfl
  rw [h1, PySem.W.krv_range, List.filterMap_reverse, PySem.W.krv_all]
theorem getItem_tuple_rev {t sl : Addr} {items : Array Value} {vl vu vs : Value} {Q : Value → Shared → Prop} (ht : IsTup s.heap t items) (hs : s.heap.IsSliceOf sl vl vu vs) (pl : IsPart vl none) (pu : IsPart vu none) (ps : IsPart vs (some (-1)))
    (h : Q (.ref s.heap.objs.size) { s with heap := s.heap.push { cls := .type "tuple", data := .seq items.toList.reverse.toArray } }) (hsz : items.size ≤ sizeLine) : wpAny (model prog w) A (getItem (.ref t) (.ref sl)) Q E s := by
  have htake : sizeOk (.seq items.toList.reverse.toArray) := by
    show items.toList.reverse.toArray.size ≤ sizeLine
    rw [List.size_toArray, List.length_reverse, Array.length_toList]
    exact hsz
  obtain ⟨os, hos, hcs, hds⟩ := id hs
  have hTs : s.TypeIs (.ref sl) "slice" := ⟨os, hos, hcs⟩
  unfold getItem
  try with_reducible refine wpAny_holding ?_
  first | refine wpAny_bind (wpAny_pure ?_) | skip
  refine wpAny_bind (wpAny_sequenceKey ht.typeIs (by decide) ?_)
  refine wpAny_bind (wpAny_callSpecial?_slot (name := Str.ofString "__getitem__") ht.typeIs PyProof.Rows.slot_tuple_getitem
    (wpAny_call_entry PyProof.Rows.slot_tuple_getitem ht.typeIs entry_tuple_getitem ?_ (args_tuple_getitem _ _)))
  show wpAny _ _ (Builtin.Tuple.tupleItemsOf (.ref t) >>= _) _ _ s
  refine wpAny_bind (tupleItemsOf_ ht ?_)
  refine wpAny_bind (wpAny_typeOf hTs ?_)
  rw [if_pos (by decide)]
  refine wpAny_bind (sliceApplied_rev hs pl pu ps ?_)
  have hno : ¬ ((((items.size : Int) - 1) == 0 && (-1 : Int) == 1 && items.size == items.size) = true) := by
    intro q
    rw [Bool.and_eq_true, Bool.and_eq_true] at q
    exact absurd (eq_of_beq q.1.2) (by decide)
  show wpAny _ _ (if (((items.size : Int) - 1) == 0 && (-1 : Int) == 1 && items.size == items.size) = true then _ else _) _ _ s
  rw [if_neg hno, pick_rev]
  first
    | exact wpAny_bind (m := Builtin.Tuple.tupleExact _) (wpAny_newObj_type (wpAny_pure ⟨_, rfl, wpAny_pure h⟩) htake)
    | exact wpAny_bind (m := Builtin.Tuple.tupleExact _) (wpAny_newObj_type (wpAny_bind (wpAny_pure (wpAny_pure ⟨_, rfl, wpAny_pure h⟩))) htake)
    | exact wpAny_bind (wpAny_bind (m := Builtin.Tuple.tupleExact _) (wpAny_newObj_type (wpAny_pure (wpAny_pure ⟨_, rfl, wpAny_pure h⟩)) htake))
    | exact wpAny_bind (wpAny_bind (m := Builtin.Tuple.tupleExact _) (wpAny_newObj_type (wpAny_pure ⟨_, rfl, wpAny_pure h⟩) htake))
end
section
variable {X : Cx}
def tRevA (K : FW) (te : TE) : TE := fun σ H Q => te σ H fun x H1 => ∃ a xs, x = .ref a ∧ ((SqL K H1 a xs ∧ ∀ p, H1 p = none → Q (.ref p) (upd H1 p (.lst xs.reverse))) ∨ (SqT K H1 a xs ∧ ∀ p, H1 p = none → Q (.ref p) (upd H1 p (.tup xs.reverse))))
theorem pe_revA {e : Expr} {te : TE} {k : Nat} {p1 p2 p3 pos : Pos} (he : PE X e te) : PE X (.Subscript e (.Slice none none (some (.UnaryOp .USub (.Constant (.int 1) k p1) p2)) p3) pos) (tRevA X.KW te) := by
  refine ⟨fun pins s σ H Q I h => ?_⟩
  refine Subscript_ (thn (he.run pins s σ H _ I h) fun v s1 ⟨x, H1, I1, r1, q1⟩ => ?_)
  obtain ⟨a, xs, ex, q⟩ := q1
  subst ex
  cases r1
  have hst : L2.PO X (some (.UnaryOp .USub (.Constant (.int 1) k p1) p2)) (tPart (tUn (rU fun i => .int (-i)) (tC (.int 1)))) := po_some (pe_un un_neg pe_int)
  refine wpAny_Slice (thn (po_none.run pins s1 σ H1 (fun o H2 => o = none ∧ H2 = H1) I1 ⟨rfl, rfl⟩) fun vl s2 ⟨l, H2, I2, pl, el, e2⟩ => ?_)
  subst el e2
  refine thn (po_none.run pins s2 σ H2 (fun o H3 => o = none ∧ H3 = H2) I2 ⟨rfl, rfl⟩) fun vu s3 ⟨u, H3, I3, pu, eu, e3⟩ => ?_
  subst eu e3
  refine thn (hst.run pins s3 σ H3 (fun o H4 => o = some (-1) ∧ H4 = H3) I3 ⟨1, rfl, -1, rfl, rfl, rfl⟩) fun vs s4 ⟨o, H4, I4, ps, eo, e4⟩ => ?_
  subst eo e4
  have I5 : Inv X pins σ H4 { s4 with heap := s4.heap.push { cls := .type "slice", data := .fields #[vl, vu, vs] } } := I4.kept (t' := s4.toks) fun b ob q => Heap.get?_push_of_some _ q
  show wpAny (model X.prog X.w) X.A (subscriptTail e (.Slice none none (some (.UnaryOp .USub (.Constant (.int 1) k p1) p2)) p3) (.ref a) (.ref s4.heap.objs.size)) (EP X pins σ Q) X.xe { s4 with heap := s4.heap.push { cls := .type "slice", data := .fields #[vl, vu, vs] } }
  rcases q with ⟨hx, q⟩ | ⟨hx, q⟩
  · obtain ⟨its, r, ht, hz⟩ := I5.list hx
    have hlen := r.length
    refine tail_any (ops := [.ref a, .ref s4.heap.objs.size]) ht.isList.typeIs (PySem.slot_list_getitem.lookup) ?_ (by with_unfolding_all rfl)
    refine wpAny_getItem_list_slice ht.isList (Heap.IsSliceOf.new _ vl vu vs) pl pu ps (by decide) ?_ (by rw [List.size_toArray]; omega)
    rw [PySem.W.krv_pick]
    refine ⟨.ref _, _, I5.laid (t' := s4.toks) (o := .lst xs.reverse) (fun b ob q => Heap.get?_push_of_some _ q) (Nat.le_refl _) ?_, rfl, q _ (I5.hok.fresh (Nat.le_refl _))⟩
    exact ⟨by rw [List.length_reverse]; exact hz, _, 0, r.reverse, Heap.get?_push_size _ rfl⟩
  · obtain ⟨its, r, ht, hz⟩ := I5.tuple hx
    have hlen := r.length
    refine tail_any (ops := [.ref a, .ref s4.heap.objs.size]) ht.typeIs PyProof.Rows.slot_tuple_getitem.lookup ?_ (by with_unfolding_all rfl)
    refine getItem_tuple_rev ht (Heap.IsSliceOf.new _ vl vu vs) pl pu ps ?_ (by rw [List.size_toArray]; omega)
    refine ⟨.ref _, _, I5.laid (t' := s4.toks) (o := .tup xs.reverse) (fun b ob q => Heap.get?_push_of_some _ q) (Nat.le_refl _) ?_, rfl, q _ (I5.hok.fresh (Nat.le_refl _))⟩
    exact ⟨by rw [List.length_reverse]; exact hz, _, r.reverse, IsTup.new _ _⟩
theorem rev_rep {K : FW} {H : Hp} {μ : List Addr} : ∀ {ds : List D} {vs : List V} {F : List Addr}, Reps K H μ ds vs F → ∃ L, Reps K H μ ds.reverse vs.reverse L ∧ ∀ a ∈ L, a ∈ F
  | _, _, _, .nil => ⟨[], .nil, fun _ h => h⟩
  | _, _, _, .cons r s => by
    obtain ⟨L, h1, h2⟩ := rev_rep s
    obtain ⟨L2, h3, h4⟩ := h1.append (.cons r .nil)
    refine ⟨L2, by simpa using h3, fun a ha => ?_⟩
    rcases h4 a ha with h | h
    · exact List.mem_append_right _ (h2 a h)
    · exact List.mem_append_left _ (by simpa using h)
end
end WT
end

section
set_option Elab.async false
set_option linter.all false
set_option maxRecDepth 100000
set_option autoImplicit false
/-! K5: which text an expression of E is (mE), what is known of its lists (pvE), the context. -/
namespace WT
open PySem PySem.Spec PyProof.Rows L2

/-- names of a def by slot; the defs and constants that are in reach, by name; for each def how many arguments stand ahead where the others are named, whether its answer is a new list -/
structure MC where
  N : List Str
  fns : List (Str × List Str)
  cons : List Str
  kw : Nat → List (Nat × List Str × List Nat)
  rn : Nat → Bool
  ow : Nat → Bool
  mth : List Bi
  cls : List Str
  base : Str
def visB (sc : Scope) (x : Str) : Bool := match sc.names.lookup x with | some .local => true | some .cell => true | some .free => true | _ => false
def locB (sc : Scope) (x : Str) : Bool := match sc.names.lookup x with | some .local => true | some .cell => true | _ => false
def glB (sc : Scope) (x : Str) : Bool := match sc.names.lookup x with | some .globalImplicit => true | _ => false
def plB (x : Str) : Bool := !(x == ("__debug__" : Str)) && !(x == ("__classdict__" : Str))
def plainX : Expr → Bool
  | .Starred _ _ => false
  | .Slice _ _ _ _ => false
  | _ => true
def Ty.sname (t : Ty) : Str := Str.ofString t.nm
/-- what an expression is where it is asked as a test -/
def tOk : E → Bool
  | .ife _ _ _ => false
  | .box _ => false
  | .not a => tOk a
  | .and a b => tOk a && tOk b
  | .or a b => tOk a && tOk b
  | _ => true
mutual
def mTg (m : MC) (sc : Scope) : Tg → Expr → Bool
  | .name i, .Name x _ => decide (m.N[i]? = some x) && locB sc x
  | .tup ts, .Tuple es _ _ => mTgs m sc ts es
  | _, _ => false
def mTgs (m : MC) (sc : Scope) : Tgs → List Expr → Bool
  | .nil, [] => true
  | .cons t ts, e :: es => mTg m sc t e && mTgs m sc ts es
  | _, _ => false
end
def ownOf (N : List Str) (scope : Scope) : List (Str × Nat) := scope.names.filterMap fun (n, k) => if k == .local || k == .cell then (N.findIdx? (· == n)).map fun i => (n, i) else none
def tysM : List Ty → List Expr → Scope → Bool
  | [], [], _ => true
  | t :: ts, .Name x _ :: es, sc => x == t.sname && glB sc x && tysM ts es sc
  | _, _, _ => false
def kwsM : List Keyword → List Str → Bool
  | [], [] => true
  | k :: ks, x :: xs => decide (k.arg = some x) && kwsM ks xs
  | _, _ => false
def kwNm (kws : List Keyword) : List Str := kws.filterMap (·.arg)
def kwVals : List Keyword → List Expr
  | [] => []
  | k :: ks => k.value :: kwVals ks
def mRev (f : Expr → Bool) (x : Expr) : Bool := match x with
  | .Subscript y (.Slice none none (some (.UnaryOp .USub (.Constant (.int j) _ _) _)) _) _ => decide (j = 1) && f y
  | _ => false
def rgNm (l : Bool) : Str := if l then "list" else "tuple"
def mRg1 (l : Bool) (sc : Scope) (f : Expr → Bool) (x : Expr) : Bool := match x with
  | .Call (.Name n _) [.Call (.Name r _) [y] [] _] [] _ => n == rgNm l && glB sc n && r == ("range" : Str) && glB sc r && f y
  | _ => false
def mRg2 (l : Bool) (sc : Scope) (f h : Expr → Bool) (x : Expr) : Bool := match x with
  | .Call (.Name n _) [.Call (.Name r _) [y, z] [] _] [] _ => n == rgNm l && glB sc n && r == ("range" : Str) && glB sc r && f y && h z
  | _ => false
def isNC : Expr → Bool
  | .Name _ _ => true
  | .Call (.Name _ _) (_ :: _) _ _ => true
  | _ => false
def mBits (f : Expr → Bool) (x : Expr) : Bool := match x with
  | .Call (.Attribute y n ap) [] [] cp => n == ("bit_length" : Str) && ap.endLine == cp.line && isNC y && f y
  | _ => false
def mLenSet (sc : Scope) (f : Expr → Bool) (x : Expr) : Bool := match x with
  | .Call (.Name n _) [.Call (.Name r _) [y] [] _] [] _ => n == ("len" : Str) && glB sc n && r == ("set" : Str) && glB sc r && f y
  | _ => false
def mSortSet (sc : Scope) (f : Expr → Bool) (x : Expr) : Bool := match x with
  | .Call (.Name n _) [.Call (.Name r _) [y] [] _] [] _ => n == ("sorted" : Str) && glB sc n && r == ("set" : Str) && glB sc r && f y
  | _ => false
def mSortD (sc : Scope) (f : Expr → Bool) (x : Expr) : Bool := match x with
  | .Call (.Name n _) [.Name z p] [] _ => n == ("sorted" : Str) && glB sc n && f (.Name z p)
  | _ => false
def mMkK (sc : Scope) (f : Expr → Bool) (x : Expr) : Bool := match x with
  | .Call (.Name n _) [y] [] _ => n == ("dict" : Str) && glB sc n && f y
  | _ => false
def mSumT (sc : Scope) (f : Expr → Bool) (x : Expr) : Bool := match x with
  | .Call (.Name n _) [y, .Tuple [] _ _] [] _ => n == ("sum" : Str) && glB sc n && f y
  | _ => false
def mRep (sc : Scope) (f : Expr → Bool) (x : Expr) : Bool := match x with
  | .Call (.Name n _) [y] [] _ => n == ("repr" : Str) && glB sc n && f y
  | _ => false
def mDctI (k : Int) (f : Expr → Bool) (x : Expr) : Bool := match x with
  | .Dict [some (.Constant (.int j) _ _)] [y] _ => k == j && f y
  | _ => false
def mOp1 (o : Op1) (sc : Scope) (f : Expr → Bool) (x : Expr) : Bool := match o with
  | .bits => mBits f x
  | .lenSet => mLenSet sc f x
  | .sortSet => mSortSet sc f x
  | .sortD => mSortD sc f x
  | .mkK => mMkK sc f x
  | .sumT => mSumT sc f x
  | .rep => mRep sc f x
  | .dctI k => mDctI k f x
def isNS : Expr → Bool
  | .Name _ _ => true
  | .Subscript _ _ _ => true
  | _ => false
def mCnt (f h : Expr → Bool) (x : Expr) : Bool := match x with
  | .Call (.Attribute y n ap) [z] [] cp => n == ("count" : Str) && ap.endLine == cp.line && isNS y && f y && h z
  | _ => false
def mDct1 (f h : Expr → Bool) (x : Expr) : Bool := match x with
  | .Dict [some y] [z] _ => f y && h z
  | _ => false
def mDctI2 (k l : Int) (f h : Expr → Bool) (x : Expr) : Bool := match x with
  | .Dict [some (.Constant (.int i) _ _), some (.Constant (.int j) _ _)] [y, z] _ => k == i && l == j && f y && h z
  | _ => false
def mOp2 (o : Op2) (f h : Expr → Bool) (x : Expr) : Bool := match o with
  | .cnt => mCnt f h x
  | .dct1 => mDct1 f h x
  | .dctI2 k l => mDctI2 k l f h x
def mPopE (m : MC) (i : Nat) (sc : Scope) (f : Expr → Bool) (x : Expr) : Bool := match x with
  | .Call (.Attribute (.Name z _) n ap) [y] [] cp => n == ("pop" : Str) && decide (m.N[i]? = some z) && visB sc z && plB z && f y && ap.endLine == cp.line
  | _ => false
mutual
def mE (m : MC) : E → Scope → Expr → Bool
  | .var i, sc, .Name x _ => decide (m.N[i]? = some x) && visB sc x && plB x
  | .int i, _, .Constant (.int j) _ _ => i == j
  | .bl i, _, .Constant (.bool j) _ _ => i == j
  | .non, _, .Constant .none _ _ => true
  | .str i, _, .Constant (.str j) _ _ => i == j
  | .glob c, sc, .Name x _ => decide (m.cons[c]? = some x) && glB sc x && plB x
  | .bin op a b, sc, .BinOp x op' y _ => decide (op = op') && mE m a sc x && mE m b sc y
  | .neg a, sc, .UnaryOp .USub x _ => mE m a sc x
  | .not a, sc, .UnaryOp .Not x _ => mE m a sc x
  | .cmp op a b, sc, .Compare x [op'] [y] _ => decide (op = op') && mE m a sc x && mE m b sc y && !behindInMarks op y
  | .cmp2 op op2 a b c, sc, .Compare x [op', op2'] [y, z] _ => decide (op = op') && decide (op2 = op2') && mE m a sc x && mE m b sc y && mE m c sc z && !behindInMarks op2 z
  | .and a b, sc, .BoolOp .And (x :: y :: r) pos => mE m a sc x && (match r with
    | [] => mE m b sc y
    | _ :: _ => mE m b sc (.BoolOp .And (y :: r) pos))
  | .or a b, sc, .BoolOp .Or (x :: y :: r) pos => mE m a sc x && (match r with
    | [] => mE m b sc y
    | _ :: _ => mE m b sc (.BoolOp .Or (y :: r) pos))
  | .ife c a b, sc, .IfExp z x y _ => mE m c sc z && tOk c && mE m a sc x && mE m b sc y
  | .tup es, sc, .Tuple xs _ _ => mEs m es sc xs
  | .lst es, sc, .List xs _ => mEs m es sc xs
  | .idx a i, sc, .Subscript x y _ => mE m a sc x && mE m i sc y
  | .slice a lo hi, sc, .Subscript x (.Slice l h none _) _ => mE m a sc x && mEo m lo sc l && mEo m hi sc h
  | .rev a, sc, x => mRev (fun y => mE m a sc y) x
  | .rg1 l b, sc, x => mRg1 l sc (fun y => mE m b sc y) x
  | .rg2 l a b, sc, x => mRg2 l sc (fun y => mE m a sc y) (fun y => mE m b sc y) x
  | .isi a ts false, sc, .Call (.Name f _) [x, .Name t _] [] _ => f == ("isinstance" : Str) && glB sc f && mE m a sc x && tysM ts [.Name t ⟨0, 0, 0, 0⟩] sc
  | .isi a ts true, sc, .Call (.Name f _) [x, .Tuple es _ _] [] _ => f == ("isinstance" : Str) && glB sc f && mE m a sc x && tysM ts es sc && decide (ts.length ≤ 100)
  | .isx a cs all y, sc, .Call (.Name f _) [x, .Name t _] [] _ => f == ("isinstance" : Str) && glB sc f && mE m a sc x && glB sc t && plB t && t == y && !cs.isEmpty && (cs.all fun z => decide (z ∈ m.cls)) && ((decide (y ∈ m.cls) && all == (y == m.base)) || (y == ("ValueError" : Str) && all))
  | .xval a cs, sc, .Attribute (.Name x p) f _ => f == ("value" : Str) && mE m a sc (.Name x p) && (cs.all fun z => decide (z ∈ m.cls))
  | .xmk y a, sc, .Attribute (.Call (.Name x _) [z] [] _) f _ => f == ("value" : Str) && x == y && glB sc x && plB x && decide (x ∈ m.cls) && mE m a sc z
  | .bi f es, sc, .Call (.Name x _) (e :: r) [] _ => x == f.nm && glB sc x && mEs m es sc (e :: r) && (!f.math || decide (f ∈ m.mth))
  | .call f es kes ord, sc, .Call (.Name x _) xs kws _ => (match m.fns[f]? with
    | some (n, ps) => x == n && glB sc x && plB x && mEs m es sc xs && mEs m kes sc (kwVals kws) && kwsM kws (kwNm kws) && decide ((kws.isEmpty = true ∧ ord = []) ∨ (xs.length, kwNm kws, ord) ∈ m.kw f)
    | none => false)
  | .box e, sc, x => mE m e sc x && plainX x
  | .comp tg it hasIf cond elt, sc, .ListComp x [⟨t, i, ifs, n⟩] scope _ =>
      decide (n = 0) && blkC m.N sc scope (ownOf m.N scope) && ((ownOf m.N scope).all fun p => decide (p.2 ∈ tg.slots)) && (tg.slots.all fun k => decide (k ∈ (ownOf m.N scope).map (·.2))) && mTg m scope tg t && mIt m it sc i &&
        (match hasIf, ifs with
        | false, [] => true
        | true, [z] => mE m cond (relS scope sc) z && tOk cond
        | _, _ => false) && mE m elt (relS scope sc) x
  | .comp2 tg it tg1 it1 elt, sc, .ListComp x [⟨t, i, [], n⟩, ⟨t1, i1, [], n1⟩] scope _ =>
      decide (n = 0) && decide (n1 = 0) && blkC m.N sc scope (ownOf m.N scope) && ((ownOf m.N scope).all fun p => decide (p.2 ∈ tg.slots ++ tg1.slots)) && ((tg.slots ++ tg1.slots).all fun k => decide (k ∈ (ownOf m.N scope).map (·.2))) && mTg m scope tg t && mIt m it sc i && mTg m scope tg1 t1 && mIt m it1 (relS scope sc) i1 && mE m elt (relS scope sc) x
  | .dnew _, _, .Dict [] [] _ => true
  | .dgeto d k e, sc, .Call (.Attribute (.Name x p) f ap) [y, z] [] cp => f == ("get" : Str) && ap.endLine == cp.line && mE m d sc (.Name x p) && mE m k sc y && mE m e sc z
  | .midx l e, sc, .Call (.Attribute (.Name x p) f ap) [y] [] cp => f == ("index" : Str) && ap.endLine == cp.line && mE m l sc (.Name x p) && mE m e sc y
  | .op1 o a, sc, x => mOp1 o sc (fun y => mE m a sc y) x
  | .op2 o a b, sc, x => mOp2 o (fun y => mE m a sc y) (fun y => mE m b sc y) x
  | .popE i e, sc, x => mPopE m i sc (fun y => mE m e sc y) x
  | .dead, _, x => plainX x
  | _, _, _ => false
def mEs (m : MC) : Es → Scope → List Expr → Bool
  | .nil, _, [] => true
  | .cons e es, sc, x :: xs => mE m e sc x && mEs m es sc xs
  | _, _, _ => false
def mEo (m : MC) : Eo → Scope → Option Expr → Bool
  | .no, _, none => true
  | .yes e, sc, some x => mE m e sc x
  | _, _, _ => false
def mIt (m : MC) : It → Scope → Expr → Bool
  | .seq e, sc, x => mE m e sc x && (match x with | .Set _ _ _ => false | _ => true)
  | .range1 a, sc, .Call (.Name f _) [x] [] _ => f == ("range" : Str) && glB sc f && mE m a sc x
  | .range2 a b, sc, .Call (.Name f _) [x, y] [] _ => f == ("range" : Str) && glB sc f && mE m a sc x && mE m b sc y
  | .range3 a b c, sc, .Call (.Name f _) [x, y, z] [] _ => f == ("range" : Str) && glB sc f && mE m a sc x && mE m b sc y && mE m c sc z
  | .enum a, sc, .Call (.Name f _) [x] [] _ => f == ("enumerate" : Str) && glB sc f && mE m a sc x
  | .zip a b, sc, .Call (.Name f _) [x, y] [] _ => f == ("zip" : Str) && glB sc f && mE m a sc x && mE m b sc y
  | .keys a, sc, .Name x p => mE m a sc (.Name x p)
  | .items a, sc, .Call (.Attribute (.Name x p) f ap) [] [] cp => f == ("items" : Str) && ap.endLine == cp.line && mE m a sc (.Name x p)
  | _, _, _ => false
end
/-- enumerate, zip want a written pair as target -/
def itTg : It → Tg → Bool
  | .enum _, .tup _ => true
  | .zip _ _, .tup _ => true
  | .items _, .tup _ => true
  | .items _, _ => false
  | .enum _, _ => false
  | .zip _ _, _ => false
  | _, _ => true

/-! ### what is known of a value's lists -/
def Pv.new1 (inn : List Nat) : Pv := ⟨true, [], inn⟩
def Pv.join (p q : Pv) : Pv := ⟨p.new && q.new, p.top ++ q.top, p.inn ++ q.inn⟩
mutual
def pvE (m : MC) : E → Option Pv
  | .var i => some (if m.ow i then ⟨false, [i], []⟩ else ⟨false, [], []⟩)
  | .int _ => some (.new1 [])
  | .bl _ => some (.new1 [])
  | .non => some (.new1 [])
  | .str _ => some (.new1 [])
  | .glob _ => some (.new1 [])
  | .bin _ a b => match pvE m a, pvE m b with | some p, some q => some (.new1 (p.inn ++ q.inn)) | _, _ => none
  | .neg a => (pvE m a).map fun _ => .new1 []
  | .not a => (pvE m a).map fun _ => .new1 []
  | .cmp _ a b => match pvE m a, pvE m b with | some p, some q => some (.new1 []) | _, _ => none
  | .cmp2 _ _ a b c => match pvE m a, pvE m b, pvE m c with | some p, some q, some r => some (.new1 []) | _, _, _ => none
  | .and a b => match pvE m a, pvE m b with | some p, some q => some (p.join q) | _, _ => none
  | .or a b => match pvE m a, pvE m b with | some p, some q => some (p.join q) | _, _ => none
  | .ife c a b => match pvE m c, pvE m a, pvE m b with | some _, some p, some q => some (p.join q) | _, _, _ => none
  | .tup es => (pvEs m es).map fun l => .new1 l
  | .lst es => (pvEs m es).map fun l => .new1 l
  | .idx a i => match pvE m a, pvE m i with | some p, some _ => some ⟨false, p.inn, p.inn⟩ | _, _ => none
  | .slice a lo hi => match pvE m a, pvEo m lo, pvEo m hi with | some p, true, true => some (.new1 p.inn) | _, _, _ => none
  | .isi a _ _ => (pvE m a).map fun _ => .new1 []
  | .isx a _ _ _ => (pvE m a).map fun _ => .new1 []
  | .xmk _ a => pvE m a
  | .xval a _ => (pvE m a).map fun p => ⟨false, p.inn, p.inn⟩
  | .rev a => (pvE m a).map fun p => .new1 p.inn
  | .rg1 _ b => (pvE m b).map fun _ => .new1 []
  | .rg2 _ a b => match pvE m a, pvE m b with | some _, some _ => some (.new1 []) | _, _ => none
  | .bi _ es => (pvEs m es).map fun l => .new1 l
  | .call f es kes _ => match pvEs m es, pvEs m kes with | some l, some l' => some ⟨m.rn f, l ++ l', l ++ l'⟩ | _, _ => none
  | .box e => match pvE m e with | some p => if p.new then some (.new1 []) else none | none => none
  | .comp tg it hasIf cond elt => match pvIt m it, pvE m cond, pvE m elt with
    | some l, some _, some p => if l.isEmpty && (tg.slots.all fun i => !m.ow i) && itTg it tg then some (.new1 (p.top ++ p.inn)) else none
    | _, _, _ => none
  | .comp2 tg it tg1 it1 elt => match pvIt m it, pvIt m it1, pvE m elt with
    | some l, some l1, some p => if l.isEmpty && l1.isEmpty && (tg.slots.all fun i => !m.ow i) && (tg1.slots.all fun i => !m.ow i) && itTg it tg && itTg it1 tg1 then some (.new1 (p.top ++ p.inn)) else none
    | _, _, _ => none
  | .dnew _ => some (.new1 [])
  | .dgeto d k e => match pvE m d, pvE m k, pvE m e with | some _, some _, some _ => some (.new1 []) | _, _, _ => none
  | .midx l e => match pvE m l, pvE m e with | some _, some _ => some (.new1 []) | _, _ => none
  | .op1 _ a => (pvE m a).map fun _ => .new1 []
  | .op2 _ a b => match pvE m a, pvE m b with | some _, some _ => some (.new1 []) | _, _ => none
  | .popE _ a => (pvE m a).map fun _ => .new1 []
  | .dead => some (.new1 [])
def pvEs (m : MC) : Es → Option (List Nat)
  | .nil => some []
  | .cons e es => match pvE m e, pvEs m es with | some p, some l => some (p.top ++ p.inn ++ l) | _, _ => none
def pvEo (m : MC) : Eo → Bool
  | .no => true
  | .yes e => (pvE m e).isSome
/-- .. of what is walked: its items -/
def pvIt (m : MC) : It → Option (List Nat)
  | .seq e => (pvE m e).map (·.inn)
  | .range1 a => (pvE m a).map fun _ => []
  | .range2 a b => match pvE m a, pvE m b with | some _, some _ => some [] | _, _ => none
  | .range3 a b c => match pvE m a, pvE m b, pvE m c with | some _, some _, some _ => some [] | _, _, _ => none
  | .enum a => (pvE m a).map (·.inn)
  | .zip a b => match pvE m a, pvE m b with | some p, some q => some (p.inn ++ q.inn) | _, _ => none
  | .items a => (pvE m a).map fun _ => []
  | .keys a => (pvE m a).map fun _ => []
end

/-! ### a def's promise, the context -/
def spF (K : FW) (CA : Str → Option Addr) (rn : Bool) (sem : List D → Sto → R D) (n : Nat) : Sp := fun vs H Q E => ∃ (ds : List D) (st : Sto) (μ F : List Addr) (A : Addr → Prop), ds.length = n ∧ Reps K H μ ds vs F ∧ BoxOk K H μ st ∧ μ.length = st.length ∧ μ.Nodup ∧
  (∀ a ∈ F, a ∉ μ ∧ A a) ∧ Fin (fun d st' => ∀ v H' μ' t F', Step μ H μ' H' → BoxOk K H' μ' st' → μ'.length = st'.length → μ'.Nodup → Rep K H' μ' d v t F' → (∀ a ∈ t ++ F', a ∉ μ' ∧ (H a = none ∨ A a)) → (rn = true → ∀ a ∈ t, H a = none ∧ a ∉ F') → Q v H')
    (fun x d st' => ∀ cls dd H' μ', Step μ H μ' H' → BoxOk K H' μ' st' → μ'.length = st'.length → μ'.Nodup → XR CA K H' μ' (fun a => H a = none ∨ A a) x d cls dd → E cls dd H') (sem ds st)
/-- how the arguments are bound: all in a row, or some behind by their names -/
def KBd (K : PySem.W.Frag) (fd : FuncData) (ps : List Str) (kw : List (Nat × List Str × List Nat)) : Prop :=
  ∀ (s : Shared) (us ws : List Value), K.In s.heap → (us.length = ps.length → BindsTo s fd ⟨us, []⟩ (ps.zip us)) ∧ ∀ q ∈ kw, us.length = q.1 → ws.length = q.2.1.length → BindsTo s fd ⟨us, q.2.1.zip ws⟩ (ps.zip (us ++ permL q.2.2 ws))
/-- the error that is made: its value is stored -/
def spI (K : PySem.W.Frag) : Sp := fun vs H Q _ => ∃ (a C : Addr) (v : V), vs = [.ref a, v] ∧ OexC K C ∧ PySem.W.findIn K (.ref C) "value" = some none ∧ H a = some (exo a C none) ∧ ∀ dx, H dx = none → dx ≠ a → Q .non (upd (upd H dx (exd dx [("value", v)])) a (exo a C (some dx)))
/-- a class of errors that can be raised -/
def ClsOk (P : Program) (w : World) (K : PySem.W.Frag) (mg : Str → Option Value) (base : Heap) (CA : Str → Option Addr) (x : Str) : Prop := ∃ (C fI : Addr) (fd : FuncData), CA x = some C ∧ mg x = some (.ref C) ∧ OexC K C ∧ PySem.W.findIn K (.ref C) "value" = some none ∧
  PySem.W.findIn K (.ref C) "__init__" = some (some (.ref fI)) ∧ PySem.W.typeIn K (.ref fI) = some (.type "function") ∧ FnOk P w K mg base (L2.CX P w) 1 fI fd ["self", "value"] (spI K) ∧ Binds K fd ["self", "value"] [] ∧ KBd K fd ["self", "value"] [(1, ["value"], [0])] ∧ mg "ValueError" = none
/-- .. and caught -/
structure ExmOk (K : PySem.W.Frag) (CA : Str → Option Addr) (root : Str) : Prop where
  exm : ∀ (x y : Str) (C C' : Addr), CA x = some C → CA y = some C' → PySem.W.exmOne K (.ref C) (.ref C') = some (y == root || y == x)
  xf : ∀ (x : Str) (C : Addr), CA x = some C → XfC K C ∧ PySem.W.findIn K (.ref C) "value" = some none
  ga : ∀ (x : Str) (C : Addr), CA x = some C → C = He.ga K x
  kit : ∀ (x y : Str) (C C' : Addr), CA x = some C → CA y = some C' → PySem.W.kitOne K (.ref C) (.ref C') = some (y == root || y == x)
  kve : ∀ (x : Str) (C : Addr), CA x = some C → PySem.W.kitOne K (.ref C) (.type "ValueError") = some true
  ec : ∀ (x : Str) (C : Addr), CA x = some C → ExcC K C
def freeNames : List Str := ["set", "len", "int", "sum", "all", "any", "max", "min", "tuple", "list", "abs", "sorted", "isinstance", "bool", "str", "dict", "range", "enumerate", "zip", "repr"]
/-- what a def promises where no repr is under way -/
structure FnG (P : Program) (w : World) (K : PySem.W.Frag) (mg : Str → Option Value) (base : Heap) (CX : CXT) (k : Nat) (f : Addr)
    (fd : FuncData) (ps : List Str) (sp : Sp) : Prop where
  wide : ∀ vs H Q E, sp vs H Q E → vs.length = ps.length
  goes : ∀ (A : Around) (out : List PySem.Env) (s : Shared) (H : Hp) (ar : Args) (us : List Value) (vs : List V)
    (Q : VK) (E : XK), A.guards = some [] → Room k A → Env0 P w K mg base A out s H → BindsTo s fd ar (ps.zip us) →
    Vals vs us → sp vs H Q E → codeAny (model P w) A (.call (.ref f) ar) (CR CX out P w H s Q E) s
theorem FnG.mono {P : Program} {w : World} {K : PySem.W.Frag} {mg : Str → Option Value} {base : Heap} {CX : CXT} {j k : Nat} {f : Addr}
    {fd : FuncData} {ps : List Str} {sp : Sp} (F : FnG P w K mg base CX j f fd ps sp) (h : j ≤ k) : FnG P w K mg base CX k f fd ps sp :=
  ⟨F.wide, fun A out s H ar us vs Q E hg hr => F.goes A out s H ar us vs Q E hg (hr.mono h)⟩
structure XOk (m : MC) (c : Cfg) (k : Nat) (sc : Scope) (X : Cx) : Prop where
  hN : X.N = m.N
  nd : m.N.Nodup
  sc : X.env.scope = sc
  ow : c.ow = m.ow
  calm : X.calm = true
  room : Room k X.A
  gd : X.A.guards = some []
  tk : Takes X c.W
  fns : ∀ (i : Nat) (n : Str) (ps : List Str), m.fns[i]? = some (n, ps) → ∃ fi f fd, c.g.fns[i]? = some fi ∧ fi.ps = ps ∧ X.mg n = some (.ref f) ∧ PySem.W.keepIn X.KW (.ref f) = true ∧
    FnG X.prog X.w X.KW X.mg X.base (L2.CX X.prog X.w) k f fd ps (spF X.KW c.CA (m.rn i) fi.sem ps.length) ∧ KBd X.K fd ps (m.kw i)
  cons : ∀ (i : Nat) (x : Str), m.cons[i]? = some x → ∃ d v u, c.g.cons[i]? = some (x, d) ∧ X.mg x = some u ∧ RelV v u ∧ ∀ H μ, Rep X.KW H μ d v [] []
  free : ∀ x ∈ freeNames, X.mg x = none
  mth : ∀ f ∈ m.mth, X.mg f.nm = some f.vl
  cls : ∀ y ∈ m.cls, 2 ≤ k ∧ ClsOk X.prog X.w X.K X.mg X.base c.CA y
  exm : ExmOk X.K c.CA m.base

section
variable {m : MC} {c : Cfg} {k : Nat} {sc : Scope} {X : Cx}
theorem XOk.vis (x : XOk m c k sc X) {y : Str} (h : visB sc y = true) : Vis X.env.scope y := by
  rw [x.sc]
  unfold visB at h
  split at h
  · exact .inl (by assumption)
  · exact .inr (.inl (by assumption))
  · exact .inr (.inr (by assumption))
  · cases h
theorem XOk.loc (x : XOk m c k sc X) {y : Str} (h : locB sc y = true) : Loc X.env.scope y := by
  rw [x.sc]
  unfold locB at h
  split at h
  · exact .inl (by assumption)
  · exact .inr (by assumption)
  · cases h
theorem XOk.gl (x : XOk m c k sc X) {y : Str} (h : glB sc y = true) : Gl X y := by
  show X.env.scope.names.lookup y = _
  rw [x.sc]
  unfold glB at h
  split at h
  · assumption
  · cases h
theorem plB_ok {y : Str} (h : plB y = true) : (y == ("__debug__" : Str)) = false ∧ (y == ("__classdict__" : Str)) = false := by
  unfold plB at h
  rw [Bool.and_eq_true, Bool.not_eq_true', Bool.not_eq_true'] at h
  exact h
theorem star_of {x : Expr} (h : plainX x = true) (es : List Expr) (env : PySem.Env) : starEach (x :: es) env = (false, eval x env) :: starEach es env := by
  cases x <;> first | rfl | (cases h; done)
theorem ix_of {x : Expr} (h : plainX x = true) : PlainIx x := by
  intro o i
  cases x <;> first | rfl | (cases h; done)
theorem mE_plain : ∀ {e : E} {x : Expr}, mE m e sc x = true → plainX x = true := by
  intro e x h
  cases x <;> first | rfl | skip
  · cases e <;> first | (simp [mE, mRev, mRg1, mRg2, mPopE, plainX] at h; done) | (rename_i o a; cases o <;> simp [mE, mOp1, mBits, mLenSet, mSortSet, mSortD, mMkK, mSumT, mRep, mDctI] at h; done) | (rename_i o a b; cases o <;> simp [mE, mOp2, mCnt, mDct1, mDctI2] at h; done)
  · cases e <;> first | (simp [mE, mRev, mRg1, mRg2, mPopE, plainX] at h; done) | (rename_i o a; cases o <;> simp [mE, mOp1, mBits, mLenSet, mSortSet, mSortD, mMkK, mSumT, mRep, mDctI] at h; done) | (rename_i o a b; cases o <;> simp [mE, mOp2, mCnt, mDct1, mDctI2] at h; done)
theorem mEs_star : ∀ {es : Es} {xs : List Expr}, mEs m es sc xs = true → ∀ (env : PySem.Env) (pos : Pos), (backTo pos (starEach xs env)).any (·.1) = false
  | .nil, [], _, _, _ => rfl
  | .cons e es, x :: xs, h, env, pos => by
    rw [mEs, Bool.and_eq_true] at h
    rw [star_of (mE_plain h.1)]
    show (false || (backTo pos (starEach xs env)).any (·.1)) = false
    rw [mEs_star h.2 env pos] <;> rfl
  | .nil, _ :: _, h, _, _ => by simp [mEs] at h
  | .cons _ _, [], h, _, _ => by simp [mEs] at h
end
end WT
end

section
set_option Elab.async false
set_option linter.all false
set_option maxRecDepth 100000
set_option autoImplicit false
/-! K6: an expression does what it is evaluated to. -/
namespace WT
open PySem PySem.Spec PyProof.Rows L2

def Snd (m : MC) (g : GE) (k : Nat) (e : E) (p : Pv) : Prop := ∀ (c : Cfg) (sc : Scope) (X : Cx) (x : Expr), c.g = g → XOk m c k sc X → mE m e sc x = true → PE X x (TEv c X.KW p (evE g e))
def SndT (m : MC) (g : GE) (k : Nat) (e : E) : Prop := ∀ (c : Cfg) (sc : Scope) (X : Cx) (x : Expr), c.g = g → XOk m c k sc X → mE m e sc x = true → tOk e = true → PT X x (TTv c X.KW (evC g e))
def SndA (m : MC) (g : GE) (k : Nat) (es : Es) (l : List Nat) : Prop := ∀ (c : Cfg) (sc : Scope) (X : Cx) (xs : List Expr), c.g = g → XOk m c k sc X → mEs m es sc xs = true →
  PA X xs (TAv c X.KW l (evEs g es)) ∧ ∀ kws : List Keyword, kwVals kws = xs → PK X kws (TAv c X.KW l (evEs g es))

section
variable {c : Cfg} {K : FW} {p q : Pv} {env : Env} {st st2 : Sto} {μ μ2 : List Addr} {G : Addr → Option Nat} {σ : St} {H H2 : Hp} {Q : VK} {d : D} {ii : List Nat}
theorem okE.out (h : okE c K (.new1 ii) env μ G σ H Q d st2) (I2 : SI K c.ow c.Ok env st2 μ2 G σ H2) (S2 : Step μ H μ2 H2) {B : Addr → Prop} (hB : ∀ a, B a → (G a = none ∨ ∃ i ∈ ii, G a = some i) ∧ a ∉ μ2 ∧ c.Ok a) : Out K H2 μ2 d B Q := by
  intro v H' t F n r tn fb
  have I3 : SI K c.ow c.Ok env st2 μ2 G σ H' := by
    rcases n with rfl | ⟨p, o, hp, rfl⟩
    · exact I2
    · exact I2.new hp
  have S3 : Step μ2 H2 μ2 H' := by
    rcases n with rfl | ⟨p, o, hp, rfl⟩
    · exact .refl
    · exact .new hp
  refine h v H' μ2 t F I3 (S2.trans S3) r ⟨fun a ha => ?_, fun a ha => (hB a (fb a ha)).1, fun a ha => ?_⟩
  · rw [if_pos (show (Pv.new1 ii).new = true from rfl)]
    exact ⟨S2.wasNone (tn a ha).1, (tn a ha).2⟩
  · rcases List.mem_append.mp ha with ha | ha
    · exact ⟨fun hm => (I2.gmu a hm).2 (tn a ha).1, I2.okn a (tn a ha).1⟩
    · exact (hB a (fb a ha)).2
theorem PO.nil : PO p G H μ c.Ok [] [] := ⟨fun _ h => by simp at h, fun _ h => by simp at h, fun _ h => by simp at h⟩
theorem okE.flat (h : okE c K p env μ G σ H Q d st2) (I2 : SI K c.ow c.Ok env st2 μ2 G σ H2) (S2 : Step μ H μ2 H2) {v : V} (r : Rep K H2 μ2 d v [] []) : Q v H2 := h v H2 μ2 [] [] I2 S2 r .nil
theorem Held.innr {G' : Addr → Option Nat} {v : V} {t F : List Addr} {H0 : Hp} (h : Held K c G p H0 d v t F μ H) : ∀ a ∈ F, (G a = none ∨ ∃ i ∈ p.inn, G a = some i) ∧ a ∉ μ ∧ c.Ok a := fun a ha => ⟨h.po.inn a ha, h.po.out a (List.mem_append_right _ ha)⟩
/-- the first of two: hand on its value, held -/
theorem TEv.fst {s : Env → Sto → R D} {f : D → Sto → R D} {R' : VK} (I : SI K c.ow c.Ok env st μ G σ H) (h : Fin (okE c K q env μ G σ H Q) (exE c K env μ G σ H) ((s env st).bind f))
    (k : ∀ x st1 v H1 μ1 t F, SI K c.ow c.Ok env st1 μ1 G σ H1 → Step μ H μ1 H1 → Held K c G p H x v t F μ1 H1 → Fin (okE c K q env μ G σ H Q) (exE c K env μ G σ H) (f x st1) → R' v H1) : TEv c K p s σ H R' := by
  rw [Fin.bind] at h
  exact ⟨env, st, μ, G, I, h.mono (fun x st1 _ hx v H1 μ1 t F I1 S1 r po => k x st1 v H1 μ1 t F I1 S1 ⟨r, po⟩ hx) fun _ _ _ hx => hx⟩
/-- a further one, from a later state -/
theorem TEv.nxt {s : Env → Sto → R D} {f : D → Sto → R D} {R' : VK} {μ1 : List Addr} {H1 : Hp} {st1 : Sto} (S1 : Step μ H μ1 H1) (I : SI K c.ow c.Ok env st1 μ1 G σ H1) (h : Fin (okE c K q env μ G σ H Q) (exE c K env μ G σ H) ((s env st1).bind f))
    (k : ∀ x st2 v H2 μ2 t F, SI K c.ow c.Ok env st2 μ2 G σ H2 → Step μ1 H1 μ2 H2 → Held K c G p H x v t F μ2 H2 → Fin (okE c K q env μ G σ H Q) (exE c K env μ G σ H) (f x st2) → R' v H2) : TEv c K p s σ H1 R' := by
  rw [Fin.bind] at h
  exact ⟨env, st1, μ1, G, I, h.mono (fun x st1 _ hx v H1 μ1 t F I1 S2 r po => k x st1 v H1 μ1 t F I1 S2 ⟨r, po.back S1⟩ hx) fun _ _ _ hx => hx.step S1⟩
/-- the last one, whose result is the whole's -/
theorem TEv.lst {s : Env → Sto → R D} {μ1 : List Addr} {H1 : Hp} {st1 : Sto} (S1 : Step μ H μ1 H1) (I : SI K c.ow c.Ok env st1 μ1 G σ H1) (h : Fin (okE c K q env μ G σ H Q) (exE c K env μ G σ H) (s env st1)) : TEv c K q s σ H1 Q :=
  ⟨env, st1, μ1, G, I, h.mono (fun x st2 _ hx v H2 μ2 t F I2 S2 r po => hx v H2 μ2 t F I2 (S1.trans S2) r (po.back S1)) fun _ _ _ hx => hx.step S1⟩
/-- a weaker knowledge -/
theorem PO.weak {t F : List Addr} (h : PO p G H μ c.Ok t F) (gd : ∀ a, G a ≠ none → H a ≠ none) (h1 : q.new = true → p.new = true) (h2 : ∀ i ∈ p.top, i ∈ q.top) (h3 : ∀ i ∈ p.inn, i ∈ q.inn) : PO q G H μ c.Ok t F := by
  refine ⟨fun a ha => ?_, fun a ha => (h.inn a ha).imp id fun ⟨i, hi, e⟩ => ⟨i, h3 i hi, e⟩, h.out⟩
  have z := h.top a ha
  by_cases hq : q.new = true
  · rw [if_pos hq]
    rw [if_pos (h1 hq)] at z
    exact z
  · rw [if_neg hq]
    split at z
    · refine .inl ?_
      cases e : G a with
      | none => rfl
      | some i => exact absurd z.1 (gd a (by rw [e]; simp))
    · exact z.imp id fun ⟨i, hi, e⟩ => ⟨i, h2 i hi, e⟩
theorem TEv.weak {s : Env → Sto → R D} (h1 : q.new = true → p.new = true) (h2 : ∀ i ∈ p.top, i ∈ q.top) (h3 : ∀ i ∈ p.inn, i ∈ q.inn) (h : TEv c K q s σ H Q) : TEv c K p s σ H Q := by
  obtain ⟨env, st, μ, G, I, h⟩ := h
  exact ⟨env, st, μ, G, I, h.mono (fun x st1 _ hx v H1 μ1 t F I1 S1 r po => hx v H1 μ1 t F I1 S1 r (po.weak I.gdom h1 h2 h3)) fun _ _ _ hx => hx⟩
end

section
variable {m : MC} {g : GE} {k : Nat} {a b e : E} {p q r : Pv}
theorem snd_var {i : Nat} : Snd m g k (.var i) (if m.ow i then ⟨false, [i], []⟩ else ⟨false, [], []⟩) := by
  intro c sc X x hg ok h
  cases x with
  | Name y pos =>
    simp only [mE, Bool.and_eq_true, decide_eq_true_eq] at h
    obtain ⟨⟨h1, h2⟩, h3⟩ := h
    obtain ⟨d1, d2⟩ := plB_ok h3
    refine (pe_var (by rw [ok.hN]; exact h1) (ok.vis h2) d1 d2).mono fun σ H Q hq => ?_
    obtain ⟨env, st, μ, G, I, hq⟩ := hq
    obtain ⟨d, e1, hq⟩ := Fin.ofO hq
    obtain ⟨v, t, F, e2, r, g1, g2, g3⟩ := I.slot i d e1
    rw [ok.ow] at g1
    refine ⟨v, e2, hq v H μ t F I .refl r ⟨fun a ha => ?_, fun a ha => .inl (g2 a ha), g3⟩⟩
    have z := g1 a ha
    cases ho : m.ow i with
    | true =>
      rw [ho] at z
      simp only [ite_true, Bool.false_eq_true, ite_false]
      exact .inr ⟨i, by simp, by simpa using z⟩
    | false =>
      rw [ho] at z
      simp only [Bool.false_eq_true, ite_false] at z ⊢
      exact .inl z
  | _ => simp [mE] at h
theorem snd_int {i : Int} : Snd m g k (.int i) (.new1 []) := by
  intro c sc X x hg ok h
  cases x with
  | Constant y j pos =>
    cases y with
    | int y =>
      simp only [mE, beq_iff_eq] at h
      subst h
      exact pe_int.mono fun σ H Q ⟨env, st, μ, G, I, hq⟩ => okE.flat (p := .new1 []) hq I .refl (.int _)
    | _ => simp [mE] at h
  | _ => simp [mE] at h
theorem snd_bl {i : Bool} : Snd m g k (.bl i) (.new1 []) := by
  intro c sc X x hg ok h
  cases x with
  | Constant y j pos =>
    cases y with
    | bool y =>
      simp only [mE, beq_iff_eq] at h
      subst h
      exact pe_bl.mono fun σ H Q ⟨env, st, μ, G, I, hq⟩ => okE.flat (p := .new1 []) hq I .refl (.bl _)
    | _ => simp [mE] at h
  | _ => simp [mE] at h
theorem snd_non : Snd m g k .non (.new1 []) := by
  intro c sc X x hg ok h
  cases x with
  | Constant y j pos =>
    cases y with
    | none => exact pe_non.mono fun σ H Q ⟨env, st, μ, G, I, hq⟩ => okE.flat (p := .new1 []) hq I .refl .non
    | _ => simp [mE] at h
  | _ => simp [mE] at h
theorem snd_str {i : Str} : Snd m g k (.str i) (.new1 []) := by
  intro c sc X x hg ok h
  cases x with
  | Constant y j pos =>
    cases y with
    | str y =>
      simp only [mE, beq_iff_eq] at h
      subst h
      exact pe_str.mono fun σ H Q ⟨env, st, μ, G, I, hq⟩ => okE.flat (p := .new1 []) hq I .refl (.str _)
    | _ => simp [mE] at h
  | _ => simp [mE] at h
theorem snd_glob {i : Nat} : Snd m g k (.glob i) (.new1 []) := by
  intro c sc X x hg ok h
  cases x with
  | Name y pos =>
    simp only [mE, Bool.and_eq_true, decide_eq_true_eq] at h
    obtain ⟨⟨h1, h2⟩, h3⟩ := h
    obtain ⟨d, v, u, e1, e2, r, rp⟩ := ok.cons i y h1
    refine (pe_glob (ok.gl h2) e2 r (plB_ok h3).1).mono fun σ H Q ⟨env, st, μ, G, I, hq⟩ => ?_
    subst hg
    rw [evE, e1] at hq
    exact okE.flat (p := .new1 []) hq I .refl (rp H μ)
  | _ => simp [mE] at h
theorem snd_bin {op : Operator} (ha : Snd m g k a p) (hb : Snd m g k b q) : Snd m g k (.bin op a b) (.new1 (p.inn ++ q.inn)) := by
  intro c sc X x hg ok h
  cases x with
  | BinOp x op' y pos =>
    simp only [mE, Bool.and_eq_true, decide_eq_true_eq] at h
    obtain ⟨⟨rfl, h1⟩, h2⟩ := h
    refine (pe_op (op_bin_v op) (ha c sc X x hg ok h1) (hb c sc X y hg ok h2)).mono fun σ H Q ⟨env, st, μ, G, I, hq⟩ => ?_
    rw [evE] at hq
    refine TEv.fst I hq fun x1 st1 v1 H1 μ1 t1 F1 I1 S1 r1 hq => ?_
    refine TEv.nxt S1 I1 hq fun x2 st2 v2 H2 μ2 t2 F2 I2 S2 r2 hq => ?_
    obtain ⟨z, e1, hq⟩ := Fin.ofO hq
    have r1 := r1.step S2
    exact ⟨_, _, _, _, _, _, _, _, r1.rep, r2.rep, e1, hq.out I2 (S1.trans S2) fun a ha => by
      rcases ha with ha | ha
      · obtain ⟨z1, z2⟩ := r1.innr (G' := G) a ha
        exact ⟨z1.imp id fun ⟨i, hi, e⟩ => ⟨i, List.mem_append_left _ hi, e⟩, z2⟩
      · obtain ⟨z1, z2⟩ := r2.innr (G' := G) a ha
        exact ⟨z1.imp id fun ⟨i, hi, e⟩ => ⟨i, List.mem_append_right _ hi, e⟩, z2⟩⟩
  | _ => simp [mE] at h
end
end WT
end

section
set_option Elab.async false
set_option linter.all false
set_option maxRecDepth 100000
set_option autoImplicit false
/-! K7: further expressions; tests; calls. -/
namespace WT
open PySem PySem.Spec PyProof.Rows L2

/-! ### a call with positional and named arguments -/
theorem kws_all {x : Str} : ∀ {kws : List Keyword} {xs : List Str} (pos : Pos) (env : PySem.Env), kwsM kws xs = true →
    (backToKw pos (keywordEach kws env)).all (·.1.isSome) = true ∧ (backToKw pos (keywordEach kws env)).any (·.1.isNone) = false ∧ (backToKw pos (keywordEach kws env)).filterMap (·.1) = xs
  | [], [], _, _, _ => ⟨rfl, rfl, rfl⟩
  | [], _ :: _, _, _, h => by simp [kwsM] at h
  | _ :: _, [], _, _, h => by simp [kwsM] at h
  | ⟨n, v, p⟩ :: ks, x :: xs, pos, env, h => by
    rw [kwsM, Bool.and_eq_true, decide_eq_true_eq] at h
    obtain ⟨h1, h2⟩ := h
    obtain ⟨e1, e2, e3⟩ := kws_all (x := x) pos env h2
    simp only at h1
    subst h1
    refine ⟨?_, ?_, ?_⟩
    · show (true && (backToKw pos (keywordEach ks env)).all (·.1.isSome)) = true
      rw [e1] <;> rfl
    · show (false || (backToKw pos (keywordEach ks env)).any (·.1.isNone)) = false
      rw [e2] <;> rfl
    · show x :: (backToKw pos (keywordEach ks env)).filterMap (·.1) = x :: xs
      rw [e3]
theorem Vals.perm {vs : List V} {us : List Value} (r : L2.Vals vs us) : ∀ ord : List Nat, L2.Vals (permL ord vs) (permL ord us)
  | [] => .nil
  | i :: ord => by
    have ih := Vals.perm r ord
    unfold permL at ih ⊢
    rw [List.filterMap_cons, List.filterMap_cons]
    have hl := r.length
    cases e : vs[i]? with
    | none =>
      have : us[i]? = none := List.getElem?_eq_none (by rw [← hl]; exact List.getElem?_eq_none_iff.mp e)
      rw [this]
      exact ih
    | some v =>
      obtain ⟨u, e2, rv⟩ := r.get e
      rw [e2]
      exact .cons rv ih
theorem Reps.perm {K : FW} {H : Hp} {μ : List Addr} {ds : List D} {vs : List V} {F : List Addr} (r : Reps K H μ ds vs F) : ∀ ord : List Nat, ∃ L, Reps K H μ (permL ord ds) (permL ord vs) L ∧ ∀ a ∈ L, a ∈ F
  | [] => ⟨[], .nil, fun _ h => by simp at h⟩
  | i :: ord => by
    obtain ⟨L, r1, h1⟩ := Reps.perm r ord
    unfold permL at r1 ⊢
    rw [List.filterMap_cons, List.filterMap_cons]
    cases e : ds[i]? with
    | none =>
      have : vs[i]? = none := List.getElem?_eq_none (by rw [← r.length]; exact List.getElem?_eq_none_iff.mp e)
      rw [this]
      exact ⟨L, r1, h1⟩
    | some d =>
      obtain ⟨v, t, G, e2, rd, hs⟩ := r.get e
      rw [e2]
      refine ⟨_, .cons rd r1, fun a ha => ?_⟩
      rcases List.mem_append.mp ha with ha | ha
      · exact hs a ha
      · exact h1 a ha
theorem call_bound {X : Cx} {CX : CXT} {k n : Nat} {f : Addr} {fd : FuncData} {ps ks : List Str} {ord : List Nat} {kw : List (Nat × List Str × List Nat)} {sp : Sp} {E : St → XK} {σ : St} {pins : List (Addr × Obj)} {Q : VK} {us ws : List Value} {vs zs : List V} {s2 : Shared} {H2 : Hp}
    (F : FnG X.prog X.w X.KW X.mg X.base CX k f fd ps sp) (hgd : X.A.guards = some []) (hr : Room k X.A) (hb : KBd X.KW fd ps kw) (hx : ∀ σ, PassesAt CX X σ (E σ)) (I2 : L2.Inv X pins σ H2 s2) (r1 : L2.Vals vs us) (r2 : L2.Vals zs ws) (l1 : vs.length = n) (l0 : zs.length = ks.length) (l2 : vs.length + (permL ord zs).length = ps.length) (l3 : (ks = [] ∧ ord = []) ∨ (n, ks, ord) ∈ kw) (hs : sp (vs ++ permL ord zs) H2 Q (E σ)) :
    wpAny (model X.prog X.w) X.A (call (.ref f) us (ks.zip ws)) (EP X pins σ Q) X.xe s2 := by
  have z1 : us.length = n := by rw [← r1.length]; exact l1
  have z3 : ws.length = ks.length := by rw [← r2.length]; exact l0
  have hbi : BindsTo s2 fd ⟨us, ks.zip ws⟩ (ps.zip (us ++ permL ord ws)) := by
    rcases l3 with ⟨rfl, rfl⟩ | l3
    · have e : permL ([] : List Nat) ws = [] := rfl
      have e2 : permL ([] : List Nat) zs = [] := rfl
      rw [e, List.append_nil]
      rw [e2, List.length_nil, Nat.add_zero] at l2
      exact (hb s2 us ws I2.kIn).1 (by rw [← r1.length]; exact l2)
    · exact (hb s2 us ws I2.kIn).2 _ l3 z1 z3
  refine wpAny_call (codeAny_mono (F.goes X.A X.stack s2 H2 ⟨us, ks.zip ws⟩ (us ++ permL ord ws) (vs ++ permL ord zs) Q (E σ) hgd hr I2.env0 hbi (r1.append (Vals.perm r2 ord)) hs) fun r s' hq => ?_)
  cases r with
  | error e => exact hx σ pins H2 s2 e s' I2 hq
  | ok fl =>
    cases fl with
    | ret u => exact I2.after hq
    | next => exact False.elim hq
    | brk => exact False.elim hq
    | cont => exact False.elim hq
section
variable {X : Cx} {CX : CXT} {k : Nat} {f : Addr} {fd : FuncData} {ps ks : List Str} {ord : List Nat} {kw : List (Nat × List Str × List Nat)} {sp : Sp} {E : St → XK} {x : Str} {p pos : Pos} {e : Expr} {es : List Expr} {kws : List Keyword} {t tk : TA}
theorem pe_callA (F : FnG X.prog X.w X.KW X.mg X.base CX k f fd ps sp) (hgd : X.A.guards = some []) (hr : Room k X.A) (hg : Gl X x) (hm : X.mg x = some (.ref f)) (hk : PySem.W.keepIn X.KW (.ref f) = true) (hb : KBd X.KW fd ps kw) (hx : ∀ σ, PassesAt CX X σ (E σ))
    (ha : PA X (e :: es) t) (hkw : PK X kws tk) (hst : ∀ pos, (backTo pos (starEach (e :: es) X.env)).any (·.1) = false) (h1 : starEach (e :: es) X.env = (false, eval e X.env) :: starEach es X.env)
    (hkn : kwsM kws ks = true) (hdb : (x == ("__debug__" : Str)) = false) :
    PE X (.Call (.Name x p) (e :: es) kws pos) (fun σ H Q => t σ H fun vs H1 => tk σ H1 fun zs H2 => vs.length = (e :: es).length ∧ zs.length = ks.length ∧ vs.length + (permL ord zs).length = ps.length ∧ ((ks = [] ∧ ord = []) ∨ ((e :: es).length, ks, ord) ∈ kw) ∧ sp (vs ++ permL ord zs) H2 Q (E σ)) := by
  refine ⟨fun pins s σ H Q I h => ?_⟩
  obtain ⟨e1, e2, e3⟩ := kws_all (x := x) pos X.env hkn
  refine wpAny_Call_Name_kw (ld_glob I hg hm ?_ hdb)
  refine PySem.W.callWith_KW (h₀ := X.base) I.ok.mod.kin hk e1 (thn (ha.run pos pins s σ H _ I h) fun us s1 ⟨vs, H1, I1, r1, q⟩ => ?_) (by rw [hst pos, e2] <;> rfl) h1
  refine thn (hkw.run pos pins s1 σ H1 _ I1 q) fun ws s2 ⟨zs, H2, I2, rz, l1, l0, l2, l3, q2⟩ => ⟨I2.kIn, ?_⟩
  rw [e3]
  exact call_bound F hgd hr hb hx I2 r1 rz l1 l0 l2 l3 q2
theorem pe_callA0 (F : FnG X.prog X.w X.KW X.mg X.base CX k f fd ps sp) (hgd : X.A.guards = some []) (hr : Room k X.A) (hg : Gl X x) (hm : X.mg x = some (.ref f)) (hk : PySem.W.keepIn X.KW (.ref f) = true) (hb : KBd X.KW fd ps kw) (hx : ∀ σ, PassesAt CX X σ (E σ))
    (hkw : PK X kws tk) (hkn : kwsM kws ks = true) (hdb : (x == ("__debug__" : Str)) = false) :
    PE X (.Call (.Name x p) [] kws pos) (fun σ H Q => tk σ H fun zs H2 => zs.length = ks.length ∧ (permL ord zs).length = ps.length ∧ ((ks = [] ∧ ord = []) ∨ (0, ks, ord) ∈ kw) ∧ sp (permL ord zs) H2 Q (E σ)) := by
  refine ⟨fun pins s σ H Q I h => ?_⟩
  obtain ⟨e1, e2, e3⟩ := kws_all (x := x) pos X.env hkn
  refine wpAny_Call_Name_kw (ld_glob I hg hm ?_ hdb)
  refine PySem.W.callWith_KW0 (h₀ := X.base) I.ok.mod.kin hk e1 ?_ (by rw [e2] <;> rfl)
  refine thn (hkw.run pos pins s σ H _ I h) fun ws s2 ⟨zs, H2, I2, rz, l0, l2, l3, q2⟩ => ⟨I2.kIn, ?_⟩
  rw [e3]
  exact call_bound (n := 0) (vs := []) (us := []) F hgd hr hb hx I2 .nil rz rfl l0 (by simpa using l2) l3 (by simpa using q2)
end

section
variable {m : MC} {g : GE} {k : Nat} {a b d e : E} {es kes : Es} {p q r : Pv} {l l' : List Nat}
theorem snd_neg (ha : Snd m g k a p) : Snd m g k (.neg a) (.new1 []) := by
  intro c sc X x hg ok h
  cases x with
  | UnaryOp op x pos =>
    cases op with
    | USub =>
      simp only [mE] at h
      refine (pe_un un_neg (ha c sc X x hg ok h)).mono fun σ H Q ⟨env, st, μ, G, I, hq⟩ => ?_
      rw [evE] at hq
      refine TEv.fst I hq fun x1 st1 v1 H1 μ1 t1 F1 I1 S1 r1 hq => ?_
      obtain ⟨r1, _⟩ := r1
      cases r1 <;> first | exact hq.elim | skip
      exact ⟨_, rfl, okE.flat (p := .new1 []) hq I1 S1 (.int _)⟩
    | _ => simp [mE] at h
  | _ => simp [mE] at h
theorem snd_not (ha : Snd m g k a p) : Snd m g k (.not a) (.new1 []) := by
  intro c sc X x hg ok h
  cases x with
  | UnaryOp op x pos =>
    cases op with
    | Not =>
      simp only [mE] at h
      refine (pe_notT (ha c sc X x hg ok h)).mono fun σ H Q ⟨env, st, μ, G, I, hq⟩ => ?_
      rw [evE] at hq
      refine TEv.fst I hq fun x1 st1 v1 H1 μ1 t1 F1 I1 S1 r1 hq => ?_
      obtain ⟨z, e1, hq⟩ := Fin.ofO hq
      obtain ⟨b, e2, rfl⟩ := Option.map_eq_some_iff.mp e1
      exact ⟨b, r1.rep.tru e2, okE.flat (p := .new1 []) hq I1 S1 (.bl _)⟩
    | _ => simp [mE] at h
  | _ => simp [mE] at h
theorem snd_cmp {op : CmpOp} (ha : Snd m g k a p) (hb : Snd m g k b q) : Snd m g k (.cmp op a b) (.new1 []) := by
  intro c sc X x hg ok h
  cases x with
  | Compare x ops ys pos =>
    match ops, ys, h with
    | [op'], [y], h =>
      simp only [mE, Bool.and_eq_true, decide_eq_true_eq, Bool.not_eq_true'] at h
      obtain ⟨⟨⟨rfl, h1⟩, h2⟩, h3⟩ := h
      refine (pe_cmpR (op_cmp_v ok.room.units op) (ha c sc X x hg ok h1) (hb c sc X y hg ok h2) h3).mono fun σ H Q ⟨env, st, μ, G, I, hq⟩ => ?_
      rw [evE] at hq
      refine TEv.fst I hq fun x1 st1 v1 H1 μ1 t1 F1 I1 S1 r1 hq => ?_
      refine TEv.nxt S1 I1 hq fun x2 st2 v2 H2 μ2 t2 F2 I2 S2 r2 hq => ?_
      obtain ⟨z, e1, hq⟩ := Fin.ofO hq
      obtain ⟨b, e2, rfl⟩ := Option.map_eq_some_iff.mp e1
      exact ⟨_, _, _, _, _, _, _, _, (r1.step S2).rep, r2.rep, e2, okE.flat (p := .new1 []) hq I2 (S1.trans S2) (.bl _)⟩
    | [], _, h => simp [mE] at h
    | _ :: _ :: _, _, h => simp [mE] at h
    | [_], [], h => simp [mE] at h
    | [_], _ :: _ :: _, h => simp [mE] at h
  | _ => simp [mE] at h
theorem cmp2_shape {x : Expr} {op op2 : CmpOp} {sc : Scope} (h : mE m (.cmp2 op op2 a b d) sc x = true) : ∃ y z w pos, x = .Compare y [op, op2] [z, w] pos ∧ mE m a sc y = true ∧ mE m b sc z = true ∧ mE m d sc w = true ∧ behindInMarks op2 w = false := by
  cases x with
  | Compare x ops ys pos =>
    match ops, ys, h with
    | [o1, o2], [y, z], h =>
      simp only [mE, Bool.and_eq_true, decide_eq_true_eq, Bool.not_eq_true'] at h
      obtain ⟨⟨⟨⟨⟨rfl, rfl⟩, h1⟩, h2⟩, h3⟩, h4⟩ := h
      exact ⟨_, _, _, _, rfl, h1, h2, h3, h4⟩
    | [], _, h => simp [mE] at h
    | [_], _, h => simp [mE] at h
    | _ :: _ :: _ :: _, _, h => simp [mE] at h
    | [_, _], [], h => simp [mE] at h
    | [_, _], [_], h => simp [mE] at h
    | [_, _], _ :: _ :: _ :: _, h => simp [mE] at h
  | _ => simp [mE] at h
theorem snd_cmp2 {op op2 : CmpOp} (ha : Snd m g k a p) (hb : Snd m g k b q) (hd : Snd m g k d r) : Snd m g k (.cmp2 op op2 a b d) (.new1 []) := by
  intro c sc X x hg ok h
  obtain ⟨y, z, w, pos, rfl, h1, h2, h3, h4⟩ := cmp2_shape h
  refine (pe_chain (op_cmp_v ok.room.units op) (op_cmp_v ok.room.units op2) (ha c sc X y hg ok h1) (hb c sc X z hg ok h2) (hd c sc X w hg ok h3) (show behindInMarks op2 w = false from h4)).mono fun σ H Q ⟨env, st, μ, G, I, hq⟩ => ?_
  rw [evE] at hq
  refine TEv.fst I hq fun x1 st1 v1 H1 μ1 t1 F1 I1 S1 r1 hq => ?_
  refine TEv.nxt S1 I1 hq fun x2 st2 v2 H2 μ2 t2 F2 I2 S2 r2 hq => ?_
  cases e1 : cmpD op x1 x2 with
  | none => rw [e1] at hq; exact hq.elim
  | some b =>
    rw [e1] at hq
    refine ⟨_, _, _, _, _, _, _, _, (r1.step S2).rep, r2.rep, e1, b, rfl, ?_⟩
    cases b with
    | false => exact okE.flat (p := .new1 []) hq I2 (S1.trans S2) (.bl _)
    | true =>
      simp only [ite_true]
      refine TEv.nxt (S1.trans S2) I2 hq fun x3 st3 v3 H3 μ3 t3 F3 I3 S3 r3 hq => ?_
      obtain ⟨z, e2, hq⟩ := Fin.ofO hq
      obtain ⟨b, e3, rfl⟩ := Option.map_eq_some_iff.mp e2
      exact ⟨_, _, _, _, _, _, _, _, (r2.step S3).rep, r3.rep, e3, okE.flat (p := .new1 []) hq I3 ((S1.trans S2).trans S3) (.bl _)⟩
theorem bool_shape {x : Expr} {sc : Scope} (h : mE m (.and a b) sc x = true) : ∃ y z r pos, x = .BoolOp .And (y :: z :: r) pos ∧ mE m a sc y = true ∧ ((r = [] ∧ mE m b sc z = true) ∨ (r ≠ [] ∧ mE m b sc (.BoolOp .And (z :: r) pos) = true)) := by
  cases x with
  | BoolOp op xs pos =>
    cases op with
    | And =>
      match xs, h with
      | [], h => simp [mE] at h
      | [_], h => simp [mE] at h
      | y :: z :: r, h =>
        refine ⟨y, z, r, pos, rfl, ?_⟩
        cases r with
        | nil =>
          simp only [mE, Bool.and_eq_true] at h
          exact ⟨h.1, .inl ⟨rfl, h.2⟩⟩
        | cons _ _ =>
          simp only [mE, Bool.and_eq_true] at h
          exact ⟨h.1, .inr ⟨by simp, h.2⟩⟩
    | Or => simp [mE] at h
  | _ => simp [mE] at h
theorem bool_shapeO {x : Expr} {sc : Scope} (h : mE m (.or a b) sc x = true) : ∃ y z r pos, x = .BoolOp .Or (y :: z :: r) pos ∧ mE m a sc y = true ∧ ((r = [] ∧ mE m b sc z = true) ∨ (r ≠ [] ∧ mE m b sc (.BoolOp .Or (z :: r) pos) = true)) := by
  cases x with
  | BoolOp op xs pos =>
    cases op with
    | Or =>
      match xs, h with
      | [], h => simp [mE] at h
      | [_], h => simp [mE] at h
      | y :: z :: r, h =>
        refine ⟨y, z, r, pos, rfl, ?_⟩
        cases r with
        | nil =>
          simp only [mE, Bool.and_eq_true] at h
          exact ⟨h.1, .inl ⟨rfl, h.2⟩⟩
        | cons _ _ =>
          simp only [mE, Bool.and_eq_true] at h
          exact ⟨h.1, .inr ⟨by simp, h.2⟩⟩
    | And => simp [mE] at h
  | _ => simp [mE] at h
theorem join_l {p q : Pv} : (p.join q).new = true → p.new = true := fun h => by
  rw [Pv.join, Bool.and_eq_true] at h
  exact h.1
theorem join_r {p q : Pv} : (p.join q).new = true → q.new = true := fun h => by
  rw [Pv.join, Bool.and_eq_true] at h
  exact h.2
theorem snd_and (ha : Snd m g k a p) (hb : Snd m g k b q) : Snd m g k (.and a b) (p.join q) := by
  intro c sc X x hg ok h
  obtain ⟨y, z, r, pos, rfl, h1, h2⟩ := bool_shape h
  have hB : PE X (.BoolOp .And (z :: r) pos) (TEv c X.KW q (evE g b)) := by
    rcases h2 with ⟨rfl, h2⟩ | ⟨_, h2⟩
    · exact pe_one (hb c sc X z hg ok h2)
    · exact hb c sc X _ hg ok h2
  refine (pe_andT (ha c sc X y hg ok h1) hB).mono fun σ H Q ⟨env, st, μ, G, I, hq⟩ => ?_
  rw [evE] at hq
  refine TEv.fst I hq fun x1 st1 v1 H1 μ1 t1 F1 I1 S1 r1 hq => ?_
  cases e1 : truD st1 x1 with
  | none => rw [e1] at hq; exact hq.elim
  | some b =>
    rw [e1] at hq
    refine ⟨b, r1.rep.tru e1, ?_⟩
    cases b with
    | false =>
      simp only [Bool.false_eq_true, if_false]
      exact hq v1 H1 μ1 t1 F1 I1 S1 r1.rep (r1.po.weak I.gdom join_l (fun _ h => List.mem_append_left _ h) fun _ h => List.mem_append_left _ h)
    | true =>
      simp only [if_true]
      exact (TEv.lst S1 I1 hq).weak join_r (fun _ h => List.mem_append_right _ h) fun _ h => List.mem_append_right _ h
theorem snd_or (ha : Snd m g k a p) (hb : Snd m g k b q) : Snd m g k (.or a b) (p.join q) := by
  intro c sc X x hg ok h
  obtain ⟨y, z, r, pos, rfl, h1, h2⟩ := bool_shapeO h
  have hB : PE X (.BoolOp .Or (z :: r) pos) (TEv c X.KW q (evE g b)) := by
    rcases h2 with ⟨rfl, h2⟩ | ⟨_, h2⟩
    · exact pe_one (hb c sc X z hg ok h2)
    · exact hb c sc X _ hg ok h2
  refine (pe_orT (ha c sc X y hg ok h1) hB).mono fun σ H Q ⟨env, st, μ, G, I, hq⟩ => ?_
  rw [evE] at hq
  refine TEv.fst I hq fun x1 st1 v1 H1 μ1 t1 F1 I1 S1 r1 hq => ?_
  cases e1 : truD st1 x1 with
  | none => rw [e1] at hq; exact hq.elim
  | some b =>
    rw [e1] at hq
    refine ⟨b, r1.rep.tru e1, ?_⟩
    cases b with
    | true =>
      simp only [if_true]
      exact hq v1 H1 μ1 t1 F1 I1 S1 r1.rep (r1.po.weak I.gdom join_l (fun _ h => List.mem_append_left _ h) fun _ h => List.mem_append_left _ h)
    | false =>
      simp only [Bool.false_eq_true, if_false]
      exact (TEv.lst S1 I1 hq).weak join_r (fun _ h => List.mem_append_right _ h) fun _ h => List.mem_append_right _ h
theorem TTv.fst {c : Cfg} {K : FW} {pr : Pv} {s : PySem.Env → Unit} {e : E} {f : D → Sto → R D} {env : Env} {st : Sto} {μ : List Addr} {G : Addr → Option Nat} {σ : St} {H : Hp} {Q : VK} {R' : Bool → Hp → Prop} (I : SI K c.ow c.Ok env st μ G σ H)
    (h : Fin (okE c K pr env μ G σ H Q) (exE c K env μ G σ H) ((evE g e env st).bind f))
    (k : ∀ x st1 b H1 μ1, truD st1 x = some b → SI K c.ow c.Ok env st1 μ1 G σ H1 → Step μ H μ1 H1 → Fin (okE c K pr env μ G σ H Q) (exE c K env μ G σ H) (f x st1) → R' b H1) (nb : ∀ x st1, truD st1 x = none → f x st1 = .bad) : TTv c K (evC g e) σ H R' := by
  rw [Fin.bind] at h
  refine ⟨env, st, μ, G, I, ?_⟩
  unfold evC
  rw [Fin.bind]
  refine h.mono (fun x st1 _ hx => ?_) fun _ _ _ hx => hx
  cases e1 : truD st1 x with
  | none => rw [nb x st1 e1] at hx; exact hx.elim
  | some b => exact fun H' μ' I' S' => k x st1 b H' μ' e1 I' S' hx
theorem snd_ife (hd : SndT m g k d) (ha : Snd m g k a p) (hb : Snd m g k b q) : Snd m g k (.ife d a b) (p.join q) := by
  intro c sc X x hg ok h
  cases x with
  | IfExp z x y pos =>
    simp only [mE, Bool.and_eq_true] at h
    obtain ⟨⟨⟨h1, h2⟩, h3⟩, h4⟩ := h
    refine (pe_ifExp (hd c sc X z hg ok h1 h2) (ha c sc X x hg ok h3) (hb c sc X y hg ok h4)).mono fun σ H Q ⟨env, st, μ, G, I, hq⟩ => ?_
    rw [evE] at hq
    refine TTv.fst (s := fun _ => ()) I hq (fun x1 st1 b H1 μ1 e1 I1 S1 hq => ?_) fun x st1 e1 => by simp only [e1]
    rw [e1] at hq
    cases b with
    | true =>
      simp only [if_true]
      exact (TEv.lst S1 I1 hq).weak join_l (fun _ h => List.mem_append_left _ h) fun _ h => List.mem_append_left _ h
    | false =>
      simp only [Bool.false_eq_true, if_false]
      exact (TEv.lst S1 I1 hq).weak join_r (fun _ h => List.mem_append_right _ h) fun _ h => List.mem_append_right _ h
  | _ => simp [mE] at h
end
end WT
end

section
set_option Elab.async false
set_option linter.all false
set_option maxRecDepth 100000
set_option autoImplicit false
/-! K8: displays, subscripts, isinstance, built-ins, calls, boxes; tests. -/
namespace WT
open PySem PySem.Spec PyProof.Rows L2

theorem SI.after {K : FW} {ow : Nat → Bool} {Ok : Addr → Prop} {env : Env} {st st' : Sto} {μ μ' : List Addr} {G : Addr → Option Nat} {σ : St} {H H' : Hp} (I : SI K ow Ok env st μ G σ H) (s : Step μ H μ' H') (b : BoxOk K H' μ' st') (l : μ'.length = st'.length) (nd : μ'.Nodup) :
    SI K ow Ok env st' μ' G σ H' where
  slot := fun i d e => by
    obtain ⟨v, t, F, e1, r, g1, g2, g3⟩ := I.slot i d e
    exact ⟨v, t, F, e1, r.step s fun a ha => (g3 a ha).1, g1, g2, fun a ha => ⟨s.notin (r.there a ha) (g3 a ha).1, (g3 a ha).2⟩⟩
  box := b
  muLen := l
  muNd := nd
  gmu := fun a ha => by
    obtain ⟨k, hk, e⟩ := List.mem_iff_getElem.mp ha
    obtain ⟨a', vs, e1, e2, _⟩ := b k _ (List.getElem?_eq_getElem (by rw [← l]; exact hk))
    rw [List.getElem?_eq_getElem hk] at e1
    cases e1
    refine ⟨?_, by rw [← e, e2]; simp⟩
    obtain ⟨ν, rfl, hν⟩ := s.ext
    rcases List.mem_append.mp ha with ha | ha
    · exact (I.gmu a ha).1
    · cases q : G a with
      | none => rfl
      | some i => exact absurd (hν a ha) (I.gdom a (by rw [q]; simp))
  gdom := fun a ha => s.dom a (I.gdom a ha)
  okn := fun a ha => I.okn a (s.wasNone ha)
  len := I.len

section
variable {m : MC} {g : GE} {k : Nat} {a b d e : E} {es kes : Es} {p q r : Pv} {l l' : List Nat}
theorem Held.all {c : Cfg} {K : FW} {G : Addr → Option Nat} {H0 : Hp} {d : D} {v : V} {t F μ : List Addr} {H : Hp} (h : Held K c G p H0 d v t F μ H) (gd : ∀ a, G a ≠ none → H0 a ≠ none) :
    ∀ a ∈ t ++ F, (G a = none ∨ ∃ i ∈ p.top ++ p.inn, G a = some i) ∧ a ∉ μ ∧ c.Ok a := fun a ha => by
  refine ⟨?_, h.po.out a ha⟩
  rcases List.mem_append.mp ha with ha | ha
  · have z := h.po.top a ha
    split at z
    · refine .inl ?_
      cases q : G a with
      | none => rfl
      | some i => exact absurd z.1 (gd a (by rw [q]; simp))
    · exact z.imp id fun ⟨i, hi, e⟩ => ⟨i, List.mem_append_left _ hi, e⟩
  · exact (h.po.inn a ha).imp id fun ⟨i, hi, e⟩ => ⟨i, List.mem_append_right _ hi, e⟩
theorem snda_nil : SndA m g k .nil [] := by
  intro c sc X xs hg ok h
  cases xs with
  | nil =>
    have key : ∀ σ H Q, TAv c X.KW [] (evEs g .nil) σ H Q → tNil σ H Q := fun σ H Q ⟨env, st, μ, G, I, hq⟩ => hq [] H μ [] I .refl .nil fun _ h => by simp at h
    refine ⟨pa_nil.mono key, fun kws hk => ?_⟩
    cases kws with
    | nil => exact ⟨fun pos pins s σ H Q I h => pk_nil.run pos pins s σ H Q I (key σ H Q h)⟩
    | cons _ _ => cases hk
  | cons _ _ => simp [mEs] at h
theorem snda_cons (he : Snd m g k e p) (hes : SndA m g k es l) : SndA m g k (.cons e es) (p.top ++ p.inn ++ l) := by
  intro c sc X xs hg ok h
  cases xs with
  | nil => simp [mEs] at h
  | cons x xs =>
    rw [mEs, Bool.and_eq_true] at h
    have key : ∀ σ H Q, TAv c X.KW (p.top ++ p.inn ++ l) (evEs g (.cons e es)) σ H Q → tCons (TEv c X.KW p (evE g e)) (TAv c X.KW l (evEs g es)) σ H Q := fun σ H Q ⟨env, st, μ, G, I, hq⟩ => by
      rw [evEs, Fin.bind] at hq
      refine ⟨env, st, μ, G, I, hq.mono (fun x1 st1 _ hx v1 H1 μ1 t1 F1 I1 S1 r1 po1 => ?_) fun _ _ _ hx => hx⟩
      rw [Fin.bind] at hx
      refine ⟨env, st1, μ1, G, I1, hx.mono (fun xs2 st2 _ hx vs H2 μ2 F2 I2 S2 r2 po2 => ?_) fun _ _ _ hx => hx.step S1⟩
      have h1 : Held X.KW c G p H x1 v1 t1 F1 μ1 H1 := ⟨r1, po1⟩
      have h2 := h1.step S2
      refine hx (v1 :: vs) H2 μ2 (t1 ++ F1 ++ F2) I2 (S1.trans S2) (.cons h2.rep r2) fun a ha => ?_
      rcases List.mem_append.mp ha with ha | ha
      · obtain ⟨z1, z2⟩ := h2.all I.gdom a ha
        exact ⟨z1.imp id fun ⟨i, hi, e⟩ => ⟨i, List.mem_append_left _ hi, e⟩, z2⟩
      · obtain ⟨z1, z2⟩ := po2 a ha
        exact ⟨z1.imp id fun ⟨i, hi, e⟩ => ⟨i, List.mem_append_right _ hi, e⟩, z2⟩
    refine ⟨(pa_cons (he c sc X x hg ok h.1) (hes c sc X xs hg ok h.2).1 (star_of (mE_plain h.1) xs X.env)).mono key, fun kws hk => ?_⟩
    cases kws with
    | nil => cases hk
    | cons kw kws =>
      obtain ⟨n, v, kp⟩ := kw
      rw [kwVals] at hk
      cases hk
      have pk := pk_cons (nm := n) (kpos := kp) (he c sc X v hg ok h.1) ((hes c sc X _ hg ok h.2).2 kws rfl)
      exact ⟨fun pos pins s σ H Q I h => pk.run pos pins s σ H Q I (key σ H Q h)⟩
/-- a list of expressions, at the head of a whole -/
theorem TAv.fst {c : Cfg} {K : FW} {s : Env → Sto → R (List D)} {f : List D → Sto → R D} {env : Env} {st : Sto} {μ : List Addr} {G : Addr → Option Nat} {σ : St} {H : Hp} {Q : VK} {R' : List V → Hp → Prop} (I : SI K c.ow c.Ok env st μ G σ H) (h : Fin (okE c K q env μ G σ H Q) (exE c K env μ G σ H) ((s env st).bind f))
    (k : ∀ xs st1 vs H1 μ1 F, s env st = .ok xs st1 → SI K c.ow c.Ok env st1 μ1 G σ H1 → Step μ H μ1 H1 → Reps K H1 μ1 xs vs F → (∀ a ∈ F, (G a = none ∨ ∃ i ∈ l, G a = some i) ∧ a ∉ μ1 ∧ c.Ok a) → Fin (okE c K q env μ G σ H Q) (exE c K env μ G σ H) (f xs st1) → R' vs H1) : TAv c K l s σ H R' := by
  rw [Fin.bind] at h
  exact ⟨env, st, μ, G, I, h.mono (fun xs st1 e hx vs H1 μ1 F I1 S1 r po => k xs st1 vs H1 μ1 F e I1 S1 r po hx) fun _ _ _ hx => hx⟩
theorem TAv.nxt {c : Cfg} {K : FW} {s : Env → Sto → R (List D)} {f : List D → Sto → R D} {env : Env} {st1 : Sto} {μ μ1 : List Addr} {G : Addr → Option Nat} {σ : St} {H H1 : Hp} {Q : VK} {R' : List V → Hp → Prop} (S1 : Step μ H μ1 H1) (I : SI K c.ow c.Ok env st1 μ1 G σ H1) (h : Fin (okE c K q env μ G σ H Q) (exE c K env μ G σ H) ((s env st1).bind f))
    (k : ∀ xs st2 vs H2 μ2 F, s env st1 = .ok xs st2 → SI K c.ow c.Ok env st2 μ2 G σ H2 → Step μ1 H1 μ2 H2 → Reps K H2 μ2 xs vs F → (∀ a ∈ F, (G a = none ∨ ∃ i ∈ l, G a = some i) ∧ a ∉ μ2 ∧ c.Ok a) → Fin (okE c K q env μ G σ H Q) (exE c K env μ G σ H) (f xs st2) → R' vs H2) : TAv c K l s σ H1 R' := by
  rw [Fin.bind] at h
  exact ⟨env, st1, μ1, G, I, h.mono (fun xs st1 e hx vs H1 μ1 F I1 S1 r po => k xs st1 vs H1 μ1 F e I1 S1 r po hx) fun _ _ _ hx => hx.step S1⟩
theorem snd_tup (h1 : SndA m g k es l) : Snd m g k (.tup es) (.new1 l) := by
  intro c sc X x hg ok h
  cases x with
  | Tuple xs j pos =>
    simp only [mE] at h
    refine (pe_tup (h1 c sc X xs hg ok h).1).mono fun σ H Q ⟨env, st, μ, G, I, hq⟩ => ?_
    rw [evE] at hq
    refine TAv.fst I hq fun ds st1 vs H1 μ1 F _ I1 S1 r1 po hq => ?_
    obtain ⟨z, e1, hq⟩ := Fin.ofO hq
    obtain ⟨hz, rfl⟩ := guardO_some e1
    exact ⟨by rw [← r1.length]; exact hz, fun p hp => (okE.out hq I1 S1 (B := fun a => a ∈ F) po).tup r1 (fun _ h => h) hp⟩
  | _ => simp [mE] at h
theorem snd_lst (h1 : SndA m g k es l) : Snd m g k (.lst es) (.new1 l) := by
  intro c sc X x hg ok h
  cases x with
  | List xs pos =>
    simp only [mE] at h
    refine (pe_lst (h1 c sc X xs hg ok h).1).mono fun σ H Q ⟨env, st, μ, G, I, hq⟩ => ?_
    rw [evE] at hq
    refine TAv.fst I hq fun ds st1 vs H1 μ1 F _ I1 S1 r1 po hq => ?_
    obtain ⟨z, e1, hq⟩ := Fin.ofO hq
    obtain ⟨hz, rfl⟩ := guardO_some e1
    exact ⟨by rw [← r1.length]; exact hz, fun p hp => (okE.out hq I1 S1 (B := fun a => a ∈ F) po).lst r1 (fun _ h => h) hp⟩
  | _ => simp [mE] at h
theorem idx_shape {x : Expr} {sc : Scope} (h : mE m (.idx a b) sc x = true) : ∃ y z pos, x = .Subscript y z pos ∧ mE m a sc y = true ∧ mE m b sc z = true := by
  cases x with
  | Subscript y z pos =>
    simp only [mE, Bool.and_eq_true] at h
    exact ⟨y, z, pos, rfl, h.1, h.2⟩
  | _ => simp [mE] at h
theorem SI.bx {K : FW} {ow : Nat → Bool} {Ok : Addr → Prop} {env : Env} {st : Sto} {μ : List Addr} {G : Addr → Option Nat} {σ : St} {H : Hp} (I : SI K ow Ok env st μ G σ H) : Bx K H μ st (fun _ => False) := fun k xs e => by
  obtain ⟨a, vs, e1, e2, r⟩ := I.box k xs e
  exact ⟨a, vs, [], e1, e2, r, fun _ h => by simp at h⟩
theorem snd_idx (ha : Snd m g k a p) (hb : Snd m g k b q) : Snd m g k (.idx a b) ⟨false, p.inn, p.inn⟩ := by
  intro c sc X x hg ok h
  obtain ⟨y, z, pos, rfl, h1, h2⟩ := idx_shape h
  refine (pe_ix (ix_v ok.room.units) (ha c sc X y hg ok h1) (hb c sc X z hg ok h2) (ix_of (mE_plain h2))).mono fun σ H Q ⟨env, st, μ, G, I, hq⟩ => ?_
  rw [evE] at hq
  refine TEv.fst I hq fun x1 st1 v1 H1 μ1 t1 F1 I1 S1 r1 hq => ?_
  refine TEv.nxt S1 I1 hq fun x2 st2 v2 H2 μ2 t2 F2 I2 S2 r2 hq => ?_
  obtain ⟨w, e1, hq⟩ := Fin.ofO hq
  have r1 := r1.step S2
  refine ⟨_, _, _, _, _, _, _, _, st2, _, r1.rep, r2.rep, I2.bx, e1, fun v t F r3 hin => ?_⟩
  have hz : ∀ a ∈ t ++ F, (G a = none ∨ ∃ i ∈ p.inn, G a = some i) ∧ a ∉ μ2 ∧ c.Ok a := fun a ha => by
    rcases hin a ha with ha | ha
    · exact r1.innr (G' := G) a ha
    · exact ha.elim
  exact hq v H2 μ2 t F I2 (S1.trans S2) r3 ⟨fun a ha => by
    simp only [Bool.false_eq_true, if_false]
    exact (hz a (List.mem_append_left _ ha)).1, fun a ha => (hz a (List.mem_append_right _ ha)).1, fun a ha => (hz a ha).2⟩

/-! ### slices -/
def TOv (c : Cfg) (K : FW) (s : Env → Sto → R (Option Int)) : TO := fun σ H Q => ∃ env st μ G, SI K c.ow c.Ok env st μ G σ H ∧ Fin (fun o st' => ∀ H' μ', SI K c.ow c.Ok env st' μ' G σ H' → Step μ H μ' H' → Q o H') (exE c K env μ G σ H) (s env st)
def SndO (m : MC) (g : GE) (k : Nat) (o : Eo) : Prop := ∀ (c : Cfg) (sc : Scope) (X : Cx) (x : Option Expr), c.g = g → XOk m c k sc X → mEo m o sc x = true → L2.PO X x (TOv c X.KW (evEo g o))
theorem sndo_no : SndO m g k .no := by
  intro c sc X x hg ok h
  cases x with
  | none => exact ⟨fun pins s σ H Q I ⟨env, st, μ, G, J, hq⟩ => po_none.run pins s σ H Q I (hq H μ J .refl)⟩
  | some _ => simp [mEo] at h
theorem sndo_yes (he : Snd m g k e p) : SndO m g k (.yes e) := by
  intro c sc X x hg ok h
  cases x with
  | none => simp [mEo] at h
  | some x =>
    rw [mEo] at h
    refine ⟨fun pins s σ H Q I ⟨env, st, μ, G, J, hq⟩ => (po_some (he c sc X x hg ok h)).run pins s σ H Q I ?_⟩
    rw [evEo, Fin.bind] at hq
    refine ⟨env, st, μ, G, J, hq.mono (fun x1 st1 _ hx v H1 μ1 t F I1 S1 r po => ?_) fun _ _ _ hx => hx⟩
    cases r <;> first | exact hx.elim | skip
    exact ⟨_, rfl, hx H1 μ1 I1 S1⟩
theorem TOv.nxt {c : Cfg} {K : FW} {s : Env → Sto → R (Option Int)} {f : Option Int → Sto → R D} {env : Env} {st1 : Sto} {μ μ1 : List Addr} {G : Addr → Option Nat} {σ : St} {H H1 : Hp} {Q : VK} {R' : Option Int → Hp → Prop} (S1 : Step μ H μ1 H1) (I : SI K c.ow c.Ok env st1 μ1 G σ H1) (h : Fin (okE c K q env μ G σ H Q) (exE c K env μ G σ H) ((s env st1).bind f))
    (k : ∀ o st2 H2 μ2, SI K c.ow c.Ok env st2 μ2 G σ H2 → Step μ1 H1 μ2 H2 → Fin (okE c K q env μ G σ H Q) (exE c K env μ G σ H) (f o st2) → R' o H2) : TOv c K s σ H1 R' := by
  rw [Fin.bind] at h
  exact ⟨env, st1, μ1, G, I, h.mono (fun o st2 _ hx H2 μ2 I2 S2 => k o st2 H2 μ2 I2 S2 hx) fun _ _ _ hx => hx.step S1⟩
theorem slice_shape {x : Expr} {sc : Scope} {lo hi : Eo} (h : mE m (.slice a lo hi) sc x = true) : ∃ y l u p2 pos, x = .Subscript y (.Slice l u none p2) pos ∧ mE m a sc y = true ∧ mEo m lo sc l = true ∧ mEo m hi sc u = true := by
  cases x with
  | Subscript y z pos =>
    cases z with
    | Slice l u s p2 =>
      cases s with
      | none =>
        simp only [mE, Bool.and_eq_true] at h
        exact ⟨y, l, u, p2, pos, rfl, h.1.1, h.1.2, h.2⟩
      | some _ => simp [mE] at h
    | _ => simp [mE] at h
  | _ => simp [mE] at h
theorem snd_slice {lo hi : Eo} (ha : Snd m g k a p) (hl : SndO m g k lo) (hh : SndO m g k hi) : Snd m g k (.slice a lo hi) (.new1 p.inn) := by
  intro c sc X x hg ok h
  obtain ⟨y, l, u, p2, pos, rfl, h1, h2, h3⟩ := slice_shape h
  refine (pe_slice sl_v (ha c sc X y hg ok h1) (hl c sc X l hg ok h2) (hh c sc X u hg ok h3)).mono fun σ H Q ⟨env, st, μ, G, I, hq⟩ => ?_
  rw [evE] at hq
  refine TEv.fst I hq fun x1 st1 v1 H1 μ1 t1 F1 I1 S1 r1 hq => ?_
  refine TOv.nxt S1 I1 hq fun o st2 H2 μ2 I2 S2 hq => ?_
  refine TOv.nxt (S1.trans S2) I2 hq fun o2 st3 H3 μ3 I3 S3 hq => ?_
  obtain ⟨w, e1, hq⟩ := Fin.ofO hq
  have r1 := (r1.step S2).step S3
  exact ⟨_, _, _, _, _, r1.rep, e1, hq.out I3 ((S1.trans S2).trans S3) fun a ha => r1.innr (G' := G) a ha⟩

/-! ### isinstance -/
theorem rev_shape {x : Expr} {sc : Scope} (h : mE m (.rev a) sc x = true) : ∃ y j p1 p2 p3 pos, x = .Subscript y (.Slice none none (some (.UnaryOp .USub (.Constant (.int 1) j p1) p2)) p3) pos ∧ mE m a sc y = true := by
  rw [mE] at h
  unfold mRev at h
  split at h
  · rw [Bool.and_eq_true, decide_eq_true_eq] at h
    obtain ⟨rfl, h⟩ := h
    exact ⟨_, _, _, _, _, _, rfl, h⟩
  · cases h
theorem snd_rev (ha : Snd m g k a p) : Snd m g k (.rev a) (.new1 p.inn) := by
  intro c sc X x hg ok h
  obtain ⟨y, j, p1, p2, p3, pos, rfl, h1⟩ := rev_shape h
  refine (pe_revA (ha c sc X y hg ok h1)).mono fun σ H Q ⟨env, st, μ, G, I, hq⟩ => ?_
  rw [evE] at hq
  refine TEv.fst I hq fun x1 st1 v1 H1 μ1 t1 F1 I1 S1 r1 hq => ?_
  obtain ⟨z, e1, hq⟩ := Fin.ofO hq
  have innr := r1.innr (G' := G)
  obtain ⟨rp, po⟩ := r1
  cases x1 <;> first | (cases e1; done) | skip
  · cases rp
    rename_i hs rs
    cases e1
    obtain ⟨L, h3, h4⟩ := rev_rep rs
    exact ⟨_, _, rfl, .inr ⟨hs, fun p hp => (okE.out hq I1 S1 (B := fun a => a ∈ F1) fun a ha => innr a ha).tup h3 h4 hp⟩⟩
  · cases rp
    rename_i hs rs
    cases e1
    obtain ⟨L, h3, h4⟩ := rev_rep rs
    exact ⟨_, _, rfl, .inl ⟨.inl (.inl hs), fun p hp => (okE.out hq I1 S1 (B := fun a => a ∈ F1) fun a ha => innr a ha).lst h3 h4 hp⟩⟩
theorem rg1_shape {x : Expr} {sc : Scope} {l : Bool} (h : mE m (.rg1 l b) sc x = true) : ∃ fp rp y p2 pos, x = .Call (.Name (rgNm l) fp) [.Call (.Name ("range" : Str) rp) [y] [] p2] [] pos ∧ glB sc (rgNm l) = true ∧ glB sc ("range" : Str) = true ∧ mE m b sc y = true := by
  rw [mE] at h
  unfold mRg1 at h
  split at h
  · simp only [Bool.and_eq_true, beq_iff_eq] at h
    obtain ⟨⟨⟨⟨rfl, h1⟩, rfl⟩, h2⟩, h3⟩ := h
    exact ⟨_, _, _, _, _, rfl, h1, h2, h3⟩
  · cases h
theorem rg2_shape {x : Expr} {sc : Scope} {l : Bool} (h : mE m (.rg2 l a b) sc x = true) : ∃ fp rp y z p2 pos, x = .Call (.Name (rgNm l) fp) [.Call (.Name ("range" : Str) rp) [y, z] [] p2] [] pos ∧ glB sc (rgNm l) = true ∧ glB sc ("range" : Str) = true ∧ mE m a sc y = true ∧ mE m b sc z = true := by
  rw [mE] at h
  unfold mRg2 at h
  split at h
  · simp only [Bool.and_eq_true, beq_iff_eq] at h
    obtain ⟨⟨⟨⟨⟨rfl, h1⟩, rfl⟩, h2⟩, h3⟩, h4⟩ := h
    exact ⟨_, _, _, _, _, _, rfl, h1, h2, h3, h4⟩
  · cases h
theorem reps_rg {K : FW} {H : Hp} {μ : List Addr} (a b : Int) : Reps K H μ (rgL a b) (rgV a b) [] := by
  unfold rgL rgV
  induction List.range (b - a).toNat with
  | nil => exact .nil
  | cons i l ih => exact .cons (.int _) ih
theorem snd_rg1 {l : Bool} (hb : Snd m g k b p) : Snd m g k (.rg1 l b) (.new1 []) := by
  intro c sc X x hg ok h
  obtain ⟨fp, rp, y, p2, pos, rfl, h1, h2, h3⟩ := rg1_shape h
  cases l with
  | false =>
    refine (pe_tupRg ok.calm (ok.gl h1) (ok.free _ (by decide +kernel)) (prg_1 (ok.gl h2) (ok.free _ (by decide +kernel)) (hb c sc X y hg ok h3) (star_of (mE_plain h3) _ _))).mono fun σ H Q ⟨env, st, μ, G, I, hq⟩ => ?_
    rw [evE] at hq
    refine TEv.fst I hq fun x1 st1 v1 H1 μ1 t1 F1 I1 S1 r1 hq => ?_
    obtain ⟨z, e1, hq⟩ := Fin.ofO hq
    obtain ⟨rp, po⟩ := r1
    cases x1 <;> first | (cases e1; done) | skip
    cases rp
    rw [rgD] at e1
    obtain ⟨hok, rfl⟩ := guardO_some e1
    exact ⟨_, rfl, hok, fun p hp => (okE.out hq I1 S1 (B := fun _ => False) fun _ h => h.elim).tup (reps_rg _ _) (fun _ h => by simp at h) hp⟩
  | true =>
    refine (pe_listRg ok.calm (ok.gl h1) (ok.free _ (by decide +kernel)) (prg_1 (ok.gl h2) (ok.free _ (by decide +kernel)) (hb c sc X y hg ok h3) (star_of (mE_plain h3) _ _))).mono fun σ H Q ⟨env, st, μ, G, I, hq⟩ => ?_
    rw [evE] at hq
    refine TEv.fst I hq fun x1 st1 v1 H1 μ1 t1 F1 I1 S1 r1 hq => ?_
    obtain ⟨z, e1, hq⟩ := Fin.ofO hq
    obtain ⟨rp, po⟩ := r1
    cases x1 <;> first | (cases e1; done) | skip
    cases rp
    rw [rgD] at e1
    obtain ⟨hok, rfl⟩ := guardO_some e1
    exact ⟨_, rfl, hok, fun p hp => (okE.out hq I1 S1 (B := fun _ => False) fun _ h => h.elim).lst (reps_rg _ _) (fun _ h => by simp at h) hp⟩
theorem snd_rg2 {l : Bool} (ha : Snd m g k a p) (hb : Snd m g k b q) : Snd m g k (.rg2 l a b) (.new1 []) := by
  intro c sc X x hg ok h
  obtain ⟨fp, rp, y, y2, p2, pos, rfl, h1, h2, h3, h4⟩ := rg2_shape h
  cases l with
  | false =>
    refine (pe_tupRg ok.calm (ok.gl h1) (ok.free _ (by decide +kernel)) (prg_2 (ok.gl h2) (ok.free _ (by decide +kernel)) (ha c sc X y hg ok h3) (hb c sc X y2 hg ok h4) (star_of (mE_plain h3) _ _) (star_of (mE_plain h4) _ _) (mEs_star (m := m) (sc := sc) (es := .cons b .nil) (xs := [y2]) (by simp [mEs, h4]) _ _))).mono fun σ H Q ⟨env, st, μ, G, I, hq⟩ => ?_
    rw [evE] at hq
    refine TEv.fst I hq fun x1 st1 v1 H1 μ1 t1 F1 I1 S1 r1 hq => ?_
    refine TEv.nxt S1 I1 hq fun x2 st2 v2 H2 μ2 t2 F2 I2 S2 r2 hq => ?_
    obtain ⟨z, e1, hq⟩ := Fin.ofO hq
    obtain ⟨rp, po⟩ := r1
    obtain ⟨rp2, po2⟩ := r2
    cases x1 <;> first | (cases e1; done) | skip
    cases x2 <;> first | (cases e1; done) | skip
    cases rp
    cases rp2
    rw [rgD] at e1
    obtain ⟨hok, rfl⟩ := guardO_some e1
    exact ⟨_, _, rfl, rfl, hok, fun p hp => (okE.out hq I2 (S1.trans S2) (B := fun _ => False) fun _ h => h.elim).tup (reps_rg _ _) (fun _ h => by simp at h) hp⟩
  | true =>
    refine (pe_listRg ok.calm (ok.gl h1) (ok.free _ (by decide +kernel)) (prg_2 (ok.gl h2) (ok.free _ (by decide +kernel)) (ha c sc X y hg ok h3) (hb c sc X y2 hg ok h4) (star_of (mE_plain h3) _ _) (star_of (mE_plain h4) _ _) (mEs_star (m := m) (sc := sc) (es := .cons b .nil) (xs := [y2]) (by simp [mEs, h4]) _ _))).mono fun σ H Q ⟨env, st, μ, G, I, hq⟩ => ?_
    rw [evE] at hq
    refine TEv.fst I hq fun x1 st1 v1 H1 μ1 t1 F1 I1 S1 r1 hq => ?_
    refine TEv.nxt S1 I1 hq fun x2 st2 v2 H2 μ2 t2 F2 I2 S2 r2 hq => ?_
    obtain ⟨z, e1, hq⟩ := Fin.ofO hq
    obtain ⟨rp, po⟩ := r1
    obtain ⟨rp2, po2⟩ := r2
    cases x1 <;> first | (cases e1; done) | skip
    cases x2 <;> first | (cases e1; done) | skip
    cases rp
    cases rp2
    rw [rgD] at e1
    obtain ⟨hok, rfl⟩ := guardO_some e1
    exact ⟨_, _, rfl, rfl, hok, fun p hp => (okE.out hq I2 (S1.trans S2) (B := fun _ => False) fun _ h => h.elim).lst (reps_rg _ _) (fun _ h => by simp at h) hp⟩
theorem boot_ty : ∀ t : Ty, bootBuiltins t.sname = some (.type t.nm) := by
  intro t
  cases t <;> decide +kernel
theorem ty_free : ∀ t : Ty, t.sname ∈ freeNames ∧ t.sname ≠ "__name__" ∧ (t.sname == ("__debug__" : Str)) = false := by
  intro t
  cases t <;> decide +kernel
def tTys : List Ty → TA := fun ts _ H Q => Q (ts.map fun t => V.ty t.nm) H
theorem pa_tys {c : Cfg} {sc : Scope} {X : Cx} (ok : XOk m c k sc X) : ∀ {ts : List Ty} {es : List Expr}, tysM ts es sc = true → PA X es (tTys ts)
  | [], [], _ => pa_nil.mono fun _ _ _ h => h
  | [], _ :: _, h => by simp [tysM] at h
  | t :: ts, [], h => by simp [tysM] at h
  | t :: ts, x :: es, h => by
    cases x with
    | Name y pos =>
      simp only [tysM, Bool.and_eq_true, beq_iff_eq] at h
      obtain ⟨⟨rfl, h1⟩, h2⟩ := h
      obtain ⟨f1, f2, f3⟩ := ty_free t
      exact (pa_cons (pe_bltn (v := .ty t.nm) (ok.gl h1) (ok.free _ f1) (boot_ty t) rfl f2 f3) (pa_tys ok h2)).mono fun σ H Q h => h
    | _ => simp [tysM] at h
theorem isi_shape {x : Expr} {sc : Scope} {ts : List Ty} {b : Bool} (h : mE m (.isi a ts b) sc x = true) : ∃ f y z fp pos, x = .Call (.Name f fp) [y, z] [] pos ∧ f = ("isinstance" : Str) ∧ glB sc f = true ∧ mE m a sc y = true ∧
    ((∃ t n np, z = .Name n np ∧ ts = [t] ∧ tysM [t] [.Name n np] sc = true) ∨ ∃ es j tp, z = .Tuple es j tp ∧ tysM ts es sc = true ∧ ts.length ≤ 100) := by
  cases x with
  | Call f args kws pos =>
    cases f with
    | Name f fp =>
      match args, kws, h with
      | [y, z], [], h =>
        cases b with
        | false =>
          cases z with
          | Name n np =>
            simp only [mE, Bool.and_eq_true, beq_iff_eq] at h
            obtain ⟨⟨⟨h1, h2⟩, h3⟩, h4⟩ := h
            match ts, h4 with
            | [], h4 => simp [tysM] at h4
            | [t], h4 => exact ⟨f, y, _, fp, pos, rfl, h1, h2, h3, .inl ⟨t, n, np, rfl, rfl, by simpa [tysM] using h4⟩⟩
            | _ :: _ :: _, h4 => simp [tysM] at h4
          | _ => simp [mE] at h
        | true =>
          cases z with
          | Tuple es j tp =>
            simp only [mE, Bool.and_eq_true, beq_iff_eq, decide_eq_true_eq] at h
            obtain ⟨⟨⟨⟨h1, h2⟩, h3⟩, h4⟩, h5⟩ := h
            exact ⟨f, y, _, fp, pos, rfl, h1, h2, h3, .inr ⟨es, j, tp, rfl, h4, h5⟩⟩
          | _ => simp [mE] at h
      | [], _, h => cases b <;> simp [mE] at h
      | [_], _, h => cases b <;> simp [mE] at h
      | _ :: _ :: _ :: _, _, h => cases b <;> simp [mE] at h
      | [_, _], _ :: _, h => cases b <;> simp [mE] at h
    | _ => cases b <;> simp [mE] at h
  | _ => cases b <;> simp [mE] at h
theorem paired_ty : ∀ ts : List Ty, Paired ClsV (ts.map fun t => V.ty t.nm) (ts.map fun t => Value.type t.nm)
  | [] => .nil
  | t :: ts => .cons (.ty _) (paired_ty ts)
theorem snd_isi {ts : List Ty} {tb : Bool} (ha : Snd m g k a p) : Snd m g k (.isi a ts tb) (.new1 []) := by
  intro c sc X x hg ok h
  obtain ⟨f, y, z, fp, pos, rfl, rfl, h2, h3, h4⟩ := isi_shape h
  have hfr : X.mg "isinstance" = none := ok.free _ (by decide +kernel)
  rcases h4 with ⟨t, n, np, rfl, rfl, h4⟩ | ⟨es, j, tp, rfl, h4, h5⟩
  · refine (pe_callB call_isi (ok.gl h2) hfr PyProof.Rows.boot_isinstance (pa_cons (ha c sc X y hg ok h3) (pa_tys ok h4) (star_of (mE_plain h3) _ _)) (by decide) (by decide) (star_of (mE_plain h3) _ _) rfl).mono fun σ H Q ⟨env, st, μ, G, I, hq⟩ => ?_
    rw [evE] at hq
    refine TEv.fst I hq fun x1 st1 v1 H1 μ1 t1 F1 I1 S1 r1 hq => ?_
    obtain ⟨w, e1, hq⟩ := Fin.ofO hq
    obtain ⟨b, e2, rfl⟩ := Option.map_eq_some_iff.mp e1
    obtain ⟨own, e3, rfl⟩ := Option.map_eq_some_iff.mp (show (tyD x1).map (fun own => [t].any fun t => own.contains t) = some b from e2)
    obtain ⟨a', e4⟩ := tyD_tyS e3
    refine ⟨v1, .ty t.nm, .type a', .type t.nm, _, rfl, .ty _, r1.rep.ty e4, ?_, okE.flat (p := .new1 []) hq I1 S1 (.bl _)⟩
    have z := kit_all x1 own a' e3 e4 t
    rw [show ([t].any fun t => own.contains t) = own.contains t by simp]
    exact kit_ty z
  · refine (pe_callB call_isiT (ok.gl h2) hfr PyProof.Rows.boot_isinstance (pa_cons (ha c sc X y hg ok h3) (pa_cons (pe_tup (pa_tys ok h4)) pa_nil) (star_of (mE_plain h3) _ _)) (by decide) (by decide) (star_of (mE_plain h3) _ _) rfl).mono fun σ H Q ⟨env, st, μ, G, I, hq⟩ => ?_
    rw [evE] at hq
    refine TEv.fst I hq fun x1 st1 v1 H1 μ1 t1 F1 I1 S1 r1 hq => ?_
    refine ⟨by rw [List.length_map, sizeLine_eq]; omega, fun pt hp => ?_⟩
    obtain ⟨w, e1, hq⟩ := Fin.ofO hq
    obtain ⟨b, e2, rfl⟩ := Option.map_eq_some_iff.mp e1
    obtain ⟨own, e3, rfl⟩ := Option.map_eq_some_iff.mp (show (tyD x1).map (fun own => ts.any fun t => own.contains t) = some b from e2)
    obtain ⟨a', e4⟩ := tyD_tyS e3
    have sn := Step.new (μ := μ1) (o := .tup (ts.map fun t => V.ty t.nm)) hp
    have r2 := r1.step sn
    exact ⟨v1, pt, _, .type a', _, _, rfl, upd_same, paired_ty ts, r2.rep.ty e4, kitAny_v (K := X.KW) e3 e4 ts, okE.flat (p := .new1 []) hq (I1.new hp) (S1.trans sn) (.bl _)⟩

/-! ### built-in functions -/
theorem bi_names : ∀ f : Bi, f.math = false → f.nm ∈ freeNames ∧ f.nm ≠ "__name__" ∧ bootBuiltins f.nm = some f.vl := by
  intro f hf
  cases f <;> first | (cases hf; done) | decide +kernel
theorem bi_dbg : ∀ f : Bi, (f.nm == ("__debug__" : Str)) = false := by
  intro f
  cases f <;> decide +kernel
theorem bi_shape {x : Expr} {sc : Scope} {f : Bi} (h : mE m (.bi f es) sc x = true) : ∃ n fp e r pos, x = .Call (.Name n fp) (e :: r) [] pos ∧ n = f.nm ∧ glB sc n = true ∧ mEs m es sc (e :: r) = true ∧ (f.math = false ∨ f ∈ m.mth) := by
  cases x with
  | Call n args kws pos =>
    cases n with
    | Name n fp =>
      match args, kws, h with
      | e :: r, [], h =>
        simp only [mE, Bool.and_eq_true, beq_iff_eq, Bool.or_eq_true, Bool.not_eq_true', decide_eq_true_eq] at h
        exact ⟨n, fp, e, r, pos, rfl, h.1.1.1, h.1.1.2, h.1.2, h.2⟩
      | [], _, h => simp [mE] at h
      | _ :: _, _ :: _, h => simp [mE] at h
    | _ => simp [mE] at h
  | _ => simp [mE] at h
theorem pe_bi {c : Cfg} {sc : Scope} {X : Cx} {f : Bi} {fp pos : Pos} {e : Expr} {r : List Expr} {t : TA} (ok : XOk m c k sc X) (hgl : glB sc f.nm = true) (hgc : f.math = false ∨ f ∈ m.mth) (ha : PA X (e :: r) t)
    (he : starEach (e :: r) X.env = (false, eval e X.env) :: starEach r X.env) (hpl : (backTo pos (starEach r X.env)).any (·.1) = false) : PE X (.Call (.Name f.nm fp) (e :: r) [] pos) (tCB (RBi X.KW f) t) := by
  by_cases hf : f.math = true
  · have hm := hgc.elim (fun z => absurd hf (by rw [z]; decide)) (ok.mth f)
    have h4 := bi_ok ok.calm f
    cases f <;> first | (cases hf; done) | exact pe_callBfun h4 (ok.gl hgl) hm ha (bi_dbg _) he hpl
  · have hf : f.math = false := by simpa using hf
    obtain ⟨h1, h2, h3⟩ := bi_names f hf
    have h4 := bi_ok ok.calm f
    cases hv : f.vl with
    | builtin id =>
      rw [hv] at h3 h4
      exact pe_callB h4 (ok.gl hgl) (ok.free _ h1) h3 ha h2 (bi_dbg _) he hpl
    | type T =>
      rw [hv] at h3 h4
      exact pe_callTy h4 (ok.gl hgl) (ok.free _ h1) h3 ha h2 (bi_dbg _) he hpl
    | _ => cases f <;> cases hv
theorem snd_bi {f : Bi} (h1 : SndA m g k es l) : Snd m g k (.bi f es) (.new1 l) := by
  intro c sc X x hg ok h
  obtain ⟨n, fp, e, r, pos, rfl, rfl, h2, h3, h4⟩ := bi_shape h
  have hs := mEs_star (m := m) h3 X.env pos
  obtain ⟨e1, es1, rfl, h5, h6⟩ : ∃ e1 es1, es = .cons e1 es1 ∧ mE m e1 sc e = true ∧ mEs m es1 sc r = true := by
    cases es with
    | nil => simp [mEs] at h3
    | cons e1 es1 =>
      rw [mEs, Bool.and_eq_true] at h3
      exact ⟨e1, es1, rfl, h3.1, h3.2⟩
  refine (pe_bi ok h2 h4 (h1 c sc X _ hg ok h3).1 (star_of (mE_plain h5) _ _) (mEs_star h6 _ _)).mono fun σ H Q ⟨env, st, μ, G, I, hq⟩ => ?_
  rw [evE] at hq
  refine TAv.fst I hq fun ds st1 vs H1 μ1 F _ I1 S1 r1 po hq => ?_
  obtain ⟨z, e1, hq⟩ := Fin.ofO hq
  exact ⟨_, _, _, st1, _, _, r1, I1.bx, e1, okE.out hq I1 S1 (B := fun a => a ∈ F) po⟩

/-! ### calls -/
theorem call_shape {x : Expr} {sc : Scope} {f : Nat} {ord : List Nat} (h : mE m (.call f es kes ord) sc x = true) : ∃ n fp xs kws pos ps, x = .Call (.Name n fp) xs kws pos ∧ m.fns[f]? = some (n, ps) ∧ glB sc n = true ∧ plB n = true ∧ mEs m es sc xs = true ∧ mEs m kes sc (kwVals kws) = true ∧ kwsM kws (kwNm kws) = true ∧ ((kwNm kws = [] ∧ ord = []) ∨ (xs.length, kwNm kws, ord) ∈ m.kw f) := by
  cases x with
  | Call n args kws pos =>
    cases n with
    | Name n fp =>
      simp only [mE] at h
      split at h
      · rename_i n' ps hf
        simp only [Bool.and_eq_true, beq_iff_eq, decide_eq_true_eq] at h
        obtain ⟨⟨⟨⟨⟨⟨rfl, h1⟩, h2⟩, h3⟩, h4⟩, h5⟩, h6⟩ := h
        exact ⟨n, fp, args, kws, pos, ps, rfl, hf, h1, h2, h3, h4, h5, h6.imp (fun z => ⟨by rw [List.isEmpty_iff.mp z.1]; rfl, z.2⟩) id⟩
      · cases h
    | _ => simp [mE] at h
  | _ => simp [mE] at h
theorem kw_len : ∀ {kws : List Keyword} {ks : List Str}, kwsM kws ks = true → (kwVals kws).length = ks.length
  | [], [], _ => rfl
  | [], _ :: _, h => by simp [kwsM] at h
  | _ :: _, [], h => by simp [kwsM] at h
  | k :: ks, x :: xs, h => by
    rw [kwsM, Bool.and_eq_true] at h
    rw [kwVals, List.length_cons, List.length_cons, kw_len h.2]
theorem evEs_len : ∀ {es : Es} {xs : List Expr} {sc : Scope} {env : Env} {st st1 : Sto} {ds : List D}, mEs m es sc xs = true → evEs g es env st = .ok ds st1 → ds.length = xs.length
  | .nil, [], _, _, _, _, _, _, e => by
    rw [evEs] at e
    cases e
    rfl
  | .nil, _ :: _, _, _, _, _, _, h, _ => by simp [mEs] at h
  | .cons _ _, [], _, _, _, _, _, h, _ => by simp [mEs] at h
  | .cons e es, x :: xs, sc, env, st, st1, ds, h, he => by
    rw [mEs, Bool.and_eq_true] at h
    rw [evEs] at he
    cases e1 : evE g e env st with
    | exn _ _ _ => rw [e1] at he; cases he
    | bad => rw [e1] at he; cases he
    | ok d s1 =>
      rw [e1, R.bind_ok] at he
      cases e2 : evEs g es env s1 with
      | exn _ _ _ => rw [e2] at he; cases he
      | bad => rw [e2] at he; cases he
      | ok ds2 s2 =>
        rw [e2, R.bind_ok] at he
        cases he
        rw [List.length_cons, List.length_cons, evEs_len h.2 e2]
theorem XR.mono {CA : Str → Option Addr} {K : FW} {H : Hp} {μ : List Addr} {Ok Ok' : Addr → Prop} {c : Str} {d : D} {cls : Value} {dd : Option Addr} (h : XR CA K H μ Ok c d cls dd) (k : ∀ a, Ok a → Ok' a) : XR CA K H μ Ok' c d cls dd := by
  obtain ⟨C, dx, v, t, F, e1, e2, e3, e4, r, po⟩ := h
  exact ⟨C, dx, v, t, F, e1, e2, e3, e4, r, fun a ha => ⟨(po a ha).1, k a (po a ha).2⟩⟩
theorem snd_call {f : Nat} {ord : List Nat} (h1 : SndA m g k es l) (h2 : SndA m g k kes l') : Snd m g k (.call f es kes ord) ⟨m.rn f, l ++ l', l ++ l'⟩ := by
  intro c sc X x hg ok h
  obtain ⟨n, fp, xs, kws, pos, ps, rfl, hf, h3, h4, h5, h6, h7, h8⟩ := call_shape h
  obtain ⟨fi, fa, fd, ef, eps, hm, hk, F, hb⟩ := ok.fns f n ps hf
  -- behind the arguments
  have fin0 : ∀ {env : Env} {st st2 : Sto} {μ μ2 : List Addr} {G : Addr → Option Nat} {σ : St} {H H2 : Hp} {Q : VK} {ds1 ds2 : List D} {vs1 vs2 : List V} {F1 F2 : List Addr}, SI X.KW c.ow c.Ok env st μ G σ H → SI X.KW c.ow c.Ok env st2 μ2 G σ H2 → Step μ H μ2 H2 → Reps X.KW H2 μ2 ds1 vs1 F1 → Reps X.KW H2 μ2 ds2 vs2 F2 →
      (∀ a ∈ F1, (G a = none ∨ ∃ i ∈ l, G a = some i) ∧ a ∉ μ2 ∧ c.Ok a) → (∀ a ∈ F2, (G a = none ∨ ∃ i ∈ l', G a = some i) ∧ a ∉ μ2 ∧ c.Ok a) →
      Fin (okE c X.KW ⟨m.rn f, l ++ l', l ++ l'⟩ env μ G σ H Q) (exE c X.KW env μ G σ H) (match g.fns[f]? with | some fi => if ds1.length + ds2.length = fi.ps.length then fi.sem (ds1 ++ ds2) st2 else .bad | none => .bad) →
      vs1.length + vs2.length = ps.length ∧ spF X.KW c.CA (m.rn f) fi.sem ps.length (vs1 ++ vs2) H2 Q (WE c.W σ) := fun {env st st2 μ μ2 G σ H H2 Q ds1 ds2 vs1 vs2 F1 F2} I I2 S2 r1 r2 po1 po2 hq => by
    subst hg
    rw [ef] at hq
    simp only at hq
    split at hq
    · rename_i hl
      rw [eps] at hl
      obtain ⟨L, r3, hL⟩ := r1.append r2
      have po : ∀ a ∈ L, (G a = none ∨ ∃ i ∈ l ++ l', G a = some i) ∧ a ∉ μ2 ∧ c.Ok a := fun a ha => by
        rcases hL a ha with ha | ha
        · obtain ⟨z1, z2⟩ := po1 a ha
          exact ⟨z1.imp id fun ⟨i, hi, e⟩ => ⟨i, List.mem_append_left _ hi, e⟩, z2⟩
        · obtain ⟨z1, z2⟩ := po2 a ha
          exact ⟨z1.imp id fun ⟨i, hi, e⟩ => ⟨i, List.mem_append_right _ hi, e⟩, z2⟩
      have gof : ∀ a, H2 a = none → G a = none := fun a ha => by
        cases q : G a with
        | none => rfl
        | some i => exact absurd ha (I2.gdom a (by rw [q]; simp))
      refine ⟨by rw [← r1.length, ← r2.length]; exact hl, ds1 ++ ds2, st2, μ2, L, fun a => (G a = none ∨ ∃ i ∈ l ++ l', G a = some i) ∧ c.Ok a, by rw [List.length_append]; exact hl, r3, I2.box, I2.muLen, I2.muNd, fun a ha => ⟨(po a ha).2.1, (po a ha).1, (po a ha).2.2⟩, ?_⟩
      refine hq.mono (fun d st' _ hx v H' μ' t F' S' b' l'' nd' r' po' nw => ?_) fun x d st' hx cls dd H' μ' S' b' l'' nd' xr => ?_
      · have I3 := I2.after S' b' l'' nd'
        have all : ∀ a ∈ t ++ F', (G a = none ∨ ∃ i ∈ l ++ l', G a = some i) ∧ a ∉ μ' ∧ c.Ok a := fun a ha => by
          obtain ⟨z1, z2⟩ := po' a ha
          rcases z2 with z2 | z2
          · exact ⟨.inl (gof a z2), z1, I2.okn a z2⟩
          · exact ⟨z2.1, z1, z2.2⟩
        refine hx v H' μ' t F' I3 (S2.trans S') r' ⟨fun a ha => ?_, fun a ha => (all a (List.mem_append_right _ ha)).1, fun a ha => (all a ha).2⟩
        simp only
        split
        · rename_i hn
          exact ⟨S2.wasNone (nw hn a ha).1, (nw hn a ha).2⟩
        · exact (all a (List.mem_append_left _ ha)).1
      · exact hx cls dd H' μ' (I2.after S' b' l'' nd') (S2.trans S') (xr.mono fun a ha => ha.elim (fun z => I2.okn a z) fun z => z.2)
    · exact hq.elim
  have fin : ∀ {env : Env} {st st2 : Sto} {μ μ2 : List Addr} {G : Addr → Option Nat} {σ : St} {H H2 : Hp} {Q : VK} {ds1 ds2 : List D} {vs1 vs2 : List V} {F1 F2 : List Addr}, SI X.KW c.ow c.Ok env st μ G σ H → SI X.KW c.ow c.Ok env st2 μ2 G σ H2 → Step μ H μ2 H2 → Reps X.KW H2 μ2 ds1 vs1 F1 → Reps X.KW H2 μ2 ds2 vs2 F2 →
      (∀ a ∈ F1, (G a = none ∨ ∃ i ∈ l, G a = some i) ∧ a ∉ μ2 ∧ c.Ok a) → (∀ a ∈ F2, (G a = none ∨ ∃ i ∈ l', G a = some i) ∧ a ∉ μ2 ∧ c.Ok a) →
      Fin (okE c X.KW ⟨m.rn f, l ++ l', l ++ l'⟩ env μ G σ H Q) (exE c X.KW env μ G σ H) (match g.fns[f]? with | some fi => if ds1.length + (permL ord ds2).length = fi.ps.length then fi.sem (ds1 ++ permL ord ds2) st2 else .bad | none => .bad) →
      vs1.length + (permL ord vs2).length = ps.length ∧ spF X.KW c.CA (m.rn f) fi.sem ps.length (vs1 ++ permL ord vs2) H2 Q (WE c.W σ) := fun I I2 S2 r1 r2 po1 po2 hq => by
    obtain ⟨F2', r2', hF2⟩ := r2.perm ord
    exact fin0 I I2 S2 r1 r2' po1 (fun a ha => po2 a (hF2 a ha)) hq
  cases xs with
  | nil =>
    have ee : es = .nil := by
      cases es with
      | nil => rfl
      | cons _ _ => simp [mEs] at h5
    subst ee
    refine (pe_callA0 (ord := ord) F ok.gd ok.room (ok.gl h3) hm hk hb (fun σ => passAt ok.tk σ) ((h2 c sc X _ hg ok h6).2 kws rfl) h7 (plB_ok h4).1).mono fun σ H Q ⟨env, st, μ, G, I, hq⟩ => ?_
    rw [evE, evEs, R.bind_ok] at hq
    refine TAv.fst I hq fun ds st1 vs H1 μ1 F1 e1 I1 S1 r1 po hq => ?_
    obtain ⟨z1, z2⟩ := fin (ds1 := []) (vs1 := []) (F1 := []) I I1 S1 .nil r1 (fun _ h => by simp at h) po hq
    exact ⟨by rw [← r1.length, evEs_len h6 e1]; exact kw_len h7, by simpa using z1, h8, by simpa using z2⟩
  | cons x xs =>
    have h9 : starEach (x :: xs) X.env = (false, eval x X.env) :: starEach xs X.env := by
      cases es with
      | nil => simp [mEs] at h5
      | cons e1 es1 =>
        rw [mEs, Bool.and_eq_true] at h5
        exact star_of (mE_plain h5.1) _ _
    refine (pe_callA (ord := ord) F ok.gd ok.room (ok.gl h3) hm hk hb (fun σ => passAt ok.tk σ) (h1 c sc X _ hg ok h5).1 ((h2 c sc X _ hg ok h6).2 kws rfl) (fun pos => mEs_star h5 _ _) h9 h7 (plB_ok h4).1).mono fun σ H Q ⟨env, st, μ, G, I, hq⟩ => ?_
    rw [evE] at hq
    refine TAv.fst I hq fun ds st1 vs H1 μ1 F1 e1 I1 S1 r1 po hq => ?_
    refine TAv.nxt S1 I1 hq fun ds2 st2 vs2 H2 μ2 F2 e2 I2 S2 r2 po2 hq => ?_
    obtain ⟨z1, z2⟩ := fin I I2 (S1.trans S2) (r1.step S2 fun a ha => (po a ha).2.1) r2 (fun a ha => ⟨(po a ha).1, S2.notin (r1.there a ha) (po a ha).2.1, (po a ha).2.2⟩) po2 hq
    exact ⟨by rw [← r1.length]; exact evEs_len h5 e1, by rw [← r2.length, evEs_len h6 e2]; exact kw_len h7, z1, h8, z2⟩

/-! ### boxes -/
theorem snd_box (he : Snd m g k e p) (hn : p.new = true) : Snd m g k (.box e) (.new1 []) := by
  intro c sc X x hg ok h
  have h1 : mE m e sc x = true := by
    have : (mE m e sc x && plainX x) = true := by
      rw [← h]
      cases x <;> simp [mE]
    rw [Bool.and_eq_true] at this
    exact this.1
  refine (he c sc X x hg ok h1).mono fun σ H Q ⟨env, st, μ, G, I, hq⟩ => ?_
  rw [evE] at hq
  refine TEv.fst I hq fun x1 st1 v1 H1 μ1 t1 F1 I1 S1 r1 hq => ?_
  obtain ⟨r, po⟩ := r1
  cases r <;> first | exact hq.elim | skip
  rename_i a vs ds e1 r
  simp only at hq
  split at hq
  · rename_i hn2
    have hF := Reps.noL r hn2
    subst hF
    have ht := po.top a (by simp)
    rw [if_pos hn] at ht
    have ha : a ∉ μ1 := (po.out a (by simp)).1
    have S2 : Step μ H (μ1 ++ [a]) H1 := ⟨S1.keep, S1.tups, S1.frzs, S1.dom, by
      obtain ⟨ν, rfl, hν⟩ := S1.ext
      refine ⟨ν ++ [a], by simp, fun b hb => ?_⟩
      rcases List.mem_append.mp hb with hb | hb
      · exact hν b hb
      · rw [List.mem_singleton.mp hb]; exact ht.1⟩
    refine hq (.ref a) H1 (μ1 ++ [a]) [] [] (I.after S2 (fun k' xs' e' => ?_) (by rw [List.length_append, List.length_append, I1.muLen] <;> rfl) ?_) S2 (.ref ?_) .nil
    · by_cases hk : k' < st1.length
      · rw [List.getElem?_append_left hk] at e'
        obtain ⟨a', vs', e2, e3, r2⟩ := I1.box k' xs' e'
        exact ⟨a', vs', by rw [List.getElem?_append_left (by rw [I1.muLen]; exact hk)]; exact e2, e3, Reps.moreMu r2⟩
      · rw [List.getElem?_append_right (by omega)] at e'
        have hk2 : k' - st1.length = 0 := by
          cases z : k' - st1.length with
          | zero => rfl
          | succ n => rw [z] at e'; simp at e'
        rw [hk2] at e'
        cases e'
        refine ⟨a, vs, ?_, e1, Reps.moreMu r⟩
        rw [List.getElem?_append_right (by rw [I1.muLen]; omega), I1.muLen, hk2] <;> rfl
    · rw [List.nodup_append]
      exact ⟨I1.muNd, by simp, fun b hb d hd => by
        rw [List.mem_singleton.mp hd]
        intro z
        exact ha (by rw [← z]; exact hb)⟩
    · rw [List.getElem?_append_right (by rw [I1.muLen]; omega), I1.muLen, Nat.sub_self] <;> rfl
  · exact hq.elim
end
end WT
end

section
set_option Elab.async false
set_option linter.all false
set_option maxRecDepth 100000
set_option autoImplicit false
/-! K9: tests. -/
namespace WT
open PySem PySem.Spec PyProof.Rows L2

def plainT : Expr → Bool
  | .Compare _ _ _ _ => false
  | .BoolOp _ _ _ => false
  | .UnaryOp .Not _ _ => false
  | .IfExp _ _ _ _ => false
  | _ => true
theorem isTrue_of {x : Expr} (h : plainT x = true) (env : PySem.Env) : ∀ whole, isTrue x env whole = (do let v ← whole; standAt x.pos; holding [v] (truthy v)) := by
  intro whole
  cases x with
  | UnaryOp op _ _ => cases op <;> first | rfl | (cases h; done)
  | _ => first | rfl | (cases h; done)
theorem _root_.L2.PT.pw {X : Cx} {op : BoolOp} {es : List Expr} {pos : Pos} {t : TT} (h : PT X (.BoolOp op es pos) t) : PW X (.BoolOp op es pos) t := ⟨fun _ pins s σ H Q I q => h.run pins s σ H Q I q⟩
section
variable {m : MC} {g : GE} {k : Nat} {a b d e : E} {es kes : Es} {p q r : Pv}
theorem sndt_val (he : Snd m g k e p) (hp : ∀ sc x, mE m e sc x = true → plainT x = true) : SndT m g k e := by
  intro c sc X x hg ok h ht
  refine (pt_truth (he c sc X x hg ok h) (isTrue_of (hp sc x h) X.env)).mono fun σ H Q ⟨env, st, μ, G, I, hq⟩ => ?_
  unfold evC at hq
  rw [Fin.bind] at hq
  exact ⟨env, st, μ, G, I, hq.mono (fun x1 st1 _ hx v H1 μ1 t F I1 S1 r po => by
    obtain ⟨b, e1, hx⟩ := Fin.ofO hx
    exact ⟨b, r.tru e1, hx H1 μ1 I1 S1⟩) fun _ _ _ hx => hx⟩
theorem evC_not {env : Env} {st : Sto} : evC g (.not a) env st = (evC g a env st).bind fun b st1 => .ok (!b) st1 := by
  unfold evC
  rw [evE]
  cases evE g a env st with
  | ok x st1 =>
    simp only [R.bind_ok]
    cases truD st1 x with
    | none => rfl
    | some b => cases b <;> rfl
  | exn _ _ _ => rfl
  | bad => rfl
theorem evC_and {env : Env} {st : Sto} : evC g (.and a b) env st = (evC g a env st).bind fun k st1 => if k = true then evC g b env st1 else .ok false st1 := by
  unfold evC
  rw [evE]
  cases evE g a env st with
  | ok x st1 =>
    simp only [R.bind_ok]
    cases e1 : truD st1 x with
    | none => rfl
    | some b => cases b <;> simp [e1]
  | exn _ _ _ => rfl
  | bad => rfl
theorem evC_or {env : Env} {st : Sto} : evC g (.or a b) env st = (evC g a env st).bind fun k st1 => if k = true then .ok true st1 else evC g b env st1 := by
  unfold evC
  rw [evE]
  cases evE g a env st with
  | ok x st1 =>
    simp only [R.bind_ok]
    cases e1 : truD st1 x with
    | none => rfl
    | some b => cases b <;> simp [e1]
  | exn _ _ _ => rfl
  | bad => rfl
theorem sndt_not (ha : SndT m g k a) : SndT m g k (.not a) := by
  intro c sc X x hg ok h ht
  cases x with
  | UnaryOp op x pos =>
    cases op with
    | Not =>
      simp only [mE] at h
      refine (pt_not (ha c sc X x hg ok h (by simpa [tOk] using ht))).mono fun σ H Q ⟨env, st, μ, G, I, hq⟩ => ?_
      rw [evC_not, Fin.bind] at hq
      exact ⟨env, st, μ, G, I, hq.mono (fun b st1 _ hx H1 μ1 I1 S1 => hx H1 μ1 I1 S1) fun _ _ _ hx => hx⟩
    | _ => simp [mE] at h
  | _ => simp [mE] at h
theorem sndt_and (ha : SndT m g k a) (hb : SndT m g k b) : SndT m g k (.and a b) := by
  intro c sc X x hg ok h ht
  rw [tOk, Bool.and_eq_true] at ht
  obtain ⟨y, z, r, pos, rfl, h1, h2⟩ := bool_shape h
  have hB : PW X (.BoolOp .And (z :: r) pos) (TTv c X.KW (evC g b)) := by
    rcases h2 with ⟨rfl, h2⟩ | ⟨_, h2⟩
    · exact pw_and1 (hb c sc X z hg ok h2 ht.2)
    · exact (hb c sc X _ hg ok h2 ht.2).pw
  refine (pw_and (ha c sc X y hg ok h1 ht.1) hB).pt.mono fun σ H Q ⟨env, st, μ, G, I, hq⟩ => ?_
  rw [evC_and, Fin.bind] at hq
  refine ⟨env, st, μ, G, I, hq.mono (fun b st1 _ hx H1 μ1 I1 S1 => ?_) fun _ _ _ hx => hx⟩
  cases b with
  | false => exact hx H1 μ1 I1 S1
  | true => exact ⟨env, st1, μ1, G, I1, Fin.mono hx (fun b st2 _ hy H2 μ2 I2 S2 => hy H2 μ2 I2 (S1.trans S2)) fun _ _ _ hx => hx.step S1⟩
theorem sndt_or (ha : SndT m g k a) (hb : SndT m g k b) : SndT m g k (.or a b) := by
  intro c sc X x hg ok h ht
  rw [tOk, Bool.and_eq_true] at ht
  obtain ⟨y, z, r, pos, rfl, h1, h2⟩ := bool_shapeO h
  have hB : PW X (.BoolOp .Or (z :: r) pos) (TTv c X.KW (evC g b)) := by
    rcases h2 with ⟨rfl, h2⟩ | ⟨_, h2⟩
    · exact pw_or1 (hb c sc X z hg ok h2 ht.2)
    · exact (hb c sc X _ hg ok h2 ht.2).pw
  refine (pw_or (ha c sc X y hg ok h1 ht.1) hB).pt.mono fun σ H Q ⟨env, st, μ, G, I, hq⟩ => ?_
  rw [evC_or, Fin.bind] at hq
  refine ⟨env, st, μ, G, I, hq.mono (fun b st1 _ hx H1 μ1 I1 S1 => ?_) fun _ _ _ hx => hx⟩
  cases b with
  | true => exact hx H1 μ1 I1 S1
  | false => exact ⟨env, st1, μ1, G, I1, Fin.mono hx (fun b st2 _ hy H2 μ2 I2 S2 => hy H2 μ2 I2 (S1.trans S2)) fun _ _ _ hx => hx.step S1⟩
theorem okT.of {c : Cfg} {K : FW} {env : Env} {μ : List Addr} {G : Addr → Option Nat} {σ : St} {H : Hp} {Q : Bool → Hp → Prop} {r : R Bool} (h : Fin (okT c K env μ G σ H Q) (exE c K env μ G σ H) r) :
    Fin (okE c K (.new1 []) env μ G σ H fun v H' => ∃ b, v = .bl b ∧ Q b H') (exE c K env μ G σ H) (r.bind fun b st => .ok (.bl b) st) := by
  rw [Fin.bind]
  exact h.mono (fun b st _ hx v H1 μ1 t F I1 S1 r po => by
    cases r
    exact ⟨b, rfl, hx H1 μ1 I1 S1⟩) fun _ _ _ hx => hx
theorem evC_val {env : Env} {st : Sto} (h : ∀ x st1, evE g e env st = .ok x st1 → ∃ b, x = .bl b) : ((evC g e env st).bind fun b st1 => R.ok (D.bl b) st1) = evE g e env st := by
  unfold evC
  cases e1 : evE g e env st with
  | bad => rfl
  | exn _ _ _ => rfl
  | ok x st1 =>
    obtain ⟨b, rfl⟩ := h x st1 e1
    cases b <;> rfl
/-- a comparison as a test: what it says as a value -/
theorem pt_cmp_of {c : Cfg} {X : Cx} {x : Expr} {t : TE} (hp : PT X x (tTest t)) (hm : ∀ σ H Q, TEv c X.KW (.new1 []) (evE g e) σ H Q → t σ H Q) (hv : ∀ env st x st1, evE g e env st = .ok x st1 → ∃ b, x = .bl b) : PT X x (TTv c X.KW (evC g e)) := by
  refine hp.mono fun σ H Q ⟨env, st, μ, G, I, hq⟩ => ?_
  exact hm σ H _ ⟨env, st, μ, G, I, by rw [← evC_val (hv env st)]; exact okT.of hq⟩
theorem R.bind_eq {α β : Type} {r : R α} {f : α → Sto → R β} {y : β} {st : Sto} (h : r.bind f = .ok y st) : ∃ x st1, r = .ok x st1 ∧ f x st1 = .ok y st := by
  cases r with
  | ok x st1 => exact ⟨x, st1, rfl, h⟩
  | exn _ _ _ => cases h
  | bad => cases h
theorem R.ofO_eq {α : Type} {o : Option α} {y : α} {st st1 : Sto} (h : R.ofO st1 o = .ok y st) : o = some y ∧ st1 = st := by
  cases o with
  | none => cases h
  | some a => cases h; exact ⟨rfl, rfl⟩
theorem sndt_cmp {op : CmpOp} (ha : Snd m g k a p) (hb : Snd m g k b q) : SndT m g k (.cmp op a b) := by
  intro c sc X x hg ok h ht
  cases x with
  | Compare x ops ys pos =>
    match ops, ys, h with
    | [op'], [y], h =>
      simp only [mE, Bool.and_eq_true, decide_eq_true_eq, Bool.not_eq_true'] at h
      obtain ⟨⟨⟨rfl, h1⟩, h2⟩, h3⟩ := h
      refine pt_cmp_of (pt_cmpR (op_cmp_v ok.room.units op) (ha c sc X x hg ok h1) (hb c sc X y hg ok h2) h3) (fun σ H Q ⟨env, st, μ, G, I, hq⟩ => ?_) fun env st x st1 e => ?_
      · rw [evE] at hq
        refine TEv.fst I hq fun x1 st1 v1 H1 μ1 t1 F1 I1 S1 r1 hq => ?_
        refine TEv.nxt S1 I1 hq fun x2 st2 v2 H2 μ2 t2 F2 I2 S2 r2 hq => ?_
        obtain ⟨z, e1, hq⟩ := Fin.ofO hq
        obtain ⟨b, e2, rfl⟩ := Option.map_eq_some_iff.mp e1
        exact ⟨_, _, _, _, _, _, _, _, (r1.step S2).rep, r2.rep, e2, okE.flat (p := .new1 []) hq I2 (S1.trans S2) (.bl _)⟩
      · rw [evE] at e
        obtain ⟨_, _, _, e⟩ := R.bind_eq e
        obtain ⟨_, _, _, e⟩ := R.bind_eq e
        obtain ⟨b, e2, rfl⟩ := Option.map_eq_some_iff.mp (R.ofO_eq e).1
        exact ⟨b, rfl⟩
    | [], _, h => simp [mE] at h
    | _ :: _ :: _, _, h => simp [mE] at h
    | [_], [], h => simp [mE] at h
    | [_], _ :: _ :: _, h => simp [mE] at h
  | _ => simp [mE] at h
theorem sndt_cmp2 {op op2 : CmpOp} (ha : Snd m g k a p) (hb : Snd m g k b q) (hd : Snd m g k d r) : SndT m g k (.cmp2 op op2 a b d) := by
  intro c sc X x hg ok h ht
  obtain ⟨y, z, w, pos, rfl, h1, h2, h3, h4⟩ := cmp2_shape h
  refine pt_cmp_of (pt_chain (op_cmp_v ok.room.units op) (op_cmp_v ok.room.units op2) (ha c sc X y hg ok h1) (hb c sc X z hg ok h2) (hd c sc X w hg ok h3) (show behindInMarks op2 w = false from h4)) (fun σ H Q ⟨env, st, μ, G, I, hq⟩ => ?_) fun env st x st1 e => ?_
  · rw [evE] at hq
    refine TEv.fst I hq fun x1 st1 v1 H1 μ1 t1 F1 I1 S1 r1 hq => ?_
    refine TEv.nxt S1 I1 hq fun x2 st2 v2 H2 μ2 t2 F2 I2 S2 r2 hq => ?_
    cases e1 : cmpD op x1 x2 with
    | none => rw [e1] at hq; exact hq.elim
    | some b =>
      rw [e1] at hq
      refine ⟨_, _, _, _, _, _, _, _, (r1.step S2).rep, r2.rep, e1, b, rfl, ?_⟩
      cases b with
      | false => exact okE.flat (p := .new1 []) hq I2 (S1.trans S2) (.bl _)
      | true =>
        simp only [ite_true]
        refine TEv.nxt (S1.trans S2) I2 hq fun x3 st3 v3 H3 μ3 t3 F3 I3 S3 r3 hq => ?_
        obtain ⟨z, e2, hq⟩ := Fin.ofO hq
        obtain ⟨b, e3, rfl⟩ := Option.map_eq_some_iff.mp e2
        exact ⟨_, _, _, _, _, _, _, _, (r2.step S3).rep, r3.rep, e3, okE.flat (p := .new1 []) hq I3 ((S1.trans S2).trans S3) (.bl _)⟩
  · rw [evE] at e
    obtain ⟨x1, _, _, e⟩ := R.bind_eq e
    obtain ⟨x2, _, _, e⟩ := R.bind_eq e
    cases e1 : cmpD op x1 x2 with
    | none => rw [e1] at e; cases e
    | some b =>
      rw [e1] at e
      cases b with
      | false => cases e; exact ⟨_, rfl⟩
      | true =>
        obtain ⟨_, _, _, e⟩ := R.bind_eq e
        obtain ⟨b, e2, rfl⟩ := Option.map_eq_some_iff.mp (R.ofO_eq e).1
        exact ⟨b, rfl⟩
end
end WT
end

section
set_option Elab.async false
set_option linter.all false
set_option maxRecDepth 100000
set_option autoImplicit false
/-! K10: what is walked. -/
namespace WT
open PySem PySem.Spec PyProof.Rows L2

section
variable {K : FW} {H H' H1 H2 : Hp} {μ μ' μ1 μ2 : List Addr} {L L' : Addr → Prop}
/-- a step that keeps the lists of L -/
structure SL (L : Addr → Prop) (μ : List Addr) (H : Hp) (μ' : List Addr) (H' : Hp) : Prop where
  keep : ∀ a o, H a = some o → a ∉ μ → L a → H' a = some o
  tups : ∀ a xs, H a = some (.tup xs) → H' a = some (.tup xs)
  frzs : ∀ a o u, H a = some (.frz o u) → H' a = some (.frz o u)
  dom : ∀ a, H a ≠ none → H' a ≠ none
  ext : ∃ ν, μ' = μ ++ ν ∧ ∀ a ∈ ν, H a = none
theorem Step.sl (s : Step μ H μ' H') : SL L μ H μ' H' := ⟨fun a o h n _ => s.keep a o h n, s.tups, s.frzs, s.dom, s.ext⟩
theorem SL.refl : SL L μ H μ H := Step.refl.sl
theorem SL.notin (s : SL L μ H μ' H') {a : Addr} (h : H a ≠ none) (n : a ∉ μ) : a ∉ μ' := by
  obtain ⟨ν, rfl, hν⟩ := s.ext
  intro z
  rcases List.mem_append.mp z with z | z
  · exact n z
  · exact h (hν a z)
theorem SL.trans (s : SL L μ H μ1 H1) (r : SL L' μ1 H1 μ2 H2) (hL : ∀ a, H a ≠ none → a ∉ μ → L a → L' a) : SL L μ H μ2 H2 where
  keep := fun a o h n l => r.keep a o (s.keep a o h n l) (s.notin (by rw [h]; simp) n) (hL a (by rw [h]; simp) n l)
  tups := fun a xs h => r.tups a xs (s.tups a xs h)
  frzs := fun a o u h => r.frzs a o u (s.frzs a o u h)
  dom := fun a h => r.dom a (s.dom a h)
  ext := by
    obtain ⟨ν, rfl, hν⟩ := s.ext
    obtain ⟨ν', rfl, hν'⟩ := r.ext
    refine ⟨ν ++ ν', by simp, fun a h => ?_⟩
    rcases List.mem_append.mp h with h | h
    · exact hν a h
    · cases e : H a with
      | none => rfl
      | some o => exact absurd (hν' a h) (s.dom a (by rw [e]; simp))
theorem SL.weak (s : SL L μ H μ' H') (h : ∀ a, L' a → L a) : SL L' μ H μ' H' := ⟨fun a o e n l => s.keep a o e n (h a l), s.tups, s.frzs, s.dom, s.ext⟩
theorem SL.wasNone (s : SL L μ H μ' H') {a : Addr} (h : H' a = none) : H a = none := by
  cases e : H a with
  | none => rfl
  | some o => exact absurd h (s.dom a (by rw [e]; simp))
theorem SqT.sl {a : Addr} {vs : List V} (h : SqT K H a vs) (s : SL L μ H μ' H') : SqT K H' a vs := by
  rcases h with (h | ⟨o, h⟩) | h
  · exact .inl (.inl (s.tups _ _ h))
  · exact .inl (.inr ⟨o, s.frzs _ _ _ h⟩)
  · exact .inr h
theorem Fz.sl {a : Addr} {ns : List Int} (h : Fz K H a ns) (s : SL L μ H μ' H') : Fz K H' a ns := by
  rcases h with ⟨o, h⟩ | h
  · exact .inl ⟨o, s.frzs _ _ _ h⟩
  · exact .inr h
mutual
theorem Rep.sl : ∀ {d : D} {v : V} {t F : List Addr}, Rep K H μ d v t F → SL L μ H μ' H' → (∀ a ∈ t ++ F, a ∉ μ ∧ L a) → Rep K H' μ' d v t F
  | _, _, _, _, .non, _, _ => .non
  | _, _, _, _, .bl b, _, _ => .bl b
  | _, _, _, _, .int b, _, _ => .int b
  | _, _, _, _, .str b, _, _ => .str b
  | _, _, _, _, .tup e r, s, n => .tup (SqT.sl e s) (Reps.sl r s fun a h => n a (by simpa using h))
  | _, _, _, _, .lst e r, s, n => .lst (s.keep _ _ e (n _ (by simp)).1 (n _ (by simp)).2) (Reps.sl r s fun a h => n a (by simp [h]))
  | _, _, _, _, .frz e, s, _ => .frz (Fz.sl e s)
  | _, _, _, _, .dT e h1 h2 h3 h4 h5 r hF, s, n => .dT (s.keep _ _ e (n _ (by simp)).1 (n _ (by simp)).2) h1 h2 h3 (h4.mono fun _ _ z => SqT.sl z s) h5 (Reps.sl r s fun a h => by rw [hF] at h; simp at h) hF
  | _, _, _, _, .dK e h1 h2 r hF, s, n => .dK (s.keep _ _ e (n _ (by simp)).1 (n _ (by simp)).2) h1 h2 (Reps.sl r s fun a h => by rw [hF] at h; simp at h) hF
  | _, _, _, _, .exc e1 e2 r, s, n => .exc (s.keep _ _ e1 (n _ (by simp)).1 (n _ (by simp)).2) (s.keep _ _ e2 (n _ (by simp)).1 (n _ (by simp)).2) (Rep.sl r s fun a h => n a (by
      rcases List.mem_append.mp h with h | h <;> simp [h]))
  | _, _, _, _, .ref e, s, _ => .ref (by
      obtain ⟨ν, rfl, _⟩ := s.ext
      rw [List.getElem?_append_left (List.getElem?_eq_some_iff.mp e).1]
      exact e)
theorem Reps.sl : ∀ {ds : List D} {vs : List V} {F : List Addr}, Reps K H μ ds vs F → SL L μ H μ' H' → (∀ a ∈ F, a ∉ μ ∧ L a) → Reps K H' μ' ds vs F
  | _, _, _, .nil, _, _ => .nil
  | _, _, _, .cons r t, s, n => .cons (Rep.sl r s fun a h => n a (List.mem_append_left _ h)) (Reps.sl t s fun a h => n a (List.mem_append_right _ h))
end
theorem SL.new {p : Addr} {o : HO} (h : H p = none) : SL L μ H μ (upd H p o) := (Step.new h).sl
end

/-- an iterator walks xs: L are its lists, l says whose the items' lists may be -/
structure Wk (K : FW) (ok : Addr → Prop) (G : Addr → Option Nat) (l : List Nat) (J : L2.It) (xs : List D) (L : List Addr) (μ1 : List Addr) (H1 : Hp) : Prop where
  there : ∀ a ∈ L, H1 a ≠ none ∧ a ∉ μ1
  stop : ∀ μ H i, SL (· ∈ L) μ1 H1 μ H → xs.length ≤ i → J.stop i H
  go : ∀ μ H i x, SL (· ∈ L) μ1 H1 μ H → xs[i]? = some x → J.go i H ∧ ∀ v H', J.yld i H v H' → New1 H H' ∧ ∃ t F, Rep K H' μ x v t F ∧ ∀ a ∈ t ++ F, a ∈ L ∧ (G a = none ∨ ∃ i ∈ l, G a = some i) ∧ ok a
def okI (c : Cfg) (K : FW) (l lt : List Nat) (env : Env) (μ : List Addr) (G : Addr → Option Nat) (σ : St) (H : Hp) (R : L2.It → Hp → Prop) : List D → Sto → Prop := fun xs st' =>
  ∀ J H' μ' L, SI K c.ow c.Ok env st' μ' G σ H' → Step μ H μ' H' → Wk K c.Ok G l J xs L μ' H' → (∀ a ∈ L, (G a = none ∨ ∃ i ∈ lt, G a = some i) ∧ c.Ok a) → R J H'
def TIv (c : Cfg) (K : FW) (l lt : List Nat) (s : Env → Sto → WT.R (List D)) : TI := fun σ H R => ∃ env st μ G, SI K c.ow c.Ok env st μ G σ H ∧ Fin (okI c K l lt env μ G σ H R) (exE c K env μ G σ H) (s env st)
def itP : WT.It → Bool
  | .enum _ => true
  | .items _ => true
  | .zip _ _ => true
  | _ => false
def SndI (m : MC) (g : GE) (k : Nat) (it : WT.It) (l lt : List Nat) : Prop := ∀ (c : Cfg) (sc : Scope) (X : Cx) (tg x : Expr), c.g = g → XOk m c k sc X → mIt m it sc x = true → (itP it = true → ∃ elts kk tpos, tg = .Tuple elts kk tpos) → PI X tg x (TIv c X.KW l lt (evIt g it))
theorem _root_.L2.PI.mono {X : Cx} {tg e : Expr} {t t' : TI} (h : PI X tg e t) (m : ∀ σ H Q, t' σ H Q → t σ H Q) : PI X tg e t' := ⟨fun pins s σ H Q I q => h.run pins s σ H Q I (m σ H Q q)⟩

/-! ### the walkers -/
section
variable {K : FW} {ok : Addr → Prop} {G : Addr → Option Nat} {l : List Nat} {xs ys : List D} {vs ws : List V} {F F' : List Addr} {μ1 : List Addr} {H1 : Hp} {a b : Addr}
theorem Wk.mu {J : L2.It} {L : List Addr} (w : Wk K ok G l J xs L μ1 H1) {μ : List Addr} {H : Hp} (s : SL (· ∈ L) μ1 H1 μ H) : ∀ a ∈ L, a ∉ μ := fun a ha => s.notin (w.there a ha).1 (w.there a ha).2
theorem wk_list (h : H1 a = some (.lst vs)) (r : Reps K H1 μ1 xs vs F) (n : ∀ b ∈ a :: F, b ∉ μ1) (hF : ∀ b ∈ F, (G b = none ∨ ∃ i ∈ l, G b = some i) ∧ ok b) : Wk K ok G l (Itl K a) xs (a :: F) μ1 H1 where
  there := fun b hb => ⟨by
    rcases List.mem_cons.mp hb with hb | hb
    · rw [hb, h]; simp
    · exact r.there b hb, n b hb⟩
  stop := fun μ H i s hl => ⟨vs, .inl (.inl (s.keep a _ h (n a (by simp)) (by simp))), by rw [← r.length]; exact hl⟩
  go := fun μ H i x s hx => by
    have hq : SqL K H a vs := .inl (.inl (s.keep a _ h (n a (by simp)) (by simp)))
    have r2 := r.sl s fun b hb => ⟨n b (List.mem_cons_of_mem _ hb), List.mem_cons_of_mem _ hb⟩
    obtain ⟨v, t, F2, e, rv, hs⟩ := r2.get hx
    refine ⟨⟨vs, v, hq, e⟩, fun v' H' hy => ?_⟩
    obtain ⟨rfl, hy⟩ := hy
    have e2 := hy vs hq
    rw [e] at e2
    cases e2
    exact ⟨.inl rfl, t, F2, rv, fun b hb => ⟨List.mem_cons_of_mem _ (hs b hb), hF b (hs b hb)⟩⟩
theorem wk_tup (h : SqT K H1 a vs) (r : Reps K H1 μ1 xs vs F) (n : ∀ b ∈ F, b ∉ μ1) (hF : ∀ b ∈ F, (G b = none ∨ ∃ i ∈ l, G b = some i) ∧ ok b) : Wk K ok G l (Itt K a) xs F μ1 H1 where
  there := fun b hb => ⟨r.there b hb, n b hb⟩
  stop := fun μ H i s hl => ⟨vs, SqT.sl h s, by rw [← r.length]; exact hl⟩
  go := fun μ H i x s hx => by
    have hq : SqT K H a vs := SqT.sl h s
    have r2 := r.sl s fun b hb => ⟨n b hb, hb⟩
    obtain ⟨v, t, F2, e, rv, hs⟩ := r2.get hx
    refine ⟨⟨vs, v, hq, e⟩, fun v' H' hy => ?_⟩
    obtain ⟨rfl, hy⟩ := hy
    have e2 := hy vs hq
    rw [e] at e2
    cases e2
    exact ⟨.inl rfl, t, F2, rv, fun b hb => ⟨hs b hb, hF b (hs b hb)⟩⟩
theorem wk_rng {lo : Int} {n : Nat} : Wk K ok G l (Itr lo n) ((List.range n).map fun (k : Nat) => D.int (lo + k)) [] μ1 H1 where
  there := fun b hb => by simp at hb
  stop := fun μ H i s hl => (by simpa using hl : n ≤ i)
  go := fun μ H i x s hx => by
    have hi : i < n := Nat.lt_of_not_le fun z => by
      rw [List.getElem?_eq_none (by simpa using z)] at hx
      cases hx
    rw [List.getElem?_map, List.getElem?_range] at hx
    · cases hx
      refine ⟨hi, fun v H' hy => ?_⟩
      obtain ⟨rfl, rfl⟩ := hy
      exact ⟨.inl rfl, [], [], .int _, fun b hb => by simp at hb⟩
    · exact hi
theorem wk_rngC {lo : Int} {n : Nat} : Wk K ok G l (Itc lo (-1) n) ((List.range n).map fun (k : Nat) => D.int (lo - k)) [] μ1 H1 where
  there := fun b hb => by simp at hb
  stop := fun μ H i s hl => (by simpa using hl : n ≤ i)
  go := fun μ H i x s hx => by
    have hi : i < n := Nat.lt_of_not_le fun z => by
      rw [List.getElem?_eq_none (by simpa using z)] at hx
      cases hx
    rw [List.getElem?_map, List.getElem?_range] at hx
    · cases hx
      refine ⟨hi, fun v H' hy => ?_⟩
      obtain ⟨rfl, rfl⟩ := hy
      refine ⟨.inl rfl, [], [], ?_, fun b hb => by simp at hb⟩
      rw [show lo + (i : Int) * -1 = lo - i by omega]
      exact .int _
    · exact hi
theorem wk_enum (h : H1 a = some (.lst vs)) (r : Reps K H1 μ1 xs vs F) (n : ∀ b ∈ a :: F, b ∉ μ1) (hF : ∀ b ∈ F, (G b = none ∨ ∃ i ∈ l, G b = some i) ∧ ok b) : Wk K ok G l (Ite K a) (enumD xs) (a :: F) μ1 H1 where
  there := fun b hb => ⟨by
    rcases List.mem_cons.mp hb with hb | hb
    · rw [hb, h]; simp
    · exact r.there b hb, n b hb⟩
  stop := fun μ H i s hl => ⟨vs, .inl (.inl (s.keep a _ h (n a (by simp)) (by simp))), by rw [← r.length]; simpa [enumD] using hl⟩
  go := fun μ H i x s hx => by
    have hq : SqL K H a vs := .inl (.inl (s.keep a _ h (n a (by simp)) (by simp)))
    have r2 := r.sl s fun b hb => ⟨n b (List.mem_cons_of_mem _ hb), List.mem_cons_of_mem _ hb⟩
    rw [enumD, List.getElem?_mapIdx] at hx
    obtain ⟨x, hx2, rfl⟩ := Option.map_eq_some_iff.mp hx
    have hx := hx2
    obtain ⟨v, t, F2, e, rv, hs⟩ := r2.get hx
    refine ⟨⟨vs, v, hq, e⟩, fun v' H' hy => ?_⟩
    obtain ⟨T, y, rfl, hT, rfl, hy⟩ := hy
    have e2 := hy vs hq
    rw [e] at e2
    cases e2
    have n1 : New1 H (upd H T (.tup [.int (i : Nat), v])) := .inr ⟨T, _, hT, rfl⟩
    have rr : Reps K (upd H T (.tup [.int (i : Nat), v])) μ [.int i, x] [.int (i : Nat), v] ([] ++ [] ++ (t ++ F2 ++ [])) := .cons (.int _) (.cons (rv.ext n1.keep) .nil)
    refine ⟨n1, [], _, .tup (.inl (.inl upd_same)) rr, fun b hb => ?_⟩
    have hb : b ∈ t ++ F2 := by simpa using hb
    exact ⟨List.mem_cons_of_mem _ (hs b hb), hF b (hs b hb)⟩
theorem wk_zip (h : H1 a = some (.lst vs)) (r : Reps K H1 μ1 xs vs F) (h' : H1 b = some (.lst ws)) (r' : Reps K H1 μ1 ys ws F') (n : ∀ x ∈ a :: b :: (F ++ F'), x ∉ μ1) (hF : ∀ b ∈ F ++ F', (G b = none ∨ ∃ i ∈ l, G b = some i) ∧ ok b) :
    Wk K ok G l (Itz K a b) (zipD xs ys) (a :: b :: (F ++ F')) μ1 H1 where
  there := fun x hb => ⟨by
    rcases List.mem_cons.mp hb with hb | hb
    · rw [hb, h]; simp
    · rcases List.mem_cons.mp hb with hb | hb
      · rw [hb, h']; simp
      · rcases List.mem_append.mp hb with hb | hb
        · exact r.there x hb
        · exact r'.there x hb, n x hb⟩
  stop := fun μ H i s hl => ⟨vs, ws, .inl (.inl (s.keep a _ h (n a (by simp)) (by simp))), .inl (.inl (s.keep b _ h' (n b (by simp)) (by simp))), by
    rw [← r.length, ← r'.length]
    have : min xs.length ys.length ≤ i := by simpa [zipD] using hl
    omega⟩
  go := fun μ H i x s hx => by
    have hq : SqL K H a vs := .inl (.inl (s.keep a _ h (n a (by simp)) (by simp)))
    have hq' : SqL K H b ws := .inl (.inl (s.keep b _ h' (n b (by simp)) (by simp)))
    have r2 := r.sl s fun b hb => ⟨n b (by simp [hb]), by simp [hb]⟩
    have r2' := r'.sl s fun b hb => ⟨n b (by simp [hb]), by simp [hb]⟩
    rw [zipD, List.getElem?_zipWith] at hx
    cases hx1 : xs[i]? with
    | none => rw [hx1] at hx; cases ys[i]? <;> cases hx
    | some x1 =>
      cases hx2 : ys[i]? with
      | none => rw [hx1, hx2] at hx; cases hx
      | some x2 =>
        rw [hx1, hx2] at hx
        cases hx
        obtain ⟨v, t, F2, e, rv, hs⟩ := r2.get hx1
        obtain ⟨v', t', F2', e', rv', hs'⟩ := r2'.get hx2
        refine ⟨⟨vs, ws, v, v', hq, hq', e, e'⟩, fun w H' hy => ?_⟩
        obtain ⟨T, y, y', rfl, hT, rfl, hy, hy'⟩ := hy
        have e2 := hy vs hq
        rw [e] at e2
        cases e2
        have e2 := hy' ws hq'
        rw [e'] at e2
        cases e2
        have n1 : New1 H (upd H T (.tup [v, v'])) := .inr ⟨T, _, hT, rfl⟩
        have rr : Reps K (upd H T (.tup [v, v'])) μ [x1, x2] [v, v'] (t ++ F2 ++ (t' ++ F2' ++ [])) := .cons (rv.ext n1.keep) (.cons (rv'.ext n1.keep) .nil)
        refine ⟨n1, [], _, .tup (.inl (.inl upd_same)) rr, fun b hb => ?_⟩
        have hb : b ∈ F ++ F' := by
          rcases List.mem_append.mp (show b ∈ t ++ F2 ++ (t' ++ F2' ++ []) from hb) with hb | hb
          · exact List.mem_append_left _ (hs b hb)
          · exact List.mem_append_right _ (hs' b (by simpa using hb))
        exact ⟨List.mem_cons_of_mem _ (List.mem_cons_of_mem _ hb), hF b hb⟩
theorem wk_zipT (h : SqT K H1 a vs) (r : Reps K H1 μ1 xs vs F) (h' : SqT K H1 b ws) (r' : Reps K H1 μ1 ys ws F') (n : ∀ x ∈ F ++ F', x ∉ μ1) (hF : ∀ b ∈ F ++ F', (G b = none ∨ ∃ i ∈ l, G b = some i) ∧ ok b) :
    Wk K ok G l (RZ.ItzT K a b) (zipD xs ys) (F ++ F') μ1 H1 where
  there := fun x hb => ⟨by
    rcases List.mem_append.mp hb with hb | hb
    · exact r.there x hb
    · exact r'.there x hb, n x hb⟩
  stop := fun μ H i s hl => ⟨vs, ws, SqT.sl h s, SqT.sl h' s, by
    rw [← r.length, ← r'.length]
    have : min xs.length ys.length ≤ i := by simpa [zipD] using hl
    omega⟩
  go := fun μ H i x s hx => by
    have hq : SqT K H a vs := SqT.sl h s
    have hq' : SqT K H b ws := SqT.sl h' s
    have r2 := r.sl s fun b hb => ⟨n b (by simp [hb]), by simp [hb]⟩
    have r2' := r'.sl s fun b hb => ⟨n b (by simp [hb]), by simp [hb]⟩
    rw [zipD, List.getElem?_zipWith] at hx
    cases hx1 : xs[i]? with
    | none => rw [hx1] at hx; cases ys[i]? <;> cases hx
    | some x1 =>
      cases hx2 : ys[i]? with
      | none => rw [hx1, hx2] at hx; cases hx
      | some x2 =>
        rw [hx1, hx2] at hx
        cases hx
        obtain ⟨v, t, F2, e, rv, hs⟩ := r2.get hx1
        obtain ⟨v', t', F2', e', rv', hs'⟩ := r2'.get hx2
        refine ⟨⟨vs, ws, v, v', hq, hq', e, e'⟩, fun w H' hy => ?_⟩
        obtain ⟨T, y, y', rfl, hT, rfl, hy, hy'⟩ := hy
        have e2 := hy vs hq
        rw [e] at e2
        cases e2
        have e2 := hy' ws hq'
        rw [e'] at e2
        cases e2
        have n1 : New1 H (upd H T (.tup [v, v'])) := .inr ⟨T, _, hT, rfl⟩
        have rr : Reps K (upd H T (.tup [v, v'])) μ [x1, x2] [v, v'] (t ++ F2 ++ (t' ++ F2' ++ [])) := .cons (rv.ext n1.keep) (.cons (rv'.ext n1.keep) .nil)
        refine ⟨n1, [], _, .tup (.inl (.inl upd_same)) rr, fun b hb => ?_⟩
        have hb : b ∈ F ++ F' := by
          rcases List.mem_append.mp (show b ∈ t ++ F2 ++ (t' ++ F2' ++ []) from hb) with hb | hb
          · exact List.mem_append_left _ (hs b hb)
          · exact List.mem_append_right _ (hs' b (by simpa using hb))
        exact ⟨hb, hF b hb⟩
end
end WT
end

section
set_option Elab.async false
set_option linter.all false
set_option maxRecDepth 100000
set_option maxHeartbeats 1000000
set_option autoImplicit false
/-! K10e: enumerate over a tuple. -/
namespace WT
open PySem PySem.Spec PyProof.Rows L2
open PySem.Sem (wp)
theorem meets_enumerate_newT (l : Addr) (items : Array Value) :
    Meets (Builtin.«enumerate.__new__» ⟨[.type "enumerate", .ref l], []⟩) (fun _ R s => s.heap.IsTuple l items ∧
      R (.ok (.ret (.ref (s.heap.push { cls := .type "tuple_iterator", data := .fields #[.ref l, .int 0 0] }).objs.size)))
        { s with heap := (s.heap.push { cls := .type "tuple_iterator", data := .fields #[.ref l, .int 0 0] }).push { cls := .type "enumerate", data := .fields #[.none, .bool false, .ref s.heap.objs.size, rawInt 0, .none, .none] } }) :=
  .of_wp fun prog w A R s h => by
    obtain ⟨hp, g, d, tk, os⟩ := s; obtain ⟨hl, h⟩ := h
    have hsub := sub_enumerate
    have hL : Heap.IsTuple (Shared.heap ⟨hp, g, d, tk, os⟩) l items := hl
    obtain ⟨⟨c, dct, dt, sl⟩, hq, hc, n, hd⟩ := hl
    replace hc : c = .type "tuple" := hc
    replace hd : dt = .seq items n := hd
    subst hc hd
    wp_walk using AutoSeq1.wpAny_loadPart' hq
    refine wpAny_stack_any fun st => wpAny_pure ?_
    split
    · rename_i c _ _ _ _ _
      cases (c == Value.type "enumerate")
      · wp_walk using AutoSeq1.wpAny_loadPart' hq, wpAny_pyIter_tuple hL
        exact ⟨_, rfl, h⟩
      · wp_walk using AutoSeq1.wpAny_loadPart' hq, wpAny_pyIter_tuple hL
        exact ⟨_, rfl, h⟩
    · wp_walk using AutoSeq1.wpAny_loadPart' hq, wpAny_pyIter_tuple hL
      exact ⟨_, rfl, h⟩
section
variable {prog : Program} {w : World} {A : Around} {E : Value → Shared → Prop} {s : Shared}
theorem call_enumerate_tuple {l : Addr} {items : Array Value} {Q : Value → Shared → Prop} (hL : s.heap.IsTuple l items)
    (h : ∀ h', IsEnum h' (s.heap.objs.size + 1) s.heap.objs.size 0 .none → h'.IsTupleIter s.heap.objs.size l 0 → h'.objs.size = s.heap.objs.size + 2 →
      (∀ b o, s.heap.get? b = some o → h'.get? b = some o) → Q (.ref (s.heap.objs.size + 1)) { s with heap := h' }) :
    wpAny (model prog w) A (call (.type "enumerate") [.ref l]) Q E s := by
  refine callType_new F.called_enumerate (by decide) (F.typeCall_enumerate_1 _) (F.newCall_enumerate_1 _) (fun obj => F.args_object_init_2 obj _) F.entry_enumerate_new
    (meets_enumerate_newT l items) ⟨hL, ?_⟩
  have hz : (s.heap.push { cls := .type "tuple_iterator", data := .fields #[.ref l, .int 0 0] }).objs.size = s.heap.objs.size + 1 := Heap.size_push ..
  show _ ∧ _
  rw [hz]
  have he : IsEnum ((s.heap.push { cls := .type "tuple_iterator", data := .fields #[.ref l, .int 0 0] }).push
      { cls := .type "enumerate", data := .fields #[.none, .bool false, .ref s.heap.objs.size, rawInt 0, .none, .none] }) (s.heap.objs.size + 1) s.heap.objs.size 0 .none := by
    have := Heap.get?_push_size (s.heap.push { cls := .type "tuple_iterator", data := .fields #[.ref l, .int 0 0] })
      (o := { cls := .type "enumerate", data := .fields #[.none, .bool false, .ref s.heap.objs.size, rawInt 0, .none, .none] }) rfl
    rw [hz] at this; exact this
  refine ⟨⟨_, he, rfl⟩, h _ he ⟨_, Heap.get?_push_of_some _ (Heap.get?_push_size _ rfl), rfl, rfl⟩ (by rw [Heap.size_push, hz]) fun b o x => Heap.get?_push_of_some _ (Heap.get?_push_of_some _ x)⟩
end
theorem draws_tuple {prog : Program} {w : World} {A : Around} (hh : A.handled = none) (it l : Addr) (hne : l ≠ it) (items : Array Value) :
    Draws prog w A it [it, l] items.size (fun i v => items[i]? = some v) (fun i h => h.IsTupleIter it l i ∧ h.IsTuple l items) where
  live := fun _ _ st => let ⟨o, ho, _⟩ := st.1; ⟨o, ho⟩
  frame := fun _ _ _ st hk => ⟨st.1.at fun o e => hk it (by simp) o e, let ⟨o, ho, r⟩ := st.2; ⟨o, hk l (by simp) o ho, r⟩⟩
  item := fun i s Q E hi st hQ => by
    refine RZ.nextOf_tuple_item st.1 st.2 (x := items[i]) (by simp [hi]) fun h' hit' hs' => ?_
    exact hQ _ h' s.toks (by simp [hi]) ⟨hit', let ⟨o, ho, r⟩ := st.2; ⟨o, (hs'.2 l hne).trans ho, r⟩⟩ hs'
  done := fun s Q E st hE => RZ.nextOf_tuple_end hh st.1 st.2 (by simp) hE
/-- the tuple at a, each item in a new pair -/
def IteT (K : PySem.W.Frag) (a : Addr) : L2.It :=
  ⟨fun i H => ∃ (xs : List V) (x : V), SqT K H a xs ∧ xs[i]? = some x, fun i H v H' => ∃ T x, v = .ref T ∧ H T = none ∧ H' = upd H T (.tup [.int (i : Nat), x]) ∧ ∀ xs, SqT K H a xs → xs[i]? = some x, fun i H => ∃ xs : List V, SqT K H a xs ∧ xs.length ≤ i⟩
theorem turn_enumT {P : Program} {w : World} {K : PySem.W.Frag} {elts : List Expr} {kk : Nat} {tpos : Pos} (a e it : Addr) :
    Turn P w K (.Tuple elts kk tpos) (IteT K a) [e, it] e (fun i h => (∃ old, IsEnum h e it ((i : Nat) : Int) old) ∧ h.IsTupleIter it a i ∧ e ≠ it) where
  mem := by simp
  obj := fun i h st b hb => by
    obtain ⟨⟨old, he⟩, ⟨o, ho, hc, hd⟩, _⟩ := st
    have e' : b = e ∨ b = it := by simpa using hb
    rcases e' with z | z
    · rw [z]; exact ⟨_, he, fun v q => nomatch q⟩
    · rw [z]; exact ⟨o, ho, fun v q => by rw [hd] at q; cases q⟩
  keep := fun i h h' st k => let ⟨⟨old, he⟩, hi, hne⟩ := st; ⟨⟨old, k e (by simp) _ he⟩, hi.at fun o q => k it (by simp) o q, hne⟩
  item := by
    intro X hP hw hK hc i pins s σ H E I hf st hg
    subst hP hw hK
    obtain ⟨⟨old, he⟩, hit, hne⟩ := st
    obtain ⟨xs, x, hq, hx⟩ := hg
    obtain ⟨its, rv, p, hz⟩ := I.tuple hq
    obtain ⟨u, hu, ru⟩ := rv.get hx
    have hel : e < s.heap.objs.size := Heap.lt_size he
    have hil : it < s.heap.objs.size := by obtain ⟨_, q, _⟩ := hit; exact Heap.lt_size q
    have hea : e ≠ a := fun z => by
      obtain ⟨o, ho, hc, _⟩ := p
      rw [← z, he] at ho; cases ho; simp at hc
    have hia : a ≠ it := fun z => by
      obtain ⟨o, ho, hc, _⟩ := p
      obtain ⟨o', ho', hc', _⟩ := hit
      rw [z, ho'] at ho; cases ho; rw [hc'] at hc; simp at hc
    have D : Draws X.prog X.w X.A.in1 it [it, a] its.toArray.size _ _ := draws_tuple (show X.A.in1.handled = none from I.ok.hd hc) it a hia its.toArray
    have hlt : i < its.toArray.size := by
      have := (List.getElem?_eq_some_iff.mp hu).1
      simpa using this
    refine wpAny_pyNext_enum_itemD D he ⟨hit, p⟩ hlt hne (by simp [hne, hea]) fun x' h' tk hx' ho hst' hT hsz hk => ?_
    obtain rfl : x' = u := by
      have h1 : its.toArray[i]? = some x' := hx'
      simp only [List.getElem?_toArray] at h1
      rw [hu] at h1
      exact (Option.some.inj h1).symm
    have hit' := hst'.1
    refine ⟨_, rfl, wpAny_letOwnedTupleGo_enum (s := { s with heap := h', toks := tk + 1 }) ho fun h'' he' sb => ?_⟩
    have hT2 : h''.get? s.heap.objs.size = some { cls := .type "tuple", data := .seq #[.int i tk, x'] } := (sb.2 _ (Nat.ne_of_gt hel)).trans hT
    have new : ObjOk X.prog X.w (upd H s.heap.objs.size (.tup [.int (i : Nat), x])) h'' s.heap.objs.size (.tup [.int (i : Nat), x]) :=
      ⟨by show 2 ≤ sizeLine; decide, [.int i tk, x'], .cons ⟨_, rfl⟩ (.cons ru .nil), ⟨_, hT2, rfl, _, rfl⟩⟩
    have I1 : Inv X pins σ (upd H s.heap.objs.size (.tup [.int (i : Nat), x])) { s with heap := h'', toks := tk + 1 } :=
      I.turnedNew (ch := [e, it]) (fun b ob hb q => (sb.2 b (fun z => hb (by simp [z]))).trans (hk b ob (fun z => hb (by simp [z])) (fun z => hb (by simp [z])) q)) hf (Nat.le_refl _) new
    refine ⟨.ref s.heap.objs.size, _, I1, rfl, ⟨_, x, rfl, I.hok.fresh (Nat.le_refl _), rfl, fun ys hy => by rw [I.tuple_inj hy hq]; exact hx⟩, ⟨⟨x', ?_⟩, hit'.at fun o q => (sb.2 it (Ne.symm hne)).trans q, hne⟩, fun b hb => ?_⟩
    · have e1 : ((i + 1 : Nat) : Int) = (i : Int) + 1 := by omega
      rw [e1]; exact he'
    · have hb' : b < s.heap.objs.size := by
        have e' : b = e ∨ b = it := by simpa using hb
        rcases e' with z | z
        · rw [z]; exact hel
        · rw [z]; exact hil
      rw [upd_ne (Nat.ne_of_lt hb')]
      exact (hf b hb).1
  done := by
    intro X hP hw hK hc i pins s σ H E I hf st hg
    subst hP hw hK
    obtain ⟨⟨old, he⟩, hit, hne⟩ := st
    obtain ⟨xs, hq, hx⟩ := hg
    obtain ⟨its, rv, p, hz⟩ := I.tuple hq
    obtain ⟨f0, f1, f2, f3, f4, f5⟩ := hf it (by simp)
    have hl := rv.length
    have hT : s.TypeIs (.ref e) "enumerate" := ⟨_, he, rfl⟩
    unfold pyNext
    refine wpAny_bind (wpAny_attempt (wpAny_callSpecial?_slot (name := Str.ofString "__next__") hT F.slot_enumerate_next
      (wpAny_call_entry F.slot_enumerate_next hT F.entry_enumerate_next ?_ (F.args_enumerate_next_1 _))))
    show wpAny _ _ (field (.ref e) 2 >>= _) _ _ _
    refine wpAny_bind (wpAny_field he rfl (x := .ref it) rfl ?_)
    refine wpAny_bind (RZ.nextOf_tuple_end (I.ok.hd hc) hit p (by simp; omega) fun h' x he' hx' => ?_)
    obtain ⟨o, ho, hc⟩ := hx'
    refine wpAny_bind (wpAny_isInstance (T := "StopIteration") (b := true) ⟨o, ho, hc⟩ isSubtype_stop ?_)
    exact wpAny_pure ⟨rfl, I.turned (t' := s.toks) (fun b o hb q => he' b o hb q) f0 f1 f3 f4 f5⟩
  self := fun A i s Q E st h => let ⟨⟨_, he⟩, _⟩ := st; wpAny_pyIter_enum he h
def iEnumA (K : PySem.W.Frag) (ta : TA) : TI := fun σ H R => ta σ H fun vs H1 => ∃ a xs, vs = [.ref a] ∧ ((SqL K H1 a xs ∧ R (Ite K a) H1) ∨ (SqT K H1 a xs ∧ R (IteT K a) H1))
theorem pi_enumA {X : Cx} {e : Expr} {ta : TA} {p pos tpos : Pos} {elts : List Expr} {kk : Nat} (hg : Gl X "enumerate") (hm : X.mg "enumerate" = none) (ha : PA X [e] ta) (hs : starEach [e] X.env = [(false, eval e X.env)] := by rfl) :
    PI X (.Tuple elts kk tpos) (.Call (.Name "enumerate" p) [e] [] pos) (iEnumA X.K ta) := by
  refine ⟨fun pins s σ H R I h => ?_⟩
  refine Call_ (ld_blt I hg hm boot_enumerate (PyProof.Rows.callWith_type1 (thn (ha.run pos pins s σ H _ I h) fun us s1 ⟨vs, H1, I1, r1, q1⟩ => ?_) hs rfl))
  obtain ⟨a, xs, ex, hq⟩ := q1
  subst ex
  cases r1 with
  | cons r rr =>
    cases rr
    cases r
    have fin : ∀ b, b = s1.heap.objs.size + 1 ∨ b = s1.heap.objs.size → FpOk X pins H1 b := fun b e' => by
      have hle : s1.heap.objs.size ≤ b := by
        rcases e' with z | z
        · rw [z]; exact Nat.le_add_right _ _
        · rw [z]; exact Nat.le_refl _
      exact I1.fpOk hle (I1.hok.fresh hle)
    rcases hq with ⟨hq, q⟩ | ⟨hq, q⟩
    · obtain ⟨its, rv, p', hz⟩ := I1.list hq
      refine call_enumerate_list p'.isList fun h' he hit hsz hk => wpAny_pyIter_enum he ?_
      have I2 : Inv X pins σ H1 { s1 with heap := h' } := I1.kept (t' := s1.toks) hk
      exact ⟨s1.heap.objs.size + 1, [s1.heap.objs.size + 1, s1.heap.objs.size], _, _, H1, rfl, I2, turn_enum a (s1.heap.objs.size + 1) s1.heap.objs.size, ⟨⟨.none, he⟩, hit, Nat.succ_ne_self _⟩, fun b hb => fin b (by simpa using hb), q⟩
    · obtain ⟨its, rv, p', hz⟩ := I1.tuple hq
      refine call_enumerate_tuple p' fun h' he hit hsz hk => wpAny_pyIter_enum he ?_
      have I2 : Inv X pins σ H1 { s1 with heap := h' } := I1.kept (t' := s1.toks) hk
      exact ⟨s1.heap.objs.size + 1, [s1.heap.objs.size + 1, s1.heap.objs.size], _, _, H1, rfl, I2, turn_enumT a (s1.heap.objs.size + 1) s1.heap.objs.size, ⟨⟨.none, he⟩, hit, Nat.succ_ne_self _⟩, fun b hb => fin b (by simpa using hb), q⟩
section
variable {K : FW} {ok : Addr → Prop} {G : Addr → Option Nat} {l : List Nat} {a : Addr} {xs : List WT.D} {vs : List V} {F : List Addr} {μ1 : List Addr} {H1 : Hp}
theorem wk_enumT (h : SqT K H1 a vs) (r : Reps K H1 μ1 xs vs F) (n : ∀ b ∈ F, b ∉ μ1) (hF : ∀ b ∈ F, (G b = none ∨ ∃ i ∈ l, G b = some i) ∧ ok b) : Wk K ok G l (IteT K a) (enumD xs) F μ1 H1 where
  there := fun b hb => ⟨r.there b hb, n b hb⟩
  stop := fun μ H i s hl => ⟨vs, SqT.sl h s, by rw [← r.length]; simpa [enumD] using hl⟩
  go := fun μ H i x s hx => by
    have hq : SqT K H a vs := SqT.sl h s
    have r2 := r.sl s fun b hb => ⟨n b hb, hb⟩
    rw [enumD, List.getElem?_mapIdx] at hx
    obtain ⟨x, hx2, rfl⟩ := Option.map_eq_some_iff.mp hx
    have hx := hx2
    obtain ⟨v, t, F2, e, rv, hs⟩ := r2.get hx
    refine ⟨⟨vs, v, hq, e⟩, fun v' H' hy => ?_⟩
    obtain ⟨T, y, rfl, hT, rfl, hy⟩ := hy
    have e2 := hy vs hq
    rw [e] at e2
    cases e2
    have n1 : New1 H (upd H T (.tup [.int (i : Nat), v])) := .inr ⟨T, _, hT, rfl⟩
    have rr : Reps K (upd H T (.tup [.int (i : Nat), v])) μ [.int i, x] [.int (i : Nat), v] ([] ++ [] ++ (t ++ F2 ++ [])) := .cons (.int _) (.cons (rv.ext n1.keep) .nil)
    refine ⟨n1, [], _, .tup (.inl (.inl upd_same)) rr, fun b hb => ?_⟩
    have hb : b ∈ t ++ F2 := by simpa using hb
    exact ⟨hs b hb, hF b (hs b hb)⟩
end
end WT
end

section
set_option Elab.async false
set_option linter.all false
set_option maxRecDepth 100000
set_option autoImplicit false
/-! K11: what is walked, as it is written; targets. -/
namespace WT
open PySem PySem.Spec PyProof.Rows L2

section
variable {X : Cx} {tg : Expr}
theorem pi_seq {l : Expr} {tl : TE} (hl : PE X l tl) : PI X tg l (fun σ H R => tl σ H fun x H1 => ∃ a, x = .ref a ∧ (((∃ xs, SqL X.KW H1 a xs) ∧ R (Itl X.KW a) H1) ∨ ((∃ xs, SqT X.KW H1 a xs) ∧ R (Itt X.KW a) H1))) := by
  refine ⟨fun pins s σ H R I h => ?_⟩
  refine thn (hl.run pins s σ H _ I h) fun v s1 ⟨x, H1, I1, r1, q1⟩ => ?_
  obtain ⟨a, e, q⟩ := q1
  subst e
  cases r1
  rcases q with ⟨⟨xs, hq⟩, q⟩ | ⟨⟨xs, hq⟩, q⟩
  · obtain ⟨its, rv, p, hz⟩ := I1.list hq
    refine wpAny_pyIter_list p.isList ?_
    refine ⟨s1.heap.objs.size, [s1.heap.objs.size], _, _, H1, rfl, I1.kept (t' := s1.toks) fun b o e => Heap.get?_push_of_some _ e, turn_list a _, ⟨_, Heap.get?_push_size _ rfl, rfl, rfl⟩, fun b hb => ?_, q⟩
    have e : b = s1.heap.objs.size := by simpa using hb
    subst e
    exact I1.fpOk (Nat.le_refl _) (I1.hok.fresh (Nat.le_refl _))
  · obtain ⟨its, rv, p, hz⟩ := I1.tuple hq
    refine wpAny_pyIter_tuple (show s1.heap.IsTuple a its.toArray from p) ?_
    refine ⟨s1.heap.objs.size, [s1.heap.objs.size], _, _, H1, rfl, I1.kept (t' := s1.toks) fun b o e => Heap.get?_push_of_some _ e, turn_tuple a _, ⟨_, Heap.get?_push_size _ rfl, rfl, rfl⟩, fun b hb => ?_, q⟩
    have e : b = s1.heap.objs.size := by simpa using hb
    subst e
    exact I1.fpOk (Nat.le_refl _) (I1.hok.fresh (Nat.le_refl _))
end
section
variable {c : Cfg} {K : FW} {p : Pv} {env : Env} {st : Sto} {μ : List Addr} {G : Addr → Option Nat} {σ : St} {H : Hp}
theorem TEv.fst' {α : Type} {okk : α → Sto → Prop} {s : Env → Sto → R D} {f : D → Sto → R α} {R' : VK} (I : SI K c.ow c.Ok env st μ G σ H) (h : Fin okk (exE c K env μ G σ H) ((s env st).bind f))
    (k : ∀ x st1 v H1 μ1 t F, SI K c.ow c.Ok env st1 μ1 G σ H1 → Step μ H μ1 H1 → Held K c G p H x v t F μ1 H1 → Fin okk (exE c K env μ G σ H) (f x st1) → R' v H1) : TEv c K p s σ H R' := by
  rw [Fin.bind] at h
  exact ⟨env, st, μ, G, I, h.mono (fun x st1 _ hx v H1 μ1 t F I1 S1 r po => k x st1 v H1 μ1 t F I1 S1 ⟨r, po⟩ hx) fun _ _ _ hx => hx⟩
theorem TEv.nxt' {α : Type} {okk : α → Sto → Prop} {s : Env → Sto → R D} {f : D → Sto → R α} {R' : VK} {μ1 : List Addr} {H1 : Hp} {st1 : Sto} (S1 : Step μ H μ1 H1) (I : SI K c.ow c.Ok env st1 μ1 G σ H1) (h : Fin okk (exE c K env μ G σ H) ((s env st1).bind f))
    (k : ∀ x st2 v H2 μ2 t F, SI K c.ow c.Ok env st2 μ2 G σ H2 → Step μ1 H1 μ2 H2 → Held K c G p H x v t F μ2 H2 → Fin okk (exE c K env μ G σ H) (f x st2) → R' v H2) : TEv c K p s σ H1 R' := by
  rw [Fin.bind] at h
  exact ⟨env, st1, μ1, G, I, h.mono (fun x st1 _ hx v H1 μ1 t F I1 S2 r po => k x st1 v H1 μ1 t F I1 S2 ⟨r, po.back S1⟩ hx) fun _ _ _ hx => hx.step S1⟩
end
section
variable {m : MC} {g : GE} {k : Nat} {a b d e : E} {p q r : Pv}
theorem sndi_seq (he : Snd m g k e p) : SndI m g k (.seq e) p.inn (p.top ++ p.inn) := by
  intro c sc X tg x hg ok h ht
  simp only [mIt, Bool.and_eq_true] at h
  refine (pi_seq (he c sc X x hg ok h.1)).mono fun σ H R ⟨env, st, μ, G, I, hq⟩ => ?_
  rw [evIt] at hq
  refine TEv.fst' I hq fun x1 st1 v1 H1 μ1 t1 F1 I1 S1 r1 hq => ?_
  obtain ⟨xs, e1, hq⟩ := Fin.ofO hq
  have all := r1.all (G := G) I.gdom
  cases x1 <;> first | (cases e1; done) | skip
  · obtain ⟨rp, po⟩ := r1
    cases rp
    rename_i hs rs
    cases e1
    exact ⟨_, rfl, .inr ⟨⟨_, hs⟩, hq _ H1 μ1 _ I1 S1 (wk_tup hs rs (fun b hb => (all b (by simpa using hb)).2.1) fun b hb => ⟨po.inn b hb, (all b (by simpa using hb)).2.2⟩) fun b hb => ⟨(all b (by simpa using hb)).1, (all b (by simpa using hb)).2.2⟩⟩⟩
  · obtain ⟨rp, po⟩ := r1
    cases rp
    rename_i hs rs
    cases e1
    exact ⟨_, rfl, .inl ⟨⟨_, .inl (.inl hs)⟩, hq _ H1 μ1 _ I1 S1 (wk_list hs rs (fun b hb => (all b (by simpa using hb)).2.1) fun b hb => ⟨po.inn b hb, (all b (by simp [hb])).2.2⟩) fun b hb => ⟨(all b (by simpa using hb)).1, (all b (by simpa using hb)).2.2⟩⟩⟩
theorem sndi_range1 (ha : Snd m g k a p) : SndI m g k (.range1 a) [] [] := by
  intro c sc X tg x hg ok h ht
  cases x with
  | Call f args kws pos =>
    cases f with
    | Name f fp =>
      match args, kws, h with
      | [x], [], h =>
        simp only [mIt, Bool.and_eq_true, beq_iff_eq] at h
        obtain ⟨⟨rfl, h1⟩, h2⟩ := h
        refine (pi_range1 (ok.gl h1) (ok.free _ (by decide +kernel)) (pa_cons (ha c sc X x hg ok h2) pa_nil (star_of (mE_plain h2) _ _)) (star_of (mE_plain h2) _ _)).mono fun σ H R ⟨env, st, μ, G, I, hq⟩ => ?_
        rw [evIt] at hq
        refine TEv.fst' I hq fun x1 st1 v1 H1 μ1 t1 F1 I1 S1 r1 hq => ?_
        cases x1 <;> first | exact hq.elim | skip
        rename_i n
        obtain ⟨rp, po⟩ := r1
        cases rp
        obtain ⟨z, e1, hq⟩ := Fin.ofO hq
        unfold rangeD at e1
        split at e1
        · rename_i hb
          rw [if_pos rfl] at e1
          cases e1
          dsimp only [tNil]
          refine ⟨n, rfl, hb.2.2.1, hb.2.2.2, hq _ H1 μ1 [] I1 S1 ?_ fun _ h => by simp at h⟩
          rw [show n - 0 = n by omega]
          exact wk_rng
        · cases e1
      | [], _, h => simp [mIt] at h
      | _ :: _ :: _, _, h => simp [mIt] at h
      | [_], _ :: _, h => simp [mIt] at h
    | _ => simp [mIt] at h
  | _ => simp [mIt] at h
theorem sndi_range2 (ha : Snd m g k a p) (hb : Snd m g k b q) : SndI m g k (.range2 a b) [] [] := by
  intro c sc X tg x hg ok h ht
  cases x with
  | Call f args kws pos =>
    cases f with
    | Name f fp =>
      match args, kws, h with
      | [x, y], [], h =>
        simp only [mIt, Bool.and_eq_true, beq_iff_eq] at h
        obtain ⟨⟨⟨rfl, h1⟩, h2⟩, h3⟩ := h
        refine (pi_range2 (ok.gl h1) (ok.free _ (by decide +kernel)) (pa_cons (ha c sc X x hg ok h2) (pa_cons (hb c sc X y hg ok h3) pa_nil (star_of (mE_plain h3) _ _)) (star_of (mE_plain h2) _ _))
          (by rw [star_of (mE_plain h2), star_of (mE_plain h3)]; rfl) (star_of (mE_plain h3) _ _)).mono fun σ H R ⟨env, st, μ, G, I, hq⟩ => ?_
        rw [evIt] at hq
        refine TEv.fst' I hq fun x1 st1 v1 H1 μ1 t1 F1 I1 S1 r1 hq => ?_
        refine TEv.nxt' S1 I1 hq fun x2 st2 v2 H2 μ2 t2 F2 I2 S2 r2 hq => ?_
        cases x1 <;> first | exact hq.elim | skip
        rename_i lo
        cases x2 <;> first | exact hq.elim | skip
        rename_i hi
        obtain ⟨rp, po⟩ := r1
        obtain ⟨rp2, po2⟩ := r2
        cases rp
        cases rp2
        obtain ⟨z, e1, hq⟩ := Fin.ofO hq
        unfold rangeD at e1
        split at e1
        · rename_i hb
          rw [if_pos rfl] at e1
          cases e1
          dsimp only [tNil]
          exact ⟨_, _, rfl, hb, hq _ H2 μ2 _ I2 (S1.trans S2) wk_rng fun _ h => by simp at h⟩
        · cases e1
      | [], _, h => simp [mIt] at h
      | [_], _, h => simp [mIt] at h
      | _ :: _ :: _ :: _, _, h => simp [mIt] at h
      | [_, _], _ :: _, h => simp [mIt] at h
    | _ => simp [mIt] at h
  | _ => simp [mIt] at h
theorem sndi_range3 (ha : Snd m g k a p) (hb : Snd m g k b q) (hd : Snd m g k d r) : SndI m g k (.range3 a b d) [] [] := by
  intro c sc X tg x hg ok h ht
  cases x with
  | Call f args kws pos =>
    cases f with
    | Name f fp =>
      match args, kws, h with
      | [x, y, z], [], h =>
        simp only [mIt, Bool.and_eq_true, beq_iff_eq] at h
        obtain ⟨⟨⟨⟨rfl, h1⟩, h2⟩, h3⟩, h4⟩ := h
        refine (pi_range3 (ok.gl h1) (ok.free _ (by decide +kernel)) (pa_cons (ha c sc X x hg ok h2) (pa_cons (hb c sc X y hg ok h3) (pa_cons (hd c sc X z hg ok h4) pa_nil (star_of (mE_plain h4) _ _)) (star_of (mE_plain h3) _ _)) (star_of (mE_plain h2) _ _))
          (star_of (mE_plain h2) _ _) (by rw [star_of (mE_plain h3), star_of (mE_plain h4)]; rfl)).mono fun σ H R ⟨env, st, μ, G, I, hq⟩ => ?_
        rw [evIt] at hq
        refine TEv.fst' I hq fun x1 st1 v1 H1 μ1 t1 F1 I1 S1 r1 hq1 => ?_
        refine TEv.nxt' S1 I1 hq1 fun x2 st2 v2 H2 μ2 t2 F2 I2 S2 r2 hq2 => ?_
        refine TEv.nxt' (S1.trans S2) I2 hq2 fun x3 st3 v3 H3 μ3 t3 F3 I3 S3 r3 hq3 => ?_
        clear hq hq1 hq2
        obtain ⟨lo, rfl⟩ : ∃ i, x1 = .int i := by cases x1 <;> first | exact ⟨_, rfl⟩ | exact hq3.elim
        obtain ⟨hi, rfl⟩ : ∃ i, x2 = .int i := by cases x2 <;> first | exact ⟨_, rfl⟩ | exact hq3.elim
        obtain ⟨cc, rfl⟩ : ∃ i, x3 = .int i := by cases x3 <;> first | exact ⟨_, rfl⟩ | exact hq3.elim
        obtain ⟨rp, po⟩ := r1
        obtain ⟨rp2, po2⟩ := r2
        obtain ⟨rp3, po3⟩ := r3
        cases rp
        cases rp2
        cases rp3
        obtain ⟨z, e1, hq⟩ := Fin.ofO hq3
        unfold rangeD at e1
        split at e1
        · rename_i hb
          split at e1
          · rename_i hc
            cases e1
            subst hc
            dsimp only [tNil]
            refine ⟨_, _, _, (hi - lo).toNat, rfl, ⟨by decide, by decide, small_one hb.1 hb.2.1 hb.2.2.1 hb.2.2.2, ?_⟩, hq _ H3 μ3 [] I3 ((S1.trans S2).trans S3) ?_ fun _ h => by simp at h⟩
            · rw [rangeSize_one]; split <;> omega
            · have z : Itc lo 1 (hi - lo).toNat = Itr lo (hi - lo).toNat := by
                unfold Itc Itr
                simp
              rw [z]
              exact wk_rng
          · split at e1
            · rename_i hc
              cases e1
              subst hc
              dsimp only [tNil]
              exact ⟨_, _, _, _, rfl, RgC.neg hb.1 hb.2.1 hb.2.2.1 hb.2.2.2, hq _ H3 μ3 _ I3 ((S1.trans S2).trans S3) wk_rngC fun _ h => by simp at h⟩
            · cases e1
        · cases e1
      | [], _, h => simp [mIt] at h
      | [_], _, h => simp [mIt] at h
      | [_, _], _, h => simp [mIt] at h
      | _ :: _ :: _ :: _ :: _, _, h => simp [mIt] at h
      | [_, _, _], _ :: _, h => simp [mIt] at h
    | _ => simp [mIt] at h
  | _ => simp [mIt] at h
theorem sndi_enum (ha : Snd m g k a p) : SndI m g k (.enum a) p.inn (p.top ++ p.inn) := by
  intro c sc X tg x hg ok h ht
  obtain ⟨elts, kk, tpos, rfl⟩ := ht rfl
  cases x with
  | Call f args kws pos =>
    cases f with
    | Name f fp =>
      match args, kws, h with
      | [x], [], h =>
        simp only [mIt, Bool.and_eq_true, beq_iff_eq] at h
        obtain ⟨⟨rfl, h1⟩, h2⟩ := h
        refine (pi_enumA (ok.gl h1) (ok.free _ (by decide +kernel)) (pa_cons (ha c sc X x hg ok h2) pa_nil (star_of (mE_plain h2) _ _)) (star_of (mE_plain h2) _ _)).mono fun σ H R ⟨env, st, μ, G, I, hq⟩ => ?_
        rw [evIt] at hq
        refine TEv.fst' I hq fun x1 st1 v1 H1 μ1 t1 F1 I1 S1 r1 hq => ?_
        have all := r1.all (G := G) I.gdom
        cases x1 <;> first | exact hq.elim | skip
        · obtain ⟨rp, po⟩ := r1
          cases rp
          rename_i hs rs
          dsimp only [tNil]
          exact ⟨_, _, rfl, .inr ⟨hs, hq _ H1 μ1 _ I1 S1 (wk_enumT hs rs (fun b hb => (all b (by simpa using hb)).2.1) fun b hb => ⟨po.inn b hb, (all b (by simpa using hb)).2.2⟩) fun b hb => ⟨(all b (by simpa using hb)).1, (all b (by simpa using hb)).2.2⟩⟩⟩
        · obtain ⟨rp, po⟩ := r1
          cases rp
          rename_i hs rs
          dsimp only [tNil]
          exact ⟨_, _, rfl, .inl ⟨.inl (.inl hs), hq _ H1 μ1 _ I1 S1 (wk_enum hs rs (fun b hb => (all b (by simpa using hb)).2.1) fun b hb => ⟨po.inn b hb, (all b (by simp [hb])).2.2⟩) fun b hb => ⟨(all b (by simpa using hb)).1, (all b (by simpa using hb)).2.2⟩⟩⟩
      | [], _, h => simp [mIt] at h
      | _ :: _ :: _, _, h => simp [mIt] at h
      | [_], _ :: _, h => simp [mIt] at h
    | _ => simp [mIt] at h
  | _ => simp [mIt] at h
theorem sndi_zip (ha : Snd m g k a p) (hb : Snd m g k b q) : SndI m g k (.zip a b) (p.inn ++ q.inn) ((p.top ++ p.inn) ++ (q.top ++ q.inn)) := by
  intro c sc X tg x hg ok h ht
  obtain ⟨elts, kk, tpos, rfl⟩ := ht rfl
  cases x with
  | Call f args kws pos =>
    cases f with
    | Name f fp =>
      match args, kws, h with
      | [x, y], [], h =>
        simp only [mIt, Bool.and_eq_true, beq_iff_eq] at h
        obtain ⟨⟨⟨rfl, h1⟩, h2⟩, h3⟩ := h
        refine (RZ.pi_zipA (ok.gl h1) (ok.free _ (by decide +kernel)) (pa_cons (ha c sc X x hg ok h2) (pa_cons (hb c sc X y hg ok h3) pa_nil (star_of (mE_plain h3) _ _)) (star_of (mE_plain h2) _ _))
          (star_of (mE_plain h2) _ _) (by rw [star_of (mE_plain h3)]; rfl)).mono fun σ H R ⟨env, st, μ, G, I, hq⟩ => ?_
        rw [evIt] at hq
        refine TEv.fst' I hq fun x1 st1 v1 H1 μ1 t1 F1 I1 S1 r1 hq => ?_
        refine TEv.nxt' S1 I1 hq fun x2 st2 v2 H2 μ2 t2 F2 I2 S2 r2 hq => ?_
        have r1 := r1.step S2
        have all1 := r1.all (G := G) I.gdom
        have all2 := r2.all (G := G) I.gdom
        obtain ⟨rp, po⟩ := r1
        obtain ⟨rp2, po2⟩ := r2
        have inn : ∀ b ∈ F1 ++ F2, (G b = none ∨ ∃ i ∈ p.inn ++ q.inn, G b = some i) ∧ c.Ok b := fun b hb => by
          rcases List.mem_append.mp hb with hb | hb
          · exact ⟨(po.inn b hb).imp id fun ⟨i, hi, e⟩ => ⟨i, List.mem_append_left _ hi, e⟩, (all1 b (List.mem_append_right _ hb)).2.2⟩
          · exact ⟨(po2.inn b hb).imp id fun ⟨i, hi, e⟩ => ⟨i, List.mem_append_right _ hi, e⟩, (all2 b (List.mem_append_right _ hb)).2.2⟩
        have all : ∀ b ∈ (t1 ++ F1) ++ (t2 ++ F2), b ∉ μ2 ∧ (G b = none ∨ ∃ i ∈ (p.top ++ p.inn) ++ (q.top ++ q.inn), G b = some i) ∧ c.Ok b := fun b hb => by
          rcases List.mem_append.mp hb with hb | hb
          · exact ⟨(all1 b hb).2.1, (all1 b hb).1.imp id fun ⟨i, hi, e⟩ => ⟨i, List.mem_append_left _ hi, e⟩, (all1 b hb).2.2⟩
          · exact ⟨(all2 b hb).2.1, (all2 b hb).1.imp id fun ⟨i, hi, e⟩ => ⟨i, List.mem_append_right _ hi, e⟩, (all2 b hb).2.2⟩
        cases x1 <;> first | exact hq.elim | skip
        · cases x2 <;> first | exact hq.elim | skip
          cases rp
          rename_i hs1 rs1
          cases rp2
          rename_i hs2 rs2
          dsimp only [tNil]
          exact ⟨_, _, _, _, rfl, .inr ⟨hs1, hs2, hq _ H2 μ2 _ I2 (S1.trans S2) (wk_zipT hs1 rs1 hs2 rs2 (fun b hb => (all b (by simpa using hb)).1) inn) fun b hb => (all b (by simpa using hb)).2⟩⟩
        · cases x2 <;> first | exact hq.elim | skip
          cases rp
          rename_i hs1 rs1
          cases rp2
          rename_i hs2 rs2
          have hin : ∀ {z x y : Addr}, z ∈ x :: y :: (F1 ++ F2) → z ∈ ([x] ++ F1) ++ ([y] ++ F2) := fun {z x y} hz => by
            simp only [List.mem_cons, List.mem_append, List.mem_singleton] at hz ⊢
            rcases hz with hz | hz | hz | hz <;> simp [hz]
          dsimp only [tNil]
          exact ⟨_, _, _, _, rfl, .inl ⟨.inl (.inl hs1), .inl (.inl hs2), hq _ H2 μ2 _ I2 (S1.trans S2) (wk_zip hs1 rs1 hs2 rs2 (fun b hb => (all b (hin hb)).1) inn) fun b hb => (all b (hin hb)).2⟩⟩
      | [], _, h => simp [mIt] at h
      | [_], _, h => simp [mIt] at h
      | _ :: _ :: _ :: _, _, h => simp [mIt] at h
      | [_, _], _ :: _, h => simp [mIt] at h
    | _ => simp [mIt] at h
  | _ => simp [mIt] at h
end
end WT
end

section
set_option Elab.async false
set_option linter.all false
set_option maxRecDepth 100000
set_option autoImplicit false
/-! K11i: the items of a dict whose keys are tuples. -/
namespace WT
open PySem PySem.Spec PyProof.Rows L2
mutual
theorem NK.rep {K : FW} {H : Hp} {μ : List Addr} : ∀ {k : NestedKey} {v : V}, NK K H k v → Rep K H μ (nkD k) v [] []
  | _, _, .none => .non
  | _, _, .num i => .int i
  | _, _, .str x => .str x
  | _, _, .tup e r => .tup e (NKs.reps r)
theorem NKs.reps {K : FW} {H : Hp} {μ : List Addr} : ∀ {ks : List NestedKey} {vs : List V}, NKs K H ks vs → Reps K H μ (nkDs ks) vs []
  | _, _, .nil => .nil
  | _, _, .cons r s => .cons (t := []) (F := []) (NK.rep r) (NKs.reps s)
end
/-- the pairs of the dict at a -/
def ItiT (w : World) (a : Addr) (o : Obj) (xs : List (NestedKey × Addr × Value)) : L2.It :=
  ⟨fun i H => H a = some (DTo w a o xs) ∧ i < xs.length, fun i H v H' => ∃ T x u, v = .ref T ∧ H T = none ∧ xs[i]? = some x ∧ RelV u x.2.2 ∧ H' = upd H T (.tup [.ref x.2.1, u]), fun i H => H a = some (DTo w a o xs) ∧ xs.length ≤ i⟩
theorem raw_of {X : Cx} {pins : List (Addr × Obj)} {σ : St} {H : Hp} {s : Shared} (I : Inv X pins σ H s) {a : Addr} {o : Obj} {xs : List (NestedKey × Addr × Value)} (e : H a = some (DTo X.w a o xs)) {es : Array DictEntry} {ep : Nat} (hd : o.data = .dict es ep) :
    s.heap.DictRaw a es ep ∧ es.size = xs.length ∧ ∀ (i : Nat) (x : NestedKey × Addr × Value), xs[i]? = some x → ∃ h : i < es.size, es[i].key = .ref x.2.1 ∧ es[i].val = x.2.2 := by
  obtain ⟨⟨h1, h2, es', ep', h3, h4, h5⟩, _⟩ := I.hok a _ e
  rw [hd] at h3
  cases h3
  have hz : es.size = xs.length := by
    have := congrArg List.length h4
    simpa using this
  refine ⟨⟨o, h1, h2, hd⟩, hz, fun i x hx => ?_⟩
  have hi : i < es.size := by rw [hz]; exact (List.getElem?_eq_some_iff.mp hx).1
  have q : es.toList[i]? = some (⟨x.1.hash X.w, .ref x.2.1, x.2.2⟩ : DictEntry) := by rw [h4, List.getElem?_map, hx]; rfl
  have q2 : es[i] = (⟨x.1.hash X.w, .ref x.2.1, x.2.2⟩ : DictEntry) := by
    rw [Array.getElem?_toList, Array.getElem?_eq_getElem hi] at q
    exact Option.some.inj q
  exact ⟨hi, by rw [q2], by rw [q2]⟩
theorem turn_itemsT {P : Program} {w : World} {K : PySem.W.Frag} {elts : List Expr} {kk : Nat} {tpos : Pos} (a it : Addr) (o : Obj) (xs : List (NestedKey × Addr × Value)) {es : Array DictEntry} {ep : Nat} (hod : o.data = .dict es ep) (vs : List V) (hv : Vals vs (xs.map (·.2.2))) :
    Turn P w K (.Tuple elts kk tpos) (ItiT w a o xs) [it] it (fun i h => ∃ ok ov, IsItemIter h it a i xs.length ep ok ov) where
  mem := by simp
  obj := fun i h st b hb => by
    have e : b = it := by simpa using hb
    subst e
    obtain ⟨ok, ov, e⟩ := st
    exact ⟨_, e, fun v z => nomatch z⟩
  keep := fun i h h' st k => let ⟨ok, ov, e⟩ := st; ⟨ok, ov, k it (by simp) _ e⟩
  item := by
    intro X hP hw hK hc i pins s σ H E I hf st hg
    subst hP hw hK
    obtain ⟨hd, hi⟩ := hg
    obtain ⟨raw, hz, ent⟩ := raw_of I hd hod
    obtain ⟨x, hx⟩ : ∃ x, xs[i]? = some x := ⟨xs[i], List.getElem?_eq_getElem hi⟩
    obtain ⟨he1, he2, he3⟩ := ent i x hx
    obtain ⟨ok, ov, he⟩ := st
    rw [← hz] at he
    have hlt : it < s.heap.objs.size := Heap.lt_size he
    have hl : vs.length = xs.length := by have := hv.length; simpa using this
    obtain ⟨u, hu⟩ : ∃ u, vs[i]? = some u := ⟨vs[i], List.getElem?_eq_getElem (by omega)⟩
    have ru : RelV u x.2.2 := by
      obtain ⟨w', hw', rw'⟩ := hv.get hu
      rw [List.getElem?_map, hx] at hw'
      cases hw'
      exact rw'
    refine wpAny_pyNext_items_item_raw he raw he1 fun h' ho hT hz2 hk => ?_
    rw [he2, he3] at hT
    refine ⟨_, rfl, wpAny_letOwnedTupleGo_items (s := { s with heap := h' }) ho fun h'' he' sb => ?_⟩
    have hT2 : h''.get? s.heap.objs.size = some { cls := .type "tuple", data := .seq #[.ref x.2.1, x.2.2] } := (sb.2 _ (Nat.ne_of_gt hlt)).trans hT
    have new : ObjOk X.prog X.w (upd H s.heap.objs.size (.tup [.ref x.2.1, u])) h'' s.heap.objs.size (.tup [.ref x.2.1, u]) :=
      ⟨by show 2 ≤ sizeLine; decide, [.ref x.2.1, x.2.2], .cons rfl (.cons ru .nil), ⟨_, hT2, rfl, _, rfl⟩⟩
    have I1 : Inv X pins σ (upd H s.heap.objs.size (.tup [.ref x.2.1, u])) { s with heap := h'' } :=
      I.turnedNew (t' := s.toks) (ch := [it]) (fun b ob hb e => (sb.2 b (by simpa using hb)).trans (hk b ob (by simpa using hb) e)) hf (Nat.le_refl _) new
    refine ⟨.ref s.heap.objs.size, _, I1, rfl, ⟨_, x, u, rfl, I.hok.fresh (Nat.le_refl _), hx, ru, rfl⟩, ⟨es[i].key, es[i].val, ?_⟩, fun b hb => ?_⟩
    · rw [← hz]; exact he'
    · have e : b = it := by simpa using hb
      rw [e, upd_ne (Nat.ne_of_lt hlt)]
      exact (hf it (by simp)).1
  done := by
    intro X hP hw hK hc i pins s σ H E I hf st hg
    subst hP hw hK
    obtain ⟨hd, hi⟩ := hg
    obtain ⟨raw, hz, ent⟩ := raw_of I hd hod
    obtain ⟨f0, f1, f2, f3, f4, f5⟩ := hf it (by simp)
    obtain ⟨ok, ov, he⟩ := st
    rw [← hz] at he
    exact wpAny_pyNext_items_end_raw (I.ok.hd hc) he raw (by omega) fun h' eb => ⟨rfl, I.turned (t' := s.toks) (fun b ob hb e => eb b ob hb e) f0 f1 f3 f4 f5⟩
  self := fun A i s Q E st h => let ⟨_, _, e⟩ := st; PySem.W.kcp_self e h
def iItmT (w : World) (td : TE) : TI := fun σ H R => td σ H fun x H1 => ∃ a o xs vs, x = .ref a ∧ H1 a = some (DTo w a o xs) ∧ (a == sysModules) = false ∧ Vals vs (xs.map (·.2.2)) ∧ R (ItiT w a o xs) H1
theorem pi_itmT {X : Cx} {e : Expr} {td : TE} {apos cpos : Pos} {elts : List Expr} {kk : Nat} {tpos : Pos} (he : PE X e td) (hbase : attributeBase e "items" X.env (eval e X.env) = eval e X.env := by rfl) (hline : (apos.endLine == cpos.line) = true := by rfl) :
    PI X (.Tuple elts kk tpos) (.Call (.Attribute e "items" apos) [] [] cpos) (iItmT X.w td) := by
  refine ⟨fun pins s σ H R I h => ?_⟩
  refine wpAny_Call_method (T := "dict") (id := "dict.items") hbase rfl hline F.plainAttrs_dict F.slot_dict_items F.type_dict_items (thn (he.run pins s σ H _ I h) fun u s1 ⟨x, H1, I1, rx, a, o, xs, vs, ex, hd, hs, hv, q⟩ => ?_)
  subst ex
  obtain rfl : u = Value.ref a := rx
  obtain ⟨⟨h1, h2, es, ep, h3, h4, h5⟩, _⟩ := I1.hok a _ hd
  obtain ⟨raw, hz, _⟩ := raw_of I1 hd h3
  refine ⟨⟨_, h1, h2.1⟩, fun b z => ⟨_, by cases z; exact h1, h2.2.1⟩, ?_⟩
  have I2 : Inv X pins σ H1 { s1 with heap := s1.heap.push { cls := .type "dict_items", data := .fields #[.ref a] } } := I1.kept (t' := s1.toks) fun b ob q => Heap.get?_push_of_some _ q
  have raw2 := (raw_of I2 hd h3).1
  have fin : wpAny (model X.prog X.w) X.A (pyIter (.ref s1.heap.objs.size)) (PIE X pins σ (.Tuple elts kk tpos) R) X.xe { s1 with heap := s1.heap.push { cls := .type "dict_items", data := .fields #[.ref a] } } := by
    refine wpAny_pyIter_items_raw (d := a) ⟨_, Heap.get?_push_size _ rfl, rfl, rfl⟩ raw2 (pi_one (tk := s1.toks) I2 _ (turn_itemsT a _ o xs h3 vs hv) ⟨.none, .none, ?_⟩ q)
    rw [← hz]
    exact Heap.get?_push_size _ rfl
  show wpAny _ _ (callWith cpos (.builtin "dict.items") [.ref a] [] []) _ X.xe s1
  exact method_meetsIn F.slot_dict_items F.entry_dict_items rfl (PySem.evalArgs_none ⟨rfl, ⟨_, h1, h2.1⟩, F.args_dict_items_1 _, _, meets_dict_items_raw a hs, ⟨⟨_, _, raw⟩, fin⟩⟩)
section
variable {K : FW} {ok : Addr → Prop} {G : Addr → Option Nat} {l : List Nat} {a : Addr} {ds : List WT.D} {vs : List V} {μ1 : List Addr} {H1 : Hp} {o : Obj} {xs : List (NestedKey × Addr × Value)}
theorem wk_items (h : H1 a = some (DTo K.w a o xs)) (hn : a ∉ μ1) (nk : NKx K H1 xs) (hv : Vals vs (xs.map (·.2.2))) (r : Reps K H1 μ1 ds vs []) : Wk K ok G l (ItiT K.w a o xs) (itmD (xs.map (·.1)) ds) [a] μ1 H1 where
  there := fun b hb => by
    have e := List.mem_singleton.mp hb
    subst e
    exact ⟨by rw [h]; simp, hn⟩
  stop := fun μ H i s hl => by
    refine ⟨s.keep a _ h hn (by simp), ?_⟩
    have h1 := r.length
    have h2 := hv.length
    simp [itmD] at hl h2
    omega
  go := fun μ H i x s hx => by
    have hq : H a = some (DTo K.w a o xs) := s.keep a _ h hn (by simp)
    have r2 : Reps K H μ ds vs [] := r.sl s fun b hb => by simp at hb
    have nk2 : NKx K H xs := nk.mono fun _ _ z => SqT.sl z s
    unfold itmD at hx
    rw [List.getElem?_zipWith] at hx
    cases hx1 : xs[i]? with
    | none => rw [List.getElem?_map, hx1] at hx; simp at hx
    | some p =>
      cases hx2 : ds[i]? with
      | none => rw [hx2] at hx; cases h3 : (List.map (·.1) xs)[i]? <;> rw [h3] at hx <;> simp at hx
      | some d =>
        rw [List.getElem?_map, hx1, hx2] at hx
        cases hx
        obtain ⟨v, t, F2, e, rv, hs⟩ := r2.get hx2
        refine ⟨⟨hq, (List.getElem?_eq_some_iff.mp hx1).1⟩, fun v' H' hy => ?_⟩
        obtain ⟨T, y, u, rfl, hT, hy1, ru, rfl⟩ := hy
        rw [hx1] at hy1
        cases hy1
        obtain ⟨w', hw', rw'⟩ := hv.get e
        rw [List.getElem?_map, hx1] at hw'
        cases hw'
        have n1 : New1 H (upd H T (.tup [.ref p.2.1, u])) := .inr ⟨T, _, hT, rfl⟩
        have ht : t = [] ∧ F2 = [] := by
          cases t with
          | cons z t' => exact absurd (hs z (by simp)) (by simp)
          | nil => cases F2 with
            | cons z t' => exact absurd (hs z (by simp)) (by simp)
            | nil => exact ⟨rfl, rfl⟩
        obtain ⟨rfl, rfl⟩ := ht
        have huv : u = v := RelV.inj ru rw'
        subst huv
        have rk : Rep K H μ (nkD p.1) (.ref p.2.1) [] [] := (nk2 p (List.mem_of_getElem? hx1)).1.rep
        have rr : Reps K (upd H T (.tup [.ref p.2.1, u])) μ [nkD p.1, d] [.ref p.2.1, u] ([] ++ [] ++ ([] ++ [] ++ [])) := .cons (rk.ext n1.keep) (.cons (rv.ext n1.keep) .nil)
        exact ⟨n1, [], _, .tup (.inl (.inl upd_same)) rr, fun b hb => by simp at hb⟩
end
section
variable {m : MC} {g : GE} {k : Nat} {a : E} {p : Pv}
theorem sndi_items (ha : Snd m g k a p) : SndI m g k (.items a) [] (p.top ++ p.inn) := by
  intro c sc X tg x hg ok h ht
  obtain ⟨elts, kk, tpos, rfl⟩ := ht rfl
  cases x with
  | Call f args kws pos =>
    cases f with
    | Attribute y f ap =>
      cases y with
      | Name y yp =>
        match args, kws, h with
        | [], [], h =>
          simp only [mIt, Bool.and_eq_true, beq_iff_eq] at h
          obtain ⟨⟨rfl, h1⟩, h2⟩ := h
          refine (pi_itmT (ha c sc X _ hg ok h2) rfl (by simpa using h1)).mono fun σ H R ⟨env, st, μ, G, I, hq⟩ => ?_
          rw [evIt] at hq
          refine TEv.fst' I hq fun x1 st1 v1 H1 μ1 t1 F1 I1 S1 r1 hq => ?_
          have all := r1.all (G := G) I.gdom
          cases x1 <;> first | exact hq.elim | skip
          obtain ⟨rp, po⟩ := r1
          cases rp
          rename_i od xs vs F e hs hl nk hv hF hk rs
          subst hk hF
          exact ⟨_, od, xs, vs, rfl, e, hs, hv, hq _ H1 μ1 _ I1 S1 (wk_items e (all _ (by simp)).2.1 nk hv rs) fun b hb => ⟨(all b (by simpa using hb)).1, (all b (by simpa using hb)).2.2⟩⟩
        | [], _ :: _, h => simp [mIt] at h
        | _ :: _, _, h => simp [mIt] at h
      | _ => simp [mIt] at h
    | _ => simp [mIt] at h
  | _ => simp [mIt] at h
end
end WT
end

section
set_option Elab.async false
set_option linter.all false
set_option maxRecDepth 100000
set_option autoImplicit false
/-! K11j: a dict whose keys are tuples is walked: its keys. -/
namespace WT
open PySem PySem.Spec PyProof.Rows L2
/-- the keys of the dict at a -/
def ItkX (w : World) (a : Addr) (o : Obj) (xs : List (NestedKey × Addr × Value)) : L2.It :=
  ⟨fun i H => H a = some (DTo w a o xs) ∧ i < xs.length, fun i H v H' => H' = H ∧ ∃ x, xs[i]? = some x ∧ v = .ref x.2.1, fun i H => H a = some (DTo w a o xs) ∧ xs.length ≤ i⟩
theorem turn_keysX {P : Program} {w : World} {K : PySem.W.Frag} {tg : Expr} (a it : Addr) (o : Obj) (xs : List (NestedKey × Addr × Value)) {es : Array DictEntry} {ep : Nat} (hod : o.data = .dict es ep) :
    Turn P w K tg (ItkX w a o xs) [it] it (fun i h => h.IsKeyIter it a i xs.length ep) where
  mem := by simp
  obj := fun i h st b hb => by
    have e : b = it := by simpa using hb
    subst e
    obtain ⟨oi, e, c, dd⟩ := st
    exact ⟨oi, e, fun v z => by rw [dd] at z; cases z⟩
  keep := fun i h h' st k => st.at fun oi e => k it (by simp) oi e
  item := by
    intro X hP hw hK hc i pins s σ H E I hf st hg
    subst hP hw hK
    obtain ⟨hd, hi⟩ := hg
    obtain ⟨f0, f1, f2, f3, f4, f5⟩ := hf it (by simp)
    obtain ⟨raw, hz, ent⟩ := raw_of I hd hod
    obtain ⟨x, hx⟩ : ∃ x, xs[i]? = some x := ⟨xs[i], List.getElem?_eq_getElem hi⟩
    obtain ⟨he1, he2, he3⟩ := ent i x hx
    have st0 : s.heap.IsKeyIter it a i es.size ep := by rw [hz]; exact st
    refine wpAny_pyNext_keys_item_raw st0 raw he1 fun h' st2 sb => ?_
    have I1 : Inv X pins σ H { s with heap := h' } := I.turned (t' := s.toks) (fun b ob hb e => (sb.2 b hb).trans e) f0 f1 f3 f4 f5
    obtain ⟨oi, e, c, dd⟩ := id st2
    refine ⟨es[i].key, rfl, go_of (s := { s with heap := h' }) e c dd (by decide) ⟨.ref x.2.1, H, I1, he2, ⟨rfl, x, hx, rfl⟩, ?_, fun b hb => (hf b hb).1⟩⟩
    show h'.IsKeyIter it a (i + 1) xs.length ep
    rw [← hz]
    exact st2
  done := by
    intro X hP hw hK hc i pins s σ H E I hf st hg
    subst hP hw hK
    obtain ⟨hd, hi⟩ := hg
    obtain ⟨f0, f1, f2, f3, f4, f5⟩ := hf it (by simp)
    obtain ⟨raw, hz, ent⟩ := raw_of I hd hod
    have st0 : s.heap.IsKeyIter it a i es.size ep := by rw [hz]; exact st
    exact wpAny_pyNext_keys_end_raw (I.ok.hd hc) st0 raw (by omega) fun h' eb => ⟨rfl, I.turned (t' := s.toks) (fun b ob hb e => eb b ob hb e) f0 f1 f3 f4 f5⟩
  self := fun A i s Q E st h => by
    refine wpAny_pyIter_slot st.typeIs F.slot_dict_keyiterator_iter (wpAny_call_entry F.slot_dict_keyiterator_iter st.typeIs F.entry_dict_keyiterator_iter ?_ (F.args_dict_keyiterator_iter_1 _))
    show wpAny _ _ (ret (.ref it)) _ _ s
    exact wpAny_pure ⟨_, rfl, "dict_keyiterator", _, st.typeIs, F.slot_dict_keyiterator_next.lookup, h⟩
def iKeyX (w : World) (td : TE) : TI := fun σ H R => td σ H fun x H1 => ∃ a o xs, x = .ref a ∧ H1 a = some (DTo w a o xs) ∧ (a == sysModules) = false ∧ R (ItkX w a o xs) H1
theorem pi_keysX {X : Cx} {tg e : Expr} {td : TE} (he : PE X e td) : PI X tg e (iKeyX X.w td) := by
  refine ⟨fun pins s σ H R I h => ?_⟩
  refine thn (he.run pins s σ H _ I h) fun u s1 ⟨x, H1, I1, rx, a, o, xs, ex, hd, hs, q⟩ => ?_
  subst ex
  obtain rfl : u = Value.ref a := rx
  obtain ⟨⟨h1, h2, es, ep, h3, h4, h5⟩, _⟩ := I1.hok a _ hd
  obtain ⟨raw, hz, _⟩ := raw_of I1 hd h3
  refine wpAny_pyIter_dict_raw hs raw (pi_one (tk := s1.toks) I1 _ (turn_keysX a _ o xs h3) ⟨_, Heap.get?_push_size _ rfl, rfl, ?_⟩ q)
  rw [hz] <;> rfl
section
variable {K : FW} {ok : Addr → Prop} {G : Addr → Option Nat} {l : List Nat} {a : Addr} {μ1 : List Addr} {H1 : Hp} {o : Obj} {xs : List (NestedKey × Addr × Value)}
theorem wk_keysX (h : H1 a = some (DTo K.w a o xs)) (hn : a ∉ μ1) (nk : NKx K H1 xs) : Wk K ok G l (ItkX K.w a o xs) ((xs.map (·.1)).map nkD) [a] μ1 H1 where
  there := fun b hb => by
    have e := List.mem_singleton.mp hb
    subst e
    exact ⟨by rw [h]; simp, hn⟩
  stop := fun μ H i s hl => ⟨s.keep a _ h hn (by simp), by simpa using hl⟩
  go := fun μ H i x s hx => by
    have hq : H a = some (DTo K.w a o xs) := s.keep a _ h hn (by simp)
    have nk2 : NKx K H xs := nk.mono fun _ _ z => SqT.sl z s
    cases hx1 : xs[i]? with
    | none => rw [List.getElem?_map, List.getElem?_map, hx1] at hx; simp at hx
    | some p =>
      rw [List.getElem?_map, List.getElem?_map, hx1] at hx
      cases hx
      refine ⟨⟨hq, (List.getElem?_eq_some_iff.mp hx1).1⟩, fun v' H' hy => ?_⟩
      obtain ⟨rfl, y, hy1, rfl⟩ := hy
      rw [hx1] at hy1
      cases hy1
      exact ⟨.inl rfl, [], [], (nk2 p (List.mem_of_getElem? hx1)).1.rep, fun b hb => by simp at hb⟩
end
section
variable {m : MC} {g : GE} {k : Nat} {a : E} {p : Pv}
theorem sndi_keys (ha : Snd m g k a p) : SndI m g k (.keys a) [] (p.top ++ p.inn) := by
  intro c sc X tg x hg ok h ht
  cases x with
  | Name y yp =>
    simp only [mIt] at h
    refine (pi_keysX (ha c sc X _ hg ok h)).mono fun σ H R ⟨env, st, μ, G, I, hq⟩ => ?_
    rw [evIt] at hq
    refine TEv.fst' I hq fun x1 st1 v1 H1 μ1 t1 F1 I1 S1 r1 hq => ?_
    have all := r1.all (G := G) I.gdom
    cases x1 <;> first | exact hq.elim | skip
    obtain ⟨rp, po⟩ := r1
    cases rp
    rename_i od xs vs F e hs hl nk hv hF hk rs
    subst hk hF
    exact ⟨_, od, xs, rfl, e, hs, hq _ H1 μ1 _ I1 S1 (wk_keysX e (all _ (by simp)).2.1 nk) fun b hb => ⟨(all b (by simpa using hb)).1, (all b (by simpa using hb)).2.2⟩⟩
  | _ => simp [mIt] at h
end
end WT
end

section
set_option Elab.async false
set_option linter.all false
set_option maxRecDepth 100000
set_option autoImplicit false
/-! K12: targets, comprehensions, every expression. -/
namespace WT
open PySem PySem.Spec PyProof.Rows L2

mutual
def tgG (K : FW) : Tg → TG
  | .name i => gName i
  | .tup ts => gTup K ts.len (tgGs K ts)
def tgGs (K : FW) : Tgs → TGs
  | .nil => gNil
  | .cons t ts => gCons (tgG K t) (tgGs K ts)
end
theorem slot_set {env : Env} {i j : Nat} {o : Option D} {d : D} (h : slot (env.set i o) j = some d) : (j = i ∧ j < env.length ∧ o = some d) ∨ (j ≠ i ∧ slot env j = some d) := by
  unfold slot at h ⊢
  by_cases e : j = i
  · subst e
    by_cases hl : j < env.length
    · rw [List.getElem?_set_self hl] at h
      exact .inl ⟨rfl, hl, h⟩
    · rw [List.getElem?_eq_none (by simpa using hl)] at h
      cases h
  · rw [List.getElem?_set_ne (Ne.symm e)] at h
    exact .inr ⟨e, h⟩
mutual
theorem bindTg_len : ∀ {tg : Tg} {x : D} {env env' : Env}, bindTg tg x env = some env' → env'.length = env.length
  | .name i, x, env, env', h => by
    unfold bindTg at h
    cases h
    simp
  | .tup ts, x, env, env', h => by
    unfold bindTg at h
    split at h
    · exact bindTgs_len h
    · cases h
theorem bindTgs_len : ∀ {ts : Tgs} {ds : List D} {env env' : Env}, bindTgs ts ds env = some env' → env'.length = env.length
  | .nil, ds, env, env', h => by
    unfold bindTgs at h
    split at h
    · cases h; rfl
    · cases h
  | .cons t ts, ds, env, env', h => by
    unfold bindTgs at h
    split at h
    · obtain ⟨e1, h1, h2⟩ := Option.bind_eq_some_iff.mp h
      rw [bindTgs_len h2, bindTg_len h1]
    · cases h
end
theorem bindTgs_args : ∀ {ts : Tgs} {ds : List D} {env env' : Env}, bindTgs ts ds env = some env' → ds.length = ts.len
  | .nil, ds, env, env', h => by
    unfold bindTgs at h
    split at h
    · rfl
    · cases h
  | .cons t ts, ds, env, env', h => by
    unfold bindTgs at h
    split at h
    · obtain ⟨e1, h1, h2⟩ := Option.bind_eq_some_iff.mp h
      rw [List.length_cons, bindTgs_args h2, Tgs.len]
    · cases h
theorem slot_none {env : Env} {i : Nat} (h : ¬ i < env.length) : slot env i = none := by
  unfold slot
  rw [List.getElem?_eq_none (by omega)]
  rfl
section
variable {K : FW} {ow : Nat → Bool} {Ok : Addr → Prop} {env env0 env' : Env} {st : Sto} {μ : List Addr} {G : Addr → Option Nat} {σ σ0 : St} {H : Hp} {x : D} {v : V} {t F : List Addr}
/-- one name more: a value that no name owns -/
theorem SI.put (I : SI K ow Ok env st μ G σ H) {i : Nat} (hi : ow i = false) (r : Rep K H μ x v t F) (hp : ∀ a ∈ t ++ F, G a = none ∧ a ∉ μ ∧ Ok a) : SI K ow Ok (env.set i (some x)) st μ G (σ.set i (some v)) H := by
  refine ⟨fun j d e => ?_, I.box, I.muLen, I.muNd, I.gmu, I.gdom, I.okn, by simpa using I.len⟩
  rcases slot_set e with ⟨rfl, hl, e⟩ | ⟨hne, e⟩
  · cases e
    · refine ⟨v, t, F, by rw [List.getElem?_set_self (Nat.lt_of_lt_of_le hl I.len)], r, fun a ha => ?_, fun a ha => (hp a (List.mem_append_right _ ha)).1, fun a ha => (hp a ha).2⟩
      rw [hi]
      exact (hp a (List.mem_append_left _ ha)).1
  · obtain ⟨v', t', F', e1, r', g1, g2, g3⟩ := I.slot j d e
    exact ⟨v', t', F', by rw [List.getElem?_set_ne (Ne.symm hne)]; exact e1, r', g1, g2, g3⟩
end
mutual
theorem SI.tg {K : FW} {ow : Nat → Bool} {Ok : Addr → Prop} {st : Sto} {μ : List Addr} {G : Addr → Option Nat} {H : Hp} : ∀ {tg : Tg} {env env' : Env} {σ : St} {x : D} {v : V} {t F : List Addr} {Q : St → Hp → Prop}, SI K ow Ok env st μ G σ H → (∀ i ∈ tg.slots, ow i = false) → bindTg tg x env = some env' → Rep K H μ x v t F → (∀ a ∈ t ++ F, G a = none ∧ a ∉ μ ∧ Ok a) →
    (∀ σ', SI K ow Ok env' st μ G σ' H → σ'.length = σ.length → (∀ j, j ∉ tg.slots → σ'[j]? = σ[j]?) → Q σ' H) → tgG K tg v σ H Q
  | .name i, env, env', σ, x, v, t, F, Q, I, ho, hb, r, hp, k => by
    unfold bindTg at hb
    cases hb
    exact k _ (I.put (ho i (by simp [Tg.slots])) r hp) (by simp) fun j hj => List.getElem?_set_ne fun e => hj (by simp [Tg.slots, e])
  | .tup ts, env, env', σ, x, v, t, F, Q, I, ho, hb, r, hp, k => by
    unfold bindTg at hb
    split at hb
    · cases r with
      | tup hs rs =>
        refine ⟨_, _, rfl, hs, ?_, ?_⟩
        · rw [← rs.length]
          exact (bindTgs_args hb).symm ▸ rfl
        · exact SI.tgs I (fun i hi => ho i (by simpa [Tg.slots] using hi)) hb rs (fun a ha => hp a (by simpa using ha)) fun σ' I' hl hj => k σ' I' hl fun j hn => hj j (by simpa [Tg.slots] using hn)
    · cases hb
theorem SI.tgs {K : FW} {ow : Nat → Bool} {Ok : Addr → Prop} {st : Sto} {μ : List Addr} {G : Addr → Option Nat} {H : Hp} : ∀ {ts : Tgs} {env env' : Env} {σ : St} {ds : List D} {vs : List V} {F : List Addr} {Q : St → Hp → Prop}, SI K ow Ok env st μ G σ H → (∀ i ∈ ts.slots, ow i = false) → bindTgs ts ds env = some env' → Reps K H μ ds vs F → (∀ a ∈ F, G a = none ∧ a ∉ μ ∧ Ok a) →
    (∀ σ', SI K ow Ok env' st μ G σ' H → σ'.length = σ.length → (∀ j, j ∉ ts.slots → σ'[j]? = σ[j]?) → Q σ' H) → tgGs K ts vs σ H Q
  | .nil, env, env', σ, ds, vs, F, Q, I, ho, hb, r, hp, k => by
    unfold bindTgs at hb
    split at hb
    · cases hb
      cases r
      exact ⟨rfl, k _ I rfl fun _ _ => rfl⟩
    · cases hb
  | .cons t ts, env, env', σ, ds, vs, F, Q, I, ho, hb, r, hp, k => by
    unfold bindTgs at hb
    split at hb
    · obtain ⟨e1, h1, h2⟩ := Option.bind_eq_some_iff.mp hb
      cases r with
      | cons r1 rs =>
        refine ⟨_, _, rfl, SI.tg I (fun i hi => ho i (by simp [Tgs.slots, hi])) h1 r1 (fun a ha => hp a (List.mem_append_left _ ha)) fun σ1 I1 hl1 hj1 => ?_⟩
        refine SI.tgs I1 (fun i hi => ho i (by simp [Tgs.slots, hi])) h2 rs (fun a ha => hp a (List.mem_append_right _ ha)) fun σ2 I2 hl2 hj2 => k σ2 I2 (by rw [hl2, hl1]) fun j hn => ?_
        rw [hj2 j fun z => hn (by simp [Tgs.slots, z]), hj1 j fun z => hn (by simp [Tgs.slots, z])]
    · cases hb
end
/-- names forgotten -/
theorem clrs_len {env : Env} : ∀ is : List Nat, (clrs env is).length = env.length
  | [] => rfl
  | i :: is => by rw [clrs, List.length_set, clrs_len is]
theorem clrs_slot {env : Env} {j : Nat} {d : D} : ∀ {is : List Nat}, slot (clrs env is) j = some d → j ∉ is ∧ slot env j = some d
  | [], h => ⟨by simp, h⟩
  | i :: is, h => by
    rcases slot_set h with ⟨_, _, e⟩ | ⟨hne, e⟩
    · cases e
    · obtain ⟨h1, h2⟩ := clrs_slot e
      exact ⟨by simp [hne, h1], h2⟩
theorem clrs_get {env : Env} {j : Nat} : ∀ {is : List Nat}, j ∉ is → (clrs env is)[j]? = env[j]?
  | [], _ => rfl
  | i :: is, h => by
    rw [clrs, List.getElem?_set_ne fun e => h (by simp [e])]
    exact clrs_get fun m => h (by simp [m])
/-- environments that agree but at S: behind a target they agree there too -/
def Agr (S : Nat → Prop) (e1 e2 : Env) : Prop := e1.length = e2.length ∧ ∀ j, ¬ S j → e1[j]? = e2[j]?
theorem agr_set {S : Nat → Prop} {e1 e2 : Env} {i : Nat} {o : Option D} (h : Agr S e1 e2) : Agr (fun j => S j ∧ j ≠ i) (e1.set i o) (e2.set i o) := by
  refine ⟨by simp [h.1], fun j hj => ?_⟩
  by_cases e : j = i
  · subst e
    by_cases hk : j < e1.length
    · rw [List.getElem?_set_self hk, List.getElem?_set_self (by rw [← h.1]; exact hk)]
    · rw [List.getElem?_eq_none (by simpa using hk), List.getElem?_eq_none (by rw [List.length_set, ← h.1]; omega)]
  · rw [List.getElem?_set_ne (Ne.symm e), List.getElem?_set_ne (Ne.symm e)]
    exact h.2 j fun z => hj ⟨z, e⟩
mutual
theorem bindTg_agr : ∀ {tg : Tg} {x : D} {e1 e2 e1' : Env} {S : Nat → Prop}, Agr S e1 e2 → bindTg tg x e1 = some e1' → ∃ e2', bindTg tg x e2 = some e2' ∧ Agr (fun j => S j ∧ j ∉ tg.slots) e1' e2'
  | .name i, x, e1, e2, e1', S, h, hb => by
    unfold bindTg at hb
    cases hb
    refine ⟨_, by rw [bindTg], ?_⟩
    have z := agr_set (i := i) (o := some x) h
    exact ⟨z.1, fun j hj => z.2 j fun q => hj ⟨q.1, by simpa [Tg.slots] using q.2⟩⟩
  | .tup ts, x, e1, e2, e1', S, h, hb => by
    unfold bindTg at hb
    split at hb
    · obtain ⟨e2', h1, h2⟩ := bindTgs_agr h hb
      exact ⟨e2', by rw [bindTg]; exact h1, h2⟩
    · cases hb
theorem bindTgs_agr : ∀ {ts : Tgs} {ds : List D} {e1 e2 e1' : Env} {S : Nat → Prop}, Agr S e1 e2 → bindTgs ts ds e1 = some e1' → ∃ e2', bindTgs ts ds e2 = some e2' ∧ Agr (fun j => S j ∧ j ∉ ts.slots) e1' e2'
  | .nil, ds, e1, e2, e1', S, h, hb => by
    unfold bindTgs at hb
    split at hb
    · cases hb
      exact ⟨e2, by rw [bindTgs], h.1, fun j hj => h.2 j fun q => hj ⟨q, by simp [Tgs.slots]⟩⟩
    · cases hb
  | .cons t ts, ds, e1, e2, e1', S, h, hb => by
    unfold bindTgs at hb
    split at hb
    · obtain ⟨e3, h1, h2⟩ := Option.bind_eq_some_iff.mp hb
      obtain ⟨e4, h3, h4⟩ := bindTg_agr h h1
      obtain ⟨e5, h5, h6⟩ := bindTgs_agr h4 h2
      refine ⟨e5, by rw [bindTgs]; exact Option.bind_eq_some_iff.mpr ⟨e4, h3, h5⟩, h6.1, fun j hj => h6.2 j fun q => hj ⟨q.1.1, ?_⟩⟩
      rw [Tgs.slots, List.mem_append]
      exact fun z => z.elim q.1.2 q.2
    · cases hb
end
theorem bindTg_clrs {tg : Tg} {x : D} {env env' : Env} {is : List Nat} (hs : ∀ i ∈ is, i ∈ tg.slots) (h : bindTg tg x env = some env') : bindTg tg x (clrs env is) = some env' := by
  obtain ⟨e2, h1, h2⟩ := bindTg_agr (S := fun j => j ∈ is) (e2 := clrs env is) ⟨(clrs_len is).symm, fun j hj => (clrs_get hj).symm⟩ h
  rw [h1]
  refine congrArg some (List.ext_getElem? fun j => (h2.2 j fun q => q.2 (hs j q.1)).symm)
theorem wipe_in {σ : St} {i : Nat} : ∀ {vs : List Nat}, i ∈ vs → i < σ.length → (wipe σ vs)[i]? = some none
  | v :: vs, h, hl => by
    unfold wipe
    by_cases e : v = i
    · subst e
      rw [List.getElem?_set_self (by rw [wipe_length]; exact hl)]
    · rw [List.getElem?_set_ne e]
      exact wipe_in (by rcases List.mem_cons.mp h with h | h; exact absurd h.symm e; exact h) hl
theorem wipe_eq {σ σ' : St} {vs : List Nat} (hl : σ'.length = σ.length) (h : ∀ j, j ∉ vs → σ'[j]? = (wipe σ vs)[j]?) : wipe σ' vs = wipe σ vs := by
  apply List.ext_getElem?
  intro j
  by_cases e : j ∈ vs
  · by_cases hj : j < σ.length
    · rw [wipe_in e hj, wipe_in e (by omega)]
    · rw [List.getElem?_eq_none (by rw [wipe_length]; omega), List.getElem?_eq_none (by rw [wipe_length]; omega)]
  · rw [wipe_out e, h j e]
theorem SI.wipe {K : FW} {ow : Nat → Bool} {Ok : Addr → Prop} {env : Env} {st : Sto} {μ : List Addr} {G : Addr → Option Nat} {σ : St} {H : Hp} (I : SI K ow Ok env st μ G σ H) (vs : List Nat) : SI K ow Ok (clrs env vs) st μ G (L2.wipe σ vs) H := by
  refine ⟨fun j d e => ?_, I.box, I.muLen, I.muNd, I.gmu, I.gdom, I.okn, by rw [clrs_len, wipe_length]; exact I.len⟩
  obtain ⟨h1, h2⟩ := clrs_slot e
  obtain ⟨v', t', F', e1, r'⟩ := I.slot j d h2
  exact ⟨v', t', F', by rw [wipe_out h1]; exact e1, r'⟩
theorem Fin.nox {α : Type} {ok : α → Sto → Prop} {ex ex' : Str → D → Sto → Prop} {r : R α} (h : Fin ok ex r.nox) : Fin ok ex' r := by
  cases r with
  | ok a st => exact h
  | exn _ _ _ => exact h.elim
  | bad => exact h
theorem clrs_ext {env : Env} {is js : List Nat} (h : ∀ j, j ∈ is ↔ j ∈ js) : clrs env is = clrs env js := by
  have key : ∀ (is : List Nat) (j : Nat), j ∈ is → (clrs env is)[j]? = if j < env.length then some none else none := by
    intro is
    induction is with
    | nil => intro j hj; simp at hj
    | cons i is ih =>
      intro j hj
      rw [clrs]
      by_cases e : i = j
      · subst e
        by_cases hl : i < env.length
        · rw [if_pos hl, List.getElem?_set_self (by rw [clrs_len]; exact hl)]
        · rw [if_neg hl, List.getElem?_eq_none (by rw [List.length_set, clrs_len]; omega)]
      · rw [List.getElem?_set_ne e]
        exact ih j ((List.mem_cons.mp hj).resolve_left fun z => e z.symm)
  refine List.ext_getElem? fun j => ?_
  by_cases hj : j ∈ is
  · rw [key is j hj, key js j ((h j).mp hj)]
  · rw [clrs_get hj, clrs_get fun z => hj ((h j).mpr z)]
theorem compCat_nox {f : D → Sto → R (List D)} (hf : ∀ x st, f x st = (f x st).nox) : ∀ (xs : List D) (st : Sto), compCat f xs st = (compCat f xs st).nox
  | [], st => rfl
  | x :: xs, st => by
    rw [compCat]
    have h1 := hf x st
    cases e : f x st with
    | bad => rfl
    | exn _ _ _ => rw [e] at h1; cases h1
    | ok y st1 =>
      have h2 := compCat_nox hf xs st1
      simp only [R.bind_ok]
      cases e2 : compCat f xs st1 with
      | bad => rfl
      | exn _ _ _ => rw [e2] at h2; cases h2
      | ok ys st2 => rfl
theorem compLoop_nox {f : D → Sto → R (Option D)} (hf : ∀ x st, f x st = (f x st).nox) : ∀ (xs : List D) (st : Sto), compLoop f xs st = (compLoop f xs st).nox
  | [], st => rfl
  | x :: xs, st => by
    rw [compLoop]
    have h1 := hf x st
    cases e : f x st with
    | bad => rfl
    | exn _ _ _ => rw [e] at h1; cases h1
    | ok y st1 =>
      have h2 := compLoop_nox hf xs st1
      simp only [R.bind_ok]
      cases e2 : compLoop f xs st1 with
      | bad => rfl
      | exn _ _ _ => rw [e2] at h2; cases h2
      | ok ys st2 => rfl
theorem foldedSet {m : MC} {it : WT.It} {sc : Scope} {x : Expr} {env : PySem.Env} (h : mIt m it sc x = true) : ∀ v, foldedSetIterable x env v = pure v := by
  intro v
  cases x with
  | Set _ _ _ => cases it <;> simp [mIt] at h
  | _ => rfl
end WT
end

section
set_option Elab.async false
set_option linter.all false
set_option maxRecDepth 100000
set_option autoImplicit false
/-! K13: comprehensions; every expression. -/
namespace WT
open PySem PySem.Spec PyProof.Rows L2

def Cfg.calmed (c : Cfg) : Cfg := { c with W := fun _ _ _ _ => False }
section
variable {m : MC} {c : Cfg} {g : GE} {k : Nat} {sc : Scope} {X : Cx} {a b d e : E} {p q r : Pv}
theorem XOk.blk (ok : XOk m c k sc X) (s : Shared) (H : Hp) (scope : Scope) (cl : List (Str × Addr)) (C : Addr) (fp : List Addr) : XOk m c.calmed k (relS scope sc) (X.blk s H scope (compEnvC scope cl C X.env) fp) where
  hN := ok.hN
  nd := ok.nd
  sc := by
    show relabel scope X.env = _
    rw [← ok.sc]
    rfl
  ow := ok.ow
  calm := ok.calm
  room := ok.room
  gd := ok.gd
  tk := fun u s' ⟨_, _, _, _, _, _, _, _, _, _, _, _, _, _, _, _, w⟩ => w.elim
  fns := ok.fns
  cons := ok.cons
  free := ok.free
  mth := ok.mth
  cls := ok.cls
  exm := ok.exm
theorem relS_loc {scope sc : Scope} {x : Str} {k : NameKind} (hk : k ≠ .free) (h : scope.names.lookup x = some k) : (relS scope sc).names.lookup x = some k := lookup_relS_keep hk h
theorem locB_k {scope : Scope} {x : Str} (h : locB scope x = true) : scope.names.lookup x = some .local ∨ scope.names.lookup x = some .cell := by
  unfold locB at h
  split at h
  · exact .inl (by assumption)
  · exact .inr (by assumption)
  · cases h
theorem pg_one {K : FW} {N : List Str} {sc scope : Scope} {i : Nat} {x : Str} {pos : Pos} {X : Cx} (hN : X.N.Nodup) (hi : X.N[i]? = some x) (hl : locB scope x = true) (hs : X.env.scope = relS scope sc) (hf : ∀ x, scope.names.lookup x = some .cell → X.fn x = true) : PG X (.Name x pos) (gName i) := by
  rcases locB_k hl with h | h
  · exact pg_name hN hi (.inl (by rw [hs]; exact relS_loc (by simp) h)) (.inr (by rw [hs]; exact relS_loc (by simp) h))
  · exact pg_name hN hi (.inr (by rw [hs]; exact relS_loc (by simp) h)) (.inl (hf x h))
theorem each_tgs {m : MC} {scope : Scope} {env : PySem.Env} : ∀ {ts : Tgs} {es : List Expr}, mTgs m scope ts es = true → assignEach es env = es.map (fun e => (false, assign e env)) ∧ es.length = ts.len
  | .nil, [], _ => ⟨rfl, rfl⟩
  | .nil, _ :: _, h => by simp [mTgs] at h
  | .cons _ _, [], h => by simp [mTgs] at h
  | .cons t ts, e :: es, h => by
    rw [mTgs, Bool.and_eq_true] at h
    obtain ⟨h1, h2⟩ := each_tgs (env := env) h.2
    have e1 : assignEach (e :: es) env = (false, assign e env) :: assignEach es env := by
      cases e with
      | Name _ _ => rfl
      | Tuple _ _ _ => rfl
      | _ => cases t <;> simp [mTg] at h
    exact ⟨by rw [e1, h1]; rfl, by rw [List.length_cons, h2, Tgs.len]⟩
mutual
theorem pg_tgT {X : Cx} {scope : Scope} (hc : X.calm = true) (one : ∀ (i : Nat) (x : Str) (pos : Pos), m.N[i]? = some x → locB scope x = true → PG X (.Name x pos) (gName i)) : ∀ {tg : Tg} {t : Expr}, mTg m scope tg t = true → PG X t (tgG X.KW tg)
  | .name i, t, h => by
    cases t with
    | Name x pos =>
      simp only [mTg, Bool.and_eq_true, decide_eq_true_eq] at h
      exact one i x pos h.1 h.2
    | _ => simp [mTg] at h
  | .tup ts, t, h => by
    cases t with
    | Tuple es kk pos =>
      rw [mTg] at h
      obtain ⟨h1, h2⟩ := each_tgs (env := X.env) h
      refine pg_tup hc (pgs_tgT hc one h) (by rw [h1, List.length_map]; exact h2) (by rw [h1, List.findIdx?_map]; exact List.findIdx?_eq_none_iff.mpr fun x _ => rfl)
    | _ => simp [mTg] at h
theorem pgs_tgT {X : Cx} {scope : Scope} (hc : X.calm = true) (one : ∀ (i : Nat) (x : Str) (pos : Pos), m.N[i]? = some x → locB scope x = true → PG X (.Name x pos) (gName i)) : ∀ {ts : Tgs} {es : List Expr}, mTgs m scope ts es = true → PGs X es (tgGs X.KW ts)
  | .nil, [], _ => pgs_nil
  | .nil, _ :: _, h => by simp [mTgs] at h
  | .cons _ _, [], h => by simp [mTgs] at h
  | .cons t ts, e :: es, h => by
    have h0 := h
    rw [mTgs, Bool.and_eq_true] at h
    refine pgs_cons (pg_tgT hc one h.1) (pgs_tgT hc one h.2) ?_
    rw [(each_tgs (env := X.env) h0).1, (each_tgs (env := X.env) h.2).1]
    rfl
end
/-- a target within a comprehension's block -/
theorem pg_blk {tg : Tg} {t : Expr} (ok : XOk m c k sc X) {s : Shared} {H : Hp} {scope : Scope} {cl : List (Str × Addr)} {C : Addr} {fp : List Addr} (h : mTg m scope tg t = true) : PG (X.blk s H scope (compEnvC scope cl C X.env) fp) t (tgG X.KW tg) := by
  have ok2 := ok.blk s H scope cl C fp
  have hN : (X.blk s H scope (compEnvC scope cl C X.env) fp).N.Nodup := by rw [ok2.hN]; exact ok2.nd
  refine pg_tgT (X := X.blk s H scope (compEnvC scope cl C X.env) fp) ok.calm (fun i x pos hi hl => ?_) h
  exact pg_one (K := X.KW) (N := []) hN (by rw [ok2.hN]; exact hi) hl ok2.sc fun x hx => by
      show (scope.names.lookup x == some NameKind.cell) = true
      rw [hx]
      rfl
theorem comp2_shape {tg tg1 : Tg} {it it1 : WT.It} {elt : E} {x : Expr} (h : mE m (.comp2 tg it tg1 it1 elt) sc x = true) : ∃ y t i t1 i1 scope pos, x = .ListComp y [⟨t, i, [], 0⟩, ⟨t1, i1, [], 0⟩] scope pos ∧
    blkC m.N sc scope (ownOf m.N scope) = true ∧ (∀ j ∈ (ownOf m.N scope).map (·.2), j ∈ tg.slots ++ tg1.slots) ∧ (∀ j ∈ tg.slots ++ tg1.slots, j ∈ (ownOf m.N scope).map (·.2)) ∧ mTg m scope tg t = true ∧ mIt m it sc i = true ∧
    mTg m scope tg1 t1 = true ∧ mIt m it1 (relS scope sc) i1 = true ∧ mE m elt (relS scope sc) y = true := by
  cases x with
  | ListComp y gs scope pos =>
    match gs, h with
    | [⟨t, i, [], n⟩, ⟨t1, i1, [], n1⟩], h =>
      simp only [mE, Bool.and_eq_true, List.all_eq_true, decide_eq_true_eq] at h
      obtain ⟨⟨⟨⟨⟨⟨⟨⟨⟨rfl, rfl⟩, h1⟩, h2⟩, h3⟩, h4⟩, h5⟩, h6⟩, h7⟩, h8⟩ := h
      refine ⟨y, t, i, t1, i1, scope, pos, rfl, h1, fun j hj => ?_, h3, h4, h5, h6, h7, h8⟩
      obtain ⟨q, hq, rfl⟩ := List.mem_map.mp hj
      exact h2 q hq
    | [⟨t, i, _ :: _, n⟩, _], h => simp [mE] at h
    | [⟨t, i, [], n⟩, ⟨t1, i1, _ :: _, n1⟩], h => simp [mE] at h
    | [], h => simp [mE] at h
    | [_], h => simp [mE] at h
    | _ :: _ :: _ :: _, h => simp [mE] at h
  | _ => simp [mE] at h
theorem comp_shape {tg : Tg} {it : WT.It} {hi : Bool} {cond elt : E} {x : Expr} (h : mE m (.comp tg it hi cond elt) sc x = true) : ∃ y t i ifs scope pos, x = .ListComp y [⟨t, i, ifs, 0⟩] scope pos ∧
    blkC m.N sc scope (ownOf m.N scope) = true ∧ (∀ j ∈ (ownOf m.N scope).map (·.2), j ∈ tg.slots) ∧ (∀ j ∈ tg.slots, j ∈ (ownOf m.N scope).map (·.2)) ∧ mTg m scope tg t = true ∧ mIt m it sc i = true ∧
    ((hi = false ∧ ifs = []) ∨ ∃ z, hi = true ∧ ifs = [z] ∧ mE m cond (relS scope sc) z = true ∧ tOk cond = true) ∧ mE m elt (relS scope sc) y = true := by
  cases x with
  | ListComp y gs scope pos =>
    match gs, h with
    | [⟨t, i, ifs, n⟩], h =>
      simp only [mE, Bool.and_eq_true, List.all_eq_true, decide_eq_true_eq] at h
      obtain ⟨⟨⟨⟨⟨⟨⟨rfl, h1⟩, h2⟩, h3⟩, h4⟩, h5⟩, h6⟩, h7⟩ := h
      refine ⟨y, t, i, ifs, scope, pos, rfl, h1, fun j hj => ?_, h3, h4, h5, ?_, h7⟩
      · obtain ⟨q, hq, rfl⟩ := List.mem_map.mp hj
        exact h2 q hq
      · cases hi with
        | false =>
          cases ifs with
          | nil => exact .inl ⟨rfl, rfl⟩
          | cons _ _ => cases h6
        | true =>
          match ifs, h6 with
          | [], h6 => cases h6
          | [z], h6 =>
            simp only [Bool.and_eq_true] at h6
            exact .inr ⟨z, rfl, rfl, h6.1, h6.2⟩
          | _ :: _ :: _, h6 => cases h6
    | [], h => simp [mE] at h
    | _ :: _ :: _, h => simp [mE] at h
  | _ => simp [mE] at h
/-- a list of one's own changed -/
theorem SL.upd {L : Addr → Prop} {μ : List Addr} {H : Hp} {p : Addr} {xs ys : List V} (h : H p = some (.lst xs)) (hL : ¬ L p) : SL L μ H μ (upd H p (.lst ys)) where
  keep := fun a o e n l => by rw [upd_ne (fun z => hL (by rw [← z]; exact l) : a ≠ p)]; exact e
  tups := fun a u e => by
    rw [upd_ne fun z => ?_]
    · exact e
    · rw [z, h] at e; cases e
  frzs := fun a o u e => by
    rw [upd_ne fun z => ?_]
    · exact e
    · rw [z, h] at e; cases e
  dom := fun a e => by
    by_cases q : a = p
    · rw [q, upd_same]; simp
    · rw [upd_ne q]; exact e
  ext := ⟨[], by simp, fun _ h => by simp at h⟩
theorem BoxOk.sl {K : FW} {L : Addr → Prop} {μ : List Addr} {H H' : Hp} {st : Sto} (b : BoxOk K H μ st) (s : SL L μ H μ H') (k : ∀ a ∈ μ, ∀ vs, H a = some (.lst vs) → H' a = some (.lst vs)) : BoxOk K H' μ st := fun j xs e => by
  obtain ⟨a, vs, e1, e2, r⟩ := b j xs e
  exact ⟨a, vs, e1, k a (List.mem_of_getElem? e1) vs e2, r.sl s fun _ h => by simp at h⟩
end
end WT
end

section
set_option Elab.async false
set_option linter.all false
set_option maxRecDepth 100000
set_option autoImplicit false
/-! K14: comprehensions; every expression. -/
namespace WT
open PySem PySem.Spec PyProof.Rows L2

def Cfg.blk (c : Cfg) (o : Addr → Prop) : Cfg := { c with W := fun _ _ _ _ => False, Ok := o }
theorem New1.step {H H' : Hp} {μ : List Addr} (n : New1 H H') : Step μ H μ H' := by
  rcases n with rfl | ⟨p, o, hp, rfl⟩
  · exact .refl
  · exact .new hp
theorem SI.new1 {K : FW} {ow : Nat → Bool} {Ok : Addr → Prop} {env : Env} {st : Sto} {μ : List Addr} {G : Addr → Option Nat} {σ : St} {H H' : Hp} (I : SI K ow Ok env st μ G σ H) (n : New1 H H') : SI K ow Ok env st μ G σ H' := by
  rcases n with rfl | ⟨p, o, hp, rfl⟩
  · exact I
  · exact I.new hp
theorem Step.updNew {μ1 μ : List Addr} {H1 H : Hp} {p : Addr} {xs ys : List V} (s : Step μ1 H1 μ H) (h1 : H1 p = none) (h : H p = some (.lst xs)) : Step μ1 H1 μ (upd H p (.lst ys)) where
  keep := fun a o e n => by rw [upd_ne (ne_of_none e h1)]; exact s.keep a o e n
  tups := fun a u e => by rw [upd_ne (ne_of_none e h1)]; exact s.tups a u e
  frzs := fun a o u e => by rw [upd_ne (ne_of_none e h1)]; exact s.frzs a o u e
  dom := fun a e => by
    by_cases q : a = p
    · rw [q, upd_same]; simp
    · rw [upd_ne q]; exact s.dom a e
  ext := s.ext
/-- a list of one's own comes that no name holds -/
theorem SI.fresh {K : FW} {ow : Nat → Bool} {Ok : Addr → Prop} {env : Env} {st : Sto} {μ : List Addr} {G : Addr → Option Nat} {σ : St} {H : Hp} (I : SI K ow Ok env st μ G σ H) {p : Addr} {xs : List V} (h : H p = none) : SI K ow (fun a => Ok a ∧ a ≠ p) env st μ G σ (upd H p (.lst xs)) := by
  have J := I.new (o := .lst xs) h
  refine ⟨fun i d e => ?_, J.box, J.muLen, J.muNd, J.gmu, J.gdom, fun a ha => ⟨J.okn a ha, fun e => by rw [e, upd_same] at ha; cases ha⟩, J.len⟩
  obtain ⟨v, t, F, e1, r, g1, g2, g3⟩ := I.slot i d e
  exact ⟨v, t, F, e1, r.step (.new h) fun a ha => (g3 a ha).1, g1, g2, fun a ha => ⟨(g3 a ha).1, (g3 a ha).2, fun e => r.there a ha (by rw [e]; exact h)⟩⟩
theorem SI.afterL {K : FW} {ow : Nat → Bool} {Ok L : Addr → Prop} {env : Env} {st st' : Sto} {μ μ' : List Addr} {G : Addr → Option Nat} {σ : St} {H H' : Hp} (I : SI K ow Ok env st μ G σ H) (hL : ∀ a, Ok a → L a) (s : SL L μ H μ' H') (b : BoxOk K H' μ' st') (l : μ'.length = st'.length) (nd : μ'.Nodup) :
    SI K ow Ok env st' μ' G σ H' where
  slot := fun i d e => by
    obtain ⟨v, t, F, e1, r, g1, g2, g3⟩ := I.slot i d e
    exact ⟨v, t, F, e1, r.sl s fun a ha => ⟨(g3 a ha).1, hL a (g3 a ha).2⟩, g1, g2, fun a ha => ⟨s.notin (r.there a ha) (g3 a ha).1, (g3 a ha).2⟩⟩
  box := b
  muLen := l
  muNd := nd
  gmu := fun a ha => by
    obtain ⟨k, hk, e⟩ := List.mem_iff_getElem.mp ha
    obtain ⟨a', vs, e1, e2, _⟩ := b k _ (List.getElem?_eq_getElem (by rw [← l]; exact hk))
    rw [List.getElem?_eq_getElem hk] at e1
    cases e1
    refine ⟨?_, by rw [← e, e2]; simp⟩
    obtain ⟨ν, rfl, hν⟩ := s.ext
    rcases List.mem_append.mp ha with ha | ha
    · exact (I.gmu a ha).1
    · cases q : G a with
      | none => rfl
      | some i => exact absurd (hν a ha) (I.gdom a (by rw [q]; simp))
  gdom := fun a ha => s.dom a (I.gdom a ha)
  okn := fun a ha => I.okn a (s.wasNone ha)
  len := I.len
theorem sl_own {μ1 μ : List Addr} {H1 H : Hp} {p : Addr} {xs ys : List V} (s : Step μ1 H1 μ H) (h1 : H1 p = none) (h : H p = some (.lst xs)) (n : p ∉ μ) : SL (· ≠ p) μ1 (upd H1 p (.lst ys)) μ H where
  keep := fun a o e m l => by rw [upd_ne l] at e; exact s.keep a o e m
  tups := fun a u e => by
    by_cases q : a = p
    · rw [q, upd_same] at e; cases e
    · rw [upd_ne q] at e; exact s.tups a u e
  frzs := fun a o u e => by
    by_cases q : a = p
    · rw [q, upd_same] at e; cases e
    · rw [upd_ne q] at e; exact s.frzs a o u e
  dom := fun a e => by
    by_cases q : a = p
    · rw [q, h]; simp
    · rw [upd_ne q] at e; exact s.dom a e
  ext := by
    obtain ⟨ν, rfl, hν⟩ := s.ext
    exact ⟨ν, rfl, fun a ha => by rw [upd_ne fun e => n (by rw [← e]; exact List.mem_append_right _ ha)]; exact hν a ha⟩
theorem _root_.L2.PE.ex {ι : Type} {X : Cx} {e : Expr} {t : ι → TE} (h : ∀ i, PE X e (t i)) : PE X e fun σ H Q => ∃ i, t i σ H Q := ⟨fun pins s σ H Q I ⟨i, q⟩ => (h i).run pins s σ H Q I q⟩
theorem _root_.L2.PT.ex {ι : Type} {X : Cx} {e : Expr} {t : ι → TT} (h : ∀ i, PT X e (t i)) : PT X e fun σ H Q => ∃ i, t i σ H Q := ⟨fun pins s σ H Q I ⟨i, q⟩ => (h i).run pins s σ H Q I q⟩
section
variable {m : MC} {c : Cfg} {g : GE} {k : Nat} {sc : Scope} {X : Cx} {a b d e : E} {p q r : Pv}
theorem XOk.blk' (ok : XOk m c k sc X) (o : Addr → Prop) (s : Shared) (H : Hp) (scope : Scope) (cl : List (Str × Addr)) (C : Addr) (fp : List Addr) : XOk m (c.blk o) k (relS scope sc) (X.blk s H scope (compEnvC scope cl C X.env) fp) :=
  let z := ok.blk s H scope cl C fp
  { hN := z.hN, nd := z.nd, sc := z.sc, ow := z.ow, calm := z.calm, room := z.room, gd := z.gd, tk := z.tk, fns := z.fns, cons := z.cons, free := z.free, mth := z.mth, cls := z.cls, exm := z.exm }
theorem bdy_if {cond elt : E} {env : Env} {st : Sto} : ((evE g cond env st).bind fun c st3 => match truD st3 c with
            | some true => (evE g elt env st3).bind fun y st4 => R.ok (some y) st4
            | some false => .ok none st3
            | none => .bad) = (evC g cond env st).bind fun b st3 => if b = true then (evE g elt env st3).bind fun y st4 => .ok (some y) st4 else .ok none st3 := by
  unfold evC
  cases evE g cond env st with
  | ok x st1 =>
    simp only [R.bind_ok]
    cases truD st1 x with
    | none => rfl
    | some b => cases b <;> rfl
  | exn _ _ _ => rfl
  | bad => rfl
theorem comp_parts {tg : Tg} {it : WT.It} {hif : Bool} {cond elt : E} {lt : List Nat} {x : Expr} (hI : SndI m g k it [] lt) (hC : SndT m g k cond) (hE : Snd m g k elt p) (ho : ∀ i ∈ tg.slots, m.ow i = false) (hP : itTg it tg = true) (hg : c.g = g) (ok : XOk m c k sc X) (h : mE m (.comp tg it hif cond elt) sc x = true) :
    ∃ (y t i : Expr) (ifs : List Expr) (scope : Scope) (pos : Pos) (own : List (Str × Nat)) (wi : TI) (gT : TG) (tt : TT) (te : TE), x = .ListComp y [⟨t, i, ifs, 0⟩] scope pos ∧ PI X t i wi ∧ BlkOk X.N X.env.scope scope own ∧
      (∀ (s : Shared) (H : Hp) (C : Addr) (cl : List (Str × Addr)) (fp : List Addr), PG (X.blk s H scope (compEnvC scope cl C X.env) fp) t gT) ∧ (∀ (s : Shared) (H : Hp) (C : Addr) (cl : List (Str × Addr)) (fp : List Addr), PTs (X.blk s H scope (compEnvC scope cl C X.env) fp) ifs tt) ∧
      (∀ (s : Shared) (H : Hp) (C : Addr) (cl : List (Str × Addr)) (fp : List Addr), PE (X.blk s H scope (compEnvC scope cl C X.env) fp) y te) ∧ (∀ v, foldedSetIterable i X.env v = pure v) ∧
      ∀ σ H Q, TEv c X.KW (.new1 (p.top ++ p.inn)) (evE g (.comp tg it hif cond elt)) σ H Q → tLc wi gT tt te (own.map (·.2)) σ H Q := by
  obtain ⟨y, t, i, ifs, scope, pos, rfl, h1, h2, h3, h4, h5, h6, h7⟩ := comp_shape h
  have htup : itP it = true → ∃ elts kk tpos, t = .Tuple elts kk tpos := fun z => by
    cases tg with
    | name _ => cases it <;> simp [itP, itTg] at z hP
    | tup _ =>
      cases t with
      | Tuple e k p => exact ⟨e, k, p, rfl⟩
      | _ => simp [mTg] at h4
  let tt : TT := if hif = true then fun σ H Q => ∃ o, TTv (c.blk o) X.KW (evC g cond) σ H Q else tYes
  have ht : ∀ (s : Shared) (H : Hp) (C : Addr) (cl : List (Str × Addr)) (fp : List Addr), PTs (X.blk s H scope (compEnvC scope cl C X.env) fp) ifs tt := fun s H C cl fp => by
    rcases h6 with ⟨rfl, rfl⟩ | ⟨z, rfl, rfl, h6, h8⟩
    · exact pts_nil
    · exact pts_one (PT.ex fun o => hC (c.blk o) _ _ z hg (ok.blk' o s H scope cl C fp) h6 h8)
  have he : ∀ (s : Shared) (H : Hp) (C : Addr) (cl : List (Str × Addr)) (fp : List Addr), PE (X.blk s H scope (compEnvC scope cl C X.env) fp) y fun σ H Q => ∃ o, TEv (c.blk o) X.KW p (evE g elt) σ H Q := fun s H C cl fp =>
    PE.ex fun o => hE (c.blk o) _ _ y hg (ok.blk' o s H scope cl C fp) h7
  have hbk : BlkOk X.N X.env.scope scope (ownOf m.N scope) := by
    rw [ok.hN, ok.sc]
    exact blkOk_by h1
  refine ⟨y, t, i, ifs, scope, pos, ownOf m.N scope, _, _, tt, _, rfl, hI c sc X t i hg ok h5 htup, hbk, fun s H C cl fp => pg_blk ok h4, ht, he, foldedSet h5, fun σ H Q ⟨env, st, μ, G, I, hq⟩ => ?_⟩
  generalize hvs : (ownOf m.N scope).map (·.2) = vs at h2 h3
  rw [evE, Fin.bind] at hq
  refine ⟨env, st, μ, G, I, hq.mono (fun xs st1 _ hx J H1 μ1 L I1 S1 wk hL Dd hD => ?_) fun _ _ _ hx => hx⟩
  generalize hbdy : (fun x st2 => match bindTg tg x env with
        | some env' => (if hif = true then (evE g cond env' st2).bind fun c st3 => match truD st3 c with
            | some true => (evE g elt env' st3).bind fun y st4 => R.ok (some y) st4
            | some false => .ok none st3
            | none => .bad
          else (evE g elt env' st2).bind fun y st3 => .ok (some y) st3).nox
        | none => .bad : D → Sto → R (Option D)) = bdy at hx
  have hnox : ∀ x st, bdy x st = (bdy x st).nox := fun x st => by
    rw [← hbdy]
    simp only
    cases bindTg tg x env with
    | none => rfl
    | some env' =>
      simp only
      generalize (if hif = true then _ else _ : R (Option D)) = z
      cases z <;> rfl
  have hx2 : Fin (fun ys st5 => ys.length ≤ sizeLine ∧ okE c X.KW (.new1 (p.top ++ p.inn)) env μ G σ H Q (.lst ys) st5) (fun _ _ _ => False) (compLoop bdy xs st1) := by
    rw [Fin.bind, compLoop_nox hnox] at hx
    refine (Fin.nox hx).mono (fun ys st5 _ hy => ?_) fun _ _ _ z => z
    obtain ⟨z, e1, hy⟩ := Fin.ofO hy
    unfold guardO at e1
    split at e1
    · cases e1
      exact ⟨by assumption, hy⟩
    · cases e1
  clear hx hq
  have nDL : ∀ a, H1 a ≠ none → a ≠ Dd := fun a ha e => ha (by rw [e]; exact hD)
  refine ⟨fun i n Hh => n = xs.length - i ∧ i ≤ xs.length ∧ ∃ (st' : Sto) (μ' : List Addr) (acc : List V) (accd : List D) (F : List Addr), Step μ1 H1 μ' Hh ∧ BoxOk X.KW Hh μ' st' ∧ μ'.length = st'.length ∧ μ'.Nodup ∧ Hh Dd = some (.lst acc) ∧ Dd ∉ μ' ∧ Reps X.KW Hh μ' accd acc F ∧
      (∀ a ∈ F, a ≠ Dd ∧ (G a = none ∨ ∃ i ∈ p.top ++ p.inn, G a = some i) ∧ a ∉ μ' ∧ c.Ok a) ∧ Fin (fun ys st5 => (accd ++ ys).length ≤ sizeLine ∧ okE c X.KW (.new1 (p.top ++ p.inn)) env μ G σ H Q (.lst (accd ++ ys)) st5) (fun _ _ _ => False) (compLoop bdy (xs.drop i) st'), ⟨xs.length, by simp, Nat.zero_le _, st1, μ1, [], [], [], .new hD, (I1.new hD).box, I1.muLen, I1.muNd, upd_same, fun z => (I1.gmu _ z).2 hD, .nil, fun _ h => by simp at h, hx2⟩, ?_⟩
  rintro i n Hh ⟨rfl, hi, st', μ', acc, accd, F, S, bx, ml, md, hDd, nD, rs, hF, hfin⟩
  have I2 := I1.after S bx ml md
  by_cases hlt : i < xs.length
  · refine .inr ?_
    have hx : xs[i]? = some xs[i] := List.getElem?_eq_getElem hlt
    obtain ⟨go, yl⟩ := wk.go μ' Hh i _ S.sl hx
    refine ⟨go, fun Hh => xs.length - (i + 1) = xs.length - (i + 1) ∧ i + 1 ≤ xs.length ∧ ∃ (st' : Sto) (μ' : List Addr) (acc : List V) (accd : List D) (F : List Addr), Step μ1 H1 μ' Hh ∧ BoxOk X.KW Hh μ' st' ∧ μ'.length = st'.length ∧ μ'.Nodup ∧ Hh Dd = some (.lst acc) ∧ Dd ∉ μ' ∧ Reps X.KW Hh μ' accd acc F ∧
      (∀ a ∈ F, a ≠ Dd ∧ (G a = none ∨ ∃ i ∈ p.top ++ p.inn, G a = some i) ∧ a ∉ μ' ∧ c.Ok a) ∧ Fin (fun ys st5 => (accd ++ ys).length ≤ sizeLine ∧ okE c X.KW (.new1 (p.top ++ p.inn)) env μ G σ H Q (.lst (accd ++ ys)) st5) (fun _ _ _ => False) (compLoop bdy (xs.drop (i + 1)) st'), fun H' w => ⟨xs.length - (i + 1), by omega, w⟩, fun v H' hy => ?_⟩
    obtain ⟨n1, tv, Fv, rv, hv⟩ := yl v H' hy
    rw [List.drop_eq_getElem_cons hlt, compLoop, Fin.bind, ← hbdy] at hfin
    simp only at hfin
    rw [hbdy] at hfin
    cases eb : bindTg tg xs[i] env with
    | none => rw [eb] at hfin; exact hfin.elim
    | some env' =>
      rw [eb] at hfin
      simp only at hfin
      have hfin := Fin.nox (ex' := fun _ _ _ => False) hfin
      have I3 := I2.new1 n1
      have S3 : Step μ1 H1 μ' H' := S.trans n1.step
      have hDd3 : H' Dd = some (.lst acc) := n1.step.keep Dd _ hDd nD
      have I4 : SI X.KW c.ow (fun a => c.Ok a ∧ a ≠ Dd) env st' μ' G σ H' :=
        ((I1.fresh (xs := []) hD).afterL (fun a h => h.2) (sl_own S hD hDd nD) bx ml md).new1 n1
      -- the element, appended
      have elt_ok : ∀ {σ' : St} {st2 : Sto} {μ2 : List Addr} {H3 : Hp}, SI X.KW c.ow (fun a => c.Ok a ∧ a ≠ Dd) env' st2 μ2 G σ' H3 → Step μ' H' μ2 H3 →
          Fin (fun oy st4 => Fin (fun ys st5 => (accd ++ ys).length ≤ sizeLine ∧ okE c X.KW (.new1 (p.top ++ p.inn)) env μ G σ H Q (.lst (accd ++ ys)) st5) (fun _ _ _ => False) ((compLoop bdy (xs.drop (i + 1)) st4).bind fun ys st2 => .ok (match oy with | some z => z :: ys | none => ys) st2)) (fun _ _ _ => False) ((evE g elt env' st2).bind fun y st3 => .ok (some y) st3) →
          TEv (c.blk fun a => c.Ok a ∧ a ≠ Dd) X.KW p (evE g elt) σ' H3 fun y H4 => ∃ acc, H4 Dd = some (.lst acc) ∧ acc.length < sizeLine ∧ (xs.length - (i + 1) = xs.length - (i + 1) ∧ i + 1 ≤ xs.length ∧ ∃ (st' : Sto) (μ' : List Addr) (acc' : List V) (accd : List D) (F : List Addr), Step μ1 H1 μ' (upd H4 Dd (.lst (acc ++ [y]))) ∧ BoxOk X.KW (upd H4 Dd (.lst (acc ++ [y]))) μ' st' ∧ μ'.length = st'.length ∧ μ'.Nodup ∧ (upd H4 Dd (.lst (acc ++ [y]))) Dd = some (.lst acc') ∧ Dd ∉ μ' ∧ Reps X.KW (upd H4 Dd (.lst (acc ++ [y]))) μ' accd acc' F ∧
      (∀ a ∈ F, a ≠ Dd ∧ (G a = none ∨ ∃ i ∈ p.top ++ p.inn, G a = some i) ∧ a ∉ μ' ∧ c.Ok a) ∧ Fin (fun ys st5 => (accd ++ ys).length ≤ sizeLine ∧ okE c X.KW (.new1 (p.top ++ p.inn)) env μ G σ H Q (.lst (accd ++ ys)) st5) (fun _ _ _ => False) (compLoop bdy (xs.drop (i + 1)) st')) := fun {σ' st2 μ2 H3} I6 S6 hq => by
        rw [Fin.bind] at hq
        refine ⟨env', st2, μ2, G, I6, hq.mono (fun y st4 _ hy vy H4 μ4 ty Fy I7 S7 ry py => ?_) fun _ _ _ z => z.elim⟩
        have hy : Fin (fun ys st5 => (accd ++ ys).length ≤ sizeLine ∧ okE c X.KW (.new1 (p.top ++ p.inn)) env μ G σ H Q (.lst (accd ++ ys)) st5) (fun _ _ _ => False) ((compLoop bdy (xs.drop (i + 1)) st4).bind fun ys st2 => .ok (y :: ys) st2) := hy
        rw [Fin.bind] at hy
        have hy : Fin (fun ys st5 => (accd ++ [y] ++ ys).length ≤ sizeLine ∧ okE c X.KW (.new1 (p.top ++ p.inn)) env μ G σ H Q (.lst (accd ++ [y] ++ ys)) st5) (fun _ _ _ => False) (compLoop bdy (xs.drop (i + 1)) st4) := hy.mono (fun ys st5 _ z => by
          have z : (accd ++ (y :: ys)).length ≤ sizeLine ∧ okE c X.KW (.new1 (p.top ++ p.inn)) env μ G σ H Q (.lst (accd ++ (y :: ys))) st5 := z
          rw [List.append_assoc, List.singleton_append]
          exact z) fun _ _ _ z => z
        have hlen : accd.length < sizeLine := by
          cases e : compLoop bdy (xs.drop (i + 1)) st4 with
          | ok ys st5 =>
            rw [e] at hy
            have := hy.1
            simp at this
            omega
          | exn _ _ _ => rw [e] at hy; exact hy.elim
          | bad => rw [e] at hy; exact hy.elim
        have Sa : Step μ' Hh μ4 H4 := (n1.step.trans S6).trans S7
        have Sb : Step μ1 H1 μ4 H4 := S.trans Sa
        have hD4 : H4 Dd = some (.lst acc) := Sa.keep Dd _ hDd nD
        have nD4 : Dd ∉ μ4 := Sa.notin (by rw [hDd]; simp) nD
        have hh : Held X.KW (c.blk fun a => c.Ok a ∧ a ≠ Dd) G p H3 y vy ty Fy μ4 H4 := ⟨ry, py⟩
        have all := hh.all I6.gdom
        have sl : SL (· ≠ Dd) μ4 H4 μ4 (upd H4 Dd (.lst (acc ++ [vy]))) := SL.upd hD4 fun z => z rfl
        have rs4 := rs.step Sa fun a ha => (hF a ha).2.2.1
        have rs5 := rs4.sl sl fun a ha => ⟨Sa.notin (rs.there a ha) (hF a ha).2.2.1, (hF a ha).1⟩
        have ry5 := ry.sl sl fun a ha => ⟨(all a ha).2.1, (all a ha).2.2.2⟩
        obtain ⟨F', rs6, hF'⟩ := rs5.append (.cons ry5 .nil)
        refine ⟨acc, hD4, by rw [← rs.length]; exact hlen, rfl, hlt, st4, μ4, acc ++ [vy], accd ++ [y], F', Sb.updNew hD hD4, I7.box.sl sl fun a ha vs e => ?_, I7.muLen, I7.muNd, upd_same, nD4, rs6, fun a ha => ?_, hy⟩
        · rw [upd_ne fun e => nD4 (by rw [← e]; exact ha)]
          exact e
        · rcases hF' a ha with ha | ha
          · exact ⟨(hF a ha).1, (hF a ha).2.1, Sa.notin (rs.there a ha) (hF a ha).2.2.1, (hF a ha).2.2.2⟩
          · have ha : a ∈ ty ++ Fy := by simpa using ha
            exact ⟨(all a ha).2.2.2, (all a ha).1, (all a ha).2.1, (all a ha).2.2.1⟩
      refine SI.tg (I4.wipe vs) (x := xs[i]) (env' := env') (fun i hi => by rw [ok.ow]; exact ho i hi) (bindTg_clrs h2 eb) rv (fun a ha => ?_) fun σ' I5 hl hj => ⟨wipe_eq (by rw [hl, wipe_length]) fun j hn => hj j fun z => hn (h3 j z), ?_⟩
      · obtain ⟨z1, z2, z3⟩ := hv a ha
        refine ⟨z2.elim id fun ⟨i, hi, _⟩ => by simp at hi, wk.mu S.sl a z1, z3, fun e => (wk.there a z1).1 (by rw [e]; exact hD)⟩
      · cases hif with
        | false =>
          have hfin := (show Fin _ _ ((evE g elt env' st').bind fun y st3 => .ok (some y) st3) from hfin)
          have z := elt_ok I5 .refl hfin
          exact ⟨_, z⟩
        | true =>
          simp only [if_true] at hfin
          rw [bdy_if, Fin.bind] at hfin
          refine ⟨_, env', st', μ', G, I5, hfin.mono (fun b st3 _ hb H3 μ3 I6 S6 => ?_) fun _ _ _ z => z.elim⟩
          cases b with
          | true =>
            rw [if_pos rfl]
            rw [if_pos rfl] at hb
            have z := elt_ok I6 S6 hb
            exact ⟨_, z⟩
          | false =>
            rw [if_neg (by simp)]
            have hb : Fin (fun ys st5 => (accd ++ ys).length ≤ sizeLine ∧ okE c X.KW (.new1 (p.top ++ p.inn)) env μ G σ H Q (.lst (accd ++ ys)) st5) (fun _ _ _ => False) ((compLoop bdy (xs.drop (i + 1)) st3).bind fun ys st2 => .ok ys st2) := hb
            rw [Fin.bind] at hb
            have Sa : Step μ' Hh μ3 H3 := n1.step.trans S6
            exact ⟨rfl, hlt, st3, μ3, acc, accd, F, S.trans Sa, I6.box, I6.muLen, I6.muNd, Sa.keep Dd _ hDd nD, Sa.notin (by rw [hDd]; simp) nD, rs.step Sa fun a ha => (hF a ha).2.2.1, fun a ha => ⟨(hF a ha).1, (hF a ha).2.1, Sa.notin (rs.there a ha) (hF a ha).2.2.1, (hF a ha).2.2.2⟩, hb⟩
  · refine .inl ?_
    have e : i = xs.length := by omega
    subst e
    refine ⟨wk.stop μ' Hh _ S.sl (Nat.le_refl _), ?_⟩
    rw [List.drop_length, compLoop] at hfin
    obtain ⟨_, hfin⟩ := hfin
    rw [List.append_nil] at hfin
    refine hfin (.ref Dd) Hh μ' [Dd] F I2 (S1.trans S) (.lst hDd rs) ⟨fun a ha => ?_, fun a ha => (hF a ha).2.1, fun a ha => ?_⟩
    · rw [List.mem_singleton.mp ha]
      exact ⟨S1.wasNone hD, fun z => (hF _ z).1 rfl⟩
    · rcases List.mem_append.mp ha with ha | ha
      · rw [List.mem_singleton.mp ha]
        exact ⟨nD, I1.okn _ hD⟩
      · exact (hF a ha).2.2
theorem snd_comp {tg : Tg} {it : WT.It} {hif : Bool} {cond elt : E} {lt : List Nat} (hI : SndI m g k it [] lt) (hC : SndT m g k cond) (hE : Snd m g k elt p) (ho : ∀ i ∈ tg.slots, m.ow i = false) (hP : itTg it tg = true) : Snd m g k (.comp tg it hif cond elt) (.new1 (p.top ++ p.inn)) := by
  intro c sc X x hg ok h
  obtain ⟨y, t, i, ifs, scope, pos, own, wi, gT, tt, te, rfl, h1, h2, h3, h4, h5, h6, h7⟩ := comp_parts hI hC hE ho hP hg ok h
  exact (pe_lc ok.calm (by rw [ok.hN]; exact ok.nd) h1 h2 h3 h4 h5 h6).mono h7
end
end WT
end

section
set_option Elab.async false
set_option linter.all false
set_option maxRecDepth 100000
set_option autoImplicit false
/-! K14c: list comprehensions of two clauses. Own work. -/
namespace WT
open PySem PySem.Spec PyProof.Rows L2
theorem _root_.L2.PI.ex {ι : Type} {X : Cx} {tg e : Expr} {t : ι → TI} (h : ∀ i, PI X tg e (t i)) : PI X tg e fun σ H R => ∃ i, t i σ H R := ⟨fun pins s σ H R I ⟨i, q⟩ => (h i).run pins s σ H R I q⟩
section
variable {m : MC} {c : Cfg} {g : GE} {k : Nat} {sc : Scope} {X : Cx} {a b d e : E} {p q r : Pv}
theorem tup_of {m : MC} {scope : Scope} {tg : Tg} {it : WT.It} {t : Expr} (hP : itTg it tg = true) (h : mTg m scope tg t = true) : itP it = true → ∃ elts kk tpos, t = .Tuple elts kk tpos := fun z => by
  cases tg with
  | name _ => cases it <;> simp [itP, itTg] at z hP
  | tup _ =>
    cases t with
    | Tuple e k p => exact ⟨e, k, p, rfl⟩
    | _ => simp [mTg] at h
theorem snd_comp2 {tg tg1 : Tg} {it it1 : WT.It} {elt : E} {lt lt1 : List Nat} (hI : SndI m g k it [] lt) (hI1 : SndI m g k it1 [] lt1) (hE : Snd m g k elt p) (ho : ∀ i ∈ tg.slots, m.ow i = false) (ho1 : ∀ i ∈ tg1.slots, m.ow i = false) (hP : itTg it tg = true) (hP1 : itTg it1 tg1 = true) : Snd m g k (.comp2 tg it tg1 it1 elt) (.new1 (p.top ++ p.inn)) := by
  intro c sc X x hg ok h
  obtain ⟨y, t, i, t1, i1, scope, pos, rfl, h1, h2, h3, h4, h5, h6, h7, h8⟩ := comp2_shape h
  have he : ∀ (s : Shared) (H : Hp) (C : Addr) (cl : List (Str × Addr)) (fp : List Addr), PE (X.blk s H scope (compEnvC scope cl C X.env) fp) y fun σ H Q => ∃ o, TEv (c.blk o) X.KW p (evE g elt) σ H Q := fun s H C cl fp =>
    PE.ex fun o => hE (c.blk o) _ _ y hg (ok.blk' o s H scope cl C fp) h8
  have hi1 : ∀ (s : Shared) (H : Hp) (C : Addr) (cl : List (Str × Addr)) (fp : List Addr), PI (X.blk s H scope (compEnvC scope cl C X.env) fp) t1 i1 fun σ H R => ∃ o, TIv (c.blk o) X.KW [] lt1 (evIt g it1) σ H R := fun s H C cl fp =>
    PI.ex fun o => hI1 (c.blk o) _ _ t1 i1 hg (ok.blk' o s H scope cl C fp) h7 (tup_of hP1 h6)
  have hbk : BlkOk X.N X.env.scope scope (ownOf m.N scope) := by
    rw [ok.hN, ok.sc]
    exact blkOk_by h1
  refine (pe_lc2 (vs1 := tg1.slots) ok.calm (by rw [ok.hN]; exact ok.nd) (hI c sc X t i hg ok h5 (tup_of hP h4)) hbk (fun j hj => h3 j (List.mem_append_right _ hj)) (fun s H C cl fp => pg_blk ok h4) (fun _ _ _ _ _ => pts_nil) hi1 (fun s H C cl fp => pg_blk ok h6) (fun _ _ _ _ _ => pts_nil) he (foldedSet h5) (fun env => foldedSet (env := env) h7)).mono fun σ H Q ⟨env, st, μ, G, I, hq⟩ => ?_
  generalize hvs : (ownOf m.N scope).map (·.2) = vs at h2 h3
  rw [evE, Fin.bind] at hq
  refine ⟨env, st, μ, G, I, hq.mono (fun xs st1 _ hx J H1 μ1 L I1 S1 wk hL Dd hD => ?_) fun _ _ _ hx => hx⟩
  have hcl : clrs env (tg.slots ++ tg1.slots) = clrs env vs := clrs_ext fun j => ⟨fun z => h3 j z, fun z => h2 j z⟩
  rw [hcl] at hx
  generalize hb1 : (fun (env' : Env) (y : D) (st4 : Sto) => match bindTg tg1 y env' with
          | some env2 => ((evE g elt env2 st4).bind fun z st5 => R.ok (some z) st5).nox
          | none => .bad : Env → D → Sto → R (Option D)) = bdy1
  have hx : Fin (okE c X.KW (.new1 (p.top ++ p.inn)) env μ G σ H Q) (exE c X.KW env μ G σ H) ((compCat (fun x st2 => match bindTg tg x (clrs env vs) with
        | some env' => ((evIt g it1 env' st2).bind fun ys st3 => compLoop (bdy1 env') ys st3).nox
        | none => .bad) xs st1).bind fun ys st5 => .ofO st5 (guardO (ys.length ≤ sizeLine) (.lst ys))) := by
    rw [← hb1]; exact hx
  generalize hbdy : (fun x st2 => match bindTg tg x (clrs env vs) with
        | some env' => ((evIt g it1 env' st2).bind fun ys st3 => compLoop (bdy1 env') ys st3).nox
        | none => .bad : D → Sto → R (List D)) = bdy at hx
  have hnox : ∀ x st, bdy x st = (bdy x st).nox := fun x st => by
    rw [← hbdy]
    simp only
    cases bindTg tg x (clrs env vs) with
    | none => rfl
    | some env' =>
      simp only
      generalize ((evIt g it1 env' st).bind fun ys st3 => compLoop (bdy1 env') ys st3) = z
      cases z <;> rfl
  have hx2 : Fin (fun ys st5 => ys.length ≤ sizeLine ∧ okE c X.KW (.new1 (p.top ++ p.inn)) env μ G σ H Q (.lst ys) st5) (fun _ _ _ => False) (compCat bdy xs st1) := by
    rw [Fin.bind, compCat_nox hnox] at hx
    refine (Fin.nox hx).mono (fun ys st5 _ hy => ?_) fun _ _ _ z => z
    obtain ⟨z, e1, hy⟩ := Fin.ofO hy
    unfold guardO at e1
    split at e1
    · cases e1
      exact ⟨by assumption, hy⟩
    · cases e1
  clear hx hq
  generalize hA : (fun (accd ys : List D) (st5 : Sto) => (accd ++ ys).length ≤ sizeLine ∧ okE c X.KW (.new1 (p.top ++ p.inn)) env μ G σ H Q (.lst (accd ++ ys)) st5) = A
  have hA2 : ∀ accd ys st5, A accd ys st5 → (accd ++ ys).length ≤ sizeLine := fun accd ys st5 z => by
    rw [← hA] at z; exact z.1
  have hA3 : ∀ accd ys zs st5, A accd (ys ++ zs) st5 → A (accd ++ ys) zs st5 := fun accd ys zs st5 z => by
    rw [← hA] at z ⊢
    simp only [List.append_assoc]
    exact z
  -- what stands so far
  let Pz : (Sto → List D → List Addr → Prop) → Hp → Prop := fun φ Hh => ∃ (st' : Sto) (μ' : List Addr) (acc : List V) (accd : List D) (F : List Addr), Step μ1 H1 μ' Hh ∧ BoxOk X.KW Hh μ' st' ∧ μ'.length = st'.length ∧ μ'.Nodup ∧ Hh Dd = some (.lst acc) ∧ Dd ∉ μ' ∧ Reps X.KW Hh μ' accd acc F ∧
      (∀ a ∈ F, a ≠ Dd ∧ (G a = none ∨ ∃ i ∈ p.top ++ p.inn, G a = some i) ∧ a ∉ μ' ∧ c.Ok a) ∧ φ st' accd μ'
  have ebd : ∀ x st, bdy x st = (match bindTg tg x (clrs env vs) with
        | some env' => ((evIt g it1 env' st).bind fun ys st3 => compLoop (bdy1 env') ys st3).nox
        | none => .bad) := fun x st => by rw [← hbdy]
  have eb1 : ∀ env' y st, bdy1 env' y st = (match bindTg tg1 y env' with
          | some env2 => ((evE g elt env2 st).bind fun z st5 => R.ok (some z) st5).nox
          | none => .bad) := fun env' y st => by rw [← hb1]
  clear hbdy hb1 hnox
  refine ⟨fun i n Hh => n = xs.length - i ∧ i ≤ xs.length ∧ Pz (fun st' accd _ => Fin (A accd) (fun _ _ _ => False) (compCat bdy (xs.drop i) st')) Hh, ⟨xs.length, by simp, Nat.zero_le _, st1, μ1, [], [], [], .new hD, (I1.new hD).box, I1.muLen, I1.muNd, upd_same, fun z => (I1.gmu _ z).2 hD, .nil, fun _ h => by simp at h, by rw [← hA]; exact hx2⟩, ?_⟩
  rintro i n Hh ⟨rfl, hi, st', μ', acc, accd, F, S, bx, ml, md, hDd, nD, rs, hF, hfin⟩
  have I2 := I1.after S bx ml md
  by_cases hlt : i < xs.length
  · refine .inr ?_
    have hx : xs[i]? = some xs[i] := List.getElem?_eq_getElem hlt
    obtain ⟨go, yl⟩ := wk.go μ' Hh i _ S.sl hx
    refine ⟨go, fun Hh => xs.length - (i + 1) = xs.length - (i + 1) ∧ i + 1 ≤ xs.length ∧ Pz (fun st' accd _ => Fin (A accd) (fun _ _ _ => False) (compCat bdy (xs.drop (i + 1)) st')) Hh, fun H' w => ⟨xs.length - (i + 1), by omega, w⟩, fun v H' hy => ?_⟩
    obtain ⟨n1, tv, Fv, rv, hv⟩ := yl v H' hy
    rw [List.drop_eq_getElem_cons hlt, compCat, Fin.bind, ebd] at hfin
    cases eb : bindTg tg xs[i] (clrs env vs) with
    | none => rw [eb] at hfin; exact hfin.elim
    | some env' =>
      rw [eb] at hfin
      simp only at hfin
      have hfin := Fin.nox (ex' := fun _ _ _ => False) hfin
      rw [Fin.bind] at hfin
      have I4 : SI X.KW c.ow (fun a => c.Ok a ∧ a ≠ Dd) env st' μ' G σ H' :=
        ((I1.fresh (xs := []) hD).afterL (fun a h => h.2) (sl_own S hD hDd nD) bx ml md).new1 n1
      refine SI.tg (I4.wipe vs) (x := xs[i]) (env' := env') (fun i hi => by rw [ok.ow]; exact ho i hi) eb rv (fun a ha => ?_) fun σ2 I5 hl hj => ⟨wipe_eq (by rw [hl, wipe_length]) fun j hn => hj j fun z => hn (h3 j (List.mem_append_left _ z)), ?_⟩
      · obtain ⟨z1, z2, z3⟩ := hv a ha
        refine ⟨z2.elim id fun ⟨i, hi, _⟩ => by simp at hi, wk.mu S.sl a z1, z3, fun e => (wk.there a z1).1 (by rw [e]; exact hD)⟩
      · refine ⟨fun a => c.Ok a ∧ a ≠ Dd, env', st', μ', G, I5, hfin.mono (fun ys st4 _ hyl J1 H4 μ4 L1 I6 S6 wk1 hL1 => ?_) fun _ _ _ z => z.elim⟩
        have Sa : Step μ' Hh μ4 H4 := n1.step.trans S6
        have Sb : Step μ1 H1 μ4 H4 := S.trans Sa
        have hD4 : H4 Dd = some (.lst acc) := Sa.keep Dd _ hDd nD
        have nD4 : Dd ∉ μ4 := Sa.notin (by rw [hDd]; simp) nD
        have L1D : ∀ a ∈ L1, a ≠ Dd := fun a ha => (hL1 a ha).2.2
        have hyl2 : Fin (fun zs st6 => Fin (A (accd ++ zs)) (fun _ _ _ => False) (compCat bdy (xs.drop (i + 1)) st6)) (fun _ _ _ => False) (compLoop (bdy1 env') ys st4) := hyl.mono (fun zs st6 _ z => by
          rw [Fin.bind] at z
          exact z.mono (fun ws st7 _ w => hA3 _ _ _ _ w) fun _ _ _ w => w) fun _ _ _ w => w
        refine ⟨fun j n Hh => n = ys.length - j ∧ j ≤ ys.length ∧ Pz (fun st' accd' μ'' => SL (· ≠ Dd) μ4 H4 μ'' Hh ∧ Fin (fun zs st6 => Fin (A (accd' ++ zs)) (fun _ _ _ => False) (compCat bdy (xs.drop (i + 1)) st6)) (fun _ _ _ => False) (compLoop (bdy1 env') (ys.drop j) st')) Hh,
          ⟨ys.length, by simp, Nat.zero_le _, st4, μ4, acc, accd, F, Sb, I6.box, I6.muLen, I6.muNd, hD4, nD4, rs.step Sa fun a ha => (hF a ha).2.2.1, fun a ha => ⟨(hF a ha).1, (hF a ha).2.1, Sa.notin (rs.there a ha) (hF a ha).2.2.1, (hF a ha).2.2.2⟩, .refl, hyl2⟩, ?_⟩
        rintro j n Hh2 ⟨rfl, hj1, st5, μ5, acc5, accd5, F5, S5, bx5, ml5, md5, hD5, nD5, rs5, hF5, sl5, hfin5⟩
        have slL : SL (· ∈ L1) μ4 H4 μ5 Hh2 := sl5.weak fun a ha => L1D a ha
        by_cases hlt1 : j < ys.length
        · refine .inr ?_
          have hy1 : ys[j]? = some ys[j] := List.getElem?_eq_getElem hlt1
          obtain ⟨go1, yl1⟩ := wk1.go μ5 Hh2 j _ slL hy1
          refine ⟨go1, fun Hh => ys.length - (j + 1) = ys.length - (j + 1) ∧ j + 1 ≤ ys.length ∧ Pz (fun st' accd' μ'' => SL (· ≠ Dd) μ4 H4 μ'' Hh ∧ Fin (fun zs st6 => Fin (A (accd' ++ zs)) (fun _ _ _ => False) (compCat bdy (xs.drop (i + 1)) st6)) (fun _ _ _ => False) (compLoop (bdy1 env') (ys.drop (j + 1)) st')) Hh, fun H' w => ⟨ys.length - (j + 1), by omega, w⟩, fun v1 H5 hyy => ?_⟩
          obtain ⟨n2, tv1, Fv1, rv1, hv1⟩ := yl1 v1 H5 hyy
          rw [List.drop_eq_getElem_cons hlt1, compLoop, Fin.bind, eb1] at hfin5
          cases eb2 : bindTg tg1 ys[j] env' with
          | none => rw [eb2] at hfin5; exact hfin5.elim
          | some env2 =>
            rw [eb2] at hfin5
            simp only at hfin5
            have hfin5 := Fin.nox (ex' := fun _ _ _ => False) hfin5
            have I7 : SI X.KW c.ow (fun a => c.Ok a ∧ a ≠ Dd) env' st5 μ5 G σ2 H5 := (SI.afterL (L := (· ≠ Dd)) I6 (fun a h => h.2) sl5 bx5 ml5 md5).new1 n2
            refine SI.tg (I7.wipe tg1.slots) (x := ys[j]) (env' := env2) (fun i hi => by rw [ok.ow]; exact ho1 i hi) (bindTg_clrs (fun _ h => h) eb2) rv1 (fun a ha => ?_) fun σ3 I9 hl3 hj3 => ⟨wipe_eq (by rw [hl3, wipe_length]) fun j hn => hj3 j hn, ?_⟩
            · obtain ⟨z1, z2, z3⟩ := hv1 a ha
              exact ⟨z2.elim id fun ⟨i, hi, _⟩ => by simp at hi, wk1.mu slL a z1, z3⟩
            · rw [Fin.bind] at hfin5
              refine ⟨fun a => c.Ok a ∧ a ≠ Dd, env2, st5, μ5, G, I9, hfin5.mono (fun yv st7 _ hyv vy H7 μ7 ty Fy I10 S10 ry py => ?_) fun _ _ _ z => z.elim⟩
              have hyv : Fin (fun zs st6 => Fin (A (accd5 ++ zs)) (fun _ _ _ => False) (compCat bdy (xs.drop (i + 1)) st6)) (fun _ _ _ => False) ((compLoop (bdy1 env') (ys.drop (j + 1)) st7).bind fun ys st2 => .ok (yv :: ys) st2) := hyv
              rw [Fin.bind] at hyv
              have hyv : Fin (fun zs st6 => Fin (A (accd5 ++ [yv] ++ zs)) (fun _ _ _ => False) (compCat bdy (xs.drop (i + 1)) st6)) (fun _ _ _ => False) (compLoop (bdy1 env') (ys.drop (j + 1)) st7) := hyv.mono (fun zs st6 _ z => by
                have z : Fin (A (accd5 ++ (yv :: zs))) (fun _ _ _ => False) (compCat bdy (xs.drop (i + 1)) st6) := z
                rw [List.append_assoc, List.singleton_append]
                exact z) fun _ _ _ z => z
              have hlen : accd5.length < sizeLine := by
                cases e : compLoop (bdy1 env') (ys.drop (j + 1)) st7 with
                | ok zs st8 =>
                  rw [e] at hyv
                  have hyv : Fin (A (accd5 ++ [yv] ++ zs)) (fun _ _ _ => False) (compCat bdy (xs.drop (i + 1)) st8) := hyv
                  cases e2 : compCat bdy (xs.drop (i + 1)) st8 with
                  | ok ws st9 =>
                    rw [e2] at hyv
                    have := hA2 _ _ _ hyv
                    simp at this
                    omega
                  | exn _ _ _ => rw [e2] at hyv; exact hyv.elim
                  | bad => rw [e2] at hyv; exact hyv.elim
                | exn _ _ _ => rw [e] at hyv; exact hyv.elim
                | bad => rw [e] at hyv; exact hyv.elim
              have Sa5 : Step μ5 Hh2 μ7 H7 := n2.step.trans S10
              have Sb5 : Step μ1 H1 μ7 H7 := S5.trans Sa5
              have hD7 : H7 Dd = some (.lst acc5) := Sa5.keep Dd _ hD5 nD5
              have nD7 : Dd ∉ μ7 := Sa5.notin (by rw [hD5]; simp) nD5
              have hh : Held X.KW (c.blk fun a => c.Ok a ∧ a ≠ Dd) G p H5 yv vy ty Fy μ7 H7 := ⟨ry, py⟩
              have all := hh.all I9.gdom
              have sl : SL (· ≠ Dd) μ7 H7 μ7 (upd H7 Dd (.lst (acc5 ++ [vy]))) := SL.upd hD7 fun z => z rfl
              have rs6 := rs5.step Sa5 fun a ha => (hF5 a ha).2.2.1
              have rs7 := rs6.sl sl fun a ha => ⟨Sa5.notin (rs5.there a ha) (hF5 a ha).2.2.1, (hF5 a ha).1⟩
              have ry5 := ry.sl sl fun a ha => ⟨(all a ha).2.1, (all a ha).2.2.2⟩
              obtain ⟨F', rs8, hF'⟩ := rs7.append (.cons ry5 .nil)
              refine ⟨acc5, hD7, by rw [← rs5.length]; exact hlen, rfl, hlt1, st7, μ7, acc5 ++ [vy], accd5 ++ [yv], F', Sb5.updNew hD hD7, I10.box.sl sl fun a ha vs e => ?_, I10.muLen, I10.muNd, upd_same, nD7, rs8, fun a ha => ?_, (sl5.trans (Sa5.sl (L := (· ≠ Dd))) fun _ _ _ h => h).trans sl fun _ _ _ h => h, hyv⟩
              · rw [upd_ne fun e => nD7 (by rw [← e]; exact ha)]
                exact e
              · rcases hF' a ha with ha | ha
                · exact ⟨(hF5 a ha).1, (hF5 a ha).2.1, Sa5.notin (rs5.there a ha) (hF5 a ha).2.2.1, (hF5 a ha).2.2.2⟩
                · have ha : a ∈ ty ++ Fy := by simpa using ha
                  exact ⟨(all a ha).2.2.2, (all a ha).1, (all a ha).2.1, (all a ha).2.2.1⟩
        · refine .inl ?_
          have e : j = ys.length := by omega
          subst e
          rw [List.drop_length, compLoop] at hfin5
          have hfin5 : Fin (A (accd5 ++ [])) (fun _ _ _ => False) (compCat bdy (xs.drop (i + 1)) st5) := hfin5
          rw [List.append_nil] at hfin5
          exact ⟨wk1.stop μ5 Hh2 _ slL (Nat.le_refl _), rfl, hlt, st5, μ5, acc5, accd5, F5, S5, bx5, ml5, md5, hD5, nD5, rs5, hF5, hfin5⟩
  · refine .inl ?_
    have e : i = xs.length := by omega
    subst e
    refine ⟨wk.stop μ' Hh _ S.sl (Nat.le_refl _), ?_⟩
    rw [List.drop_length, compCat] at hfin
    have hfin : A accd [] st' := hfin
    rw [← hA] at hfin
    obtain ⟨_, hfin⟩ := hfin
    rw [List.append_nil] at hfin
    refine hfin (.ref Dd) Hh μ' [Dd] F I2 (S1.trans S) (.lst hDd rs) ⟨fun a ha => ?_, fun a ha => (hF a ha).2.1, fun a ha => ?_⟩
    · rw [List.mem_singleton.mp ha]
      exact ⟨S1.wasNone hD, fun z => (hF _ z).1 rfl⟩
    · rcases List.mem_append.mp ha with ha | ha
      · rw [List.mem_singleton.mp ha]
        exact ⟨nD, I1.okn _ hD⟩
      · exact (hF a ha).2.2
end
end WT
end

section
set_option Elab.async false
set_option linter.all false
set_option maxRecDepth 100000
set_option autoImplicit false
/-! K14d: expressions on dicts, xs.index(x). -/
namespace WT
open PySem PySem.Spec PyProof.Rows L2
theorem meth_desc_index : typeOf (.builtin "list.index") = pure (.type "method_descriptor") := by show builtinType _ = _; rw [builtinType_eq_fast]; kernel_rfl
section
variable {m : MC} {g : GE} {k : Nat} {a b d e : E} {p q r : Pv}
theorem pe_dnewX {X : Cx} {pos : Pos} : PE X (.Dict [] [] pos) (fun σ H Q => ∀ p o, (p == sysModules) = false → H p = none → Q (.ref p) (upd H p (DTo X.w p o []))) := ⟨fun pins s σ H Q I h =>
  wpAny_Dict_empty ⟨.ref s.heap.objs.size, _, I.laid (a := s.heap.objs.size) (o := DTo X.w s.heap.objs.size { cls := .type "dict", data := .dict #[] } []) (t' := s.toks) (fun _ _ q => Heap.get?_push_of_some _ q) (Nat.le_refl _)
    ⟨⟨Heap.get?_push_size _ rfl, ⟨rfl, rfl, rfl⟩, #[], 0, rfl, rfl, List.nodup_nil⟩, ⟨_, Heap.get?_push_size _ rfl⟩, fun h1 h2 ⟨e1, e2⟩ k => ⟨k _ e1, e2⟩⟩, rfl,
    h _ _ (beq_eq_false_iff_ne.mpr (Ne.symm (Nat.ne_of_lt I.big))) (I.hok.fresh (Nat.le_refl _))⟩⟩
theorem snd_dnew {t : Bool} : Snd m g k (.dnew t) (.new1 []) := by
  intro c sc X x hg ok h
  cases x with
  | Dict ks vs pos =>
    match ks, vs, h with
    | [], [], h =>
      cases t with
      | false =>
        refine pe_dnewK.mono fun σ H Q ⟨env, st, μ, G, I, hq⟩ => ?_
        rw [evE] at hq
        exact fun n hn => (okE.out hq I .refl (B := fun _ => False) fun a h => h.elim) (.ref n) (upd H n (.dK [])) [n] [] (.inr ⟨n, _, hn, rfl⟩) (.dK upd_same rfl rfl .nil rfl) (fun a ha => by
          have e := List.mem_singleton.mp ha
          subst e
          exact ⟨hn, by simp⟩) fun a h => by simp at h
      | true =>
        refine pe_dnewX.mono fun σ H Q ⟨env, st, μ, G, I, hq⟩ => ?_
        rw [evE] at hq
        exact fun n o hs hn => (okE.out hq I .refl (B := fun _ => False) fun a h => h.elim) (.ref n) (upd H n (DTo X.w n o [])) [n] [] (.inr ⟨n, _, hn, rfl⟩) (.dT (xs := []) upd_same hs (Nat.zero_le _) rfl (fun _ h => by simp at h) .nil .nil rfl) (fun a ha => by
          have e := List.mem_singleton.mp ha
          subst e
          exact ⟨hn, by simp⟩) fun a h => by simp at h
    | _ :: _, _, h => simp [mE] at h
    | [], _ :: _, h => simp [mE] at h
  | _ => simp [mE] at h
/-- d.get(y, z), d a dict whose keys are tuples -/
def tGetT (X : Cx) (td ty tx : TE) : TE := fun σ H Q => td σ H fun x H1 => ∃ a, x = .ref a ∧ ((IsD H1 a ∧ ty σ H1 fun y H2 => tx σ H2 fun z H3 => ∃ ov, DGet H3 a y ov ∧ Q (ov.getD z) H3) ∨
  ((∃ o xs, H1 a = some (DTo X.w a o xs)) ∧ (a == sysModules) = false ∧ ty σ H1 fun y H2 => tx σ H2 fun z H3 => ∃ (o : Obj) (xs : List (NestedKey × Addr × Value)) (k : NestedKey) (b : Addr), H3 a = some (DTo X.w a o xs) ∧ NKx X.KW H3 xs ∧ y = .ref b ∧ NK X.KW H3 k (.ref b) ∧ k.depth ≤ 8 ∧
    (atKey xs k = none → Q z H3) ∧ ∀ c u, atKey xs k = some (c, u) → ∃ v, RelV v u ∧ Q v H3))
theorem pe_getT {X : Cx} {o e f : Expr} {td ty tx : TE} {apos cpos : Pos} (hu : X.A.units + 64 < cLine) (ho : PE X o td) (he : PE X e ty) (hf : PE X f tx) (m : M2 X o "get" apos e f cpos) : PE X (.Call (.Attribute o "get" apos) [e, f] [] cpos) (tGetT X td ty tx) := by
  refine ⟨fun pins s σ H Q I h => ?_⟩
  refine wpAny_Call_method m.base m.few m.line PySem.F.plainAttrs_dict PySem.F.slot_dict_get PySem.F.type_dict_get (thn (ho.run pins s σ H _ I h) fun u s1 ⟨x, H1, I1, rx, a, ex, d⟩ => ?_)
  subst ex
  obtain rfl : u = Value.ref a := rx
  rcases d with ⟨d, q1⟩ | ⟨⟨od, xs0, d⟩, hs, q1⟩
  · obtain ⟨t1, t2, _⟩ := isD_at I1 d
    refine ⟨t1, t2, ?_⟩
    rw [m.trees]
    refine Calls.callWith_builtin rfl (Calls.evalArgs_plain (Calls.spliced_cons (thn (he.run pins s1 σ H1 _ I1 q1) fun iv s2 ⟨y, H2, I2, ry, q2⟩ =>
      Calls.spliced_cons (thn (hf.run pins s2 σ H2 _ I2 q2) fun fv s3 ⟨z, H3, I3, rz, ov, g, q3⟩ => Calls.spliced_nil ?_))))
    exact d_get2 (by omega) I3 g ry rz fun w' s4 I4 rw' => ⟨_, H3, I4, rw', q3⟩
  · obtain ⟨⟨g1, g2, _⟩, _⟩ := I1.hok a _ d
    refine ⟨⟨_, g1, g2.1⟩, fun b z => ⟨_, by cases z; exact g1, g2.2.1⟩, ?_⟩
    rw [m.trees]
    refine wpAny_dict_get2_heap (knd := nestedKind X.prog X.w) (nk_room hu) hs (thn (he.run pins s1 σ H1 _ I1 q1) fun iv s2 ⟨y, H2, I2, ry, q2⟩ =>
      thn (hf.run pins s2 σ H2 _ I2 q2) fun fv s3 ⟨z, H3, I3, rz, o3, xs, k, b, e3, nk, ey, n1, n3, q3, q4⟩ => ?_)
    subst ey
    obtain rfl : iv = Value.ref b := ry
    refine ⟨b, k, xs, rfl, ⟨n1.is I3 rfl, n3⟩, dto_of I3 e3 nk, ?_⟩
    cases hk : atKey xs k with
    | none => exact ⟨z, H3, I3.tok _, rz, q3 hk⟩
    | some p =>
      obtain ⟨c, u⟩ := p
      obtain ⟨v, rv, q5⟩ := q4 c u hk
      exact ⟨v, H3, I3.tok _, rv, q5⟩
theorem snd_dgeto (ha : Snd m g k a p) (hb : Snd m g k b q) (hd : Snd m g k d r) : Snd m g k (.dgeto a b d) (.new1 []) := by
  intro c sc X x hg ok h
  cases x with
  | Call f args kws pos =>
    cases f with
    | Attribute o f ap =>
      cases o with
      | Name x xp =>
        match args, kws, h with
        | [y, z], [], h =>
          simp only [mE, Bool.and_eq_true, beq_iff_eq] at h
          obtain ⟨⟨⟨⟨rfl, h1⟩, h2⟩, h3⟩, h4⟩ := h
          have hst : starEach [y, z] X.env = [(false, eval y X.env), (false, eval z X.env)] := by rw [star_of (mE_plain h3), star_of (mE_plain h4)]; rfl
          refine (pe_getT (by have := ok.room.units; omega) (ha c sc X _ hg ok h2) (hb c sc X y hg ok h3) (hd c sc X z hg ok h4) ⟨rfl, by rw [hst]; rfl, by simpa using h1, by rw [hst]; rfl⟩).mono fun σ H Q ⟨env, st, μ, G, I, hq⟩ => ?_
          rw [evE] at hq
          refine TEv.fst I hq fun x1 st1 v1 H1 μ1 t1 F1 I1 S1 r1 hq => ?_
          cases hi : isDK x1 with
          | false => rw [hi] at hq; exact hq.elim
          | true =>
            rw [hi, if_pos rfl] at hq
            obtain ⟨rp, po⟩ := r1
            cases rp <;> first | (cases hi; done) | skip
            · rename_i n kvs ks vs ds F e1 e2 e3 r1 hF
              refine ⟨n, rfl, .inl ⟨.inl ⟨kvs, .inl e1⟩, ?_⟩⟩
              refine TEv.nxt S1 I1 hq fun x2 st2 v2 H2 μ2 t2 F2 I2 S2 r2 hq => ?_
              refine TEv.nxt (S1.trans S2) I2 hq fun x3 st3 v3 H3 μ3 t3 F3 I3 S3 r3 hq => ?_
              obtain ⟨w, e4, hq⟩ := Fin.ofO hq
              simp only [dgetoD] at e4
              split at e4
              · rename_i hn
                obtain ⟨kk, e5, rfl⟩ := Option.map_eq_some_iff.mp e4
                have k2 := r2.rep.key e5
                subst k2
                have hm : n ∉ μ1 := (po.out n (by simp)).1
                have e1' : H3 n = some (.dK kvs) := S3.keep _ _ (S2.keep _ _ e1 hm) (S2.notin (by rw [e1]; simp) hm)
                have r1' : Reps X.KW H3 μ3 ds vs F := (r1.step S2 fun a h => by rw [hF] at h; simp at h).step S3 fun a h => by rw [hF] at h; simp at h
                obtain ⟨n1, n2⟩ := r3.rep.noL hn
                subst n1 n2
                refine ⟨valV kvs kk, .k e1', ?_⟩
                rcases Reps.valP kk e2 e3 r1' with ⟨d', v', t', G', a1, a2, a3, a4⟩ | ⟨a1, a2⟩
                · rw [a1] at hq
                  rw [a2]
                  have ht : t' = [] ∧ G' = [] := by
                    rw [hF] at a4
                    cases t' with
                    | cons z t' => exact absurd (a4 z (by simp)) (by simp)
                    | nil => cases G' with
                      | cons z t' => exact absurd (a4 z (by simp)) (by simp)
                      | nil => exact ⟨rfl, rfl⟩
                  obtain ⟨rfl, rfl⟩ := ht
                  exact okE.flat (p := .new1 []) hq I3 ((S1.trans S2).trans S3) a3
                · rw [a1] at hq
                  rw [a2]
                  exact okE.flat (p := .new1 []) hq I3 ((S1.trans S2).trans S3) r3.rep
              · cases e4
            · rename_i n od xs ks vs ds F e1 hs hl hk nk hv r1 hF
              refine ⟨n, rfl, .inr ⟨⟨od, xs, e1⟩, hs, ?_⟩⟩
              refine TEv.nxt S1 I1 hq fun x2 st2 v2 H2 μ2 t2 F2 I2 S2 r2 hq => ?_
              refine TEv.nxt (S1.trans S2) I2 hq fun x3 st3 v3 H3 μ3 t3 F3 I3 S3 r3 hq => ?_
              obtain ⟨w, e4, hq⟩ := Fin.ofO hq
              simp only [dgetoD] at e4
              split at e4
              · rename_i hn
                obtain ⟨kk, e5, rfl⟩ := Option.map_eq_some_iff.mp e4
                obtain ⟨b', rfl, n1, n2, n3⟩ := r2.rep.keyT e5
                have hm : n ∉ μ1 := (po.out n (by simp)).1
                have e1' : H3 n = some (DTo X.w n od xs) := S3.keep _ _ (S2.keep _ _ e1 hm) (S2.notin (by rw [e1]; simp) hm)
                have r1' : Reps X.KW H3 μ3 ds vs F := (r1.step S2 fun a h => by rw [hF] at h; simp at h).step S3 fun a h => by rw [hF] at h; simp at h
                have nk' : NKx X.KW H3 xs := (nk.mono fun _ _ z => SqT.step z S2).mono fun _ _ z => SqT.step z S3
                obtain ⟨z1, z2⟩ := r3.rep.noL hn
                subst z1 z2
                refine ⟨od, xs, kk, b', e1', nk', rfl, n1.mono fun _ _ z => SqT.step z S3, n3, fun hnone => ?_, fun c2 u2 hsome => ?_⟩
                · rcases Reps.valT kk hk hv r1' with ⟨d', v', t', G', b2, u', a1, a2, a3, a4, a5⟩ | ⟨a1, a2⟩
                  · rw [hnone] at a2; cases a2
                  · rw [a1] at hq
                    exact okE.flat (p := .new1 []) hq I3 ((S1.trans S2).trans S3) r3.rep
                · rcases Reps.valT kk hk hv r1' with ⟨d', v', t', G', b2, u', a1, a2, a3, a4, a5⟩ | ⟨a1, a2⟩
                  · rw [hsome] at a2
                    cases a2
                    rw [a1] at hq
                    have ht : t' = [] ∧ G' = [] := by
                      rw [hF] at a5
                      cases t' with
                      | cons z t' => exact absurd (a5 z (by simp)) (by simp)
                      | nil => cases G' with
                        | cons z t' => exact absurd (a5 z (by simp)) (by simp)
                        | nil => exact ⟨rfl, rfl⟩
                    obtain ⟨rfl, rfl⟩ := ht
                    exact ⟨v', a3, okE.flat (p := .new1 []) hq I3 ((S1.trans S2).trans S3) a4⟩
                  · rw [hsome] at a2; cases a2
              · cases e4
        | [], _, h => simp [mE] at h
        | [_], _, h => simp [mE] at h
        | [_, _], _ :: _, h => simp [mE] at h
        | _ :: _ :: _ :: _, _, h => simp [mE] at h
      | _ => simp [mE] at h
    | _ => simp [mE] at h
  | _ => simp [mE] at h
theorem findIdx_first {α : Type} {f : α → Bool} : ∀ {l : List α} {j : Nat}, l.findIdx? f = some j → ∃ z, l[j]? = some z ∧ f z = true ∧ ∀ (i : Nat) (y : α), i < j → l[i]? = some y → f y = false := by
  intro l j h
  rw [List.findIdx?_eq_some_iff_getElem] at h
  obtain ⟨h1, h2, h3⟩ := h
  refine ⟨l[j], List.getElem?_eq_getElem h1, h2, fun i y hi hy => ?_⟩
  have := h3 i hi
  obtain ⟨hl, rfl⟩ := List.getElem?_eq_some_iff.mp hy
  simpa using this
theorem snd_midx (ha : Snd m g k a p) (hb : Snd m g k b q) : Snd m g k (.midx a b) (.new1 []) := by
  intro c sc X x hg ok h
  cases x with
  | Call f args kws pos =>
    cases f with
    | Attribute o f ap =>
      cases o with
      | Name x xp =>
        match args, kws, h with
        | [y], [], h =>
          simp only [mE, Bool.and_eq_true, beq_iff_eq] at h
          obtain ⟨⟨⟨rfl, h1⟩, h2⟩, h3⟩ := h
          have hst := star_of (mE_plain h3) ([] : List Expr) X.env
          refine (pe_bm PySem.F.plainAttrs_list PySem.F.slot_list_index meth_desc_index (mt_indexD (by have := ok.room.un; omega)) (ha c sc X _ hg ok h2) (pa_cons (hb c sc X y hg ok h3) pa_nil hst) rfl (by rw [hst]; rfl) (by simpa using h1) hst rfl).mono fun σ H Q ⟨env, st, μ, G, I, hq⟩ => ?_
          rw [evE] at hq
          refine TEv.fst I hq fun x1 st1 v1 H1 μ1 t1 F1 I1 S1 r1 hq => ?_
          cases hi : isLst x1 with
          | false => rw [hi] at hq; exact hq.elim
          | true =>
            rw [hi, if_pos rfl] at hq
            obtain ⟨rp, po⟩ := r1
            cases rp <;> first | (cases hi; done) | skip
            rename_i n vs ds e1 rs
            refine ⟨.inl ⟨rfl, vs, .inl (.inl e1)⟩, ?_⟩
            refine TEv.nxt S1 I1 hq fun x2 st2 v2 H2 μ2 t2 F2 I2 S2 r2 hq => ?_
            obtain ⟨w, e4, hq⟩ := Fin.ofO hq
            have hm : ∀ b ∈ n :: F1, b ∉ μ1 := fun b hb => (po.out b hb).1
            have rl := (Rep.lst (μ := μ1) e1 rs).step S2 hm
            unfold midxD at e4
            split at e4
            · rename_i ps pd q1 q2
              split at e4
              · rename_i hs
                obtain ⟨j, e5, rfl⟩ := Option.map_eq_some_iff.mp e4
                obtain ⟨z, z1, z2, z3⟩ := findIdx_first e5
                refine ⟨_, _, pd, ps, j, z, rfl, rfl, rl.dp q1, r2.rep.dp q2, hs.1, hs.2, z1, z2, fun i y hi hy => z3 i y hi hy, ?_⟩
                exact okE.flat (p := .new1 []) hq I2 (S1.trans S2) (.int _)
              · cases e4
            · cases e4
        | [], _, h => simp [mE] at h
        | [_], _ :: _, h => simp [mE] at h
        | _ :: _ :: _, _, h => simp [mE] at h
      | _ => simp [mE] at h
    | _ => simp [mE] at h
  | _ => simp [mE] at h
end
end WT
end

section
set_option Elab.async false
set_option linter.all false
set_option maxRecDepth 100000
set_option autoImplicit false
/-! K14f: the set of a list of integers, sorted. -/
namespace WT
open PySem PySem.Spec PyProof.Rows L2
theorem met_take (ns : List Int) : ∀ i, i ≤ ns.length → firstMet (fun j => ns.getD j 0) i = nubI (ns.take i)
  | 0, _ => rfl
  | i + 1, h => by
    have h1 : i < ns.length := h
    rw [firstMet_succ, met_take ns i (by omega), List.take_add_one, List.getElem?_eq_getElem h1]
    have e : ns.getD i 0 = ns[i] := by simp [List.getD_eq_getElem?_getD, h1]
    unfold nubI
    rw [e, Option.toList, List.foldl_append]
    rfl
theorem met_all (ns : List Int) : firstMet (fun j => ns.getD j 0) ns.length = nubI ns := by
  rw [met_take ns ns.length (Nat.le_refl _), List.take_length]
theorem nub_len (ns : List Int) : (nubI ns).length ≤ ns.length := by
  rw [← met_all]
  exact firstMet_length_le _ _
theorem nub_mem {x : Int} (ns : List Int) : x ∈ nubI ns ↔ x ∈ ns := by
  have key : ∀ (l acc : List Int), x ∈ l.foldl (fun acc y => if acc.any (· == y) then acc else acc ++ [y]) acc ↔ x ∈ acc ∨ x ∈ l := by
    intro l
    induction l with
    | nil => intro acc; simp
    | cons y l ih =>
      intro acc
      rw [List.foldl_cons, ih]
      by_cases h : acc.any (· == y) = true
      · rw [if_pos h]
        obtain ⟨z, hz, e⟩ := List.any_eq_true.mp h
        have : z = y := eq_of_beq e
        subst this
        constructor
        · rintro (h1 | h1)
          · exact .inl h1
          · exact .inr (by simp [h1])
        · rintro (h1 | h1)
          · exact .inl h1
          · rcases List.mem_cons.mp h1 with rfl | h1
            · exact .inl hz
            · exact .inr h1
      · rw [if_neg h]
        simp [or_assoc]
  have := key ns []
  simpa [nubI] using this
def stI (ns : List Int) (i : Nat) : Int → Bool := fun k => decide (k ∈ ns.take i)
def ctI (ns : List Int) (i : Nat) : Nat := (nubI (ns.take i)).length
theorem take_get {ns : List Int} {i : Nat} (h : i < ns.length) : ns.take (i + 1) = ns.take i ++ [ns.getD i 0] := by
  rw [List.take_add_one, List.getElem?_eq_getElem h]
  simp [List.getD_eq_getElem?_getD, h]
theorem stI_s {ns : List Int} {i : Nat} (h : i < ns.length) (k : Int) : stI ns (i + 1) k = (stI ns i k || decide (k = ns.getD i 0)) := by
  unfold stI
  rw [take_get h]
  simp [Bool.decide_or]
theorem ctI_s {ns : List Int} {i : Nat} (h : i < ns.length) : ctI ns (i + 1) = if stI ns i (ns.getD i 0) = true then ctI ns i else ctI ns i + 1 := by
  unfold ctI
  have e : nubI (ns.take (i + 1)) = if (nubI (ns.take i)).any (· == ns.getD i 0) then nubI (ns.take i) else nubI (ns.take i) ++ [ns.getD i 0] := by
    rw [take_get h]
    unfold nubI
    rw [List.foldl_append]
    rfl
  have e2 : (nubI (ns.take i)).any (· == ns.getD i 0) = stI ns i (ns.getD i 0) := by
    unfold stI
    rw [Bool.eq_iff_iff, List.any_eq_true, decide_eq_true_eq, ← nub_mem]
    constructor
    · rintro ⟨z, hz, e⟩
      have : z = ns.getD i 0 := eq_of_beq e
      rw [← this]; exact hz
    · intro hz
      exact ⟨_, hz, by simp⟩
  rw [e, e2]
  split <;> simp
theorem ctI_le (ns : List Int) (i : Nat) : ctI ns i ≤ ns.length := Nat.le_trans (nub_len _) (by rw [List.length_take]; omega)
section
variable {prog : Program} {w : World} {A : Around}
/-- one behind another the list's items go into the set -/
theorem fill_set {R : Result → Shared → Prop} {I p : Addr} {fp wr : List Addr} {G : Array GenState → Array GenState → Prop} {n : Nat} {P : Nat → Value → Prop} {St : Nat → Shared → Prop} (W : WalksS prog w A.in1 I fp wr G n P St)
    (hp : p ∉ fp) {ns : List Int} (hn : ns.length = n) (hv : ∀ i v, P i v → ∃ t, v = .int (ns.getD i 0) t) (hb : n + 1 < scanBound) :
    ∀ (m i : Nat) (s : Shared), i + m = n → St i s → SetR w s.heap p (stI ns i) (ctI ns i) → (∀ s', Moved (p :: wr) G s s' → SetR w s'.heap p (stI ns n) (ctI ns n) → R (.ok (.ret .none)) s') →
      codeAny (model prog w) A (.builtin "set.update.loop" ⟨[.ref p, .ref I], []⟩) R s
  | 0, i, s, hi, hs, hr, hR => by
    obtain rfl : i = n := by omega
    refine codeAny_builtin F.entry_set_update_loop ?_; rw [Around.under_plainId F.plain_set_update_loop]
    show wpAny _ _ (pyNext (.ref I) >>= _) _ _ _
    refine wpAny_bind (W.done s _ _ hs fun s1 hm => wpAny_pure (hR s1 ⟨fun b o hb => hm.heap b o fun z => hb (List.mem_cons_of_mem _ z), hm.gens, hm.drawn, hm.os, hm.toks⟩ ?_))
    exact hr.at fun o => hm.heap p o fun z => hp (W.sub _ z)
  | m + 1, i, s, hi, hs, hr, hR => by
    have hlt : i < n := by omega
    refine codeAny_builtin F.entry_set_update_loop ?_; rw [Around.under_plainId F.plain_set_update_loop]
    show wpAny _ _ (pyNext (.ref I) >>= _) _ _ _
    refine wpAny_bind (W.item i s _ _ hlt hs fun v s1 hP h1 hm => ?_)
    obtain ⟨t, rfl⟩ := hv i v hP
    have r1 : SetR w s1.heap p (stI ns i) (ctI ns i) := hr.at fun o => hm.heap p o fun z => hp (W.sub _ z)
    show wpAny _ _ (holding [Value.int (ns.getD i 0) t] (setAdd p (.int (ns.getD i 0) t)) >>= _) _ _ _
    refine wpAny_bind (wpAny_holding ?_); unfold setAdd
    refine wpAny_holding (wpAny_bind ((intKind prog w).pyHash (k := ns.getD i 0) (intKind_is _ _ _ _) (setR_add_hashed (s := { s1 with toks := s1.toks + 1 }) r1 (by have := ctI_le ns i; omega) fun h2 sb r2 => ?_)))
    have r3 : SetR w h2 p (stI ns (i + 1)) (ctI ns (i + 1)) := by
      rw [ctI_s (by omega)]
      exact r2.congr fun k => stI_s (by omega) k
    have keep : ∀ b o, b ≠ p → s1.heap.get? b = some o → h2.get? b = some o := fun b o hb e => (sb.2 b hb).trans e
    refine wpAny_pure ⟨plainId_quiet F.plain_set_update_loop _, fill_set W hp hn hv hb m (i + 1) _ (by omega) (W.frame _ s1 h2 _ h1 (Nat.le_succ _) fun b hbf o e => keep b o (fun z => hp (z ▸ hbf)) e) r3 fun s3 hm3 r4 => hR s3 ⟨fun b o hb e => ?_, W.gtrans _ _ _ hm.gens hm3.gens, hm3.drawn.trans hm.drawn, hm3.os.trans hm.os, Nat.le_trans hm.toks (Nat.le_trans (Nat.le_succ _) hm3.toks)⟩ r4⟩
    have hb1 : b ≠ p := fun z => hb (by rw [z]; exact List.mem_cons_self)
    exact hm3.heap b o hb (keep b o hb1 (hm.heap b o (fun z => hb (List.mem_cons_of_mem _ z)) e))
/-- a set as it is made -/
def setO0 (w : World) : Obj := { cls := .type "set", dict := none, data := .set #[] 0 (.fresh 0 0 (!w.params.followText "set-order")) }
theorem new_set1 {E : Value → Shared → Prop} {s : Shared} (a : Value) {Q : Value → Shared → Prop} (h : Q (.ref s.heap.objs.size) { s with heap := s.heap.push (setO0 w) }) : codeAny (model prog w) A (.call (.builtin "set.__new__") ⟨[.type "set", a], []⟩) (wants Q E) s := by
  have hsub := sub_set_self
  refine codeAny_of_tree (wpAny_bind (m := checkBuiltinCall "set.__new__" ⟨[.type "set", a], []⟩) (wpAny_of_eq (F.newCall_set_1 a) (wpAny_pure ⟨plainId_quiet F.plain_set_new _, codeAny_builtin F.entry_set_new ?_⟩)))
  rw [Around.under_plainId F.plain_set_new]; unfold Builtin.«set.__new__» Builtin.Frozenset.newClass
  obtain ⟨hp, g, d, tk, os⟩ := s; dsimp only
  wp_walk
  refine wpAny_askSetting (wpAny_pure ?_); dsimp only
  simp only [newObj]
  exact wpAny_bind (wpAny_alloc (wpAny_pure (wpAny_pure h)))
set_option maxHeartbeats 8000000 in
/-- set(xs), xs a list of integers -/
theorem call_setR {E : Value → Shared → Prop} {s : Shared} {l : Addr} {items : Array Value} {ns : List Int} {Q : Value → Shared → Prop} (hh : A.handled = none) (hl : s.heap.IsList l items) (hi : IntsAre items.toList ns) (hb : ns.length + 1 < scanBound)
    (h : ∀ (h2 : Heap) (tk : Nat), SetR w h2 s.heap.objs.size (stI ns ns.length) (ctI ns ns.length) → (∀ b o, s.heap.get? b = some o → h2.get? b = some o) → Q (.ref s.heap.objs.size) { s with heap := h2, toks := tk }) :
    wpAny (model prog w) A (call (.type "set") [.ref l]) Q E s := by
  have hlen : items.size = ns.length := by have := hi.length; simpa using this
  have m1 := F.called_set.made; have m2 := F.called_set.sub; have m3 := F.called_set.notType; have m4 := F.called_set.canCreate; have m5 := F.typeCall_set_1 (.ref l); obtain ⟨c, tl, m6⟩ := F.called_set.mro
  refine wpAny_call (codeAny_of_tree (?_ : wpAny _ _ (callAny (.type "set") _) _ _ _))
  refine wpAny_pure ⟨Code.quiet_builtin _ (by decide +kernel), ?_⟩
  refine codeAny_builtin F.entry_type_call ?_; rw [Around.under_plain (weight_type_call_type "set" [.ref l] []) rfl]
  repeat any_goals first | assumption | wp_step
  refine codeAny_mono (new_set1 (.ref l) (E := E) (Q := fun obj s1 => obj = .ref s.heap.objs.size ∧ s1 = { s with heap := s.heap.push (setO0 w) }) ⟨rfl, rfl⟩) fun r s1 hr => ?_
  rcases r with e | fl
  · exact hr
  cases fl with
  | ret obj =>
    obtain ⟨rfl, rfl⟩ := hr
    have hS : (s.heap.push (setO0 w)).get? s.heap.objs.size = some (setO0 w) := Heap.get?_push_size _ rfl
    have hT : Shared.TypeIs { s with heap := s.heap.push (setO0 w) } (.ref s.heap.objs.size) "set" := ⟨_, hS, rfl⟩
    have m7 := F.called_set.init.lookup; have m8 := F.called_set.init.bind (.ref s.heap.objs.size)
    repeat any_goals first | assumption | wp_step
    refine codeAny_mono (codeAny_call_builtin (R := wants (fun r s2 => r = .none ∧ Q (.ref s.heap.objs.size) s2) E) F.called_set.init.plain F.entry_set_init (check_set_init_1 hT ?_)) fun r2 s2 hr2 => ?_
    · rcases hl with ⟨⟨oc, od, oda, osl⟩, g0, z1, nl, z2⟩; dsimp only at z1 z2; cases z1; cases z2
      have g1 : (s.heap.push (setO0 w)).get? l = some { cls := .type "list", dict := od, data := .seq items nl, slots := osl } := Heap.get?_push_of_some _ g0
      have l1 : (s.heap.push (setO0 w)).IsList l items := ⟨_, g1, rfl, nl, rfl⟩
      have u1 := F.sub_list_set; have u2 := F.sub_list_frozenset; have u3 : (Value.type "list" == Value.type "dict") = false := by decide
      have sz : (s.heap.push (setO0 w)).objs.size = s.heap.objs.size + 1 := Heap.size_push ..
      have hlt : l < s.heap.objs.size := Heap.lt_size g0
      have n1 : l ≠ (s.heap.push (setO0 w)).objs.size := fun z => Nat.ne_of_lt (Nat.lt_succ_of_lt hlt) (z.trans sz)
      have n2 : s.heap.objs.size ≠ (s.heap.push (setO0 w)).objs.size := fun z => Nat.ne_of_lt (Nat.lt_succ_self _) (z.trans sz)
      have n3 : s.heap.objs.size ≠ l := Nat.ne_of_gt hlt
      unfold Builtin.«set.__init__» noKeywords Builtin.Frozenset.updateFrom; generalize hPI : pyIter = PI
      wp_walk
      subst hPI
      refine wpAny_pyIter_list l1 (wpAny_bind (wpAny_runValue ?_))
      refine fill_set ((Walks.list (by simp [hh]) (s.heap.push (setO0 w)).objs.size l n1 items).toS) (p := s.heap.objs.size) (fun z => (List.mem_cons.mp z).elim n2 fun z => n3 (List.mem_singleton.mp z)) hlen.symm (fun i v hv => IntsAre.int_at hi i v (by rw [Array.getElem?_toList]; exact hv)) (by omega) items.size 0 _ (by omega) ⟨⟨_, Heap.get?_push_size _ rfl, rfl, rfl⟩, l1.push _⟩ ?_ fun s3 hm hr3 => ?_
      · have := setR_fresh (h := s.heap) w
        have q : SetR w ((s.heap.push (setO0 w)).push { cls := .type "list_iterator", data := .fields #[.ref l, .int 0 0] }) s.heap.objs.size (fun _ => false) 0 := SetR.at this fun o e => Heap.get?_push_of_some _ e
        exact q.congr fun k => by simp [stI]
      · obtain ⟨h3, g3, d3, t3, o3⟩ := s3
        have eg : g3 = s.gens := hm.gens
        have ed : d3 = s.drawn := hm.drawn
        have eo : o3 = s.os := hm.os
        subst eg ed eo
        refine wpAny_pure (wpAny_pure ⟨rfl, h h3 t3 (hlen ▸ hr3) fun b o e => ?_⟩)
        have hb1 := Heap.lt_size e
        exact hm.heap b o (fun z => (List.mem_cons.mp z).elim (Nat.ne_of_lt hb1) fun z => Nat.ne_of_lt (Nat.lt_succ_of_lt hb1) ((List.mem_singleton.mp z).trans sz)) (Heap.get?_push_of_some _ (Heap.get?_push_of_some _ e))
    · rcases r2 with e | fl2
      · exact hr2
      cases fl2 with
      | ret r =>
        obtain ⟨rfl, hq⟩ := hr2
        repeat any_goals first | assumption | wp_step
      | _ => exact hr2.elim
  | _ => exact hr.elim
end
theorem nub_nodup (ns : List Int) : (nubI ns).Nodup := by
  have key : ∀ (l acc : List Int), acc.Nodup → (l.foldl (fun acc y => if acc.any (· == y) then acc else acc ++ [y]) acc).Nodup := by
    intro l
    induction l with
    | nil => intro acc h; exact h
    | cons y l ih =>
      intro acc h
      rw [List.foldl_cons]
      refine ih _ ?_
      split
      · exact h
      · rename_i hc
        rw [List.nodup_append]
        refine ⟨h, by simp, fun a ha b hb e => hc ?_⟩
        rw [List.mem_singleton.mp hb] at e
        exact List.any_eq_true.mpr ⟨a, ha, by simp [e]⟩
  exact key ns [] List.nodup_nil
theorem asc_one : ∀ {a b : List Int}, a.Pairwise (· < ·) → b.Pairwise (· < ·) → (∀ x, x ∈ a ↔ x ∈ b) → a = b
  | [], [], _, _, _ => rfl
  | [], y :: b, _, _, h => by have := (h y).mpr (by simp); simp at this
  | x :: a, [], _, _, h => by have := (h x).mp (by simp); simp at this
  | x :: a, y :: b, ha, hb, h => by
    obtain ⟨a1, a2⟩ := List.pairwise_cons.mp ha
    obtain ⟨b1, b2⟩ := List.pairwise_cons.mp hb
    have hxy : x = y := by
      rcases List.mem_cons.mp ((h x).mp (by simp)) with e | e
      · exact e
      rcases List.mem_cons.mp ((h y).mpr (by simp)) with e2 | e2
      · exact e2.symm
      have := b1 x e
      have := a1 y e2
      omega
    subst hxy
    rw [asc_one a2 b2 fun z => ?_]
    constructor
    · intro hz
      rcases List.mem_cons.mp ((h z).mp (by simp [hz])) with e | e
      · have := a1 z hz; omega
      · exact e
    · intro hz
      rcases List.mem_cons.mp ((h z).mpr (by simp [hz])) with e | e
      · have := b1 z hz; omega
      · exact e
theorem insI_in {x y : Int} : ∀ {l : List Int}, y ∈ insI x l ↔ y = x ∨ y ∈ l
  | [] => by simp [insI]
  | z :: l => by
    unfold insI
    split
    · simp
    · rw [List.mem_cons, insI_in, List.mem_cons]
      constructor
      · rintro (h | h | h) <;> simp [h]
      · rintro (h | h | h) <;> simp [h]
theorem sortI_in {y : Int} : ∀ {l : List Int}, y ∈ sortI l ↔ y ∈ l
  | [] => by simp [sortI]
  | x :: l => by
    have e : sortI (x :: l) = insI x (sortI l) := rfl
    rw [e, insI_in, sortI_in, List.mem_cons]
theorem insI_up {x : Int} : ∀ {l : List Int}, l.Pairwise (· < ·) → x ∉ l → (insI x l).Pairwise (· < ·)
  | [], _, _ => by simp [insI]
  | y :: l, h, hx => by
    obtain ⟨h1, h2⟩ := List.pairwise_cons.mp h
    have hne : x ≠ y := fun e => hx (by simp [e])
    unfold insI
    split
    · rename_i hc
      refine List.pairwise_cons.mpr ⟨fun z hz => ?_, h⟩
      rcases List.mem_cons.mp hz with rfl | hz
      · omega
      · have := h1 z hz; omega
    · refine List.pairwise_cons.mpr ⟨fun z hz => ?_, insI_up h2 fun hm => hx (by simp [hm])⟩
      rcases insI_in.mp hz with rfl | hz
      · omega
      · exact h1 z hz
theorem sortI_up : ∀ {l : List Int}, l.Nodup → (sortI l).Pairwise (· < ·)
  | [], _ => List.Pairwise.nil
  | x :: l, h => by
    obtain ⟨h1, h2⟩ := List.nodup_cons.mp h
    exact insI_up (sortI_up h2) fun hm => h1 (sortI_in.mp hm)
/-- sorted(set(xs)) of integers -/
theorem pe_sortSet {X : Cx} {a : Expr} {t : TE} {p p2 q pos : Pos} (hc : X.calm = true) (g1 : Gl X "sorted") (m1 : X.mg "sorted" = none) (g2 : Gl X "set") (m2 : X.mg "set" = none) (ha : PE X a t) (hs : starEach [a] X.env = [(false, eval a X.env)]) :
    PE X (.Call (.Name "sorted" p) [.Call (.Name "set" p2) [a] [] q] [] pos) (fun σ H Q => t σ H fun x H1 => ∃ (l : Addr) (ns : List Int), x = .ref l ∧ SqL X.K H1 l (ns.map V.int) ∧ ns.length < 64 ∧ ∀ p, H1 p = none → Q (.ref p) (upd H1 p (.lst ((sortI (nubI ns)).map V.int)))) := by
  refine ⟨fun pins s σ H Q I h => Call_ (ld_blt I g1 m1 boot_sorted (callWith_builtin1 (args_cons (Call_ (ld_blt I g2 m2 boot_set (callWith_type1 (args_cons (thn (ha.run pins s σ H _ I h) fun u s1 hu => args_nil ?_) hs) hs rfl))) rfl) rfl rfl))⟩
  obtain ⟨x, H1, I1, rx, l, ns, rfl, sq, hl, hq⟩ := hu
  cases rx
  obtain ⟨us, rs, pl, _⟩ := I1.list sq
  refine call_setR (ns := ns) (I1.ok.hd hc) pl.isList (by simpa using RZ.intsAre_vals rs) (by unfold scanBound; omega) fun h2 tk S old => args_nil ?_
  have I2 : Inv X pins σ H1 { s1 with heap := h2, toks := tk } := I1.kept fun b o e => old b o e
  have hct := ctI_le ns ns.length
  refine sorted_set S (I1.ok.hd hc) (by omega) fun s4 p4 out c4 ks k4 g4 o4 hp4 hg4 hi4 hs4 hm4 hl4 => ?_
  have hks : ks = sortI (nubI ns) := asc_one hs4 (sortI_up (nub_nodup ns)) fun x => by rw [hm4, sortI_in, nub_mem]; simp [stI]
  subst hks
  have hfr : H1 p4 = none := I2.hok.fresh hp4
  have hz : ((sortI (nubI ns)).map V.int).length ≤ sizeLine := by rw [List.length_map, hl4, sizeLine_eq]; omega
  have J : Inv X pins σ (upd H1 p4 (.lst ((sortI (nubI ns)).map V.int))) { s1 with heap := s4.heap, gens := s4.gens, drawn := s4.drawn, toks := s4.toks } := L2.Inv.call (s := { s1 with heap := h2, toks := tk }) I2 (ch := []) (Un.laid (h := h2) k4 hp4 hfr) (I2.hok.laid k4 hp4 ⟨hz, out.toList, c4, vals_of_ints hi4, hg4⟩) (by rw [g4]; exact I2.bare) fun _ z => nomatch z
  have e4 : s4 = { s1 with heap := s4.heap, gens := s4.gens, drawn := s4.drawn, toks := s4.toks } := by cases s4; cases s1; cases o4; rfl
  rw [e4]; exact ⟨.ref p4, _, J, rfl, hq p4 hfr⟩
end WT
end

section
set_option Elab.async false
set_option linter.all false
set_option maxRecDepth 100000
set_option autoImplicit false
/-! K14g: the set of a tuple of pairs of integers, sorted. -/
namespace WT
open PySem PySem.Spec PyProof.Rows L2
/-! ### plain: nubL, sortL -/
theorem nubL_in {x : List Int} (l : List (List Int)) : x ∈ nubL l ↔ x ∈ l := by
  have key : ∀ (l acc : List (List Int)), x ∈ l.foldl (fun acc y => if y ∈ acc then acc else acc ++ [y]) acc ↔ x ∈ acc ∨ x ∈ l := by
    intro l
    induction l with
    | nil => intro acc; simp
    | cons y l ih =>
      intro acc
      rw [List.foldl_cons, ih]
      by_cases h : y ∈ acc
      · rw [if_pos h]
        constructor
        · rintro (h1 | h1)
          · exact .inl h1
          · exact .inr (by simp [h1])
        · rintro (h1 | h1)
          · exact .inl h1
          · rcases List.mem_cons.mp h1 with rfl | h1
            · exact .inl h
            · exact .inr h1
      · rw [if_neg h]
        simp [or_assoc]
  have := key l []
  simpa [nubL] using this
theorem nubL_nodup (l : List (List Int)) : (nubL l).Nodup := by
  have key : ∀ (l acc : List (List Int)), acc.Nodup → (l.foldl (fun acc y => if y ∈ acc then acc else acc ++ [y]) acc).Nodup := by
    intro l
    induction l with
    | nil => intro acc h; exact h
    | cons y l ih =>
      intro acc h
      rw [List.foldl_cons]
      refine ih _ ?_
      split
      · exact h
      · rename_i hc
        rw [List.nodup_append]
        exact ⟨h, by simp, fun a ha b hb e => hc (by rw [← List.mem_singleton.mp hb, ← e]; exact ha)⟩
  exact key l [] List.nodup_nil
theorem nd_le {α : Type} [DecidableEq α] : ∀ {a b : List α}, a.Nodup → (∀ x ∈ a, x ∈ b) → a.length ≤ b.length
  | [], _, _, _ => Nat.zero_le _
  | x :: a, b, h, hs => by
    obtain ⟨h1, h2⟩ := List.nodup_cons.mp h
    have hx : x ∈ b := hs x (by simp)
    have := nd_le (b := b.erase x) h2 fun y hy => by
      have hne : y ≠ x := fun e => h1 (by rw [← e]; exact hy)
      exact (List.mem_erase_of_ne hne).mpr (hs y (by simp [hy]))
    rw [List.length_erase_of_mem hx] at this
    have hp := List.length_pos_of_mem hx
    simp only [List.length_cons]
    omega
theorem code2 (B x y : Int) : TS.code B [x, y] = x * B + y := by
  show x * B ^ 1 + (y * B ^ 0 + 0) = x * B + y
  rw [Int.pow_succ, Int.pow_zero, Int.one_mul, Int.mul_one, Int.add_zero]
theorem code_lt {B x y x' y' : Int} (hy : 0 ≤ y ∧ y < B) (hy' : 0 ≤ y' ∧ y' < B) : lexLtD [x, y] [x', y'] = decide (TS.code B [x, y] < TS.code B [x', y']) := by
  rw [code2, code2]
  have hlt : ∀ {a b c d : Int}, 0 ≤ c → c < B → 0 ≤ d → d < B → a < b → a * B + c < b * B + d := fun {a b c d} h1 h2 h3 h4 hab => by
    have : (a + 1) * B ≤ b * B := Int.mul_le_mul_of_nonneg_right (by omega) (by omega)
    rw [Int.add_mul, Int.one_mul] at this
    omega
  unfold lexLtD
  by_cases h : x = x'
  · rw [if_pos h, h]
    unfold lexLtD
    by_cases h2 : y = y'
    · subst h2
      simp [lexLtD]
    · rw [if_neg h2]
      congr 1
      simp
  · rw [if_neg h]
    rcases Int.lt_or_lt_of_ne h with h1 | h1
    · rw [decide_eq_true h1, decide_eq_true (hlt hy.1 hy.2 hy'.1 hy'.2 h1)]
    · rw [decide_eq_false (by omega), decide_eq_false]
      have := hlt hy'.1 hy'.2 hy.1 hy.2 h1
      omega
/-- a pair of integers from 0 to B -/
def PrB (B : Int) (l : List Int) : Prop := ∃ x y, l = [x, y] ∧ (0 ≤ x ∧ x < B) ∧ 0 ≤ y ∧ y < B
theorem PrB.inj {B : Int} {a b : List Int} (ha : PrB B a) (hb : PrB B b) (h : TS.code B a = TS.code B b) : a = b := by
  obtain ⟨x, y, rfl, hx, hy⟩ := ha
  obtain ⟨x', y', rfl, hx', hy'⟩ := hb
  have h1 := code_lt (x := x) (x' := x') hy hy'
  have h2 := code_lt (x := x') (x' := x) hy' hy
  rw [h] at h1 h2
  simp only [Int.lt_irrefl, decide_false] at h1 h2
  unfold lexLtD at h1 h2
  have e1 : x = x' := by
    rcases Int.lt_trichotomy x x' with c | c | c
    · rw [if_neg (by omega), decide_eq_true c] at h1; cases h1
    · exact c
    · rw [if_neg (by omega), decide_eq_true c] at h2; cases h2
  subst e1
  rw [if_pos rfl] at h1 h2
  unfold lexLtD at h1 h2
  have e2 : y = y' := by
    rcases Int.lt_trichotomy y y' with c | c | c
    · rw [if_neg (by omega), decide_eq_true c] at h1; cases h1
    · exact c
    · rw [if_neg (by omega), decide_eq_true c] at h2; cases h2
  rw [e2]
theorem insL_code {B : Int} {x : List Int} (hx : PrB B x) : ∀ {l : List (List Int)}, (∀ y ∈ l, PrB B y) → (insL x l).map (TS.code B) = insI (TS.code B x) (l.map (TS.code B))
  | [], _ => rfl
  | y :: l, hl => by
    have hy := hl y (by simp)
    have ih := insL_code hx (l := l) fun z hz => hl z (by simp [hz])
    obtain ⟨a, b, rfl, ha, hb⟩ := hx
    obtain ⟨c, d, rfl, hc, hd⟩ := hy
    unfold insL
    rw [code_lt hd hb, List.map_cons]
    unfold insI
    by_cases h : TS.code B [c, d] < TS.code B [a, b]
    · rw [if_pos (by simpa using h), if_neg (by omega), List.map_cons, ih]
    · rw [if_neg (by simpa using h), if_pos (by omega), List.map_cons, List.map_cons]
theorem insL_in {x y : List Int} : ∀ {l : List (List Int)}, y ∈ insL x l ↔ y = x ∨ y ∈ l
  | [] => by simp [insL]
  | z :: l => by
    unfold insL
    split
    · rw [List.mem_cons, insL_in, List.mem_cons]
      constructor
      · rintro (h | h | h) <;> simp [h]
      · rintro (h | h | h) <;> simp [h]
    · simp
theorem sortL_in {y : List Int} : ∀ {l : List (List Int)}, y ∈ sortL l ↔ y ∈ l
  | [] => by simp [sortL]
  | x :: l => by rw [sortL, insL_in, sortL_in, List.mem_cons]
theorem insL_perm (x : List Int) : ∀ l : List (List Int), (insL x l).Perm (x :: l)
  | [] => .refl _
  | y :: l => by
    unfold insL
    split
    · exact ((insL_perm x l).cons y).trans (.swap x y l)
    · exact .refl _
theorem sortL_perm : ∀ l : List (List Int), (sortL l).Perm l
  | [] => .refl _
  | x :: l => (insL_perm x _).trans ((sortL_perm l).cons x)
theorem sortL_code {B : Int} : ∀ {l : List (List Int)}, (∀ y ∈ l, PrB B y) → (sortL l).map (TS.code B) = sortI (l.map (TS.code B))
  | [], _ => rfl
  | x :: l, h => by
    rw [sortL, insL_code (h x (by simp)) fun y hy => h y (by simp [sortL_in.mp hy]), sortL_code fun y hy => h y (by simp [hy])]
    rfl
theorem map_inj {B : Int} : ∀ {a b : List (List Int)}, (∀ y ∈ a, PrB B y) → (∀ y ∈ b, PrB B y) → a.map (TS.code B) = b.map (TS.code B) → a = b
  | [], [], _, _, _ => rfl
  | [], _ :: _, _, _, h => by simp at h
  | _ :: _, [], _, _, h => by simp at h
  | x :: a, y :: b, ha, hb, h => by
    rw [List.map_cons, List.map_cons, List.cons.injEq] at h
    rw [(ha x (by simp)).inj (hb y (by simp)) h.1, map_inj (fun z hz => ha z (by simp [hz])) (fun z hz => hb z (by simp [hz])) h.2]
theorem code_nodup {B : Int} : ∀ {a : List (List Int)}, (∀ y ∈ a, PrB B y) → a.Nodup → (a.map (TS.code B)).Nodup
  | [], _, _ => List.nodup_nil
  | x :: a, h, n => by
    obtain ⟨n1, n2⟩ := List.nodup_cons.mp n
    rw [List.map_cons, List.nodup_cons]
    refine ⟨fun hm => ?_, code_nodup (fun z hz => h z (by simp [hz])) n2⟩
    obtain ⟨z, hz, e⟩ := List.mem_map.mp hm
    exact n1 (by rw [← (h z (by simp [hz])).inj (h x (by simp)) e]; exact hz)
/-- distinct pairs that ascend by their codes are the sorted ones -/
theorem sortL_one {B : Int} {ps rs : List (List Int)} (hp : ∀ y ∈ ps, PrB B y) (hm : ∀ y, y ∈ rs ↔ y ∈ ps) (hn : rs.Nodup) (ha : rs.Pairwise fun a b => TS.code B a ≤ TS.code B b) : rs = sortL (nubL ps) := by
  have h1 : ∀ y ∈ rs, PrB B y := fun y hy => hp y ((hm y).mp hy)
  have h2 : ∀ y ∈ nubL ps, PrB B y := fun y hy => hp y ((nubL_in ps).mp hy)
  have h3 : ∀ y ∈ sortL (nubL ps), PrB B y := fun y hy => h2 y (sortL_in.mp hy)
  refine map_inj h1 h3 ?_
  rw [sortL_code h2]
  refine asc_one ?_ (sortI_up (code_nodup h2 (nubL_nodup ps))) fun x => ?_
  · exact L2.lt_of_le_nodup _ (List.pairwise_map.mpr ha) (code_nodup h1 hn)
  · rw [sortI_in, List.mem_map, List.mem_map]
    constructor
    · rintro ⟨a, h, e⟩; exact ⟨a, (nubL_in ps).mpr ((hm a).mp h), e⟩
    · rintro ⟨a, h, e⟩; exact ⟨a, (hm a).mpr ((nubL_in ps).mp h), e⟩
section
variable {prog : Program} {w : World} {A : Around}
/-- one behind another the items go into the set -/
theorem fill_tups {R : Result → Shared → Prop} {I p : Addr} {fp wr : List Addr} {G : Array GenState → Array GenState → Prop} {n : Nat} {Pv : Nat → Value → Prop} {St : Nat → Shared → Prop} (W : WalksS prog w A.in1 I fp wr G n Pv St) (hp : p ∉ fp)
    (ks : List (Addr × List Int)) (hn : ks.length = n) (hv : ∀ i v, Pv i v → ∃ q, ks[i]? = some q ∧ v = .ref q.1) (N : List (List Int)) (hN : N.length ≤ 62) (hNs : ∀ q ∈ ks, q.2 ∈ N)
    (h0 : Heap) (hk : ∀ q ∈ ks, IsT prog w h0 q.2 q.1) (hp0 : h0.get? p = none) (hw0 : ∀ b ∈ wr, h0.get? b = none) (hu : A.in1.units < cLine) :
    ∀ (m i : Nat) (s : Shared) (L : List (Addr × List Int)) (es : Array (Int × Value)) (ep : Nat) (t : SetTable), i + m = n → St i s → (∀ b o, h0.get? b = some o → s.heap.get? b = some o) → SetTR prog w s.heap p L es ep t → Got ks i L →
      (∀ s' L es ep t, Moved (p :: wr) G s s' → SetTR prog w s'.heap p L es ep t → Got ks n L → (∀ b o, h0.get? b = some o → s'.heap.get? b = some o) → R (.ok (.ret .none)) s') →
      codeAny (model prog w) A (.builtin "set.update.loop" ⟨[.ref p, .ref I], []⟩) R s
  | 0, i, s, L, es, ep, t, hi, hs, hkp, hr, hg, hR => by
    obtain rfl : i = n := by omega
    refine codeAny_builtin F.entry_set_update_loop ?_; rw [Around.under_plainId F.plain_set_update_loop]
    show wpAny _ _ (pyNext (.ref I) >>= _) _ _ _
    refine wpAny_bind (W.done s _ _ hs fun s1 hm => ?_)
    have k1 : ∀ b o, h0.get? b = some o → s1.heap.get? b = some o := fun b o e => hm.heap b o (fun z => by rw [hw0 b z] at e; cases e) (hkp b o e)
    refine wpAny_pure (hR s1 L es ep t ⟨fun b o hb => hm.heap b o fun z => hb (List.mem_cons_of_mem _ z), hm.gens, hm.drawn, hm.os, hm.toks⟩ (hr.keep (fun o e => hm.heap p o (fun z => hp (W.sub _ z)) e) fun q hq => isT_keep (hk q (List.mem_of_mem_take (hg.sub q hq))) k1) hg k1)
  | m + 1, i, s, L, es, ep, t, hi, hs, hkp, hr, hg, hR => by
    have hlt : i < n := by omega
    refine codeAny_builtin F.entry_set_update_loop ?_; rw [Around.under_plainId F.plain_set_update_loop]
    show wpAny _ _ (pyNext (.ref I) >>= _) _ _ _
    refine wpAny_bind (W.item i s _ _ hlt hs fun v s1 hP h1 hm => ?_)
    obtain ⟨q, hq, rfl⟩ := hv i v hP
    have k1 : ∀ b o, h0.get? b = some o → s1.heap.get? b = some o := fun b o e => hm.heap b o (fun z => by rw [hw0 b z] at e; cases e) (hkp b o e)
    have r1 : SetTR prog w s1.heap p L es ep t := hr.keep (fun o e => hm.heap p o (fun z => hp (W.sub _ z)) e) fun y hy => isT_keep (hk y (List.mem_of_mem_take (hg.sub y hy))) k1
    have hx : IsT prog w s1.heap q.2 q.1 := isT_keep (hk q (List.mem_of_getElem? hq)) k1
    have hfew : L.length + 1 < 64 := by
      have := nd_le hr.nd (b := N) fun x hx => by
        obtain ⟨y, hy, rfl⟩ := List.mem_map.mp hx
        exact hNs y (List.mem_of_mem_take (hg.sub y hy))
      rw [List.length_map] at this
      omega
    show wpAny _ _ (holding [Value.ref q.1] (setAdd p (.ref q.1)) >>= _) _ _ _
    refine wpAny_bind (wpAny_holding ?_); unfold setAdd
    refine wpAny_holding (wpAny_bind (wpAny_pyHash_tuple hu hx ?_))
    refine add_at (s := { s1 with toks := s1.toks + (q.2.length + 1) }) r1 hx hu hfew fun b h2 L2 es2 ep2 t2 sb r2 c1 c2 => ?_
    have g2 : Got ks (i + 1) L2 := by
      by_cases c : q.2 ∈ L.map (·.2)
      · rw [c1 c]; exact hg.same hq c
      · exact hg.more hq (c2 c)
    have keep : ∀ b o, b ≠ p → s1.heap.get? b = some o → h2.get? b = some o := fun b o hb e => (sb.2 b hb).trans e
    refine wpAny_pure ⟨plainId_quiet F.plain_set_update_loop _, fill_tups W hp ks hn hv N hN hNs h0 hk hp0 hw0 hu m (i + 1) _ L2 es2 ep2 t2 (by omega) (W.frame _ s1 h2 _ h1 (Nat.le_add_right _ _) fun b hbf o e => keep b o (fun z => hp (z ▸ hbf)) e) (fun b o e => keep b o (fun z => by rw [z, hp0] at e; cases e) (k1 b o e)) r2 g2 fun s3 L3 es3 ep3 t3 hm3 r3 g3 k3 => hR s3 L3 es3 ep3 t3 ⟨fun b o hb e => ?_, W.gtrans _ _ _ hm.gens hm3.gens, hm3.drawn.trans hm.drawn, hm3.os.trans hm.os, Nat.le_trans hm.toks (Nat.le_trans (Nat.le_add_right _ _) hm3.toks)⟩ r3 g3 k3⟩
    have hb1 : b ≠ p := fun z => hb (by rw [z]; exact List.mem_cons_self)
    exact hm3.heap b o hb (keep b o hb1 (hm.heap b o (fun z => hb (List.mem_cons_of_mem _ z)) e))
set_option maxHeartbeats 8000000 in
/-- set(xs), xs a tuple of tuples of integers -/
theorem call_setT {E : Value → Shared → Prop} {s : Shared} {l : Addr} {items : Array Value} (ks : List (Addr × List Int)) {Q : Value → Shared → Prop} (hh : A.handled = none) (hl : s.heap.IsTuple l items) (hit : items.toList = ks.map fun q => Value.ref q.1)
    (hk : ∀ q ∈ ks, IsT prog w s.heap q.2 q.1) (N : List (List Int)) (hN : N.length ≤ 62) (hNs : ∀ q ∈ ks, q.2 ∈ N) (hu : A.units + 3 < cLine)
    (h : ∀ (h2 : Heap) (tk : Nat) (L : List (Addr × List Int)) (es : Array (Int × Value)) (ep : Nat) (t : SetTable), SetTR prog w h2 s.heap.objs.size L es ep t → Got ks ks.length L → (∀ b o, s.heap.get? b = some o → h2.get? b = some o) → Q (.ref s.heap.objs.size) { s with heap := h2, toks := tk }) :
    wpAny (model prog w) A (call (.type "set") [.ref l]) Q E s := by
  have hlen : items.size = ks.length := by have := congrArg List.length hit; simpa using this
  have m1 := F.called_set.made; have m2 := F.called_set.sub; have m3 := F.called_set.notType; have m4 := F.called_set.canCreate; have m5 := F.typeCall_set_1 (.ref l); obtain ⟨c, tl, m6⟩ := F.called_set.mro
  refine wpAny_call (codeAny_of_tree (?_ : wpAny _ _ (callAny (.type "set") _) _ _ _))
  refine wpAny_pure ⟨Code.quiet_builtin _ (by decide +kernel), ?_⟩
  refine codeAny_builtin F.entry_type_call ?_; rw [Around.under_plain (weight_type_call_type "set" [.ref l] []) rfl]
  repeat any_goals first | assumption | wp_step
  refine codeAny_mono (new_set1 (.ref l) (E := E) (Q := fun obj s1 => obj = .ref s.heap.objs.size ∧ s1 = { s with heap := s.heap.push (setO0 w) }) ⟨rfl, rfl⟩) fun r s1 hr => ?_
  rcases r with e | fl
  · exact hr
  cases fl with
  | ret obj =>
    obtain ⟨rfl, rfl⟩ := hr
    have hS : (s.heap.push (setO0 w)).get? s.heap.objs.size = some (setO0 w) := Heap.get?_push_size _ rfl
    have hT : Shared.TypeIs { s with heap := s.heap.push (setO0 w) } (.ref s.heap.objs.size) "set" := ⟨_, hS, rfl⟩
    have m7 := F.called_set.init.lookup; have m8 := F.called_set.init.bind (.ref s.heap.objs.size)
    repeat any_goals first | assumption | wp_step
    refine codeAny_mono (codeAny_call_builtin (R := wants (fun r s2 => r = .none ∧ Q (.ref s.heap.objs.size) s2) E) F.called_set.init.plain F.entry_set_init (check_set_init_1 hT ?_)) fun r2 s2 hr2 => ?_
    · rcases hl with ⟨⟨oc, od, oda, osl⟩, g0, z1, nl, z2⟩; dsimp only at z1 z2; cases z1; cases z2
      have g1 : (s.heap.push (setO0 w)).get? l = some { cls := .type "tuple", dict := od, data := .seq items nl, slots := osl } := Heap.get?_push_of_some _ g0
      have l1 : (s.heap.push (setO0 w)).IsTuple l items := ⟨_, g1, rfl, nl, rfl⟩
      have u1 := F.sub_tuple_set; have u2 := F.sub_tuple_frozenset; have u3 : (Value.type "tuple" == Value.type "dict") = false := by decide
      have sz : (s.heap.push (setO0 w)).objs.size = s.heap.objs.size + 1 := Heap.size_push ..
      have hlt : l < s.heap.objs.size := Heap.lt_size g0
      have n1 : l ≠ (s.heap.push (setO0 w)).objs.size := fun z => Nat.ne_of_lt (Nat.lt_succ_of_lt hlt) (z.trans sz)
      have n2 : s.heap.objs.size ≠ (s.heap.push (setO0 w)).objs.size := fun z => Nat.ne_of_lt (Nat.lt_succ_self _) (z.trans sz)
      have n3 : s.heap.objs.size ≠ l := Nat.ne_of_gt hlt
      have none_of : ∀ b, s.heap.objs.size ≤ b → s.heap.get? b = none := fun b hb => by
        cases q : s.heap.get? b with
        | none => rfl
        | some o => exact absurd (Nat.lt_of_lt_of_le (Heap.lt_size q) hb) (Nat.lt_irrefl _)
      have hval : ∀ (i : Nat) (v : Value), items[i]? = some v → ∃ q, ks[i]? = some q ∧ v = .ref q.1 := fun i v hv => by
        have q : items.toList[i]? = some v := by rw [Array.getElem?_toList]; exact hv
        rw [hit, List.getElem?_map] at q
        obtain ⟨y, hy, e⟩ := Option.map_eq_some_iff.mp q
        exact ⟨y, hy, e.symm⟩
      unfold Builtin.«set.__init__» noKeywords Builtin.Frozenset.updateFrom; generalize hPI : pyIter = PI
      wp_walk
      subst hPI
      refine wpAny_pyIter_tuple l1 (wpAny_bind (wpAny_runValue ?_))
      refine fill_tups ((Walks.tuple (by simp [hh]) (s.heap.push (setO0 w)).objs.size l n1 items).toS) (p := s.heap.objs.size) (fun z => (List.mem_cons.mp z).elim n2 fun z => n3 (List.mem_singleton.mp z)) ks hlen.symm hval N hN hNs s.heap hk (none_of _ (Nat.le_refl _))
        (fun b hb => none_of b (by rw [List.mem_singleton.mp hb, sz]; exact Nat.le_succ _)) hu items.size 0 _ [] #[] 0 _ (by omega) ⟨⟨_, Heap.get?_push_size _ rfl, rfl, rfl⟩, l1.push _⟩ (fun b o e => Heap.get?_push_of_some _ (Heap.get?_push_of_some _ e))
        (setTR_fresh (Heap.get?_push_of_some _ hS)) (Got.zero ks) fun s3 L es ep t hm hr3 g3 k3 => ?_
      obtain ⟨h3, gg, d3, t3, o3⟩ := s3
      have eg : gg = s.gens := hm.gens
      have ed : d3 = s.drawn := hm.drawn
      have eo : o3 = s.os := hm.os
      subst eg ed eo
      exact wpAny_pure (wpAny_pure ⟨rfl, h h3 t3 L es ep t hr3 (hlen ▸ g3) k3⟩)
    · rcases r2 with e | fl2
      · exact hr2
      cases fl2 with
      | ret r =>
        obtain ⟨rfl, hq⟩ := hr2
        repeat any_goals first | assumption | wp_step
      | _ => exact hr2.elim
  | _ => exact hr.elim
end
/-- sorted(set(xs)): a list of integers, a tuple of pairs -/
theorem pe_sortSetB {X : Cx} {a : Expr} {t : TE} {p p2 q pos : Pos} (hc : X.calm = true) (hu : X.A.units + 64 < cLine) (g1 : Gl X "sorted") (m1 : X.mg "sorted" = none) (g2 : Gl X "set") (m2 : X.mg "set" = none) (ha : PE X a t) (hs : starEach [a] X.env = [(false, eval a X.env)]) :
    PE X (.Call (.Name "sorted" p) [.Call (.Name "set" p2) [a] [] q] [] pos) (fun σ H Q => t σ H fun x H1 => (∃ (l : Addr) (ns : List Int), x = .ref l ∧ SqL X.K H1 l (ns.map V.int) ∧ ns.length < 64 ∧ ∀ p, H1 p = none → Q (.ref p) (upd H1 p (.lst ((sortI (nubI ns)).map V.int)))) ∨
      ∃ (l : Addr) (ks : List (Addr × List Int)) (B : Int), x = .ref l ∧ SqT X.K H1 l (ks.map fun q => V.ref q.1) ∧ (∀ q ∈ ks, SqT X.K H1 q.1 (q.2.map V.int)) ∧ (nubL (ks.map (·.2))).length ≤ 62 ∧ (∀ q ∈ ks, PrB B q.2) ∧
        ∀ (L : List (Addr × List Int)) p, H1 p = none → L.map (·.2) = sortL (nubL (ks.map (·.2))) → (∀ q ∈ L, SqT X.K H1 q.1 (q.2.map V.int)) → Q (.ref p) (upd H1 p (.lst (L.map fun q => V.ref q.1)))) := by
  refine ⟨fun pins s σ H Q I h => Call_ (ld_blt I g1 m1 boot_sorted (callWith_builtin1 (args_cons (Call_ (ld_blt I g2 m2 boot_set (callWith_type1 (args_cons (thn (ha.run pins s σ H _ I h) fun u s1 hu => args_nil ?_) hs) hs rfl))) rfl) rfl rfl))⟩
  obtain ⟨x, H1, I1, rx, hx⟩ := hu
  rcases hx with ⟨l, ns, rfl, sq, hl, hq⟩ | ⟨l, ks, B, rfl, sq, hks, hN, hB, hq⟩
  · cases rx
    obtain ⟨us, rs, pl, _⟩ := I1.list sq
    refine call_setR (ns := ns) (I1.ok.hd hc) pl.isList (by simpa using RZ.intsAre_vals rs) (by unfold scanBound; omega) fun h2 tk S old => args_nil ?_
    have I2 : Inv X pins σ H1 { s1 with heap := h2, toks := tk } := I1.kept fun b o e => old b o e
    have hct := ctI_le ns ns.length
    refine sorted_set S (I1.ok.hd hc) (by omega) fun s4 p4 out c4 ks k4 g4 o4 hp4 hg4 hi4 hs4 hm4 hl4 => ?_
    have hks : ks = sortI (nubI ns) := asc_one hs4 (sortI_up (nub_nodup ns)) fun x => by rw [hm4, sortI_in, nub_mem]; simp [stI]
    subst hks
    have hfr : H1 p4 = none := I2.hok.fresh hp4
    have hz : ((sortI (nubI ns)).map V.int).length ≤ sizeLine := by rw [List.length_map, hl4, sizeLine_eq]; omega
    have J : Inv X pins σ (upd H1 p4 (.lst ((sortI (nubI ns)).map V.int))) { s1 with heap := s4.heap, gens := s4.gens, drawn := s4.drawn, toks := s4.toks } := L2.Inv.call (s := { s1 with heap := h2, toks := tk }) I2 (ch := []) (Un.laid (h := h2) k4 hp4 hfr) (I2.hok.laid k4 hp4 ⟨hz, out.toList, c4, vals_of_ints hi4, hg4⟩) (by rw [g4]; exact I2.bare) fun _ z => nomatch z
    have e4 : s4 = { s1 with heap := s4.heap, gens := s4.gens, drawn := s4.drawn, toks := s4.toks } := by cases s4; cases s1; cases o4; rfl
    rw [e4]; exact ⟨.ref p4, _, J, rfl, hq p4 hfr⟩
  · cases rx
    obtain ⟨us, rs, pl, _⟩ := I1.tuple sq
    refine call_setT (prog := X.prog) (w := X.w) ks (I1.ok.hd hc) pl (by simpa using refs_of_vals rs) (fun q hq => I1.isT (hks q hq)) (nubL (ks.map (·.2))) hN (fun q hq => (nubL_in _).mpr (List.mem_map.mpr ⟨q, hq, rfl⟩)) (by omega) fun h2 tk L es ep t S g old => args_nil ?_
    have I2 : Inv X pins σ H1 { s1 with heap := h2, toks := tk } := I1.kept fun b o e => old b o e
    have hsub : ∀ q ∈ L, q ∈ ks := fun q hq => List.mem_of_mem_take (g.sub q hq)
    refine sorted_setT S (I1.ok.hd hc) (d := 2) (B := B) (by decide) (fun q hq => ?_) fun s4 p4 out c4 L' k4 g4 o4 hp4 hg4 hout pm pw => ?_
    · obtain ⟨x, y, e, hx, hy⟩ := hB q (hsub q hq)
      rw [e]
      exact ⟨rfl, fun z hz => by
        rcases List.mem_cons.mp hz with rfl | hz
        · exact hx
        · rw [List.mem_singleton.mp hz]; exact hy⟩
    · have hfr : H1 p4 = none := I2.hok.fresh hp4
      have hfew : L'.length < 64 := by rw [pm.length_eq]; exact S.few
      have hz : (L'.map fun q => V.ref q.1).length ≤ sizeLine := by rw [List.length_map, sizeLine_eq]; omega
      have hv : Vals (L'.map fun q => V.ref q.1) out.toList := by rw [hout]; exact vals_of_refs L'
      have J : Inv X pins σ (upd H1 p4 (.lst (L'.map fun q => V.ref q.1))) { s1 with heap := s4.heap, gens := s4.gens, drawn := s4.drawn, toks := s4.toks } := L2.Inv.call (s := { s1 with heap := h2, toks := tk }) I2 (ch := []) (Un.laid (h := h2) k4 hp4 hfr) (I2.hok.laid k4 hp4 ⟨hz, out.toList, c4, hv, hg4⟩) (by rw [g4]; exact I2.bare) fun _ z => nomatch z
      have e4 : s4 = { s1 with heap := s4.heap, gens := s4.gens, drawn := s4.drawn, toks := s4.toks } := by cases s4; cases s1; cases o4; rfl
      rw [e4]
      refine ⟨.ref p4, _, J, rfl, hq L' p4 hfr (sortL_one (B := B) (fun y hy => ?_) (fun y => ?_) ((pm.map (·.2)).nodup_iff.mpr S.nd) (List.pairwise_map.mpr pw)) fun q hq => hks q (hsub q (pm.mem_iff.mp hq))⟩
      · obtain ⟨z, hz, rfl⟩ := List.mem_map.mp hy
        exact hB z hz
      · rw [(pm.map (·.2)).mem_iff]
        constructor
        · intro hy
          obtain ⟨z, hz, rfl⟩ := List.mem_map.mp hy
          exact List.mem_map.mpr ⟨z, hsub z hz, rfl⟩
        · intro hy
          obtain ⟨z, hz, rfl⟩ := List.mem_map.mp hy
          exact g.all z (by rw [List.take_length]; exact hz)
end WT
end

section
set_option Elab.async false
set_option linter.all false
set_option maxRecDepth 100000
set_option autoImplicit false
/-! K14s: sum(list of tuples, ()). -/
namespace WT
open PySem PySem.Spec PyProof.Rows L2
def catV (rows : List (Addr × List Value)) : List Value := rows.flatMap (·.2)
/-- the running total -/
def TInv (rows : List (Addr × List Value)) (b0 N0 : Addr) (i : Nat) (T : Addr) (vs : List Value) : Prop := vs = catV (rows.take i) ∧ ((i = 0 ∧ T = b0) ∨ (i = 1 ∧ ∃ q, rows[0]? = some q ∧ T = q.1) ∨ (2 ≤ i ∧ N0 ≤ T))
theorem catV_succ {rows : List (Addr × List Value)} {i : Nat} {q : Addr × List Value} (h : rows[i]? = some q) : catV (rows.take (i + 1)) = catV (rows.take i) ++ q.2 := by
  unfold catV
  rw [List.take_add_one, h]
  simp
theorem catV_len {rows : List (Addr × List Value)} (i : Nat) : (catV (rows.take i)).length ≤ (catV rows).length := by
  unfold catV
  have h : rows.flatMap (·.2) = (rows.take i).flatMap (·.2) ++ (rows.drop i).flatMap (·.2) := by rw [← List.flatMap_append, List.take_append_drop]
  rw [h, List.length_append]
  omega
section
variable {prog : Program} {w : World} {A : Around} {R : Result → Shared → Prop} {I : Addr} {fp wr : List Addr} {G : Array GenState → Array GenState → Prop} {n : Nat} {P : Nat → Value → Prop} {St : Nat → Shared → Prop}
theorem codeAny_sum_tups (W : WalksS prog w A.in1 I fp wr G n P St) (rows : List (Addr × List Value)) (hn : n = rows.length) (hval : ∀ i v, P i v → ∃ q, rows[i]? = some q ∧ v = .ref q.1) (hne : ∀ q ∈ rows, q.2 ≠ []) (S b0 N0 : Addr) (hSf : S ∉ fp)
    (hz : (catV rows).length ≤ sizeLine) (hq : ∀ q ∈ rows, q.1 ∉ S :: wr) (hw : ∀ b ∈ wr, b < S) (hNS : N0 ≤ S) :
    ∀ (k i : Nat) (s : Shared) (T : Addr) (vs : List Value) (c : Nat), n - i = k → i ≤ n → St i s → s.heap.get? S = some { cls := .type "list", dict := none, data := .seq #[.ref T] c, slots := #[] } →
    IsTup s.heap T vs.toArray → T ∉ S :: wr → TInv rows b0 N0 i T vs → (∀ q ∈ rows, IsTup s.heap q.1 q.2.toArray) →
    (∀ s' T' vs', Moved (S :: wr) G s s' → IsTup s'.heap T' vs'.toArray → TInv rows b0 N0 n T' vs' → R (.ok (.ret (.ref T'))) s') → codeAny (model prog w) A (.builtin "sum.loop" ⟨[.ref I, .ref S, rawInt 2, rawInt 0], []⟩) R s := by
  have hSw : S ∉ wr := fun h => hSf (W.sub _ h)
  have hsub : ∀ b ∈ wr, b ∈ S :: wr := fun b hb => List.mem_cons_of_mem _ hb
  intro k
  induction k with
  | zero =>
    intro i s T vs c hk hi hst hS hT hTw hTi hrs hR
    have hin : i = n := by omega
    subst hin
    refine codeAny_builtin F.entry_sum_loop ?_
    rw [Around.under_plainId F.plain_sum_loop _]
    show wpAny _ A.in1 (seqItems? (.ref S) >>= _) _ _ s
    refine wpAny_bind (wpAny_seqItems hS rfl ?_)
    show wpAny _ A.in1 (tryCatch (pyNext (.ref I)) _ >>= _) _ _ s
    refine wpAny_bind (wpAny_tryCatch (W.done s _ _ hst fun s' hm => ?_))
    exact wpAny_pure (hR s' T vs (hm.mono hsub) (let ⟨o, e, r⟩ := hT; ⟨o, hm.heap T o (fun z => hTw (hsub _ z)) e, r⟩) hTi)
  | succ k ih =>
    intro i s T vs c hk hi hst hS hT hTw hTi hrs hR
    have hlt : i < n := by omega
    refine codeAny_builtin F.entry_sum_loop ?_
    rw [Around.under_plainId F.plain_sum_loop _]
    show wpAny _ A.in1 (seqItems? (.ref S) >>= _) _ _ s
    refine wpAny_bind (wpAny_seqItems hS rfl ?_)
    show wpAny _ A.in1 (tryCatch (pyNext (.ref I)) _ >>= _) _ _ s
    refine wpAny_bind (wpAny_tryCatch (W.item i s _ _ hlt hst fun v s' hP hst' hm => ?_))
    obtain ⟨q, hqi, rfl⟩ := hval i v hP
    have hqm : q ∈ rows := List.mem_of_getElem? hqi
    have hS' := hm.heap S _ hSw hS
    have keep : ∀ {a : Addr} {xs : Array Value}, a ∉ S :: wr → IsTup s.heap a xs → IsTup s'.heap a xs := fun h ⟨o, e, r⟩ => ⟨o, hm.heap _ o (fun z => h (hsub _ z)) e, r⟩
    have hT' := keep hTw hT
    have hrs' : ∀ q ∈ rows, IsTup s'.heap q.1 q.2.toArray := fun q h => keep (hq q h) (hrs q h)
    have hcat : catV (rows.take (i + 1)) = vs ++ q.2 := by rw [catV_succ hqi, ← hTi.1]
    show wpAny _ A.in1 ((holding [Value.ref q.1] (binaryOp .Add (.ref T) (.ref q.1))).attempt >>= _) _ _ _
    refine wpAny_bind (wpAny_attempt (wpAny_holding ?_))
    by_cases h0 : vs = []
    · subst h0
      refine cat_tup0 hT' (hrs' q hqm) ?_
      show wpAny _ A.in1 (updateSeq S (fun _ => #[.ref q.1]) >>= _) _ _ _
      refine wpAny_bind (wpAny_updateSeq hS' rfl ?_)
      have hS₂ := Heap.get?_update_self (Obj.mapSeq fun _ => #[Value.ref q.1]) hS' rfl
      refine wpAny_bind (wpAny_letGo ?_)
      have other : ∀ {b : Addr} {o : Obj}, b ≠ S → s'.heap.get? b = some o → ((s'.heap.update S (Obj.mapSeq fun _ => #[Value.ref q.1])).update S (Obj.mapSeq fun _ => #[Value.ref q.1])).get? b = some o := fun hb e =>
        (Heap.get?_update_other _ _ (Ne.symm hb)).trans ((Heap.get?_update_other _ _ (Ne.symm hb)).trans e)
      have hi0 : i = 0 := by
        rcases hTi.2 with ⟨e, _⟩ | ⟨e, q0, h1, _⟩ | ⟨e, _⟩
        · exact e
        · exfalso
          subst e
          have := hTi.1
          rw [show (1 : Nat) = 0 + 1 from rfl, catV_succ h1] at this
          exact hne q0 (List.mem_of_getElem? h1) (List.append_eq_nil_iff.mp this.symm).2
        · exfalso
          obtain ⟨q0, h1⟩ : ∃ q0, rows[0]? = some q0 := ⟨rows[0]'(by omega), List.getElem?_eq_getElem (by omega)⟩
          have h2 := hTi.1
          have h3 := catV_len (rows := rows.take i) 1
          rw [List.take_take, Nat.min_eq_left (by omega), ← h2, show (1 : Nat) = 0 + 1 from rfl, catV_succ h1] at h3
          have h4 := List.length_pos_iff.mpr (hne q0 (List.mem_of_getElem? h1))
          rw [List.length_append, List.length_nil] at h3
          omega
      subst hi0
      refine wpAny_bind (wpAny_updateSeq hS₂ rfl (wpAny_pure ⟨plainId_quiet F.plain_sum_loop _, ih 1 _ q.1 q.2 _ (by omega) hlt (W.frame _ s' _ _ hst' (by first | exact Nat.le_refl _ | exact Nat.le_succ _ | omega) fun b hb o e => other (fun h => hSf (by rw [← h]; exact hb)) e) (Heap.get?_update_self _ hS₂ rfl) ?_ (hq q hqm) ⟨?_, .inr (.inl ⟨rfl, q, hqi, rfl⟩)⟩ ?_ fun s'' T'' vs'' hm'' => ?_⟩))
      · obtain ⟨o, e, r⟩ := hrs' q hqm
        exact ⟨o, other (fun z => hq q hqm (by rw [z]; exact List.mem_cons_self)) e, r⟩
      · rw [hcat]; rfl
      · intro z hzm
        obtain ⟨o, e, r⟩ := hrs' z hzm
        exact ⟨o, other (fun y => hq z hzm (by rw [y]; exact List.mem_cons_self)) e, r⟩
      · refine hR s'' T'' vs'' (Moved.trans W.gtrans ((hm.mono hsub).then_heap (by first | exact Nat.le_refl _ | exact Nat.le_succ _ | omega) fun b o hb e => ?_) hm'')
        exact other (fun h => hb (by rw [h]; exact List.mem_cons_self)) e
    · have hq0 := hne q hqm
      have hsz : vs.length + q.2.length ≤ sizeLine := by
        have h1 := catV_len (rows := rows) (i + 1)
        rw [hcat, List.length_append] at h1
        omega
      refine HT.cat_tup hT' (hrs' q hqm) h0 (fun z => absurd z hq0) (fun _ => ?_) hsz
      have hSlt : S < s'.heap.objs.size := Heap.lt_size hS'
      have hSp : (s'.heap.push { cls := .type "tuple", data := .seq (vs ++ q.2).toArray }).get? S = some { cls := .type "list", dict := none, data := .seq #[.ref T] c, slots := #[] } := Heap.get?_push_of_some _ hS'
      show wpAny _ A.in1 (updateSeq S (fun _ => #[.ref s'.heap.objs.size]) >>= _) _ _ _
      refine wpAny_bind (wpAny_updateSeq hSp rfl ?_)
      have hS₂ := Heap.get?_update_self (Obj.mapSeq fun _ => #[Value.ref s'.heap.objs.size]) hSp rfl
      refine wpAny_bind (wpAny_letGo ?_)
      have other0 : ∀ {b : Addr} {o : Obj}, b ≠ S → (s'.heap.push { cls := .type "tuple", data := .seq (vs ++ q.2).toArray }).get? b = some o → (((s'.heap.push { cls := .type "tuple", data := .seq (vs ++ q.2).toArray }).update S (Obj.mapSeq fun _ => #[Value.ref s'.heap.objs.size])).update S (Obj.mapSeq fun _ => #[Value.ref s'.heap.objs.size])).get? b = some o := fun hb e =>
        (Heap.get?_update_other _ _ (Ne.symm hb)).trans ((Heap.get?_update_other _ _ (Ne.symm hb)).trans e)
      have other : ∀ {b : Addr} {o : Obj}, b ≠ S → s'.heap.get? b = some o → (((s'.heap.push { cls := .type "tuple", data := .seq (vs ++ q.2).toArray }).update S (Obj.mapSeq fun _ => #[Value.ref s'.heap.objs.size])).update S (Obj.mapSeq fun _ => #[Value.ref s'.heap.objs.size])).get? b = some o := fun hb e => other0 hb (Heap.get?_push_of_some _ e)
      have hi1 : 1 ≤ i := by
        rcases hTi.2 with ⟨e, _⟩ | ⟨e, _⟩ | ⟨e, _⟩
        · exfalso
          subst e
          exact h0 hTi.1
        · omega
        · omega
      refine wpAny_bind (wpAny_updateSeq hS₂ rfl (wpAny_pure ⟨plainId_quiet F.plain_sum_loop _, ih (i + 1) _ s'.heap.objs.size (vs ++ q.2) _ (by omega) hlt (W.frame _ s' _ _ hst' (by first | exact Nat.le_refl _ | exact Nat.le_succ _ | omega) fun b hb o e => other (fun h => hSf (by rw [← h]; exact hb)) e) (Heap.get?_update_self _ hS₂ rfl) ?_ ?_ ⟨hcat.symm, .inr (.inr ⟨Nat.succ_le_succ hi1, Nat.le_trans hNS (Nat.le_of_lt hSlt)⟩)⟩ ?_ fun s'' T'' vs'' hm'' => ?_⟩))
      · obtain ⟨o, e, r⟩ := IsTup.new s'.heap (vs ++ q.2).toArray
        exact ⟨o, other0 (Nat.ne_of_gt hSlt) e, r⟩
      · intro z
        rcases List.mem_cons.mp z with z | z
        · exact absurd hSlt (by rw [z]; exact Nat.lt_irrefl _)
        · exact absurd (Nat.lt_trans (hw _ z) hSlt) (Nat.lt_irrefl _)
      · intro z hzm
        obtain ⟨o, e, r⟩ := hrs' z hzm
        exact ⟨o, other (fun y => hq z hzm (by rw [y]; exact List.mem_cons_self)) e, r⟩
      · refine hR s'' T'' vs'' (Moved.trans W.gtrans ((hm.mono hsub).then_heap (by first | exact Nat.le_refl _ | exact Nat.le_succ _ | omega) fun b o hb e => ?_) hm'')
        exact other (fun h => hb (by rw [h]; exact List.mem_cons_self)) e
end
theorem args_sum2 (a b : Value) : argsOk "sum" ⟨[a, b], []⟩ := by unfold argsOk; kernel_rfl
section
variable {prog : Program} {w : World} {A : Around} {E : Value → Shared → Prop} {s : Shared}
theorem call_sum_tups {l b : Addr} {items : Array Value} (rows : List (Addr × List Value)) {Q : Value → Shared → Prop} (hh : A.handled = none) (hl : s.heap.IsList l items) (hi : items.toList = rows.map fun q => .ref q.1) (hne : ∀ q ∈ rows, q.2 ≠ []) (hz : (catV rows).length ≤ sizeLine)
    (hb : IsTup s.heap b ([] : List Value).toArray) (hrs : ∀ q ∈ rows, IsTup s.heap q.1 q.2.toArray)
    (h : ∀ (h' : Heap) (tk : Nat) (T : Addr) (vs : List Value), (∀ a o, s.heap.get? a = some o → h'.get? a = some o) → IsTup h' T vs.toArray → TInv rows b s.heap.objs.size rows.length T vs → Q (.ref T) { s with heap := h', toks := tk }) :
    wpAny (model prog w) A (call (.builtin "sum") [.ref l, .ref b]) Q E s := by
  have hlen : items.size = rows.length := by have := congrArg List.length hi; simpa using this
  refine call_function_tree F.kind_sum F.plain_sum F.entry_sum (args_sum2 _ _) ?_
  unfold Builtin.«sum»
  simp only [List.length_cons, List.length_nil]
  rw [if_neg (by decide)]
  refine wpAny_bind (wpAny_of_eq (show Builtin.Builtins.bindParams "sum" ["start"] 0 ⟨[.ref b], []⟩ = pure [some (.ref b)] from rfl) ?_)
  refine wpAny_bind (wpAny_pyIter_list hl ?_)
  have sz : (s.heap.push { cls := .type "list_iterator", data := .fields #[.ref l, .int 0 0] }).objs.size = s.heap.objs.size + 1 := Heap.size_push ..
  obtain ⟨ol, gl, zl⟩ := id hl
  have hlt : l < s.heap.objs.size := Heap.lt_size gl
  have l2 : (s.heap.push { cls := .type "list_iterator", data := .fields #[.ref l, .int 0 0] }).IsList l items := ⟨ol, Heap.get?_push_of_some _ gl, zl⟩
  have hb2 : IsTup (s.heap.push { cls := .type "list_iterator", data := .fields #[.ref l, .int 0 0] }) b ([] : List Value).toArray := hb.keeps fun _ _ e => Heap.get?_push_of_some _ e
  have hTy : ∀ s' : Shared, s'.heap = s.heap.push { cls := .type "list_iterator", data := .fields #[.ref l, .int 0 0] } → s'.TypeIs (.ref b) "tuple" := fun s' e => by
    obtain ⟨o, ho, hc, _⟩ := hb2
    exact ⟨o, by rw [e]; exact ho, hc⟩
  refine wpAny_bind (wpAny_pure ?_)
  simp only [List.forIn_cons, List.forIn_nil]
  refine wpAny_bind (wpAny_bind (wpAny_bind (wpAny_isInstance (T := "tuple") (b := false) (hTy _ rfl) F.sub_tuple_str ?_)))
  simp only [Bool.false_eq_true, if_false]
  refine wpAny_pure (wpAny_bind (wpAny_bind (wpAny_isInstance (T := "tuple") (b := false) (hTy _ rfl) F.sub_tuple_bytes ?_)))
  simp only [Bool.false_eq_true, if_false]
  refine wpAny_pure (wpAny_bind (wpAny_bind (wpAny_isInstance (T := "tuple") (b := false) (hTy _ rfl) F.sub_tuple_bytearray ?_)))
  simp only [Bool.false_eq_true, if_false]
  refine wpAny_pure (wpAny_pure ?_)
  refine wpAny_bind (wpAny_newObj_type ?_)
  have hne1 : l ≠ s.heap.objs.size := Nat.ne_of_lt hlt
  have W := (Walks.list (prog := prog) (w := w) (A := A.in1) (by simp [hh]) s.heap.objs.size l hne1 items).toS
  have hblt : b < s.heap.objs.size := let ⟨o, e, _⟩ := hb; Heap.lt_size e
  have hqlt : ∀ q ∈ rows, q.1 < s.heap.objs.size := fun q hq => let ⟨o, e, _⟩ := hrs q hq; Heap.lt_size e
  have pushK : ∀ {a : Addr} {o : Obj}, s.heap.get? a = some o → ((s.heap.push { cls := .type "list_iterator", data := .fields #[.ref l, .int 0 0] }).push { cls := .type "list", data := .seq #[.ref b] }).get? a = some o := fun e => Heap.get?_push_of_some _ (Heap.get?_push_of_some _ e)
  have offS : ∀ {a : Addr}, a < s.heap.objs.size → a ∉ [(s.heap.push { cls := .type "list_iterator", data := .fields #[.ref l, .int 0 0] }).objs.size, s.heap.objs.size] := fun {a} ha z => by
    rcases List.mem_cons.mp z with z | z
    · rw [z, sz] at ha
      exact absurd (Nat.lt_of_succ_lt ha) (Nat.lt_irrefl _)
    · rw [List.mem_singleton.mp z] at ha
      exact absurd ha (Nat.lt_irrefl _)
  refine wpAny_pure ⟨plainId_quiet F.plain_sum_loop _, codeAny_sum_tups W rows hlen (fun i v hv => ?_) hne (s.heap.push { cls := .type "list_iterator", data := .fields #[.ref l, .int 0 0] }).objs.size b s.heap.objs.size (fun z => ?_) hz (fun q hq => offS (hqlt q hq)) (fun c hc => ?_) (by rw [sz]; exact Nat.le_succ _) items.size 0 _ b [] _ (Nat.sub_zero _) (Nat.zero_le _)
    ⟨⟨_, Heap.get?_push_of_some _ (Heap.get?_push_size _ rfl), rfl, rfl⟩, l2.push _⟩ (Heap.get?_push_size _ rfl) (hb.keeps fun _ _ e => pushK e) (offS hblt) ⟨rfl, .inl ⟨rfl, rfl⟩⟩ (fun q hq => (hrs q hq).keeps fun _ _ e => pushK e) fun s' T' vs' hm hT hTi => ?_⟩
  · have e : items.toList[i]? = some v := by rw [Array.getElem?_toList]; exact hv
    rw [hi, List.getElem?_map] at e
    obtain ⟨q, hq, rfl⟩ := Option.map_eq_some_iff.mp e
    exact ⟨q, hq, rfl⟩
  · rcases List.mem_cons.mp z with z | z
    · rw [sz] at z; exact absurd z (Nat.succ_ne_self _)
    · rw [← List.mem_singleton.mp z, sz] at hlt
      exact absurd (Nat.lt_of_succ_lt hlt) (Nat.lt_irrefl _)
  · rw [List.mem_singleton.mp hc, sz]
    exact Nat.lt_succ_self _
  · obtain ⟨h3, g3, d3, t3, o3⟩ := s'
    have eg : g3 = s.gens := hm.gens
    have ed : d3 = s.drawn := hm.drawn
    have eo : o3 = s.os := hm.os
    subst eg ed eo
    refine h h3 t3 T' vs' (fun a o e => hm.heap a o (offS (Heap.lt_size e)) (pushK e)) hT ?_
    rw [← hlen]
    exact hTi
end
/-- sum(xs, ()) -/
def PrT (K : PySem.W.Frag) (H : Hp) : List V → List (Addr × List V) → Prop
  | [], [] => True
  | v :: vs, q :: qs => (v = .ref q.1 ∧ SqT K H q.1 q.2 ∧ q.2 ≠ []) ∧ PrT K H vs qs
  | _, _ => False
theorem prt_get {X : Cx} {pins : List (Addr × Obj)} {σ : St} {H : Hp} {s : Shared} (I : Inv X pins σ H s) : ∀ {vs : List V} {qs : List (Addr × List V)} {its : List Value}, PrT X.K H vs qs → Vals vs its →
    ∃ rows : List (Addr × List Value), its = rows.map (fun q => Value.ref q.1) ∧ (∀ q ∈ rows, q.2 ≠ []) ∧ (∀ q ∈ rows, IsTup s.heap q.1 q.2.toArray) ∧ rows.length = qs.length ∧ (∀ (i : Nat) (q : Addr × List V) (r : Addr × List Value), qs[i]? = some q → rows[i]? = some r → q.1 = r.1 ∧ Vals q.2 r.2) ∧ Vals (qs.flatMap (·.2)) (catV rows)
  | [], [], _, _, r => by
    cases r
    exact ⟨[], rfl, fun _ h => by simp at h, fun _ h => by simp at h, rfl, fun _ _ _ h => by simp at h, .nil⟩
  | v :: vs, q :: qs, _, h, r => by
    obtain ⟨⟨rfl, e, hn⟩, h2⟩ := h
    cases r with
    | cons rv rs =>
      cases rv
      obtain ⟨rows, e1, e2, e3, e4, e5, e6⟩ := prt_get I h2 rs
      obtain ⟨its2, r2, p2, _⟩ := I.tuple e
      refine ⟨(q.1, its2) :: rows, by rw [e1]; rfl, fun z hz => ?_, fun z hz => ?_, by simp [e4], fun i a b h1 h2 => ?_, ?_⟩
      · rcases List.mem_cons.mp hz with rfl | hz
        · exact fun w => hn (r2.nil_iff.mp w)
        · exact e2 z hz
      · rcases List.mem_cons.mp hz with rfl | hz
        · exact p2
        · exact e3 z hz
      · cases i with
        | zero => cases h1; cases h2; exact ⟨rfl, r2⟩
        | succ i => exact e5 i a b (by simpa using h1) (by simpa using h2)
      · show Vals (q.2 ++ qs.flatMap (·.2)) (its2 ++ catV rows)
        exact r2.append e6
  | [], _ :: _, _, h, _ => h.elim
  | _ :: _, [], _, h, _ => h.elim
theorem pe_sumT {X : Cx} {a e : Expr} {t u : TE} {p pos : Pos} (hcalm : X.calm = true) (g1 : Gl X "sum") (m1 : X.mg "sum" = none) (ha : PE X a t) (he : PE X e u) (hs : starEach [a, e] X.env = [(false, eval a X.env), (false, eval e X.env)]) (hs2 : starEach [e] X.env = [(false, eval e X.env)]) :
    PE X (.Call (.Name "sum" p) [a, e] [] pos) (fun σ H Q => t σ H fun x H1 => u σ H1 fun y H2 => ∃ (l b : Addr) (vs : List V) (qs : List (Addr × List V)), x = .ref l ∧ y = .ref b ∧ H2 l = some (.lst vs) ∧ SqT X.K H2 b [] ∧ PrT X.K H2 vs qs ∧ (qs.flatMap (·.2)).length ≤ sizeLine ∧
      (qs = [] → Q (.ref b) H2) ∧ (∀ q, qs = [q] → Q (.ref q.1) H2) ∧ (2 ≤ qs.length → ∀ p, H2 p = none → Q (.ref p) (upd H2 p (.tup (qs.flatMap (·.2)))))) := by
  refine ⟨fun pins s σ H Q I h => Call_ (ld_blt I g1 m1 boot_sum (callWith_builtin1 (args_cons (thn (ha.run pins s σ H _ I h) fun u1 s1 ⟨x, H1, I1, rx, q1⟩ => args_cons (thn (he.run pins s1 σ H1 _ I1 q1) fun u2 s2 hu => args_nil ?_) hs2) (by rw [hs, hs2])) (by rw [hs, hs2]) (by rw [hs2]; rfl)))⟩
  obtain ⟨y, H2, I2, ry, l, b, vs, qs, rfl, rfl, e1, e2, pr, hz, hq0, hq1, hq2⟩ := hu
  cases rx
  cases ry
  obtain ⟨its, rv, pl, _⟩ := I2.list (.of e1)
  obtain ⟨rows, f1, f2, f3, f4, f5, f6⟩ := prt_get I2 pr rv
  obtain ⟨its0, r0, p0, _⟩ := I2.tuple e2
  cases r0
  have hzz : (catV rows).length ≤ sizeLine := by rw [← f6.length]; exact hz
  refine call_sum_tups rows (I2.ok.hd hcalm) pl.isList (by rw [f1]) f2 hzz p0 f3 fun h' tk T ws hk hT hTi => ?_
  have J : Inv X pins σ H2 { s2 with heap := h', toks := tk } := I2.kept fun a o e => hk a o e
  obtain ⟨hws, hTi⟩ := hTi
  rw [List.take_of_length_le (Nat.le_refl _)] at hws
  rcases hTi with ⟨e, rfl⟩ | ⟨e, q0, g0, rfl⟩ | ⟨e, hle⟩
  · have hq : qs = [] := List.length_eq_zero_iff.mp (by rw [← f4]; exact e)
    exact ⟨.ref T, H2, J, rfl, hq0 hq⟩
  · have h1 : qs.length = 1 := by rw [← f4]; exact e
    obtain ⟨q, hq⟩ := List.length_eq_one_iff.mp h1
    have h2 := (f5 0 q q0 (by rw [hq]; rfl) g0).1
    refine ⟨.ref q0.1, H2, J, rfl, ?_⟩
    rw [← h2]
    exact hq1 q hq
  · refine ⟨.ref T, upd H2 T (.tup (qs.flatMap (·.2))), I2.laid (t' := tk) hk hle ⟨hz, catV rows, f6, by rw [← hws]; exact hT⟩, rfl, hq2 (by rw [← f4]; exact e) T (I2.hok.fresh hle)⟩
end WT
end

section
set_option Elab.async false
set_option linter.all false
set_option maxRecDepth 100000
set_option autoImplicit false
/-! K14r: repr of data without dicts, where no repr is under way. -/
namespace WT
open PySem PySem.Spec PyProof.Rows L2
section
variable {X : Cx}
def rRep (K : PySem.W.Frag) : List V → Hp → VK → Prop := fun xs H Q => ∃ (x : V) (d : PyData), xs = [x] ∧ Dp K H x d ∧
  d.hasDict = false ∧ d.showable = true ∧ d.depth ≤ 64 ∧ d.shown.length ≤ sizeLine ∧ Q (.str d.shown) H
theorem call_rep (hg : X.A.guards = some []) (hu : X.A.units + 66 < cLine) : CallR X (.builtin "repr") (rRep X.K) := by
  intro pins s σ H xs us Q I r h
  obtain ⟨x, d, rfl, hd, h1, h2, h3, h4, q⟩ := h
  obtain ⟨u, rfl, ru⟩ := r.one
  obtain ⟨bs, rd⟩ := Dp.reads I d x u hd ru
  have heap : ∀ a, u = .ref a → wpAny (model X.prog X.w) X.A (call (.builtin "repr") [u]) (EP X pins σ Q) X.xe s := by
    rintro a rfl
    exact repr_of_reads' rd h2 (fun z => by rw [h1] at z; cases z) hg (by omega) (fun _ _ e => e)
      (fun h' t tk hk => ⟨.str d.shown, H, I.kept (t' := tk) hk, ⟨t, rfl⟩, q⟩) h4
  cases rd with
  | none => exact PySem.P.repr_of_none ⟨.str _, H, I.tok _, ⟨_, rfl⟩, by simpa [PyData.shown] using q⟩
  | bool b => exact PySem.P.repr_of_bool ⟨.str _, H, I.tok _, ⟨_, rfl⟩, by simpa [PyData.shown] using q⟩
  | int i t => exact PySem.P.repr_of_int (by simpa [PyData.showable] using h2) ⟨.str _, H, I.tok _, ⟨_, rfl⟩, by simpa [PyData.shown] using q⟩
  | str y t => exact PySem.P.repr_of_str ⟨.str _, H, I.tok _, ⟨_, rfl⟩, by simpa [PyData.shown] using q⟩ (by simpa [PyData.shown] using h4)
  | list _ _ _ _ => exact heap _ rfl
  | tuple _ _ _ _ => exact heap _ rfl
  | dict _ _ _ _ _ => exact heap _ rfl
mutual
theorem Rep.rd0 {K : FW} {H : Hp} {μ : List Addr} {s : Shared} {pins : List (Addr × Obj)} {σ : St} (I : Inv X pins σ H s) (hK : K = X.KW) : ∀ {d : WT.D} {v : V} {t F : List Addr} {u : Value} {p : PyData}, Rep K H μ d v t F → noL d = true → toPy d = some p → RelV v u → Reads s.heap u p []
  | _, _, _, _, _, _, .non, _, h, r => by cases h; cases r; exact .none
  | _, _, _, _, _, _, .bl b, _, h, r => by cases h; cases r; exact .bool b
  | _, _, _, _, _, _, .int i, _, h, r => by cases h; obtain ⟨t, rfl⟩ := r; exact .int i t
  | _, _, _, _, _, _, .str x, _, h, r => by cases h; obtain ⟨t, rfl⟩ := r; exact .str x t
  | _, _, _, _, _, _, .tup e rs, n, h, r => by
    unfold toPy at h
    obtain ⟨ps, h1, rfl⟩ := Option.map_eq_some_iff.mp h
    subst hK
    cases r
    obtain ⟨its, rv, ⟨o, ho, hc, k, hd⟩, _⟩ := I.tuple e
    exact .tuple ho hc hd (Reps.rd0 I rfl rs n h1 rv)
  | _, _, _, _, _, _, .lst _ _, n, _, _ => by simp [WT.noL] at n
  | _, _, _, _, _, _, .frz _, _, h, _ => by simp [toPy] at h
  | _, _, _, _, _, _, .dK _ _ _ _ _, n, _, _ => by simp [WT.noL] at n
  | _, _, _, _, _, _, .dT _ _ _ _ _ _ _ _, n, _, _ => by simp [WT.noL] at n
  | _, _, _, _, _, _, .ref _, _, h, _ => by simp [toPy] at h
theorem Reps.rd0 {K : FW} {H : Hp} {μ : List Addr} {s : Shared} {pins : List (Addr × Obj)} {σ : St} (I : Inv X pins σ H s) (hK : K = X.KW) : ∀ {ds : List WT.D} {vs : List V} {F : List Addr} {us : List Value} {ps : List PyData}, Reps K H μ ds vs F → noLs ds = true → toPys ds = some ps → Vals vs us → ReadsAll s.heap us ps []
  | _, _, _, _, _, .nil, _, h, r => by cases h; cases r; exact .nil
  | _, _, _, _, _, .cons rd rs, n, h, r => by
    rw [noLs, Bool.and_eq_true] at n
    unfold toPys at h
    split at h
    · rename_i a b h1 h2
      cases h
      cases r with
      | cons r1 r2 => exact .cons (as := []) (bs := []) (Rep.rd0 I hK rd n.1 h1 r1) (Reps.rd0 I hK rs n.2 h2 r2)
    · cases h
end
theorem keys_rd {P : Program} {w : World} {h : Heap} {es : List DictEntry} {vs0 : List (Key × Value)} (hp : Pairs (mixKind P w) es vs0) : ∀ {kvs : List (Key × V)} {ns : List Int}, KV kvs vs0 → kvs.map (·.1) = ns.map Sum.inl → ReadsAll h (es.map (·.key)) (ns.map PyData.int) [] ∧ Vals (kvs.map (·.2)) (es.map (·.val)) := by
  induction hp with
  | nil =>
    intro kvs ns r e
    cases kvs with
    | nil =>
      cases ns with
      | nil => exact ⟨.nil, .nil⟩
      | cons n ns => simp at e
    | cons p kvs => have := Paired.length r; simp at this
  | @cons en kv es kvs0 hk hv hr ih =>
    intro kvs ns r e
    cases kvs with
    | nil => have := Paired.length r; simp at this
    | cons p kvs =>
      cases ns with
      | nil => simp at e
      | cons n ns =>
        obtain ⟨k, v⟩ := p
        simp only [List.map_cons, List.cons.injEq] at e
        obtain ⟨e1, e2⟩ := e
        subst e1
        have hd : Sum.inl n = kv.1 ∧ RelV v kv.2 ∧ KV kvs kvs0 := by
          unfold KV at r
          cases r with
          | cons h t => exact ⟨h.1, h.2, t⟩
        obtain ⟨h1, h2, ht⟩ := hd
        obtain ⟨g1, g2⟩ := ih ht e2
        rw [← h1] at hk
        have hk2 : keyIs (Sum.inl n) en.key = true := hk
        have hs : ∃ t, en.key = Value.int n t := by
          rcases keyIs_shape hk2 with ⟨i, t, e3, e4⟩ | ⟨x, t, e3, _⟩
          · cases e3; exact ⟨t, e4⟩
          · cases e3
        obtain ⟨t, e4⟩ := hs
        refine ⟨?_, ?_⟩
        · rw [List.map_cons, List.map_cons, e4]
          exact .cons (as := []) (bs := []) (.int _ t) g1
        · rw [List.map_cons, List.map_cons, hv]
          exact .cons h2 g2
/-- a dict with keys that are integers -/
def rRepK (X : Cx) : List V → Hp → VK → Prop := fun xs H Q => ∃ (a : Addr) (kvs : List (Key × V)) (ns : List Int) (μ F : List Addr) (ds : List WT.D) (ps : List PyData), xs = [V.ref a] ∧ H a = some (.dK kvs) ∧ kvs.map (·.1) = ns.map Sum.inl ∧ Reps X.KW H μ ds (kvs.map (·.2)) F ∧
  noLs ds = true ∧ toPys ds = some ps ∧ ns.length = ps.length ∧ (PyData.dict (List.zip (ns.map PyData.int) ps)).showable = true ∧ (PyData.dict (List.zip (ns.map PyData.int) ps)).depth ≤ 64 ∧ (PyData.dict (List.zip (ns.map PyData.int) ps)).shown.length ≤ sizeLine ∧ Q (.str (PyData.dict (List.zip (ns.map PyData.int) ps)).shown) H
theorem call_repK (hg : X.A.guards = some []) (hu : X.A.units + 66 < cLine) : CallR X (.builtin "repr") (rRepK X) := by
  intro pins s σ H xs us Q I r h
  obtain ⟨a, kvs, ns, μ, F, ds, ps, rfl, e, hk, rs, nl, tp, hlen, h2, h3, h4, q⟩ := h
  obtain ⟨u, rfl, ru⟩ := r.one
  cases ru
  obtain ⟨z, hs, vs0, rel, ⟨o, es, ep, ho, hx, hd, _, prs, _⟩⟩ := dk_of I.hok e
  obtain ⟨g1, g2⟩ := keys_rd (h := s.heap) prs rel hk
  have e1 : (List.zip (ns.map PyData.int) ps).map (·.1) = ns.map PyData.int := List.map_fst_zip (by rw [List.length_map]; omega)
  have e2 : (List.zip (ns.map PyData.int) ps).map (·.2) = ps := List.map_snd_zip (by rw [List.length_map]; omega)
  have rd : Reads s.heap (.ref a) (.dict (List.zip (ns.map PyData.int) ps)) (a :: [] ++ []) := .dict ho hx.1 hd (by rw [e1]; exact g1) (by rw [e2]; exact Reps.rd0 I rfl rs nl tp g2)
  refine repr_of_reads' rd h2 (fun _ => ?_) hg (by omega) (fun _ _ e => e) (fun h' t tk hk => ⟨.str _, H, I.kept (t' := tk) hk, ⟨t, rfl⟩, q⟩) h4
  simp only [List.append_nil, List.mem_singleton]
  intro e5
  rw [e5] at hs
  simp at hs
end
end WT
end

section
set_option Elab.async false
set_option linter.all false
set_option maxRecDepth 100000
set_option autoImplicit false
/-! K14i: {k: a}, {k: a, l: b} whose keys are written integers. -/
namespace WT
open PySem PySem.Spec PyProof.Rows L2
section
variable {K : FW} {ow : Nat → Bool} {Ok : Addr → Prop} {env : Env} {st st2 : Sto} {μ μ2 : List Addr} {G : Addr → Option Nat} {σ : St} {H H2 : Hp}
/-- an object that is new since H and no name's is written -/
theorem slNewO {p : Addr} {o o' : HO} (e : H2 p = some o) (nt : ∀ xs, o ≠ .tup xs) (nf : ∀ ob u, o ≠ .frz ob u) : SL (· ≠ p) μ2 H2 μ2 (upd H2 p o') where
  keep := fun a ob e1 n l => by rw [upd_ne l]; exact e1
  tups := fun a u e1 => by
    rw [upd_ne fun z => ?_]
    · exact e1
    · rw [z, e] at e1; exact nt _ (Option.some.inj e1)
  frzs := fun a ob u e1 => by
    rw [upd_ne fun z => ?_]
    · exact e1
    · rw [z, e] at e1; exact nf _ _ (Option.some.inj e1)
  dom := fun a e1 => by
    by_cases q : a = p
    · rw [q, upd_same]; simp
    · rw [upd_ne q]; exact e1
  ext := ⟨[], by simp, fun _ h => by simp at h⟩
theorem SI.freshO (I : SI K ow Ok env st μ G σ H) {p : Addr} {o o' : HO} (hp : H p = none) (S : Step μ (upd H p o) μ2 H2) (I2 : SI K ow Ok env st2 μ2 G σ H2) (e : H2 p = some o) (nt : ∀ xs, o ≠ .tup xs) (nf : ∀ ob u, o ≠ .frz ob u) :
    SI K ow Ok env st2 μ2 G σ (upd H2 p o') ∧ Step μ H μ2 (upd H2 p o') ∧ p ∉ μ2 := by
  have S0 : Step μ H μ2 H2 := (Step.new hp).trans S
  have sl : SL (· ≠ p) μ2 H2 μ2 (upd H2 p o') := slNewO e nt nf
  have np : p ∉ μ := fun z => (I.gmu p z).2 hp
  have np2 : p ∉ μ2 := S.notin (by rw [upd_same]; simp) np
  refine ⟨⟨fun j d ej => ?_, I2.box.sl sl fun b hb ws eb => ?_, I2.muLen, I2.muNd, fun b hb => ⟨(I2.gmu b hb).1, sl.dom b (I2.gmu b hb).2⟩, fun b hb => sl.dom b (I2.gdom b hb), fun b hb => I2.okn b (sl.wasNone hb), I2.len⟩, ⟨fun a o ea na => ?_, fun a xs ea => ?_, fun a o u ea => ?_, fun a ea => sl.dom a (S0.dom a ea), S0.ext⟩, np2⟩
  · obtain ⟨v, t, F, e1, r, k1, k2, k3⟩ := I.slot j d ej
    have ne : ∀ b ∈ t ++ F, b ≠ p := fun b hb z => r.there b hb (by rw [z]; exact hp)
    refine ⟨v, t, F, e1, (r.step S0 fun a ha => (k3 a ha).1).sl sl fun b hb => ⟨S0.notin (r.there b hb) (k3 b hb).1, ne b hb⟩, k1, k2, fun b hb => ⟨S0.notin (r.there b hb) (k3 b hb).1, (k3 b hb).2⟩⟩
  · rw [upd_ne fun z => np2 (by rw [← z]; exact hb)]
    exact eb
  · have ne : a ≠ p := fun z => by rw [z, hp] at ea; cases ea
    rw [upd_ne ne]
    exact S0.keep a o ea na
  · have ne : a ≠ p := fun z => by rw [z, hp] at ea; cases ea
    rw [upd_ne ne]
    exact S0.tups a xs ea
  · have ne : a ≠ p := fun z => by rw [z, hp] at ea; cases ea
    rw [upd_ne ne]
    exact S0.frzs a o u ea
end
section
variable {m : MC} {g : GE} {k : Nat} {a b : E} {p q : Pv}
/-- the new dict: its entries are written at last -/
theorem dK_end {X : Cx} {c : Cfg} {env : Env} {st st2 : Sto} {μ μ2 : List Addr} {G : Addr → Option Nat} {σ : St} {H H2 : Hp} {pp : Addr} {kvs : List (Key × V)} {ks : List Key} {ds : List WT.D} {Q : V → Hp → Prop}
    (hq : okE c X.KW (Pv.new1 []) env μ G σ H Q (.dK ks ds) st2)
    (I : SI X.KW c.ow c.Ok env st μ G σ H) (hp : H pp = none) (S : Step μ (upd H pp (.dK [])) μ2 H2) (I2 : SI X.KW c.ow c.Ok env st2 μ2 G σ H2) (h1 : kvs.map (·.1) = ks) (h2 : Reps X.KW H2 μ2 ds (kvs.map (·.2)) []) :
    H2 pp = some (.dK []) ∧ Q (.ref pp) (upd H2 pp (.dK kvs)) := by
  have np : pp ∉ μ := fun z => (I.gmu pp z).2 hp
  have e2 : H2 pp = some (.dK []) := S.keep _ _ upd_same np
  obtain ⟨I3, S3, np2⟩ := SI.freshO (o' := .dK kvs) I hp S I2 e2 (fun _ z => by cases z) (fun _ _ z => by cases z)
  have sl : SL (· ≠ pp) μ2 H2 μ2 (upd H2 pp (.dK kvs)) := slNewO e2 (fun _ z => by cases z) (fun _ _ z => by cases z)
  refine ⟨e2, hq (.ref pp) _ μ2 [pp] [] I3 S3 (.dK (vs := kvs.map (·.2)) upd_same h1 rfl (h2.sl sl fun b hb => by simp at hb) rfl) ⟨fun b hb => ?_, fun b hb => by simp at hb, fun b hb => ?_⟩⟩
  · have e := List.mem_singleton.mp hb
    subst e
    rw [if_pos (show (Pv.new1 []).new = true from rfl)]
    exact ⟨hp, by simp⟩
  · have e := List.mem_singleton.mp (by simpa using hb : b ∈ [pp])
    subst e
    exact ⟨np2, I.okn _ hp⟩
end
end WT
end

section
set_option Elab.async false
set_option linter.all false
set_option maxRecDepth 100000
set_option autoImplicit false
/-! K14e: operations of one argument. -/
namespace WT
open PySem PySem.Spec PyProof.Rows L2
theorem PrB.mono {B C : Int} {l : List Int} (h : PrB B l) (hb : B ≤ C) : PrB C l := by
  obtain ⟨x, y, e, h1, h2⟩ := h
  exact ⟨x, y, e, ⟨h1.1, by omega⟩, h2.1, by omega⟩
theorem prs_reps {K : FW} {H : Hp} {μ : List Addr} : ∀ {xs : List WT.D} {ps : List (List Int)} {vs : List V} {F : List Addr}, prsD xs = some ps → Reps K H μ xs vs F →
    ∃ ks : List (Addr × List Int), vs = ks.map (fun q => V.ref q.1) ∧ ks.map (·.2) = ps ∧ (∀ q ∈ ks, SqT K H q.1 (q.2.map V.int)) ∧ ∃ B, ∀ q ∈ ks, PrB B q.2
  | [], _, _, _, h, r => by
    cases h
    cases r
    exact ⟨[], rfl, rfl, fun _ h => by simp at h, 0, fun _ h => by simp at h⟩
  | x :: xs, ps, vs, F, h, r => by
    unfold prsD at h
    split at h
    · rename_i h0; cases h0
    · rename_i a b xs' h0
      cases h0
      split at h
      · rename_i hab
        obtain ⟨ps', h1, rfl⟩ := Option.map_eq_some_iff.mp h
        cases r with
        | cons rx rt =>
          obtain ⟨ks, e1, e2, e3, B, e4⟩ := prs_reps h1 rt
          cases rx with
          | tup e rr =>
            rename_i ad ws
            have e5 := rr.ints (ns := [a, b]) rfl
            subst e1 e2 e5
            refine ⟨(ad, [a, b]) :: ks, rfl, rfl, fun q hq => ?_, max B (max (a + 1) (b + 1)), fun q hq => ?_⟩
            · rcases List.mem_cons.mp hq with rfl | hq
              · exact e
              · exact e3 q hq
            · rcases List.mem_cons.mp hq with rfl | hq
              · exact ⟨a, b, rfl, ⟨hab.1, by omega⟩, hab.2, by omega⟩
              · exact (e4 q hq).mono (by omega)
      · cases h
    · cases h
theorem reps_prs {K : FW} {H : Hp} {μ : List Addr} : ∀ {L : List (Addr × List Int)}, (∀ q ∈ L, SqT K H q.1 (q.2.map V.int)) → Reps K H μ (L.map ((fun l => D.tup (l.map D.int)) ∘ (·.2))) (L.map fun q => V.ref q.1) []
  | [], _ => .nil
  | q :: L, h => .cons (t := []) (F := []) (.tup (h q (by simp)) (reps_ints _)) (reps_prs fun z hz => h z (by simp [hz]))
/-- sorted(d), a dict whose keys are integers -/
theorem pe_sortD {X : Cx} {a : Expr} {t : TE} {p pos : Pos} (hc : X.calm = true) (g1 : Gl X "sorted") (m1 : X.mg "sorted" = none) (ha : PE X a t) (hs : starEach [a] X.env = [(false, eval a X.env)]) :
    PE X (.Call (.Name "sorted" p) [a] [] pos) (fun σ H Q => t σ H fun x H1 => ∃ (l : Addr) (kvs : List (Key × V)) (ns : List Int), x = .ref l ∧ H1 l = some (.dK kvs) ∧ kvs.map (·.1) = ns.map Sum.inl ∧ ns.length < 64 ∧ ∀ p, H1 p = none → Q (.ref p) (upd H1 p (.lst ((sortI ns).map V.int)))) := by
  refine ⟨fun pins s σ H Q I h => Call_ (ld_blt I g1 m1 boot_sorted (callWith_builtin1 (args_cons (thn (ha.run pins s σ H _ I h) fun u s1 hu => args_nil ?_) hs) hs rfl))⟩
  obtain ⟨x, H1, I1, rx, l, kvs, ns, rfl, e, h2, h3, hq⟩ := hu
  refine call_sortedDI hc pins s1 σ H1 [.ref l] [u] _ I1 (.cons rx .nil) ⟨l, kvs, ns, rfl, .of e, h2, h3, fun ns' p p1 p2 hp => ?_⟩
  have e3 : ns' = sortI ns := sorted_one (p1.trans (sortI_perm ns).symm) p2 (sortI_sorted ns)
  subst e3
  exact hq p hp
/-- len(set(xs)) of integers, some twice -/
theorem pe_nub {X : Cx} {a : Expr} {t : TE} {p p2 q pos : Pos} (hc : X.calm = true) (g1 : Gl X "len") (m1 : X.mg "len" = none) (g2 : Gl X "set") (m2 : X.mg "set" = none) (ha : PE X a t) (hs : starEach [a] X.env = [(false, eval a X.env)]) :
    PE X (.Call (.Name "len" p) [.Call (.Name "set" p2) [a] [] q] [] pos) (fun σ H Q => t σ H fun x H1 => ∃ (l : Addr) (ns : List Int), x = .ref l ∧ SqL X.KW H1 l (ns.map V.int) ∧ ns.length ≤ 4000 ∧ Q (.int ((nubI ns).length : Nat)) H1) := by
  refine ⟨fun pins s σ H Q I h => Call_ (ld_blt I g1 m1 boot_len (callWith_builtin1 (args_cons (Call_ (ld_blt I g2 m2 boot_set (callWith_type1 (args_cons (thn (ha.run pins s σ H _ I h) fun u s1 hu => args_nil ?_) hs) hs rfl))) rfl) rfl rfl))⟩
  obtain ⟨x, H1, I1, rx, l, ns, rfl, sq, hl, hq⟩ := hu
  cases rx
  obtain ⟨us, rs, pl, _⟩ := I1.list sq
  have hz : us.toArray.size = ns.length := by have := rs.length; simp at this; simp [this]
  refine call_set_list (I1.ok.hd hc) pl.isList (RZ.intsAre_vals rs) (by rw [hz]; unfold scanBound; omega) fun g tk S old => args_nil ?_
  rw [hz, met_all] at S
  obtain ⟨o, es, ep, tb, ho, hx, hd, _, _, _, ft, hn⟩ := S
  have hb := nub_len ns
  exact call_len_set ho hx hd ft (by rw [hn]; omega) ⟨.int (nubI ns).length, H1, (I1.kept fun b o e => old b o (Heap.lt_size e) e).tok _, ⟨_, by rw [hn]⟩, hq⟩
/-! ### an item of a box is taken out -/
theorem meth_desc_pop0 : typeOf (.builtin "list.pop") = pure (.type "method_descriptor") := by show builtinType _ = _; rw [builtinType_eq_fast]; kernel_rfl
section
variable {K : FW} {ow : Nat → Bool} {Ok : Addr → Prop} {env : Env} {st : Sto} {μ : List Addr} {G : Addr → Option Nat} {σ : St} {H : Hp}
theorem Reps.erase0 {ds : List WT.D} {vs : List V} {F : List Addr} (r : Reps K H μ ds vs F) (n : Nat) : ∃ L, Reps K H μ (ds.eraseIdx n) (vs.eraseIdx n) L ∧ ∀ a ∈ L, a ∈ F := by
  obtain ⟨L1, r1, h1⟩ := r.take n
  obtain ⟨L2, r2, h2⟩ := r.drop (n + 1)
  obtain ⟨L, r3, h3⟩ := r1.append r2
  rw [← List.eraseIdx_eq_take_drop_succ, ← List.eraseIdx_eq_take_drop_succ] at r3
  exact ⟨L, r3, fun a ha => (h3 a ha).elim (h1 a) (h2 a)⟩
theorem SI.refAt (I : SI K ow Ok env st μ G σ H) {i k : Nat} (e : WT.slot env i = some (.ref k)) : ∃ a xs vs, σ[i]? = some (some (.ref a)) ∧ st[k]? = some xs ∧ μ[k]? = some a ∧ H a = some (.lst vs) := by
  obtain ⟨v, t, F, e1, r, g1, g2, g3⟩ := I.slot i _ e
  cases r with
  | ref hk =>
    rename_i a
    have hl : k < st.length := by rw [I.muLen.symm]; exact (List.getElem?_eq_some_iff.mp hk).1
    obtain ⟨a', vs, hk', ha, rs⟩ := I.box k st[k] (List.getElem?_eq_getElem hl)
    rw [hk] at hk'
    cases hk'
    exact ⟨a, st[k], vs, e1, List.getElem?_eq_getElem hl, hk, ha⟩
theorem SI.setRef (I : SI K ow Ok env st μ G σ H) {i k : Nat} {xs ys : List WT.D} (e : WT.slot env i = some (.ref k)) (ex : st[k]? = some xs) :
    ∃ a vs, σ[i]? = some (some (.ref a)) ∧ H a = some (.lst vs) ∧ Reps K H μ xs vs [] ∧ ∀ vs', Reps K H μ ys vs' [] →
      SI K ow Ok env (st.set k ys) μ G σ (upd H a (.lst vs')) ∧ SL (· ≠ a) μ H μ (upd H a (.lst vs')) ∧ Step μ H μ (upd H a (.lst vs')) := by
  obtain ⟨v, t, F, e1, r, g1, g2, g3⟩ := I.slot i _ e
  cases r with
  | ref hk =>
    rename_i a
    obtain ⟨a', vs, hk', ha, rs⟩ := I.box k xs ex
    rw [hk] at hk'
    cases hk'
    have ma : a ∈ μ := List.mem_of_getElem? hk
    refine ⟨a, vs, e1, ha, rs, fun vs' rs' => ?_⟩
    have sl : SL (· ≠ a) μ H μ (upd H a (.lst vs')) := SL.upd ha fun z => z rfl
    refine ⟨⟨fun j d ej => ?_, fun j zs ej => ?_, by rw [List.length_set]; exact I.muLen, I.muNd, fun b hb => ⟨(I.gmu b hb).1, sl.dom b (I.gmu b hb).2⟩, fun b hb => sl.dom b (I.gdom b hb), fun b hb => I.okn b (sl.wasNone hb), I.len⟩, sl, ⟨fun b o eb nb => ?_, sl.tups, sl.frzs, sl.dom, sl.ext⟩⟩
    · obtain ⟨v', t', F2, e2, r2, k1, k2, k3⟩ := I.slot j d ej
      exact ⟨v', t', F2, e2, r2.sl sl fun b hb => ⟨(k3 b hb).1, fun z => (k3 b hb).1 (by rw [z]; exact ma)⟩, k1, k2, k3⟩
    · by_cases hj : j = k
      · subst hj
        rw [List.getElem?_set_self (List.getElem?_eq_some_iff.mp ex).1] at ej
        cases ej
        exact ⟨a, vs', hk, upd_same, rs'.sl sl fun _ h => by simp at h⟩
      · rw [List.getElem?_set_ne (Ne.symm hj)] at ej
        obtain ⟨b, ws, hb, eb, rb⟩ := I.box j zs ej
        refine ⟨b, ws, hb, ?_, rb.sl sl fun _ h => by simp at h⟩
        rw [upd_ne ?_]
        · exact eb
        · intro z
          subst z
          have h1 := (List.getElem?_eq_some_iff.mp hb).1
          have h2 := (List.getElem?_eq_some_iff.mp hk).1
          have h3 := (List.getElem?_eq_some_iff.mp hb).2
          have h4 := (List.getElem?_eq_some_iff.mp hk).2
          exact hj ((List.getElem_inj I.muNd).mp (h3.trans h4.symm))
    · rw [upd_ne fun z => nb (by rw [z]; exact ma)]
      exact eb
end
section
variable {m : MC} {g : GE} {k : Nat} {a : E} {p : Pv}
theorem snd_popE {i : Nat} (ha : Snd m g k a p) : Snd m g k (.popE i a) (.new1 []) := by
  intro c sc X x hg ok h
  rw [mE] at h
  unfold mPopE at h
  split at h
  · rename_i x0 z zp f2 ap2 y cp2
    simp only [Bool.and_eq_true, decide_eq_true_eq, beq_iff_eq] at h
    obtain ⟨⟨⟨⟨⟨rfl, n1⟩, n2⟩, n3⟩, h1⟩, h3⟩ := h
    obtain ⟨d1, d2⟩ := plB_ok n3
    have hst := star_of (mE_plain h1) ([] : List Expr) X.env
    refine (pe_bm F.plainAttrs_list F.slot_list_pop meth_desc_pop0 mt_popAt (pe_var (i := i) (by rw [ok.hN]; exact n1) (ok.vis n2) d1 d2) (pa_cons (ha c sc X y hg ok h1) pa_nil hst) rfl (by rw [hst]; rfl) (by rw [h3]; simp) hst rfl).mono fun σ H Q ⟨env, st, μ, G, I, hq⟩ => ?_
    rw [evE] at hq
    cases e1 : slot env i with
    | none => rw [e1] at hq; exact hq.elim
    | some d =>
      rw [e1] at hq
      cases d with
      | ref kk =>
        obtain ⟨a0, xs0, vs0, hv0, ex0, hk0, ha0⟩ := I.refAt e1
        refine ⟨_, hv0, .inl ⟨rfl, vs0, .inl (.inl ha0)⟩, ?_⟩
        refine TEv.fst I hq fun x1 st1 v1 H1 μ1 t1 F1 I1 S1 r1 hq => ?_
        unfold popR at hq
        split at hq
        · rename_i jj xs hxs
          split at hq
          · rename_i hb
            split at hq
            · rename_i n hn
              split at hq
              · rename_i yy hy
                obtain ⟨a1, vs1, hv1, ha1, rs, hset⟩ := I1.setRef (ys := xs.eraseIdx n) e1 hxs
                rw [hv1] at hv0
                cases hv0
                obtain ⟨w, t, F2, g1, g2, g3⟩ := rs.get hy
                obtain ⟨L, r3, hL⟩ := Reps.erase0 rs n
                have hL0 : L = [] := List.eq_nil_iff_forall_not_mem.mpr fun b hb => by have := hL b hb; simp at this
                subst hL0
                have ht0 : t ++ F2 = [] := List.eq_nil_iff_forall_not_mem.mpr fun b hb => by have := g3 b hb; simp at this
                obtain ⟨rfl, rfl⟩ := List.append_eq_nil_iff.mp ht0
                obtain ⟨J, sl, S2⟩ := hset _ r3
                obtain ⟨r1, _⟩ := r1
                cases r1
                refine ⟨a0, vs1, jj, n, w, rfl, rfl, ha1, hb.1, hb.2, ?_, g1, ?_⟩
                · rw [← rs.length]; exact (ixN_seq hn).1
                · exact hq w _ μ1 [] [] J (S1.trans S2) (g2.sl sl fun b hb => by simp at hb) ⟨fun b hb => by simp at hb, fun b hb => by simp at hb, fun b hb => by simp at hb⟩
              · exact hq.elim
            · exact hq.elim
          · exact hq.elim
        · exact hq.elim
      | _ => exact hq.elim
  · cases h
end
theorem repP_map {k : Key} {v : V} : ∀ {kvs : List (Key × V)}, (kvs.map fun kv => if kv.1 = k then (kv.1, v) else kv).map (·.1) = kvs.map (·.1) ∧ (kvs.map fun kv => if kv.1 = k then (kv.1, v) else kv).map (·.2) = repP k v (kvs.map (·.1)) (kvs.map (·.2))
  | [] => ⟨rfl, rfl⟩
  | p :: kvs => by
    obtain ⟨h1, h2⟩ := repP_map (k := k) (v := v) (kvs := kvs)
    refine ⟨?_, ?_⟩
    · rw [List.map_cons, List.map_cons, h1, List.map_cons]
      split <;> rfl
    · rw [List.map_cons, List.map_cons, h2, List.map_cons, List.map_cons]
      show _ = (if p.1 = k then v else p.2) :: _
      split <;> rfl
theorem Reps.repP {κ : Type} [DecidableEq κ] {K : FW} {H : Hp} {μ : List Addr} {k : κ} {d : WT.D} {v : V} (rd : Rep K H μ d v [] []) : ∀ {ks : List κ} {ds : List WT.D} {vs : List V}, Reps K H μ ds vs [] → Reps K H μ (WT.repP k d ks ds) (WT.repP k v ks vs) []
  | [], _, _, _ => by unfold WT.repP; exact .nil
  | k' :: ks, [], vs, r => by
    cases r
    exact .nil
  | k' :: ks, d' :: ds, vs, r => by
    generalize hF : ([] : List Addr) = F at r
    cases r with
    | @cons _ v' t F1 _ vs' G r rs =>
      have h1 : t = [] ∧ F1 = [] ∧ G = [] := by
        have := hF.symm
        simp only [List.append_eq_nil_iff] at this
        exact ⟨this.1.1, this.1.2, this.2⟩
      obtain ⟨rfl, rfl, rfl⟩ := h1
      have ih := Reps.repP (k := k) rd (ks := ks) rs
      unfold WT.repP
      split
      · exact .cons rd ih
      · exact .cons r ih
/-- pairs in a list: their keys, values -/
def PrL (K : PySem.W.Frag) (H : Hp) : List V → List (Key × V) → Prop
  | [], [] => True
  | v :: vs, kv :: kvs => (∃ T, v = .ref T ∧ SqT K H T [kV kv.1, kv.2]) ∧ PrL K H vs kvs
  | _, _ => False
theorem prl_get {X : Cx} {pins : List (Addr × Obj)} {σ : St} {H : Hp} {s : Shared} (I : Inv X pins σ H s) : ∀ {vs : List V} {kvs : List (Key × V)} {its : List Value}, PrL X.K H vs kvs → Vals vs its →
    ∃ (ps : List (Value × Value)) (Tl : List Addr) (kvu : List (Key × Value)), its = Tl.map Value.ref ∧ ps.length = Tl.length ∧ kvu.length = ps.length ∧ KV kvs kvu ∧ (∀ (j : Nat) (T : Addr) (p : Value × Value), Tl[j]? = some T → ps[j]? = some p → PairAt s.heap T p.1 p.2) ∧
      ∀ (j : Nat) (p : Value × Value), ps[j]? = some p → ∃ k, kvu[j]? = some (k, p.2) ∧ (mixKind X.prog X.w).is k p.1 = true
  | [], [], _, _, r => by
    cases r
    exact ⟨[], [], [], rfl, rfl, rfl, .nil, fun _ _ _ h => by simp at h, fun _ _ h => by simp at h⟩
  | v :: vs, kv :: kvs, _, h, r => by
    obtain ⟨⟨T, rfl, e⟩, h2⟩ := h
    cases r with
    | cons rv rs =>
      cases rv
      obtain ⟨ps, Tl, kvu, e1, e2, e3, e4, e5, e6⟩ := prl_get I h2 rs
      obtain ⟨its2, r2, ⟨o, ho, hc, n, hdt⟩, _⟩ := I.tuple e
      cases r2 with
      | cons rk r3 =>
        cases r3 with
        | cons rw r4 =>
          cases r4
          rename_i uk uw
          refine ⟨(uk, uw) :: ps, T :: Tl, (kv.1, uw) :: kvu, by rw [e1]; rfl, by simp [e2], by simp [e3], .cons ⟨rfl, rw⟩ e4, fun j T' p h1 h2 => ?_, fun j p h1 => ?_⟩
          · cases j with
            | zero =>
              cases h1
              cases h2
              exact .inl ⟨o, ho, hc, n, hdt⟩
            | succ j => exact e5 j T' p (by simpa using h1) (by simpa using h2)
          · cases j with
            | zero =>
              cases h1
              exact ⟨kv.1, rfl, kV_is rk⟩
            | succ j => 
              obtain ⟨k, h3, h4⟩ := e6 j p (by simpa using h1)
              exact ⟨k, by simpa using h3, h4⟩
  | [], _ :: _, _, h, _ => h.elim
  | _ :: _, [], _, h, _ => h.elim
theorem KV.merged {acc l : List (Key × V)} {accU lU : List (Key × Value)} (r : KV acc accU) (rl : KV l lU) : KV (l.foldl (fun q x => putK q x.1 x.2) acc) (PySem.merged accU lU) := by
  induction rl generalizing acc accU with
  | nil => exact r
  | cons h t ih =>
    obtain ⟨e1, e2⟩ := h
    rename_i a b l1 l2
    obtain ⟨a1, a2⟩ := a
    obtain ⟨b1, b2⟩ := b
    cases e1
    exact ih (r.put _ e2)
theorem pe_mkK {X : Cx} {a : Expr} {t : TE} {p pos : Pos} (g1 : Gl X "dict") (m1 : X.mg "dict" = none) (hcalm : X.calm = true) (ha : PE X a t) (hs : starEach [a] X.env = [(false, eval a X.env)]) :
    PE X (.Call (.Name "dict" p) [a] [] pos) (fun σ H Q => t σ H fun x H1 => ∃ (l : Addr) (vs : List V) (kvs : List (Key × V)), x = .ref l ∧ H1 l = some (.lst vs) ∧ PrL X.K H1 vs kvs ∧ kvs.length ≤ sizeLine ∧ ∀ p, H1 p = none → Q (.ref p) (upd H1 p (.dK (kvs.foldl (fun q x => putK q x.1 x.2) [])))) := by
  refine ⟨fun pins s σ H Q I h => Call_ (ld_blt I g1 m1 (boot_ty .dict) (callWith_type1 (args_cons (thn (ha.run pins s σ H _ I h) fun u s1 hu => args_nil ?_) hs) hs rfl))⟩
  obtain ⟨x, H1, I1, rx, l, vs, kvs, rfl, e, pr, hlen, hq⟩ := hu
  cases rx
  obtain ⟨its, rv, ⟨o, n, ho, hc, hdn, hdt⟩, _⟩ := I1.list (.of e)
  obtain ⟨ps, Tl, kvu, e1, e2, e3, e4, e5, e6⟩ := prl_get I1 pr rv
  have hl : kvs.length = kvu.length := Paired.length e4
  refine call_dict_pairs (knd := mixKind X.prog X.w) (kvs := kvu) (PairArg.list l its.toArray (fun j => Tl.getD j 0) ps) (I1.ok.hd hcalm) ⟨⟨o, n, ho, hc, hdn, hdt⟩, by rw [e1]; simp [e2], fun j k v hj => ?_⟩ ⟨e3, fun i key v hr => ?_⟩ (by omega) fun h' tk dd hk => ?_
  · have hj2 : j < Tl.length := by rw [← e2]; exact (List.getElem?_eq_some_iff.mp hj).1
    have hT : Tl[j]? = some Tl[j] := List.getElem?_eq_getElem hj2
    have hD : Tl.getD j 0 = Tl[j] := by rw [List.getD_eq_getElem?_getD, hT]; rfl
    refine ⟨?_, ?_⟩
    · rw [e1]
      show (List.map Value.ref Tl).toArray[j]? = some (Value.ref (Tl.getD j 0))
      rw [hD]
      simp [hj2]
    · show PairAt s1.heap (Tl.getD j 0) k v
      rw [hD]
      exact e5 j _ (k, v) hT hj
  · exact e6 i (key, v) hr
  · have km : KV (kvs.foldl (fun q x => putK q x.1 x.2) []) (merged [] kvu) := KV.merged .nil e4
    refine ⟨.ref s1.heap.objs.size, upd H1 s1.heap.objs.size (.dK (kvs.foldl (fun q x => putK q x.1 x.2) [])), I1.laid (t' := tk) (fun b u q => hk b u (by simp) q) (Nat.le_refl _) (dk_new ?_ (beq_eq_false_iff_ne.mpr (Ne.symm (Nat.ne_of_lt I1.big))) km dd), rfl, hq _ (I1.hok.fresh (Nat.le_refl _))⟩
    have z1 : (kvs.foldl (fun q x => putK q x.1 x.2) []).length = (merged [] kvu).length := KV.length km
    have z2 := merged_length ([] : List (Key × Value)) kvu
    simp only [List.length_nil] at z2
    omega
theorem prs_ok {K : FW} {H : Hp} {μ : List Addr} : ∀ {xs : List WT.D} {l : List (Key × WT.D)} {vs : List V} {F : List Addr}, prsK xs = some l → Reps K H μ xs vs F →
    ∃ kvs : List (Key × V), PrL K.F H vs kvs ∧ kvs.map (·.1) = l.map (·.1) ∧ kvs.length = vs.length ∧ Reps K H μ (l.map (·.2)) (kvs.map (·.2)) []
  | [], _, _, _, h, r => by
    cases h
    cases r
    exact ⟨[], trivial, rfl, rfl, .nil⟩
  | x :: xs, l, vs, F, h, r => by
    unfold prsK at h
    split at h
    · rename_i h0; cases h0
    · rename_i k v xs' h0
      cases h0
      split at h
      · rename_i y l' hk hl
        split at h
        · rename_i hn
          cases h
          cases r with
          | cons rx rt =>
            obtain ⟨kvs, h1, h2, h3, h4⟩ := prs_ok hl rt
            cases rx with
            | tup e rr =>
              cases rr with
              | cons rk rr2 =>
                cases rr2 with
                | cons rv rr3 =>
                  cases rr3
                  have ek := rk.key hk
                  subst ek
                  obtain ⟨z1, z2⟩ := rv.noL hn
                  subst z1 z2
                  exact ⟨(y, _) :: kvs, ⟨⟨_, rfl, e⟩, h1⟩, by simp [h2], by simp [h3], .cons (t := []) (F := []) rv h4⟩
        · cases h
      · cases h
    · cases h
theorem mkP_ok {K : FW} {H : Hp} {μ : List Addr} : ∀ {l : List (Key × WT.D)} {kvs acc : List (Key × V)} {ks : List Key} {ds : List WT.D}, kvs.map (·.1) = l.map (·.1) → Reps K H μ (l.map (·.2)) (kvs.map (·.2)) [] → acc.map (·.1) = ks → Reps K H μ ds (acc.map (·.2)) [] →
    (kvs.foldl (fun q x => putK q x.1 x.2) acc).map (·.1) = (mkP l ks ds).1 ∧ Reps K H μ (mkP l ks ds).2 ((kvs.foldl (fun q x => putK q x.1 x.2) acc).map (·.2)) []
  | [], [], acc, ks, ds, _, _, h3, h4 => ⟨h3, h4⟩
  | [], _ :: _, _, _, _, h, _, _, _ => by simp at h
  | _ :: _, [], _, _, _, h, _, _, _ => by simp at h
  | (k, d) :: l, (k', v) :: kvs, acc, ks, ds, h1, h2, h3, h4 => by
    simp only [List.map_cons, List.cons.injEq] at h1
    obtain ⟨rfl, h1⟩ := h1
    simp only [List.map_cons] at h2
    have h2' : Reps K H μ (l.map (·.2)) (kvs.map (·.2)) [] ∧ Rep K H μ d v [] [] := by
      generalize hF : ([] : List Addr) = F at h2
      cases h2 with
      | @cons _ _ t F1 _ _ G r rs =>
        have h1 : t = [] ∧ F1 = [] ∧ G = [] := by
          have := hF.symm
          simp only [List.append_eq_nil_iff] at this
          exact ⟨this.1.1, this.1.2, this.2⟩
        obtain ⟨rfl, rfl, rfl⟩ := h1
        exact ⟨rs, r⟩
    obtain ⟨h2, rv⟩ := h2'
    have hany : (acc.any fun kv => decide (kv.1 = k')) = (valP ks ds k').isSome := by
      rw [valV_any]
      rcases Reps.valP k' h3 rfl h4 with ⟨d0, v0, t0, G0, a1, a2, _, _⟩ | ⟨a1, a2⟩
      · rw [a1, a2]; rfl
      · rw [a1, a2]; rfl
    rw [List.foldl_cons]
    unfold mkP
    show List.map _ (List.foldl _ (putK acc k' v) kvs) = _ ∧ Reps K H μ _ (List.map _ (List.foldl _ (putK acc k' v) kvs)) []
    unfold putK
    rw [hany]
    cases hs : (valP ks ds k').isSome with
    | true =>
      rw [if_pos rfl, if_pos rfl]
      obtain ⟨m1, m2⟩ := repP_map (k := k') (v := v) (kvs := acc)
      exact mkP_ok h1 h2 (m1.trans h3) (by rw [m2, h3]; exact Reps.repP rv h4)
    | false =>
      rw [if_neg (by simp), if_neg (by simp)]
      obtain ⟨L, r3, hL⟩ := h4.append (.cons (t := []) (F := []) rv .nil)
      have hL0 : L = [] := by
        cases L with
        | nil => rfl
        | cons b L =>
          rcases hL b (by simp) with hb | hb
          · simp at hb
          · simp at hb
      subst hL0
      exact mkP_ok h1 h2 (by rw [List.map_append, h3]; rfl) (by rw [List.map_append]; exact r3)
theorem tups_ok {K : FW} {H : Hp} {μ : List Addr} : ∀ {xs : List WT.D} {l : List (List WT.D)} {vs : List V} {F : List Addr}, tupsD xs = some l → Reps K H μ xs vs F →
    ∃ qs : List (Addr × List V), PrT K.F H vs qs ∧ (∃ F', Reps K H μ l.flatten (qs.flatMap (·.2)) F') ∧ l.length = qs.length
  | [], _, _, _, h, r => by
    cases h
    cases r
    exact ⟨[], trivial, ⟨[], .nil⟩, rfl⟩
  | x :: xs, l, vs, F, h, r => by
    unfold tupsD at h
    split at h
    · rename_i h0; cases h0
    · rename_i y ys xs' h0
      cases h0
      obtain ⟨l', h1, rfl⟩ := Option.map_eq_some_iff.mp h
      cases r with
      | cons rx rt =>
        obtain ⟨qs, g1, ⟨F', g2⟩, g3⟩ := tups_ok h1 rt
        cases rx with
        | tup e rr =>
          rename_i a ws
          obtain ⟨L, rL, _⟩ := rr.append g2
          refine ⟨(a, ws) :: qs, ⟨⟨rfl, e, fun z => ?_⟩, g1⟩, ⟨L, rL⟩, by simp [g3]⟩
          have := rr.length
          rw [show ws = [] from z] at this
          simp at this
    · cases h
theorem prt_one {K : PySem.W.Frag} {H : Hp} {vs : List V} {q : Addr × List V} (h : PrT K H vs [q]) : SqT K H q.1 q.2 := by
  cases vs with
  | nil => exact h.elim
  | cons v vs => exact h.1.2.1
theorem callR_or {X : Cx} {f : Value} {R S : List V → Hp → VK → Prop} (h1 : CallR X f R) (h2 : CallR X f S) : CallR X f (fun xs H Q => R xs H Q ∨ S xs H Q) := fun pins s σ H xs us Q I r h => h.elim (h1 pins s σ H xs us Q I r) (h2 pins s σ H xs us Q I r)
section
variable {m : MC} {g : GE} {k : Nat} {a : E} {p : Pv}
theorem snd_op1 {o : Op1} (ha : Snd m g k a p) : Snd m g k (.op1 o a) (.new1 []) := by
  intro c sc X x hg ok h
  rw [mE] at h
  cases o with
  | bits =>
    unfold mOp1 mBits at h
    simp only at h
    split at h
    · rename_i y n ap cp
      simp only [Bool.and_eq_true, beq_iff_eq] at h
      obtain ⟨⟨⟨rfl, h1⟩, h2⟩, h3⟩ := h
      refine (pe_bits (ha c sc X y hg ok h3) ?_ (by simpa using h1)).mono fun σ H Q ⟨env, st, μ, G, I, hq⟩ => ?_
      · unfold isNC at h2
        split at h2 <;> first | rfl | (cases h2; done)
      · rw [evE] at hq
        refine TEv.fst I hq fun x1 st1 v1 H1 μ1 t1 F1 I1 S1 r1 hq => ?_
        obtain ⟨z, e1, hq⟩ := Fin.ofO hq
        obtain ⟨rp, po⟩ := r1
        cases x1 <;> first | (cases e1; done) | skip
        cases rp
        cases e1
        exact ⟨_, rfl, okE.flat (p := .new1 []) hq I1 S1 (.int _)⟩
    · cases h
  | lenSet =>
    unfold mOp1 mLenSet at h
    simp only at h
    split at h
    · rename_i n np r rp y cp cp2
      simp only [Bool.and_eq_true, beq_iff_eq] at h
      obtain ⟨⟨⟨⟨rfl, h1⟩, rfl⟩, h2⟩, h3⟩ := h
      refine (pe_nub ok.calm (ok.gl h1) (ok.free _ (by decide +kernel)) (ok.gl h2) (ok.free _ (by decide +kernel)) (ha c sc X y hg ok h3) (star_of (mE_plain h3) _ _)).mono fun σ H Q ⟨env, st, μ, G, I, hq⟩ => ?_
      rw [evE] at hq
      refine TEv.fst I hq fun x1 st1 v1 H1 μ1 t1 F1 I1 S1 r1 hq => ?_
      obtain ⟨z, e1, hq⟩ := Fin.ofO hq
      obtain ⟨rp, po⟩ := r1
      cases x1 <;> first | (cases e1; done) | skip
      obtain ⟨ns, h4, h5⟩ := Option.bind_eq_some_iff.mp e1
      obtain ⟨h6, rfl⟩ := guardO_some h5
      cases rp
      rename_i l vs e r1
      have e2 := r1.ints h4
      subst e2
      exact ⟨l, ns, rfl, .of e, h6, okE.flat (p := .new1 []) hq I1 S1 (.int _)⟩
    · cases h
  | mkK =>
    unfold mOp1 mMkK at h
    simp only at h
    split at h
    · rename_i n np y cp
      simp only [Bool.and_eq_true, beq_iff_eq] at h
      obtain ⟨⟨rfl, h1⟩, h3⟩ := h
      refine (pe_mkK (ok.gl h1) (ok.free _ (by decide +kernel)) ok.calm (ha c sc X y hg ok h3) (star_of (mE_plain h3) _ _)).mono fun σ H Q ⟨env, st, μ, G, I, hq⟩ => ?_
      rw [evE] at hq
      refine TEv.fst I hq fun x1 st1 v1 H1 μ1 t1 F1 I1 S1 r1 hq => ?_
      obtain ⟨z, e1, hq⟩ := Fin.ofO hq
      obtain ⟨rp, po⟩ := r1
      cases x1 <;> first | (cases e1; done) | skip
      obtain ⟨ns, h4, h5⟩ := Option.bind_eq_some_iff.mp e1
      obtain ⟨h6, rfl⟩ := guardO_some h5
      cases rp
      rename_i l vs e r1
      obtain ⟨kvs, g1, g2, g3, g4⟩ := prs_ok h4 r1
      obtain ⟨m1, m2⟩ := mkP_ok (acc := []) (ks := []) (ds := []) g2 g4 rfl .nil
      refine ⟨l, vs, kvs, rfl, e, g1, by rw [g3, ← r1.length]; exact h6, fun p hp => ?_⟩
      refine (okE.out hq I1 S1 (B := fun _ => False) fun _ z => z.elim) (.ref p) _ [p] [] (.inr ⟨p, _, hp, rfl⟩) (.dK upd_same m1 rfl (m2.ext (New1.keep (.inr ⟨p, _, hp, rfl⟩))) rfl) (fun a ha => ?_) fun a h => by simp at h
      have e := List.mem_singleton.mp ha
      subst e
      exact ⟨hp, by simp⟩
    · cases h
  | sumT =>
    unfold mOp1 mSumT at h
    simp only at h
    split at h
    · rename_i n np y k0 tp cp
      simp only [Bool.and_eq_true, beq_iff_eq] at h
      obtain ⟨⟨rfl, h1⟩, h3⟩ := h
      have hs := star_of (mE_plain h3) [Expr.Tuple [] k0 tp] X.env
      refine (pe_sumT ok.calm (ok.gl h1) (ok.free _ (by decide +kernel)) (ha c sc X y hg ok h3) (pe_tup pa_nil) (by rw [hs]; rfl) rfl).mono fun σ H Q ⟨env, st, μ, G, I, hq⟩ => ?_
      rw [evE] at hq
      refine TEv.fst I hq fun x1 st1 v1 H1 μ1 t1 F1 I1 S1 r1 hq => ?_
      refine ⟨Nat.zero_le _, fun p0 hp0 => ?_⟩
      obtain ⟨z, e1, hq⟩ := Fin.ofO hq
      obtain ⟨rp, po⟩ := r1
      cases x1 <;> first | (cases e1; done) | skip
      obtain ⟨ns, h4, h5⟩ := Option.bind_eq_some_iff.mp e1
      obtain ⟨⟨h6, h7⟩, rfl⟩ := guardO_some h5
      have S2 : Step μ1 H1 μ1 (upd H1 p0 (.tup [])) := .new hp0
      have I2 := I1.new (o := .tup []) hp0
      have rp2 := rp.step S2 fun a ha => (po.out a ha).1
      cases rp2
      rename_i l vs e r1
      obtain ⟨qs, g1, ⟨F', g2⟩, g3⟩ := tups_ok h4 r1
      have hF := g2.noL h6
      subst hF
      have out := okE.out hq I2 (S1.trans S2) (B := fun _ => False) fun _ z => z.elim
      refine ⟨l, p0, vs, qs, rfl, rfl, e, .inl (.inl upd_same), g1, by rw [← g2.length]; exact h7, fun hq0 => ?_, fun q hq1 => ?_, fun _ p hp => ?_⟩
      · subst hq0
        cases ns with
        | nil => exact out.tupSame (F := []) (.inl (.inl upd_same)) .nil fun _ h => by simp at h
        | cons _ _ => simp at g3
      · subst hq1
        have e5 : [q].flatMap (·.2) = q.2 := by simp
        rw [e5] at g2
        exact out.tupSame (F := []) (prt_one g1) g2 fun _ h => by simp at h
      · exact out.tup (F := []) g2 (fun _ h => by simp at h) hp
    · cases h
  | dctI kk =>
    unfold mOp1 mDctI at h
    simp only at h
    split at h
    · rename_i j jk jp y cp
      simp only [Bool.and_eq_true, beq_iff_eq] at h
      obtain ⟨rfl, h3⟩ := h
      refine (pe_disp (pps_cons pe_int (ha c sc X y hg ok h3) pps_nil) rfl rfl (by simp) (by simp)).mono fun σ H Q ⟨env, st, μ, G, I, hq⟩ => ?_
      intro pp hp
      rw [evE] at hq
      have S0 : Step μ H μ (upd H pp (.dK [])) := .new hp
      have I0 : SI X.KW c.ow c.Ok env st μ G σ (upd H pp (.dK [])) := I.new hp
      refine TEv.nxt S0 I0 hq fun x1 st1 v1 H1 μ1 t1 F1 I1 S1 r1 hq => ?_
      obtain ⟨w, e4, hq⟩ := Fin.ofO hq
      have e4 : (if noL x1 then some (WT.D.dK [.inl kk] [x1]) else none) = some w := by cases x1 <;> exact e4
      split at e4
      · rename_i hn
        cases e4
        obtain ⟨z1, z2⟩ := r1.rep.noL hn
        subst z1 z2
        obtain ⟨e5, e6⟩ := dK_end (kvs := [(.inl kk, v1)]) hq I hp S1 I1 rfl (.cons (t := []) (F := []) r1.rep .nil)
        exact ⟨e5, [(.inl kk, v1)], rfl, by simp, e6⟩
      · cases e4
    · cases h
  | rep =>
    unfold mOp1 mRep at h
    simp only at h
    split at h
    · rename_i n np y cp
      simp only [Bool.and_eq_true, beq_iff_eq] at h
      obtain ⟨⟨rfl, h1⟩, h3⟩ := h
      have hst := star_of (mE_plain h3) ([] : List Expr) X.env
      refine (pe_callB (callR_or (call_rep ok.gd (by have := ok.room.un; omega)) (call_repK ok.gd (by have := ok.room.un; omega))) (ok.gl h1) (ok.free _ (by decide +kernel)) PyProof.Rows.boot_repr (pa_cons (ha c sc X y hg ok h3) pa_nil hst) (by decide) (by decide) hst rfl).mono fun σ H Q ⟨env, st, μ, G, I, hq⟩ => ?_
      rw [evE] at hq
      refine TEv.fst I hq fun x1 st1 v1 H1 μ1 t1 F1 I1 S1 r1 hq => ?_
      obtain ⟨z, e1, hq⟩ := Fin.ofO hq
      obtain ⟨rp, po⟩ := r1
      by_cases hdk : ∃ ks vs, x1 = .dK ks vs
      · obtain ⟨ks, vs, rfl⟩ := hdk
        obtain ⟨d, h4, h5⟩ := Option.bind_eq_some_iff.mp (show ((repK ks vs).bind fun p => guardO (p.showable = true ∧ p.depth ≤ 64 ∧ p.shown.length ≤ sizeLine) (WT.D.str p.shown)) = some z from e1)
        obtain ⟨⟨g3, g4, g5⟩, rfl⟩ := guardO_some h5
        unfold repK at h4
        split at h4
        · rename_i ns ps k1 k2
          split at h4
          · rename_i hc
            cases h4
            cases rp
            rename_i l kvs ws F e e3 hF e2 r1
            exact .inr ⟨l, kvs, ns, _, _, vs, ps, rfl, e, e2.trans (keysI_eq k1), by rw [e3]; exact r1, hc.1, k2, hc.2, g3, g4, g5, okE.flat (p := .new1 []) hq I1 S1 (.str _)⟩
          · cases h4
        · cases h4
      have e1 : ((toPy x1).bind fun p => guardO (p.canLay0 = true ∧ p.hasDict = false ∧ p.showable = true ∧ p.depth ≤ 64 ∧ p.shown.length ≤ sizeLine) (D.str p.shown)) = some z := by cases x1 <;> first | exact e1 | exact absurd ⟨_, _, rfl⟩ hdk
      obtain ⟨d, h4, h5⟩ := Option.bind_eq_some_iff.mp e1
      obtain ⟨⟨_, g2, g3, g4, g5⟩, rfl⟩ := guardO_some h5
      exact .inl ⟨v1, d, rfl, rp.dp h4, g2, g3, g4, g5, okE.flat (p := .new1 []) hq I1 S1 (.str _)⟩
    · cases h
  | sortD =>
    unfold mOp1 mSortD at h
    simp only at h
    split at h
    · rename_i n np z zp cp
      simp only [Bool.and_eq_true, beq_iff_eq] at h
      obtain ⟨⟨rfl, h1⟩, h3⟩ := h
      refine (pe_sortD ok.calm (ok.gl h1) (ok.free _ (by decide +kernel)) (ha c sc X _ hg ok h3) (star_of (mE_plain h3) _ _)).mono fun σ H Q ⟨env, st, μ, G, I, hq⟩ => ?_
      rw [evE] at hq
      refine TEv.fst I hq fun x1 st1 v1 H1 μ1 t1 F1 I1 S1 r1 hq => ?_
      obtain ⟨z, e1, hq⟩ := Fin.ofO hq
      obtain ⟨rp, po⟩ := r1
      cases x1 <;> first | (cases e1; done) | skip
      obtain ⟨ns, h4, h5⟩ := Option.bind_eq_some_iff.mp e1
      obtain ⟨h6, rfl⟩ := guardO_some h5
      cases rp
      rename_i l kvs vs F e e3 hF e2 r1
      exact ⟨l, kvs, ns, rfl, e, e2.trans (keysI_eq h4), h6, fun p hp => (okE.out hq I1 S1 (B := fun _ => False) fun _ z => z.elim).lst (reps_ints _) (fun _ h => by simp at h) hp⟩
    · cases h
  | sortSet =>
    unfold mOp1 mSortSet at h
    simp only at h
    split at h
    · rename_i n np r rp y cp cp2
      simp only [Bool.and_eq_true, beq_iff_eq] at h
      obtain ⟨⟨⟨⟨rfl, h1⟩, rfl⟩, h2⟩, h3⟩ := h
      refine (pe_sortSetB ok.calm (by have := ok.room.units; omega) (ok.gl h1) (ok.free _ (by decide +kernel)) (ok.gl h2) (ok.free _ (by decide +kernel)) (ha c sc X y hg ok h3) (star_of (mE_plain h3) _ _)).mono fun σ H Q ⟨env, st, μ, G, I, hq⟩ => ?_
      rw [evE] at hq
      refine TEv.fst I hq fun x1 st1 v1 H1 μ1 t1 F1 I1 S1 r1 hq => ?_
      obtain ⟨z, e1, hq⟩ := Fin.ofO hq
      obtain ⟨rp, po⟩ := r1
      cases x1 <;> first | (cases e1; done) | skip
      · obtain ⟨ps, h4, h5⟩ := Option.bind_eq_some_iff.mp e1
        obtain ⟨h6, rfl⟩ := guardO_some h5
        cases rp
        rename_i l vs e r1
        obtain ⟨ks, rfl, rfl, h7, B, h8⟩ := prs_reps h4 r1
        refine .inr ⟨l, ks, B, rfl, e, h7, h6, h8, fun L p hp hL hLs => ?_⟩
        refine (okE.out hq I1 S1 (B := fun _ => False) fun _ z => z.elim).lst (F := []) ?_ (fun _ h => by simp at h) hp
        rw [← hL, List.map_map]
        exact reps_prs hLs
      · obtain ⟨ns, h4, h5⟩ := Option.bind_eq_some_iff.mp e1
        obtain ⟨h6, rfl⟩ := guardO_some h5
        cases rp
        rename_i l vs e r1
        have e2 := r1.ints h4
        subst e2
        exact .inl ⟨l, ns, rfl, .of e, h6, fun p hp => (okE.out hq I1 S1 (B := fun _ => False) fun _ z => z.elim).lst (reps_ints _) (fun _ h => by simp at h) hp⟩
    · cases h
end
end WT
end

section
set_option Elab.async false
set_option linter.all false
set_option maxRecDepth 100000
set_option autoImplicit false
/-! K14h: operations of two arguments: xs.count(x), {k: v}. -/
namespace WT
open PySem PySem.Spec PyProof.Rows L2
theorem meth_desc_count : typeOf (.builtin "list.count") = pure (.type "method_descriptor") := by show builtinType _ = _; rw [builtinType_eq_fast]; kernel_rfl
section
variable {X : Cx}
def rCntD (K : PySem.W.Frag) : V → List V → Hp → VK → Prop := fun x xs H Q => ∃ (a : Addr) (y : V) (d : PyData) (ds : List PyData), x = V.ref a ∧ xs = [y] ∧ Dp K H (V.ref a) (.list ds) ∧ Dp K H y d ∧
  SeqAt.shaped (.list ds) = true ∧ SeqAt.shaped d = true ∧ Q (.int ((ds.countP fun z => PyData.eqv z d : Nat) : Int)) H
theorem mt_cntD (hu : X.A.units + 65 < cLine) : MtR X "list.count" (rCntD X.K) := by
  intro pins s σ H x xs v us Q I rx rxs h
  obtain ⟨a, y, d, ds, rfl, rfl, hl, hy, sl, sd, q⟩ := h
  cases rx
  cases rxs with
  | cons ry rt =>
    rename_i uy ut
    cases rt
    obtain ⟨bs, r1⟩ := Dp.reads I d y uy hy ry
    have hxs : PyData.canLayAll0 ds = true := SeqAt.canLay_of_shaped sl
    have hroom : X.A.units + 1 + min (PyData.depthAll ds) d.depth < cLine := room_in_shaped sd hu
    cases hl with
    | lst hs ha =>
      obtain ⟨its, rv, ⟨⟨cls, dd, data, sls⟩, n, ho, hc, hdn, hdt⟩, hlen⟩ := I.list hs
      simp only at hc hdt
      subst hc hdt
      obtain ⟨as, h4⟩ := Dp.readsAll I ds _ its ha rv
      have hmap : its.map (SeqAt.readOf s.heap) = ds := SeqAt.readsAll_map ds its as hxs h4
      refine call_meets PySem.F.slot_list_count ⟨_, ho, rfl⟩ PySem.F.entry_list_count (PySem.F.args_list_count_2 _ _)
        (SeqAt.list_countAt a its.toArray n dd sls uy (fun u => PyData.eqv (SeqAt.readOf s.heap u) d)) ⟨ho, SeqAt.items_eqAt (vs := its.toArray) (show ReadsAll s.heap its.toArray.toList ds as from h4) r1 hxs (SeqAt.canLay_of_shaped sd) hroom, ?_⟩
      refine ⟨.int ((ds.countP fun z => PyData.eqv z d : Nat) : Int), H, I.tok _, ⟨s.toks, ?_⟩, q⟩
      show Value.int ((its.toArray.toList.countP (fun u => PyData.eqv (SeqAt.readOf s.heap u) d) : Nat) : Int) s.toks = _
      rw [← hmap, List.countP_map]
      rfl
/-- {k: v}: the empty dict is laid first -/
theorem pe_dct1 {kx vx : Expr} {tk tv : TE} {pos : Pos} (hu : X.A.units + 64 < cLine) (hk : PE X kx tk) (hv : PE X vx tv) :
    PE X (.Dict [some kx] [vx] pos) (fun σ H Q => ∀ p o, (p == sysModules) = false → H p = none → tk σ (upd H p (DTo X.w p o [])) fun y H1 => tv σ H1 fun z H2 => ∃ k b, H2 p = some (DTo X.w p o []) ∧ y = .ref b ∧ NK X.KW H2 k (.ref b) ∧ k.depth ≤ 8 ∧ ∀ o' u, RelV z u → Q (.ref p) (upd H2 p (DTo X.w p o' [(k, b, u)]))) := by
  refine ⟨fun pins s σ H Q I h => ?_⟩
  have hh := h s.heap.objs.size { cls := .type "dict", data := .dict #[] } (beq_eq_false_iff_ne.mpr (Ne.symm (Nat.ne_of_lt I.big))) (I.hok.fresh (Nat.le_refl _))
  have I0 : Inv X pins σ (upd H s.heap.objs.size (DTo X.w s.heap.objs.size { cls := .type "dict", data := .dict #[] } [])) { s with heap := s.heap.push { cls := .type "dict", data := .dict #[] }, toks := s.toks } :=
    I.laid (a := s.heap.objs.size) (o := DTo X.w s.heap.objs.size { cls := .type "dict", data := .dict #[] } []) (t' := s.toks) (fun _ _ q => Heap.get?_push_of_some _ q) (Nat.le_refl _)
      ⟨⟨Heap.get?_push_size _ rfl, ⟨rfl, rfl, rfl⟩, #[], 0, rfl, rfl, List.nodup_nil⟩, ⟨_, Heap.get?_push_size _ rfl⟩, fun h1 h2 ⟨e1, e2⟩ k => ⟨k _ e1, e2⟩⟩
  have hroom : (nestedKind X.prog X.w).room X.A := by
    show X.A.units + 8 < cLine
    omega
  rw [arm_eval_Dict, zip_pairTrees [some kx] [vx] X.env pos rfl rfl, dictDisplay_pairs (pairTrees [some kx] [vx] X.env pos) (by simp [pairTrees]) (by simp [pairTrees])]
  refine wpAny_bind (wpAny_standAt (wpAny_bind (wpAny_subDictH (knd := nestedKind X.prog X.w) (Q := fun d s' => wpAny (model X.prog X.w) X.A (pure (Value.ref d)) _ X.xe s') hroom (by simp [pairTrees]) ?_)))
  refine pairTrees_cons_walk (thn (hk.run pins _ σ _ _ I0 hh) fun u s1 ⟨y, H1, I1, ry, q1⟩ => thn (hv.run pins s1 σ H1 _ I1 q1) fun u2 s2 ⟨z, H2, I2, rz, k, b, e3, ey, nk, n3, q⟩ => pairTrees_nil_walk ?_)
  subst ey
  obtain rfl : u = Value.ref b := ry
  refine ⟨[(k, b, u2)], ⟨rfl, rfl, ⟨nk.is I2 rfl, n3⟩, trivial⟩, dto_of I2 e3 (fun _ h => by simp at h), fun h' tk dd hsb => wpAny_pure ?_⟩
  obtain ⟨o', es, ep, hq, k2, k3, k4, _, k5⟩ := dd
  refine ⟨.ref s.heap.objs.size, upd H2 s.heap.objs.size (DTo X.w s.heap.objs.size o' [(k, b, u2)]), ?_, rfl, q o' u2 rz⟩
  exact d_write (ob := DTo X.w s.heap.objs.size o' [(k, b, u2)]) I2 (by rw [e3]; exact True.intro) hsb ⟨o', hq⟩ ⟨⟨hq, k2, es, ep, k3, k4, k5⟩, ⟨o', hq⟩, fun h1 h2 ⟨e1, e2⟩ k => ⟨k _ e1, e2⟩⟩
end
section
variable {K : FW} {ow : Nat → Bool} {Ok : Addr → Prop} {env : Env} {st st2 : Sto} {μ μ2 : List Addr} {G : Addr → Option Nat} {σ : St} {H H2 : Hp}
/-- an object that is new since H and no name's is written -/
theorem slNew {p : Addr} {φ ψ : Heap → Prop} (e : H2 p = some (.ext φ)) : SL (· ≠ p) μ2 H2 μ2 (upd H2 p (.ext ψ)) where
  keep := fun a o e n l => by rw [upd_ne l]; exact e
  tups := fun a u e1 => by
    rw [upd_ne fun z => ?_]
    · exact e1
    · rw [z, e] at e1; cases e1
  frzs := fun a o u e1 => by
    rw [upd_ne fun z => ?_]
    · exact e1
    · rw [z, e] at e1; cases e1
  dom := fun a e1 => by
    by_cases q : a = p
    · rw [q, upd_same]; simp
    · rw [upd_ne q]; exact e1
  ext := ⟨[], by simp, fun _ h => by simp at h⟩
theorem SI.freshX (I : SI K ow Ok env st μ G σ H) {p : Addr} {φ ψ : Heap → Prop} (hp : H p = none) (S : Step μ (upd H p (.ext φ)) μ2 H2) (I2 : SI K ow Ok env st2 μ2 G σ H2) (e : H2 p = some (.ext φ)) :
    SI K ow Ok env st2 μ2 G σ (upd H2 p (.ext ψ)) ∧ Step μ H μ2 (upd H2 p (.ext ψ)) ∧ p ∉ μ2 := by
  have S0 : Step μ H μ2 H2 := (Step.new hp).trans S
  have sl : SL (· ≠ p) μ2 H2 μ2 (upd H2 p (.ext ψ)) := slNew e
  have np : p ∉ μ := fun z => (I.gmu p z).2 hp
  have np2 : p ∉ μ2 := S.notin (by rw [upd_same]; simp) np
  refine ⟨⟨fun j d ej => ?_, I2.box.sl sl fun b hb ws eb => ?_, I2.muLen, I2.muNd, fun b hb => ⟨(I2.gmu b hb).1, sl.dom b (I2.gmu b hb).2⟩, fun b hb => sl.dom b (I2.gdom b hb), fun b hb => I2.okn b (sl.wasNone hb), I2.len⟩, ⟨fun a o ea na => ?_, fun a xs ea => ?_, fun a o u ea => ?_, fun a ea => sl.dom a (S0.dom a ea), S0.ext⟩, np2⟩
  · obtain ⟨v, t, F, e1, r, k1, k2, k3⟩ := I.slot j d ej
    have ne : ∀ b ∈ t ++ F, b ≠ p := fun b hb z => r.there b hb (by rw [z]; exact hp)
    refine ⟨v, t, F, e1, (r.step S0 fun a ha => (k3 a ha).1).sl sl fun b hb => ⟨S0.notin (r.there b hb) (k3 b hb).1, ne b hb⟩, k1, k2, fun b hb => ⟨S0.notin (r.there b hb) (k3 b hb).1, (k3 b hb).2⟩⟩
  · rw [upd_ne fun z => np2 (by rw [← z]; exact hb)]
    exact eb
  · have ne : a ≠ p := fun z => by rw [z, hp] at ea; cases ea
    rw [upd_ne ne]
    exact S0.keep a o ea na
  · have ne : a ≠ p := fun z => by rw [z, hp] at ea; cases ea
    rw [upd_ne ne]
    exact S0.tups a xs ea
  · have ne : a ≠ p := fun z => by rw [z, hp] at ea; cases ea
    rw [upd_ne ne]
    exact S0.frzs a o u ea
end
section
variable {m : MC} {g : GE} {k : Nat} {a b : E} {p q : Pv}
theorem isNS_base {y : Expr} {n : Str} {env : PySem.Env} (h : isNS y = true) : attributeBase y n env (eval y env) = eval y env := by
  unfold isNS at h
  split at h <;> first | rfl | (cases h; done)
theorem snd_op2 {o : Op2} (ha : Snd m g k a p) (hb : Snd m g k b q) : Snd m g k (.op2 o a b) (.new1 []) := by
  intro c sc X x hg ok h
  rw [mE] at h
  cases o with
  | cnt =>
    unfold mOp2 mCnt at h
    simp only at h
    split at h
    · rename_i y n ap z cp
      simp only [Bool.and_eq_true, beq_iff_eq] at h
      obtain ⟨⟨⟨⟨rfl, h1⟩, h0⟩, h2⟩, h3⟩ := h
      have hst := star_of (mE_plain h3) ([] : List Expr) X.env
      refine (pe_bm PySem.F.plainAttrs_list PySem.F.slot_list_count meth_desc_count (mt_cntD (by have := ok.room.un; omega)) (ha c sc X _ hg ok h2) (pa_cons (hb c sc X z hg ok h3) pa_nil hst) (isNS_base h0) (by rw [hst]; rfl) (by simpa using h1) hst rfl).mono fun σ H Q ⟨env, st, μ, G, I, hq⟩ => ?_
      rw [evE] at hq
      refine TEv.fst I hq fun x1 st1 v1 H1 μ1 t1 F1 I1 S1 r1 hq => ?_
      obtain ⟨rp, po⟩ := r1
      cases x1 with
      | lst xs =>
        rw [show op2A .cnt (.lst xs) = true from rfl, if_pos rfl] at hq
        cases rp
        rename_i n vs e1 rs
        refine ⟨.inl ⟨rfl, vs, .inl (.inl e1)⟩, ?_⟩
        refine TEv.nxt S1 I1 hq fun x2 st2 v2 H2 μ2 t2 F2 I2 S2 r2 hq => ?_
        obtain ⟨w, e4, hq⟩ := Fin.ofO hq
        have hm : ∀ b ∈ n :: F1, b ∉ μ1 := fun b hb => (po.out b hb).1
        have rl := (Rep.lst (μ := μ1) e1 rs).step S2 hm
        simp only [op2D] at e4
        unfold cntD at e4
        split at e4
        · rename_i ps pd q1 q2
          split at e4
          · rename_i hs
            cases e4
            exact ⟨_, _, pd, ps, rfl, rfl, rl.dp q1, r2.rep.dp q2, hs.1, hs.2, okE.flat (p := .new1 []) hq I2 (S1.trans S2) (.int _)⟩
          · cases e4
        · cases e4
      | _ => exact hq.elim
    · cases h
  | dct1 =>
    unfold mOp2 mDct1 at h
    simp only at h
    split at h
    · rename_i y z cp
      simp only [Bool.and_eq_true] at h
      obtain ⟨h2, h3⟩ := h
      refine (pe_dct1 (by have := ok.room.units; omega) (ha c sc X y hg ok h2) (hb c sc X z hg ok h3)).mono fun σ H Q ⟨env, st, μ, G, I, hq⟩ => ?_
      intro pp o hs hp
      rw [evE] at hq
      have S0 : Step μ H μ (upd H pp (DTo X.w pp o [])) := .new hp
      have I0 : SI X.KW c.ow c.Ok env st μ G σ (upd H pp (DTo X.w pp o [])) := I.new hp
      refine TEv.nxt S0 I0 hq fun x1 st1 v1 H1 μ1 t1 F1 I1 S1 r1 hq => ?_
      rw [show op2A .dct1 x1 = true by cases x1 <;> rfl, if_pos rfl] at hq
      refine TEv.nxt (S0.trans S1) I1 hq fun x2 st2 v2 H2 μ2 t2 F2 I2 S2 r2 hq => ?_
      obtain ⟨w, e4, hq⟩ := Fin.ofO hq
      simp only [op2D] at e4
      split at e4
      · rename_i hn
        obtain ⟨kk, e5, rfl⟩ := Option.map_eq_some_iff.mp e4
        obtain ⟨b', rfl, n1, n2, n3⟩ := r1.rep.keyT e5
        have np : pp ∉ μ := fun z => (I.gmu pp z).2 hp
        have e1 : H1 pp = some (DTo X.w pp o []) := S1.keep _ _ upd_same np
        have e2 : H2 pp = some (DTo X.w pp o []) := S2.keep _ _ e1 (S1.notin (by rw [upd_same]; simp) np)
        obtain ⟨z1, z2⟩ := r2.rep.noL hn
        subst z1 z2
        have nk2 : NK X.KW H2 kk (.ref b') := n1.mono fun _ _ z => SqT.step z S2
        refine ⟨kk, b', e2, rfl, nk2, n3, fun o' u ru => ?_⟩
        obtain ⟨I3, S3, np2⟩ := SI.freshX (ψ := DTq X.w pp o' [(kk, b', u)]) I hp (S1.trans S2) I2 e2
        have sl : SL (· ≠ pp) μ2 H2 μ2 (upd H2 pp (DTo X.w pp o' [(kk, b', u)])) := slNew e2
        have rr : Reps X.KW (upd H2 pp (DTo X.w pp o' [(kk, b', u)])) μ2 [x2] [v2] [] := .cons (t := []) (F := []) (r2.rep.sl sl fun b hb => by simp at hb) .nil
        refine hq (.ref pp) _ μ2 [pp] [] I3 S3 (.dT (xs := [(kk, b', u)]) upd_same hs (by show 1 ≤ sizeLine; decide) rfl (fun x hx => ?_) (.cons ru .nil) rr rfl) ⟨fun b hb => ?_, fun b hb => by simp at hb, fun b hb => ?_⟩
        · have e := List.mem_singleton.mp hx
          subst e
          exact ⟨nk2.mono fun _ _ z => SqT.sl z sl, rfl, n3⟩
        · have e := List.mem_singleton.mp hb
          subst e
          rw [if_pos (show (Pv.new1 []).new = true from rfl)]
          exact ⟨hp, by simp⟩
        · have e := List.mem_singleton.mp (by simpa using hb : b ∈ [pp])
          subst e
          exact ⟨np2, I.okn _ hp⟩
      · cases e4
    · cases h
  | dctI2 kk ll =>
    unfold mOp2 mDctI2 at h
    simp only at h
    split at h
    · rename_i j jk jp j2 jk2 jp2 y z cp
      simp only [Bool.and_eq_true, beq_iff_eq] at h
      obtain ⟨⟨⟨rfl, rfl⟩, h2⟩, h3⟩ := h
      refine (pe_disp (pps_cons pe_int (ha c sc X y hg ok h2) (pps_cons pe_int (hb c sc X z hg ok h3) pps_nil)) rfl rfl (by simp) (by simp)).mono fun σ H Q ⟨env, st, μ, G, I, hq⟩ => ?_
      intro pp hp
      rw [evE] at hq
      have S0 : Step μ H μ (upd H pp (.dK [])) := .new hp
      have I0 : SI X.KW c.ow c.Ok env st μ G σ (upd H pp (.dK [])) := I.new hp
      refine TEv.nxt S0 I0 hq fun x1 st1 v1 H1 μ1 t1 F1 I1 S1 r1 hq => ?_
      rw [show op2A (.dctI2 kk ll) x1 = true by cases x1 <;> rfl, if_pos rfl] at hq
      refine TEv.nxt (S0.trans S1) I1 hq fun x2 st2 v2 H2 μ2 t2 F2 I2 S2 r2 hq => ?_
      obtain ⟨w, e4, hq⟩ := Fin.ofO hq
      have e4 : (if noL x1 && noL x2 && decide (kk ≠ ll) then some (WT.D.dK [.inl kk, .inl ll] [x1, x2]) else none) = some w := by cases x1 <;> exact e4
      split at e4
      · rename_i hn
        simp only [Bool.and_eq_true, decide_eq_true_eq] at hn
        obtain ⟨⟨hn1, hn2⟩, hne⟩ := hn
        cases e4
        obtain ⟨z1, z2⟩ := r1.rep.noL hn1
        subst z1 z2
        obtain ⟨z1, z2⟩ := r2.rep.noL hn2
        subst z1 z2
        have r1' := r1.rep.step S2 fun a h => by simp at h
        obtain ⟨e5, e6⟩ := dK_end (kvs := [(.inl kk, v1), (.inl ll, v2)]) hq I hp (S1.trans S2) I2 rfl (.cons (t := []) (F := []) r1' (.cons (t := []) (F := []) r2.rep .nil))
        refine ⟨e5, [(.inl kk, v1), (.inl ll, v2)], rfl, by simp, ?_⟩
        have e7 : mergeK [] [(Sum.inl kk, v1), (Sum.inl ll, v2)] = [((Sum.inl kk : Key), v1), (Sum.inl ll, v2)] := by
          show putK (putK [] (Sum.inl kk) v1) (Sum.inl ll) v2 = _
          simp [putK, hne]
        rw [e7]
        exact e6
      · cases e4
    · cases h
end
end WT
end

section
set_option Elab.async false
set_option linter.all false
set_option maxRecDepth 100000
set_option autoImplicit false
/-! K14x: an error that is kept: its class, its value. -/
namespace WT
open PySem PySem.Spec PyProof.Rows L2
section
variable {X : Cx} {pins : List (Addr × Obj)} {σ : St} {H : Hp} {s : Shared} {a C dd : Addr} {fs : List (Str × V)}
theorem exC_at (I : Inv X pins σ H s) {cls : Value} {d : Option Addr} (h : H a = some (exC a cls d)) : ∃ oe, s.heap.get? a = some oe ∧ Zc cls d oe ∧ ∃ fs, oe.data = .fields fs := (I.hok a _ h).1
/-- .. as an instance -/
theorem exC_inst (I : Inv X pins σ H s) (h : H a = some (exC a (.ref C) (some dd))) (hd : H dd = some (.xd fs)) : ∃ (oe od : Obj) (mA : Str → Option Value), PySem.W.InstAt s.heap a oe C (some od) ∧ (∀ n, PySem.W.lookIn n od = some (mA n)) ∧ ∀ n, RelO (fs.lookup n) (mA n) := by
  obtain ⟨oe, h1, h2, vs, h3⟩ := exC_at I h
  obtain ⟨mA, hns, hr⟩ := (show ObjOk X.prog X.w H s.heap dd (.xd fs) from I.hok dd _ hd)
  obtain ⟨od, ho, hl⟩ := lookIn_ns hns
  exact ⟨oe, od, mA, ⟨h1, h2.1, by unfold PySem.W.notCls; rw [h3] <;> rfl, by rw [h2.2]; exact ho⟩, fun n => by rw [hl], hr⟩
/-- e.f, e an error that is kept -/
theorem pe_xk {e : Expr} {te : TE} {pos : Pos} {n : Str} (he : PE X e te) (hb : attributeBase e n X.env (eval e X.env) = eval e X.env := by rfl) :
    PE X (.Attribute e n pos) (fun σ H Q => te σ H fun x H1 => ∃ (a C dd : Addr) (fs : List (Str × V)) (v : V), x = .ref a ∧ XfC X.K C ∧ PySem.W.findIn X.K (.ref C) n = some none ∧ H1 a = some (exC a (.ref C) (some dd)) ∧ H1 dd = some (.xd fs) ∧ fs.lookup n = some v ∧ Q v H1) := by
  refine ⟨fun pins s σ H Q I h => attr_of hb (thn (he.run pins s σ H _ I h) fun u s1 hh => ?_)⟩
  obtain ⟨x, H1, I1, rx, a, C, dd, fs, v, rfl, T, hno, e1, e2, l, q⟩ := hh
  obtain rfl : u = Value.ref a := rx
  obtain ⟨oe, od, mA, J, hl, hr⟩ := exC_inst I1 e1 e2
  obtain ⟨u, hu, ru⟩ := RelO.some_of (v := v) (o := mA n) (by rw [← l]; exact hr n)
  exact HandSPX.exc_get I1.kIn J T.ga T.gg T.exC (PySem.W.findObj_own T.hdC hno rfl (by rw [hl, hu])) (handed_of ru) ⟨v, H1, I1.tok _, ru, q⟩
end
end WT
namespace PySem.W
open PySem PySem.Spec PySem.Calls PyProof.Rows
section
variable {prog : Program} {w : World} {A : Around} {E : Value → Shared → Prop} {s : Shared} {K : Frag} {x D : Addr} {ox od : Obj}
theorem kinX_class {Q : Option Value → Shared → Prop} (hga : findIn K (.ref D) "__getattribute__" = some (some (.builtin "BaseException.__getattribute__"))) (hgt : findIn K (.ref D) "__getattr__" = some none) (hsub : subIn K (.ref D) (.type "BaseException") = some true)
    (hdct : hasDictIn K D = true) (ha : findIn K (.ref D) "__class__" = some (some (.builtin "object.__class__")))
    (hn : specialIn K (.builtin "object.__class__") "__get__" = some (some (.builtin "getset_descriptor.__get__"))) (htk : takesIn K (.builtin "object.__class__") = some true) (hm : mroIn K D (.type "object") = some true)
    (X : K.In s.heap) (I : InstAt s.heap x ox D (some od)) (h : Q (some (.ref D)) { s with toks := s.toks + 1 }) : wpAny (model prog w) A (getAttr? (.ref x) "__class__") Q E s := by
  have hf : findObj K D (some od) "__class__" = some (.bind (.builtin "getset_descriptor.__get__") (.builtin "object.__class__")) := findObj_data (by obtain ⟨cd, hc, _⟩ := any_some hdct; rw [hc]; rfl) ha hn htk
  obtain ⟨hp, g, d, t, os⟩ := s
  have L0 := I.type (M := model prog w)
  have L1 := looks_findIn (M := model prog w) X hga
  have L2 := looks_findIn (M := model prog w) X hgt
  have L3 := looks_find (M := model prog w) X I hf
  have sub : Looks (model prog w) hp (isInstance (.ref x) (.type "BaseException")) true := L0.andThen (looks_subIn X hsub)
  have y0 : (false && onTheHeap (Value.builtin "BaseException.__getattribute__")) = false := rfl
  have y2 : (Value.builtin "BaseException.__getattribute__" == Value.builtin "object.__getattribute__") = false := by decide +kernel
  have y1 : (onTheHeap (Value.ref D) && Value.builtin "BaseException.__getattribute__" == Value.builtin "object.__getattribute__") = false := by rw [y2]; rfl
  unfold getAttr? getAttrBy? getAttrBy
  refine wpAny_bind (wpAny_mkText (wpAny_bind (wpAny_attempt (wpAny_holding (wpAny_bind (L0.at (wpAny_bind (L1.at ?_))))))))
  show wpAny _ _ (if (onTheHeap (Value.ref D) && Value.builtin "BaseException.__getattribute__" == Value.builtin "object.__getattribute__") = true then _ else _) _ _ _
  rw [y1, if_neg Bool.false_ne_true]
  unfold getAttrByItsOwn hookBefore
  refine wpAny_bind ?_
  rw [if_pos (show onTheHeap (Value.ref D) = true from rfl)]
  refine L2.at ?_
  refine wpAny_bind (wpAny_attempt (wpAny_holding ?_))
  unfold callGetattribute
  rw [y0, if_neg Bool.false_ne_true]
  unfold boundAndCalled
  rw [PySem.F.excAttr_ValueError.ga.bind (.ref x)]
  refine wpAny_bind (wpAny_pure ?_)
  show wpAny _ _ (call (.builtin "BaseException.__getattribute__") [.ref x, .str "__class__" t]) _ _ _
  refine wpAny_call (codeAny_call_builtin PySem.F.excAttr_ValueError.ga.plain PySem.F.entry_bexc_ga ?_)
  refine @check_slot (model prog w) _ _ ⟨hp, g, d, t + 1, os⟩ "BaseException.__getattribute__" "BaseException" "__getattribute__" (.ref x) [.str "__class__" t] [] _ (by decide +kernel) (by decide +kernel) sub (PySem.F.args_bexc_ga (.ref x) (.str "__class__" t)) ?_
  unfold Builtin.«object.__getattribute__»
  refine wpAny_bind (wpAny_of_eq (a := ((Value.ref x : Value), [Value.str "__class__" t])) (by first | rfl | (simp only [slotArgs]; rfl)) ?_)
  refine wpAny_bind (wpAny_pure (wpAny_bind (L0.at (wpAny_bind (L3.at ?_)))))
  show wpAny _ _ (holding [Value.builtin "object.__class__"] (call (.builtin "getset_descriptor.__get__") [.builtin "object.__class__", .ref x, .ref D]) >>= ret) _ _ _
  refine wpAny_bind (wpAny_holding (wpAny_call (class_get (s := ⟨hp, g, d, t + 1, os⟩) (ox := ox) (od := some od) X I hm ?_)))
  refine wpAny_pure ?_
  show wpAny _ _ (handedOut (.ref D)) _ _ _
  rw [handedOut_of (v := .ref D) rfl]
  first
    | exact wpAny_pure (wpAny_pure h)
    | exact wpAny_pure h
    | exact wpAny_pure (wpAny_bind (wpAny_pure (wpAny_pure h)))
theorem kitX_exc (C : L2.ExcC K D) : KitX K (.ref x) (.ref D) (fun h => InstAt h x ox D (some od)) where
  ty := fun _ _ _ I => I.type
  it := fun _ _ X _ => by
    obtain ⟨cd, hcd, _⟩ := any_some C.hd
    unfold clsIn at hcd
    split at hcd
    · rename_i c' d' cd' sl' ho
      intro A' Q' E' s' k q
      unfold isType loadHead
      exact wpAny_bind (wpAny_loadPart (k _ _ (X _ _ ho)) (wpAny_pure q))
    · cases hcd
  ne := fun h tp dd its n sl X htp => by
    obtain ⟨cd, hcd, _⟩ := any_some C.hd
    refine Bool.eq_false_iff.mpr fun q => ?_
    obtain rfl : D = tp := Value.ref.inj (beq_iff_eq.mp q)
    unfold clsIn at hcd
    split at hcd
    · rename_i c' d' cd' sl' ho
      have z := (X _ _ ho).symm.trans htp
      cases z
    · cases hcd
  ca := fun X I k => kinX_class C.hg C.hk C.hs C.hd C.ha C.hn C.ht C.hm X I k
end
end PySem.W
namespace WT
open PySem PySem.Spec PyProof.Rows L2
/-- isinstance(e, c), e an error that is kept -/
def rIsX (K : PySem.W.Frag) : List V → Hp → VK → Prop := fun xs H Q => ∃ (a C dd : Addr) (fs : List (Str × V)) (c : V) (cv : Value) (b : Bool), xs = [.ref a, c] ∧ (∀ u, RelV c u → u = cv) ∧ ExcC K C ∧ H a = some (exC a (.ref C) (some dd)) ∧ H dd = some (.xd fs) ∧ PySem.W.kitOne K (.ref C) cv = some b ∧ Q (.bl b) H
theorem call_isX {X : Cx} : CallR X (.builtin "isinstance") (rIsX X.K) := by
  intro pins s σ H xs us Q I r h
  obtain ⟨a, C, dd, fs, c, cv, b, rfl, hcv, T, e1, e2, e, q⟩ := h
  cases r with
  | cons rx rr =>
    cases rr with
    | cons rt rr =>
      cases rr
      cases rx
      have ec := hcv _ rt
      subst ec
      obtain ⟨oe, od, mA, J, _, _⟩ := exC_inst I e1 e2
      exact PySem.W.kia_one (PySem.W.kitX_exc T) I.kIn J e (fun z => nomatch z) fun tk => ⟨.bl b, H, I.kept (t' := tk) fun _ _ z => z, rfl, q⟩
section
variable {m : MC} {g : GE} {k : Nat} {a : E} {p : Pv}
theorem isx_shape {x : Expr} {sc : Scope} {cs : List Str} {all : Bool} {y : Str} (h : mE m (.isx a cs all y) sc x = true) : ∃ f z t fp tp pos, x = .Call (.Name f fp) [z, .Name t tp] [] pos ∧ f = ("isinstance" : Str) ∧ glB sc f = true ∧ mE m a sc z = true ∧
    glB sc t = true ∧ plB t = true ∧ t = y ∧ cs ≠ [] ∧ (∀ c ∈ cs, c ∈ m.cls) ∧ ((y ∈ m.cls ∧ all = (y == m.base)) ∨ (y = ("ValueError" : Str) ∧ all = true)) := by
  cases x with
  | Call f args kws pos =>
    cases f with
    | Name f fp =>
      match args, kws, h with
      | [], _, h => simp [mE] at h
      | [_], _, h => simp [mE] at h
      | _ :: _ :: _ :: _, _, h => simp [mE] at h
      | [_, _], _ :: _, h => simp [mE] at h
      | [z, t0], [], h =>
        cases t0 with
        | Name t tp =>
          simp only [mE, Bool.and_eq_true, Bool.or_eq_true, beq_iff_eq, List.all_eq_true, decide_eq_true_eq, Bool.not_eq_true', List.isEmpty_eq_false_iff] at h
          obtain ⟨⟨⟨⟨⟨⟨⟨⟨h1, h2⟩, h3⟩, h4⟩, h5⟩, h6⟩, h7⟩, h8⟩, h9⟩ := h
          exact ⟨f, z, t, fp, tp, pos, rfl, h1, h2, h3, h4, h5, h6, h7, h8, h9⟩
        | _ => simp [mE] at h
    | _ => simp [mE] at h
  | _ => simp [mE] at h
theorem snd_isx {cs : List Str} {all : Bool} {y : Str} (ha : Snd m g k a p) : Snd m g k (.isx a cs all y) (.new1 []) := by
  intro c sc X x hg ok h
  obtain ⟨f, z, t, fp, tp, pos, rfl, rfl, h2, h3, h4, h5, rfl, h7, h8, h9⟩ := isx_shape h
  have hfr : X.mg "isinstance" = none := ok.free _ (by decide +kernel)
  have cl : ∃ (w : V) (cv : Value), PE X (.Name t tp) (tC w) ∧ (∀ u, RelV w u → u = cv) ∧ ∀ c0 C, c.CA c0 = some C → PySem.W.kitOne X.K (.ref C) cv = some (all || t == c0) := by
    rcases h9 with ⟨h9, rfl⟩ | ⟨rfl, rfl⟩
    · obtain ⟨_, C', _, _, a1, a2, _⟩ := ok.cls t h9
      refine ⟨.ref C', .ref C', pe_glob (ok.gl h4) a2 rfl (plB_ok h5).1, fun u r => r, fun c0 C e => ?_⟩
      exact ok.exm.kit c0 t C C' e a1
    · obtain ⟨c0, hc0⟩ := List.exists_mem_of_ne_nil cs h7
      obtain ⟨_, _, _, _, _, _, _, _, _, _, _, _, _, hv⟩ := ok.cls c0 (h8 c0 hc0)
      refine ⟨.ty "ValueError", .type "ValueError", pe_bltn (ok.gl h4) hv PyProof.Rows.Boot.«ValueError» rfl (by decide) (by decide), fun u r => r, fun c0 C e => ?_⟩
      rw [Bool.true_or]
      exact ok.exm.kve c0 C e
  obtain ⟨w, cv, hp, hw, hk⟩ := cl
  refine (pe_callB call_isX (ok.gl h2) hfr PyProof.Rows.boot_isinstance (pa_cons (ha c sc X z hg ok h3) (pa_cons hp pa_nil) (star_of (mE_plain h3) _ _)) (by decide) (by decide) (star_of (mE_plain h3) _ _) rfl).mono fun σ H Q ⟨env, st, μ, G, I, hq⟩ => ?_
  rw [evE] at hq
  refine TEv.fst I hq fun x1 st1 v1 H1 μ1 t1 F1 I1 S1 r1 hq => ?_
  obtain ⟨b, e1, hq⟩ := Fin.ofO hq
  obtain ⟨rp, po⟩ := r1
  cases x1 <;> first | (cases e1; done) | skip
  rename_i c0 d0
  rw [isxD] at e1
  split at e1
  · rename_i hc0
    cases e1
    obtain ⟨_, C, _, _, a1, _⟩ := ok.cls c0 (h8 c0 hc0)
    have eC := ok.exm.ga c0 C a1
    cases rp with
    | @exc a' dx _ _ v t F r1 r2 r3 =>
      have r1 : H1 a' = some (exC a' (.ref C) (some dx)) := by rw [eC]; exact r1
      exact ⟨a', C, dx, _, w, cv, _, rfl, hw, ok.exm.ec c0 C a1, r1, r2, hk c0 C a1, okE.flat (p := .new1 []) hq I1 S1 (.bl _)⟩
  · cases e1
theorem snd_xval {cs : List Str} (ha : Snd m g k a p) : Snd m g k (.xval a cs) ⟨false, p.inn, p.inn⟩ := by
  intro c sc X x hg ok h
  cases x with
  | Attribute z f pos =>
    cases z with
    | Name n np =>
      simp only [mE, Bool.and_eq_true, beq_iff_eq, List.all_eq_true, decide_eq_true_eq] at h
      obtain ⟨⟨rfl, h1⟩, h2⟩ := h
      refine (pe_xk (ha c sc X (.Name n np) hg ok h1) rfl).mono fun σ H Q ⟨env, st, μ, G, I, hq⟩ => ?_
      rw [evE] at hq
      refine TEv.fst I hq fun x1 st1 v1 H1 μ1 t1 F1 I1 S1 r1 hq => ?_
      obtain ⟨w, e1, hq2⟩ := Fin.ofO hq
      clear hq
      obtain ⟨rp, po⟩ := r1
      cases x1 <;> first | (cases e1; done) | skip
      rename_i c0 d0
      rw [xvalD] at e1
      split at e1
      · rename_i hc0
        cases e1
        obtain ⟨_, C, _, _, a1, _⟩ := ok.cls c0 (h2 c0 hc0)
        have eC := ok.exm.ga c0 C a1
        obtain ⟨x1, x2⟩ := ok.exm.xf c0 C a1
        cases rp with
        | @exc a' dx _ _ v t F r1 r2 r3 =>
          have r1 : H1 a' = some (exC a' (.ref C) (some dx)) := by rw [eC]; exact r1
          have sub : ∀ b ∈ t ++ F, b ∈ a' :: dx :: (t ++ F) := fun b hb => List.mem_cons_of_mem _ (List.mem_cons_of_mem _ hb)
          refine ⟨a', C, dx, _, v, rfl, x1, x2, r1, r2, rfl, hq2 v H1 μ1 t F I1 S1 r3 ⟨fun b hb => ?_, fun b hb => po.inn b (sub b (List.mem_append_right _ hb)), fun b hb => po.out b (by simpa using sub b hb)⟩⟩
          simp only [Bool.false_eq_true, if_false]
          exact po.inn b (sub b (List.mem_append_left _ hb))
      · cases e1
    | _ => simp [mE] at h
  | _ => simp [mE] at h
/-! ### the value of an error that is made here -/
theorem pe_xmk {X : Cx} {C : Addr} {e : Expr} {t : St → Hp → XK → Prop} {pos : Pos} {n : Str} (hp : PMk X e t) (T : XfC X.K C) (hno : PySem.W.findIn X.K (.ref C) n = some none) (hb : attributeBase e n X.env (eval e X.env) = eval e X.env := by rfl) :
    PE X (.Attribute e n pos) (fun σ H Q => t σ H fun cls d H' => ∃ (dd : Addr) (fs : List (Str × V)) (v : V), cls = .ref C ∧ d = some dd ∧ H' dd = some (.xd fs) ∧ fs.lookup n = some v ∧ Q v H') := by
  refine ⟨fun pins s σ H Q I h => attr_of hb (thn (hp pins s σ H _ I h) fun u s1 hh => ?_)⟩
  obtain ⟨a, oe, vs, sI, H', cls, d, rfl, J, k, hne, ha, hz, hd, h1, na, os, ag, _, dd, fs, v, rfl, rfl, e1, l, q⟩ := hh
  have I1 : Inv X pins σ H' s1 := J.landed (B := sI.heap) (fun b o e _ => e) k (Heap.UpToSlots.of_keeps k) os ag
  obtain ⟨mA, hns, hr⟩ := (show ObjOk X.prog X.w H' s1.heap dd (.xd fs) from I1.hok dd _ e1)
  obtain ⟨od, ho, hl⟩ := lookIn_ns hns
  obtain ⟨u, hu, ru⟩ := RelO.some_of (v := v) (o := mA n) (by rw [← l]; exact hr n)
  have J2 : PySem.W.InstAt s1.heap a oe C (some od) := ⟨ha, hz.1, by unfold PySem.W.notCls; rw [hd] <;> rfl, by rw [hz.2]; exact ho⟩
  exact HandSPX.exc_get I1.kIn J2 T.ga T.gg T.exC (PySem.W.findObj_own T.hdC hno rfl (by rw [hl, hu])) (handed_of ru) ⟨v, H', I1.tok _, ru, q⟩
theorem mk_tail {K : FW} {C : Addr} {H1 : Hp} {v1 : V} {Q : XK} (a3 : OexC K C) (a4 : PySem.W.findIn K (.ref C) "value" = some none) (hq : ∀ dx, H1 dx = none → Q (.ref C) (some dx) (upd H1 dx (.xd [("value", v1)]))) :
    [v1].length ≤ 1000 ∧ ∀ a, H1 a = none → spI K (.ref a :: ([v1] ++ [])) (upd H1 a (exo a C none)) (fun v H2 => v = .non ∧ ∃ (d : Addr) (fs : List (Str × V)), H2 a = some (exo a C (some d)) ∧ H2 d = some (exd d fs) ∧ H1 d = none ∧ Q (.ref C) (some d) (upd (del H2 a) d (.xd fs))) (fun _ _ _ => False) := by
  refine ⟨(by decide : 1 ≤ 1000), fun q hn => ⟨q, C, v1, rfl, a3, a4, upd_same, fun dx hd ne => ⟨rfl, dx, [("value", v1)], upd_same, ?_, ?_, ?_⟩⟩⟩
  · rw [upd_ne ne, upd_same]
  · rw [upd_ne ne] at hd; exact hd
  · have hd1 : H1 dx = none := by rw [upd_ne ne] at hd; exact hd
    have e1 : upd (del (upd (upd (upd H1 q (exo q C none)) dx (exd dx [("value", v1)])) q (exo q C (some dx))) q) dx (.xd [("value", v1)]) = upd H1 dx (.xd [("value", v1)]) := by
      funext b
      by_cases hb : b = dx
      · rw [hb, upd_same, upd_same]
      · rw [upd_ne hb, upd_ne hb]
        by_cases hq : b = q
        · rw [hq, del_same, hn]
        · rw [del_ne hq, upd_ne hq, upd_ne hb, upd_ne hq]
    rw [e1]
    exact hq dx hd1
theorem snd_xmk {y : Str} (ha : Snd m g k a p) : Snd m g k (.xmk y a) p := by
  intro c sc X x hg ok h
  cases x with
  | Attribute z f pos =>
    cases z with
    | Call n args kws cp =>
      cases n with
      | Name n np =>
        match args, kws, h with
        | [z], [], h =>
          simp only [mE, Bool.and_eq_true, beq_iff_eq, decide_eq_true_eq] at h
          obtain ⟨⟨⟨⟨⟨rfl, rfl⟩, h1⟩, h2⟩, h3⟩, h4⟩ := h
          obtain ⟨hk, C, fI, fd, a1, a2, a3, a4, a5, a6, a7, a8, _, _⟩ := ok.cls _ h3
          obtain ⟨x1, x2⟩ := ok.exm.xf _ C a1
          have hst := star_of (mE_plain h4) ([] : List Expr) X.env
          refine (pe_xmk (pmk_oex (ds := []) (dvs := []) a3 a5 a6 a7 (ok.room.mono hk) a8 .nil (passes_call ok.tk fun _ _ _ _ h => h.elim) (ok.gl h1) a2 (pa_cons (ha c sc X z hg ok h4) pa_nil hst) (plB_ok h2).1 hst rfl) x1 x2 rfl).mono fun σ H Q ⟨env, st, μ, G, I, hq⟩ => ?_
          rw [evE] at hq
          refine ⟨env, st, μ, G, I, hq.mono (fun d st1 _ hx v H1 μ1 t1 F1 I1 S1 r1 po => ?_) fun _ _ _ hx => hx⟩
          have fin := mk_tail (K := X.KW) (C := C) (H1 := H1) (v1 := v) (Q := fun cls d H' => ∃ (dd : Addr) (fs : List (Str × V)) (v : V), cls = .ref C ∧ d = some dd ∧ H' dd = some (.xd fs) ∧ fs.lookup ("value" : Str) = some v ∧ Q v H') a3 a4 fun dx hd1 => by
            have sn := Step.new (μ := μ1) (o := .xd [("value", v)]) hd1
            exact ⟨dx, [("value", v)], v, rfl, rfl, upd_same, rfl, hx v _ μ1 t1 F1 (I1.new hd1) (S1.trans sn) (r1.step sn fun a ha => (po.out a ha).1) po⟩
          exact fin
        | [], _, h => simp [mE] at h
        | _ :: _ :: _, _, h => simp [mE] at h
        | [_], _ :: _, h => simp [mE] at h
      | _ => simp [mE] at h
    | _ => simp [mE] at h
  | _ => simp [mE] at h
end
end WT
end

section
set_option Elab.async false
set_option linter.all false
set_option maxRecDepth 100000
set_option autoImplicit false
set_option maxHeartbeats 4000000
/-! K15: every expression. -/
namespace WT
open PySem PySem.Spec PyProof.Rows L2

def pvTop (m : MC) (e : E) : List Nat := match pvE m e with
  | some p => p.top ++ p.inn
  | none => []
/-- whose lists may be met in what is walked -/
def pvAll (m : MC) : WT.It → List Nat
  | .seq e => pvTop m e
  | .enum e => pvTop m e
  | .items e => pvTop m e
  | .keys e => pvTop m e
  | .zip a b => pvTop m a ++ pvTop m b
  | _ => []
section
variable {m : MC} {g : GE} {k : Nat}
theorem snd_dead {p : Pv} : Snd m g k .dead p := fun c sc X x hg ok h => ⟨fun pins s σ H Q I ⟨env, st, μ, G, J, hq⟩ => hq.elim⟩
theorem sndt_dead : SndT m g k .dead := fun c sc X x hg ok h ht => ⟨fun pins s σ H Q I ⟨env, st, μ, G, J, hq⟩ => hq.elim⟩
theorem sndt_of {e : E} {p : Pv} (h : Snd m g k e p) (hp : ∀ sc x, mE m e sc x = true → plainT x = true) : SndT m g k e := sndt_val h hp
theorem eq_mp {α : Type} {a b : Option α} {c : α} (h : a = b) (h2 : b = some c) : a = some c := h.trans h2
mutual
theorem snd : ∀ (e : E) {p : Pv}, pvE m e = some p → Snd m g k e p
  | .var i, p, h => by
    rw [pvE] at h
    cases h
    exact snd_var
  | .int i, p, h => by rw [pvE] at h; cases h; exact snd_int
  | .bl i, p, h => by rw [pvE] at h; cases h; exact snd_bl
  | .non, p, h => by rw [pvE] at h; cases h; exact snd_non
  | .str i, p, h => by rw [pvE] at h; cases h; exact snd_str
  | .glob i, p, h => by rw [pvE] at h; cases h; exact snd_glob
  | .dead, p, h => snd_dead
  | .dnew _, p, h => by rw [pvE] at h; cases h; exact snd_dnew
  | .op1 o a, p, h => by
    rw [pvE] at h
    obtain ⟨pa, ea, rfl⟩ := Option.map_eq_some_iff.mp h
    exact snd_op1 (snd a ea)
  | .op2 o a b, p, h => by
    rw [pvE] at h
    cases ea : pvE m a with
    | none => rw [ea] at h; cases h
    | some pa =>
      cases eb : pvE m b with
      | none => rw [ea, eb] at h; cases h
      | some pb =>
        rw [ea, eb] at h
        cases h
        exact snd_op2 (snd a ea) (snd b eb)
  | .popE i a, p, h => by
    rw [pvE] at h
    obtain ⟨pa, ea, rfl⟩ := Option.map_eq_some_iff.mp h
    exact snd_popE (snd a ea)
  | .dgeto a b d, p, h => by
    rw [pvE] at h
    cases ea : pvE m a with
    | none => rw [ea] at h; cases h
    | some pa =>
      cases eb : pvE m b with
      | none => rw [ea, eb] at h; cases h
      | some pb =>
        cases ed : pvE m d with
        | none => rw [ea, eb, ed] at h; cases h
        | some pd =>
          rw [ea, eb, ed] at h
          cases h
          exact snd_dgeto (snd a ea) (snd b eb) (snd d ed)
  | .midx a b, p, h => by
    rw [pvE] at h
    cases ea : pvE m a with
    | none => rw [ea] at h; cases h
    | some pa =>
      cases eb : pvE m b with
      | none => rw [ea, eb] at h; cases h
      | some pb =>
        rw [ea, eb] at h
        cases h
        exact snd_midx (snd a ea) (snd b eb)
  | .bin op a b, p, h => by
    rw [pvE] at h
    cases ea : pvE m a with
    | none => rw [ea] at h; cases h
    | some pa =>
      cases eb : pvE m b with
      | none => rw [ea, eb] at h; cases h
      | some pb =>
        rw [ea, eb] at h
        cases h
        exact snd_bin (snd a ea) (snd b eb)
  | .neg a, p, h => by
    rw [pvE] at h
    obtain ⟨pa, ea, rfl⟩ := Option.map_eq_some_iff.mp h
    exact snd_neg (snd a ea)
  | .not a, p, h => by
    rw [pvE] at h
    obtain ⟨pa, ea, rfl⟩ := Option.map_eq_some_iff.mp h
    exact snd_not (snd a ea)
  | .cmp op a b, p, h => by
    rw [pvE] at h
    cases ea : pvE m a with
    | none => rw [ea] at h; cases h
    | some pa =>
      cases eb : pvE m b with
      | none => rw [ea, eb] at h; cases h
      | some pb =>
        rw [ea, eb] at h
        cases h
        exact snd_cmp (snd a ea) (snd b eb)
  | .cmp2 op op2 a b d, p, h => by
    rw [pvE] at h
    cases ea : pvE m a with
    | none => rw [ea] at h; cases h
    | some pa =>
      cases eb : pvE m b with
      | none => rw [ea, eb] at h; cases h
      | some pb =>
        cases ed : pvE m d with
        | none => rw [ea, eb, ed] at h; cases h
        | some pd =>
          rw [ea, eb, ed] at h
          cases h
          exact snd_cmp2 (snd a ea) (snd b eb) (snd d ed)
  | .and a b, p, h => by
    rw [pvE] at h
    cases ea : pvE m a with
    | none => rw [ea] at h; cases h
    | some pa =>
      cases eb : pvE m b with
      | none => rw [ea, eb] at h; cases h
      | some pb =>
        rw [ea, eb] at h
        cases h
        exact snd_and (snd a ea) (snd b eb)
  | .or a b, p, h => by
    rw [pvE] at h
    cases ea : pvE m a with
    | none => rw [ea] at h; cases h
    | some pa =>
      cases eb : pvE m b with
      | none => rw [ea, eb] at h; cases h
      | some pb =>
        rw [ea, eb] at h
        cases h
        exact snd_or (snd a ea) (snd b eb)
  | .ife d a b, p, h => by
    rw [pvE] at h
    cases ed : pvE m d with
    | none => rw [ed] at h; cases h
    | some pd =>
      cases ea : pvE m a with
      | none => rw [ed, ea] at h; cases h
      | some pa =>
        cases eb : pvE m b with
        | none => rw [ed, ea, eb] at h; cases h
        | some pb =>
          rw [ed, ea, eb] at h
          cases h
          exact snd_ife (sndt d ed) (snd a ea) (snd b eb)
  | .tup es, p, h => by
    rw [pvE] at h
    obtain ⟨l, e, rfl⟩ := Option.map_eq_some_iff.mp h
    exact snd_tup (snda es e)
  | .lst es, p, h => by
    rw [pvE] at h
    obtain ⟨l, e, rfl⟩ := Option.map_eq_some_iff.mp h
    exact snd_lst (snda es e)
  | .idx a b, p, h => by
    rw [pvE] at h
    cases ea : pvE m a with
    | none => rw [ea] at h; cases h
    | some pa =>
      cases eb : pvE m b with
      | none => rw [ea, eb] at h; cases h
      | some pb =>
        rw [ea, eb] at h
        cases h
        exact snd_idx (snd a ea) (snd b eb)
  | .slice a lo hi, p, h => by
    rw [pvE] at h
    cases ea : pvE m a with
    | none => rw [ea] at h; cases h
    | some pa =>
      cases eb : pvEo m lo with
      | false => rw [ea, eb] at h; cases h
      | true =>
        cases ed : pvEo m hi with
        | false => rw [ea, eb, ed] at h; cases h
        | true =>
          rw [ea, eb, ed] at h
          cases h
          exact snd_slice (snd a ea) (sndo lo eb) (sndo hi ed)
  | .isi a ts tb, p, h => by
    rw [pvE] at h
    obtain ⟨l, e, rfl⟩ := Option.map_eq_some_iff.mp h
    exact snd_isi (snd a e)
  | .isx a cs all y, p, h => by
    rw [pvE] at h
    obtain ⟨l, e, rfl⟩ := Option.map_eq_some_iff.mp h
    exact snd_isx (snd a e)
  | .xval a cs, p, h => by
    rw [pvE] at h
    obtain ⟨l, e, rfl⟩ := Option.map_eq_some_iff.mp h
    exact snd_xval (snd a e)
  | .xmk y a, p, h => by
    rw [pvE] at h
    exact snd_xmk (snd a h)
  | .rev a, p, h => by
    rw [pvE] at h
    obtain ⟨pa, ea, rfl⟩ := Option.map_eq_some_iff.mp h
    exact snd_rev (snd a ea)
  | .rg1 l b, p, h => by
    rw [pvE] at h
    obtain ⟨pa, ea, rfl⟩ := Option.map_eq_some_iff.mp h
    exact snd_rg1 (snd b ea)
  | .rg2 l a b, p, h => by
    rw [pvE] at h
    cases ea : pvE m a with
    | none => rw [ea] at h; cases h
    | some pa =>
      cases eb : pvE m b with
      | none => rw [ea, eb] at h; cases h
      | some pb =>
        rw [ea, eb] at h
        cases h
        exact snd_rg2 (snd a ea) (snd b eb)
  | .bi f es, p, h => by
    rw [pvE] at h
    obtain ⟨l, e, rfl⟩ := Option.map_eq_some_iff.mp h
    exact snd_bi (snda es e)
  | .call f es kes ord, p, h => by
    rw [pvE] at h
    cases ea : pvEs m es with
    | none => rw [ea] at h; cases h
    | some pa =>
      cases eb : pvEs m kes with
      | none => rw [ea, eb] at h; cases h
      | some pb =>
        rw [ea, eb] at h
        cases h
        exact snd_call (snda es ea) (snda kes eb)
  | .box e, p, h => by
    rw [pvE] at h
    cases ea : pvE m e with
    | none => rw [ea] at h; cases h
    | some pa =>
      rw [ea] at h
      simp only at h
      split at h
      · rename_i hn
        cases h
        exact snd_box (snd e ea) hn
      · cases h
  | .comp tg it hif cond elt, p, h => by
    rw [pvE] at h
    cases ei : pvIt m it with
    | none => rw [ei] at h; cases h
    | some l =>
      cases ec : pvE m cond with
      | none => rw [ei, ec] at h; cases h
      | some pc =>
        cases ee : pvE m elt with
        | none => rw [ei, ec, ee] at h; cases h
        | some pe =>
          rw [ei, ec, ee] at h
          simp only at h
          split at h
          · rename_i hn
            cases h
            simp only [Bool.and_eq_true, List.all_eq_true, Bool.not_eq_true', List.isEmpty_iff] at hn
            obtain ⟨⟨h1, h2⟩, h3⟩ := hn
            subst h1
            exact snd_comp (sndi it ei) (sndt cond ec) (snd elt ee) h2 h3
          · cases h
  | .comp2 tg it tg1 it1 elt, p, h => by
    rw [pvE] at h
    cases ei : pvIt m it with
    | none => rw [ei] at h; cases h
    | some l =>
      cases ec : pvIt m it1 with
      | none => rw [ei, ec] at h; cases h
      | some l1 =>
        cases ee : pvE m elt with
        | none => rw [ei, ec, ee] at h; cases h
        | some pe =>
          rw [ei, ec, ee] at h
          simp only at h
          split at h
          · rename_i hn
            cases h
            simp only [Bool.and_eq_true, List.all_eq_true, Bool.not_eq_true', List.isEmpty_iff] at hn
            obtain ⟨⟨⟨⟨⟨h1, h2⟩, h3⟩, h4⟩, h5⟩, h6⟩ := hn
            subst h1
            subst h2
            exact snd_comp2 (sndi it ei) (sndi it1 ec) (snd elt ee) h3 h4 h5 h6
          · cases h
theorem sndt : ∀ (e : E) {p : Pv}, pvE m e = some p → SndT m g k e
  | .var i, p, h => sndt_of (snd (.var i) h) fun sc x h => by cases x <;> first | rfl | (simp [mE] at h; done)
  | .int i, p, h => sndt_of (snd (.int i) h) fun sc x h => by cases x <;> first | rfl | (simp [mE] at h; done)
  | .bl i, p, h => sndt_of (snd (.bl i) h) fun sc x h => by cases x <;> first | rfl | (simp [mE] at h; done)
  | .non, p, h => sndt_of (snd .non h) fun sc x h => by cases x <;> first | rfl | (simp [mE] at h; done)
  | .str i, p, h => sndt_of (snd (.str i) h) fun sc x h => by cases x <;> first | rfl | (simp [mE] at h; done)
  | .glob i, p, h => sndt_of (snd (.glob i) h) fun sc x h => by cases x <;> first | rfl | (simp [mE] at h; done)
  | .dead, p, h => sndt_dead
  | .dnew _, p, h => sndt_of (snd (.dnew _) h) fun sc x h => by cases x <;> first | rfl | (simp [mE] at h; done)
  | .dgeto a b d, p, h => sndt_of (snd (.dgeto a b d) h) fun sc x h => by cases x <;> first | rfl | (simp [mE] at h; done)
  | .op1 o a, p, h => sndt_of (snd (.op1 o a) h) fun sc x h => by
    cases x <;> first | rfl | skip
    all_goals (cases o <;> simp [mE, mOp1, mBits, mLenSet, mSortSet, mSortD, mMkK, mSumT, mRep, mDctI] at h)
  | .op2 o a b, p, h => sndt_of (snd (.op2 o a b) h) fun sc x h => by
    cases x <;> first | rfl | skip
    all_goals (cases o <;> simp [mE, mOp2, mCnt, mDct1, mDctI2] at h)
  | .popE i a, p, h => sndt_of (snd (.popE i a) h) fun sc x h => by cases x <;> first | rfl | (simp [mE, mPopE] at h; done)
  | .midx a b, p, h => sndt_of (snd (.midx a b) h) fun sc x h => by cases x <;> first | rfl | (simp [mE] at h; done)
  | .bin op a b, p, h => sndt_of (snd (.bin op a b) h) fun sc x h => by cases x <;> first | rfl | (simp [mE] at h; done)
  | .neg a, p, h => sndt_of (snd (.neg a) h) fun sc x h => by
    cases x with
    | UnaryOp o _ _ => cases o <;> first | rfl | (simp [mE] at h; done)
    | _ => first | rfl | (simp [mE] at h; done)
  | .not a, p, h => by
    rw [pvE] at h
    obtain ⟨pa, ea, rfl⟩ := Option.map_eq_some_iff.mp h
    exact sndt_not (sndt a ea)
  | .cmp op a b, p, h => by
    rw [pvE] at h
    cases ea : pvE m a with
    | none => rw [ea] at h; cases h
    | some pa =>
      cases eb : pvE m b with
      | none => rw [ea, eb] at h; cases h
      | some pb => exact sndt_cmp (snd a ea) (snd b eb)
  | .cmp2 op op2 a b d, p, h => by
    rw [pvE] at h
    cases ea : pvE m a with
    | none => rw [ea] at h; cases h
    | some pa =>
      cases eb : pvE m b with
      | none => rw [ea, eb] at h; cases h
      | some pb =>
        cases ed : pvE m d with
        | none => rw [ea, eb, ed] at h; cases h
        | some pd => exact sndt_cmp2 (snd a ea) (snd b eb) (snd d ed)
  | .and a b, p, h => by
    rw [pvE] at h
    cases ea : pvE m a with
    | none => rw [ea] at h; cases h
    | some pa =>
      cases eb : pvE m b with
      | none => rw [ea, eb] at h; cases h
      | some pb => exact sndt_and (sndt a ea) (sndt b eb)
  | .or a b, p, h => by
    rw [pvE] at h
    cases ea : pvE m a with
    | none => rw [ea] at h; cases h
    | some pa =>
      cases eb : pvE m b with
      | none => rw [ea, eb] at h; cases h
      | some pb => exact sndt_or (sndt a ea) (sndt b eb)
  | .ife d a b, p, h => fun c sc X x hg ok hm ht => by cases ht
  | .tup es, p, h => sndt_of (snd (.tup es) h) fun sc x h => by cases x <;> first | rfl | (simp [mE] at h; done)
  | .lst es, p, h => sndt_of (snd (.lst es) h) fun sc x h => by cases x <;> first | rfl | (simp [mE] at h; done)
  | .idx a b, p, h => sndt_of (snd (.idx a b) h) fun sc x h => by cases x <;> first | rfl | (simp [mE] at h; done)
  | .slice a lo hi, p, h => sndt_of (snd (.slice a lo hi) h) fun sc x h => by cases x <;> first | rfl | (simp [mE] at h; done)
  | .isi a ts tb, p, h => sndt_of (snd (.isi a ts tb) h) fun sc x h => by
    obtain ⟨_, _, _, _, _, rfl, _⟩ := isi_shape h
    rfl
  | .isx a cs all y, p, h => sndt_of (snd (.isx a cs all y) h) fun sc x h => by
    obtain ⟨_, _, _, _, _, _, rfl, _⟩ := isx_shape h
    rfl
  | .xmk y a, p, h => sndt_of (snd (.xmk y a) h) fun sc x h => by cases x <;> first | rfl | (simp [mE] at h; done)
  | .xval a cs, p, h => sndt_of (snd (.xval a cs) h) fun sc x h => by cases x <;> first | rfl | (simp [mE] at h; done)
  | .rev a, p, h => sndt_of (snd (.rev a) h) fun sc x h => by
    obtain ⟨_, _, _, _, _, _, rfl, _⟩ := rev_shape h
    rfl
  | .rg1 l b, p, h => sndt_of (snd (.rg1 l b) h) fun sc x h => by
    obtain ⟨_, _, _, _, _, rfl, _⟩ := rg1_shape h
    rfl
  | .rg2 l a b, p, h => sndt_of (snd (.rg2 l a b) h) fun sc x h => by
    obtain ⟨_, _, _, _, _, _, rfl, _⟩ := rg2_shape h
    rfl
  | .bi f es, p, h => sndt_of (snd (.bi f es) h) fun sc x h => by cases x <;> first | rfl | (simp [mE] at h; done)
  | .call f es kes ord, p, h => sndt_of (snd (.call f es kes ord) h) fun sc x h => by cases x <;> first | rfl | (simp [mE] at h; done)
  | .box e, p, h => fun c sc X x hg ok hm ht => by cases ht
  | .comp2 tg it tg1 it1 elt, p, h => sndt_of (snd (.comp2 tg it tg1 it1 elt) h) fun sc x h => by
    obtain ⟨_, _, _, _, _, _, _, rfl, _⟩ := comp2_shape h
    rfl
  | .comp tg it hif cond elt, p, h => sndt_of (snd (.comp tg it hif cond elt) h) fun sc x h => by cases x <;> first | rfl | (simp [mE] at h; done)
theorem snda : ∀ (es : Es) {l : List Nat}, pvEs m es = some l → SndA m g k es l
  | .nil, l, h => by rw [pvEs] at h; cases h; exact snda_nil
  | .cons e es, l, h => by
    rw [pvEs] at h
    cases ea : pvE m e with
    | none => rw [ea] at h; cases h
    | some pa =>
      cases eb : pvEs m es with
      | none => rw [ea, eb] at h; cases h
      | some pb =>
        rw [ea, eb] at h
        cases h
        exact snda_cons (snd e ea) (snda es eb)
theorem sndo : ∀ (o : Eo), pvEo m o = true → SndO m g k o
  | .no, _ => sndo_no
  | .yes e, h => by
    rw [pvEo] at h
    cases ea : pvE m e with
    | none => rw [ea] at h; cases h
    | some pa => exact sndo_yes (snd e ea)
theorem sndi : ∀ (it : WT.It) {l : List Nat}, pvIt m it = some l → SndI m g k it l (pvAll m it)
  | .seq e, l, h => by
    rw [pvIt] at h
    obtain ⟨p, ea, rfl⟩ := Option.map_eq_some_iff.mp h
    rw [pvAll, pvTop, ea]
    exact sndi_seq (snd e ea)
  | .range1 a, l, h => by
    rw [pvIt] at h
    obtain ⟨p, ea, rfl⟩ := Option.map_eq_some_iff.mp h
    exact sndi_range1 (snd a ea)
  | .range2 a b, l, h => by
    rw [pvIt] at h
    cases ea : pvE m a with
    | none => rw [ea] at h; cases h
    | some pa =>
      cases eb : pvE m b with
      | none => rw [ea, eb] at h; cases h
      | some pb =>
        rw [ea, eb] at h
        cases h
        exact sndi_range2 (snd a ea) (snd b eb)
  | .range3 a b d, l, h => by
    rw [pvIt] at h
    cases ea : pvE m a with
    | none => rw [ea] at h; cases h
    | some pa =>
      cases eb : pvE m b with
      | none => rw [ea, eb] at h; cases h
      | some pb =>
        cases ed : pvE m d with
        | none => rw [ea, eb, ed] at h; cases h
        | some pd =>
          rw [ea, eb, ed] at h
          cases h
          exact sndi_range3 (snd a ea) (snd b eb) (snd d ed)
  | .items e, l, h => by
    rw [pvIt] at h
    obtain ⟨p, ea, rfl⟩ := Option.map_eq_some_iff.mp h
    rw [pvAll, pvTop, ea]
    exact sndi_items (snd e ea)
  | .keys e, l, h => by
    rw [pvIt] at h
    obtain ⟨p, ea, rfl⟩ := Option.map_eq_some_iff.mp h
    rw [pvAll, pvTop, ea]
    exact sndi_keys (snd e ea)
  | .enum e, l, h => by
    rw [pvIt] at h
    obtain ⟨p, ea, rfl⟩ := Option.map_eq_some_iff.mp h
    rw [pvAll, pvTop, ea]
    exact sndi_enum (snd e ea)
  | .zip a b, l, h => by
    rw [pvIt] at h
    cases ea : pvE m a with
    | none => rw [ea] at h; cases h
    | some pa =>
      cases eb : pvE m b with
      | none => rw [ea, eb] at h; cases h
      | some pb =>
        rw [ea, eb] at h
        cases h
        rw [pvAll, pvTop, pvTop, ea, eb]
        exact sndi_zip (snd a ea) (snd b eb)
end
end
end WT
end

section
set_option Elab.async false
set_option linter.all false
set_option maxRecDepth 100000
set_option autoImplicit false
/-! K16: statements: readings. -/
namespace WT
open PySem PySem.Spec PyProof.Rows L2

/-- what statements may change: boxes, the lists of the names M, new things -/
structure StepS (M : List Nat) (μ : List Addr) (G : Addr → Option Nat) (H : Hp) (μ' : List Addr) (G' : Addr → Option Nat) (H' : Hp) : Prop where
  sl : SL (fun a => ∀ i ∈ M, G a ≠ some i) μ H μ' H'
  agr : ∀ a, H a ≠ none → (∀ i ∈ M, G a ≠ some i) → G' a = G a
section
variable {M M' M1 M2 : List Nat} {μ μ1 μ2 : List Addr} {G G1 G2 : Addr → Option Nat} {H H1 H2 : Hp}
theorem StepS.refl : StepS M μ G H μ G H := ⟨.refl, fun _ _ _ => rfl⟩
theorem StepS.weak (s : StepS M μ G H μ1 G1 H1) (h : ∀ i ∈ M, i ∈ M') : StepS M' μ G H μ1 G1 H1 := ⟨s.sl.weak fun a l i hi => l i (h i hi), fun a e l => s.agr a e fun i hi => l i (h i hi)⟩
theorem StepS.trans (s : StepS M μ G H μ1 G1 H1) (r : StepS M μ1 G1 H1 μ2 G2 H2) : StepS M μ G H μ2 G2 H2 :=
  ⟨s.sl.trans r.sl fun a e n l i hi => by rw [s.agr a e l]; exact l i hi, fun a e l => by
    rw [r.agr a (s.sl.dom a e) fun i hi => by rw [s.agr a e l]; exact l i hi]
    exact s.agr a e l⟩
theorem Step.ss (s : Step μ H μ1 H1) : StepS M μ G H μ1 G H1 := ⟨s.sl, fun _ _ _ => rfl⟩
end
def okS (c : Cfg) (K : FW) (M : List Nat) (rn : Bool) (μ : List Addr) (G : Addr → Option Nat) (H : Hp) (D : Ends) : RS → Prop
  | .nx env st => ∀ σ' H' μ' G', SI K c.ow c.Ok env st μ' G' σ' H' → StepS M μ G H μ' G' H' → D.nx σ' H'
  | .bk env st => ∀ σ' H' μ' G', SI K c.ow c.Ok env st μ' G' σ' H' → StepS M μ G H μ' G' H' → D.bk σ' H'
  | .ct env st => ∀ σ' H' μ' G', SI K c.ow c.Ok env st μ' G' σ' H' → StepS M μ G H μ' G' H' → D.ct σ' H'
  | .rt d st => ∀ v H' μ' G' t F, BoxOk K H' μ' st → μ'.length = st.length → μ'.Nodup → StepS M μ G H μ' G' H' → Rep K H' μ' d v t F → (∀ a ∈ t ++ F, a ∉ μ' ∧ c.Ok a) → (rn = true → ∀ a ∈ t, (H a = none ∨ G' a ≠ none) ∧ a ∉ F) → D.rt v H'
  | .exn x d env st => ∀ cls dd σ' H' μ' G', SI K c.ow c.Ok env st μ' G' σ' H' → StepS M μ G H μ' G' H' → XR c.CA K H' μ' c.Ok x d cls dd → c.W cls dd σ' H'
  | .bad => False
def TSv (c : Cfg) (K : FW) (M : List Nat) (rn : Bool) (s : Env → Sto → RS) : TS := fun D σ H => ∃ env st μ G, SI K c.ow c.Ok env st μ G σ H ∧ okS c K M rn μ G H D (s env st)
section
variable {c : Cfg} {K : FW} {M M' : List Nat} {rn : Bool} {μ μ1 : List Addr} {G G1 : Addr → Option Nat} {H H1 : Hp} {D : Ends} {r : RS} {p : Pv} {env : Env} {st st1 : Sto} {σ : St} {Q : VK}
theorem okS.step (h : okS c K M rn μ G H D r) (s : StepS M μ G H μ1 G1 H1) : okS c K M rn μ1 G1 H1 D r := by
  cases r with
  | nx env st => exact fun σ' H' μ' G' I s' => h σ' H' μ' G' I (s.trans s')
  | bk env st => exact fun σ' H' μ' G' I s' => h σ' H' μ' G' I (s.trans s')
  | ct env st => exact fun σ' H' μ' G' I s' => h σ' H' μ' G' I (s.trans s')
  | rt d st => exact fun v H' μ' G' t F b l n s' r po nw => h v H' μ' G' t F b l n (s.trans s') r po fun e a ha => ⟨(nw e a ha).1.imp s.sl.wasNone id, (nw e a ha).2⟩
  | exn x d env st => exact fun cls dd σ' H' μ' G' I s' x => h cls dd σ' H' μ' G' I (s.trans s') x
  | bad => exact h
theorem okS.less (h : okS c K M rn μ G H D r) (hm : ∀ i ∈ M', i ∈ M) : okS c K M' rn μ G H D r := by
  cases r with
  | nx env st => exact fun σ' H' μ' G' I s' => h σ' H' μ' G' I (s'.weak hm)
  | bk env st => exact fun σ' H' μ' G' I s' => h σ' H' μ' G' I (s'.weak hm)
  | ct env st => exact fun σ' H' μ' G' I s' => h σ' H' μ' G' I (s'.weak hm)
  | rt d st => exact fun v H' μ' G' t F b l n s' r po nw => h v H' μ' G' t F b l n (s'.weak hm) r po nw
  | exn x d env st => exact fun cls dd σ' H' μ' G' I s' x => h cls dd σ' H' μ' G' I (s'.weak hm) x
  | bad => exact h
/-- other ends -/
theorem okS.ends {D' : Ends} (h : okS c K M rn μ G H D r) (h1 : ∀ env st, r = .nx env st → okS c K M rn μ G H D' r) (h2 : ∀ env st, r = .bk env st → okS c K M rn μ G H D' r) (h3 : ∀ env st, r = .ct env st → okS c K M rn μ G H D' r) (h4 : D'.rt = D.rt) : okS c K M rn μ G H D' r := by
  cases r with
  | nx env st => exact h1 env st rfl
  | bk env st => exact h2 env st rfl
  | ct env st => exact h3 env st rfl
  | rt d st => exact fun v H' μ' G' t F b l n s' r po nw => by rw [h4]; exact h v H' μ' G' t F b l n s' r po nw
  | exn x d env st => exact h
  | bad => exact h
theorem okS.toS {α : Type} {r : R α} {f : α → Sto → RS} (I : SI K c.ow c.Ok env st μ G σ H) (h : okS c K M rn μ G H D (r.toS env f)) : Fin (fun a st1 => okS c K M rn μ G H D (f a st1)) (exE c K env μ G σ H) r := by
  cases r with
  | ok a st1 => exact h
  | exn x d st1 => exact fun cls dd H' μ' I' S' e => h cls dd σ H' μ' G I' S'.ss e
  | bad => exact h
/-- an expression at the head of a statement -/
theorem TEv.ofS {s : Env → Sto → WT.R WT.D} {f : WT.D → Sto → RS} {R' : VK} (I : SI K c.ow c.Ok env st μ G σ H) (h : okS c K M rn μ G H D ((s env st).toS env f))
    (k : ∀ x st1 v H1 μ1 t F, SI K c.ow c.Ok env st1 μ1 G σ H1 → Step μ H μ1 H1 → Held K c G p H x v t F μ1 H1 → okS c K M rn μ G H D (f x st1) → R' v H1) : TEv c K p s σ H R' :=
  ⟨env, st, μ, G, I, (h.toS I).mono (fun x st1 _ hx v H1 μ1 t F I1 S1 r po => k x st1 v H1 μ1 t F I1 S1 ⟨r, po⟩ hx) fun _ _ _ hx => hx⟩
/-- a further one -/
theorem TEv.nxtS {s : Env → Sto → WT.R WT.D} {f : WT.D → Sto → RS} {R' : VK} (S1 : Step μ H μ1 H1) (I : SI K c.ow c.Ok env st1 μ1 G σ H1) (h : okS c K M rn μ G H D ((s env st1).toS env f))
    (k : ∀ x st2 v H2 μ2 t F, SI K c.ow c.Ok env st2 μ2 G σ H2 → Step μ1 H1 μ2 H2 → Held K c G p H x v t F μ2 H2 → okS c K M rn μ G H D (f x st2) → R' v H2) : TEv c K p s σ H1 R' := by
  have h1 := (h.step S1.ss).toS I
  refine ⟨env, st1, μ1, G, I, ?_⟩
  cases e : s env st1 with
  | bad => rw [e] at h; exact h.elim
  | exn x d st2 => rw [e] at h1; exact h1
  | ok x st2 =>
    rw [e] at h
    exact fun v H2 μ2 t F I2 S2 r po => k x st2 v H2 μ2 t F I2 S2 ⟨r, po.back S1⟩ h
theorem TTv.ofS {s : Env → Sto → R Bool} {f : Bool → Sto → RS} {R' : Bool → Hp → Prop} (I : SI K c.ow c.Ok env st μ G σ H) (h : okS c K M rn μ G H D ((s env st).toS env f))
    (k : ∀ b st1 H1 μ1, SI K c.ow c.Ok env st1 μ1 G σ H1 → Step μ H μ1 H1 → okS c K M rn μ G H D (f b st1) → R' b H1) : TTv c K s σ H R' :=
  ⟨env, st, μ, G, I, (h.toS I).mono (fun b st1 _ hx H1 μ1 I1 S1 => k b st1 H1 μ1 I1 S1 hx) fun _ _ _ hx => hx⟩
theorem TIv.ofS {l lt : List Nat} {s : Env → Sto → WT.R (List WT.D)} {f : List WT.D → Sto → RS} {R' : L2.It → Hp → Prop} (I : SI K c.ow c.Ok env st μ G σ H) (h : okS c K M rn μ G H D ((s env st).toS env f))
    (k : ∀ xs st1 J H1 μ1 L, SI K c.ow c.Ok env st1 μ1 G σ H1 → Step μ H μ1 H1 → Wk K c.Ok G l J xs L μ1 H1 → (∀ a ∈ L, G a = none ∨ ∃ i ∈ lt, G a = some i) → okS c K M rn μ G H D (f xs st1) → R' J H1) : TIv c K l lt s σ H R' :=
  ⟨env, st, μ, G, I, (h.toS I).mono (fun xs st1 _ hx J H1 μ1 L I1 S1 w hl => k xs st1 J H1 μ1 L I1 S1 w (fun a ha => (hl a ha).1) hx) fun _ _ _ hx => hx⟩
end

/-! ### a name is set -/
section
variable {K : FW} {ow : Nat → Bool} {Ok : Addr → Prop} {env : Env} {st : Sto} {μ : List Addr} {G : Addr → Option Nat} {σ : St} {H : Hp} {x : WT.D} {v : V} {t F : List Addr}
/-- the owner of these lists -/
def gset (G : Addr → Option Nat) (t : List Addr) (i : Nat) : Addr → Option Nat := fun a => if a ∈ t then some i else G a
theorem gset_ne {a : Addr} {i : Nat} (h : a ∉ t) : gset G t i a = G a := if_neg h
theorem gset_in {a : Addr} {i : Nat} (h : a ∈ t) : gset G t i a = some i := if_pos h
/-- a name of lists of its own gets one that is new -/
theorem SI.own {st1 : Sto} {μ1 : List Addr} {H1 : Hp} (I : SI K ow Ok env st μ G σ H) (S : Step μ H μ1 H1) (I1 : SI K ow Ok env st1 μ1 G σ H1) {i : Nat} (hi : ow i = true) (r : Rep K H1 μ1 x v t F) (h1 : ∀ a ∈ t, H a = none ∧ a ∉ F) (h2 : ∀ a ∈ F, G a = none) (h3 : ∀ a ∈ t ++ F, a ∉ μ1 ∧ Ok a) :
    SI K ow Ok (env.set i (some x)) st1 μ1 (gset G t i) (σ.set i (some v)) H1 := by
  refine ⟨fun j d e => ?_, I1.box, I1.muLen, I1.muNd, fun a ha => ⟨?_, (I1.gmu a ha).2⟩, fun a ha => ?_, I1.okn, by simpa using I.len⟩
  · rcases slot_set e with ⟨rfl, hl, e⟩ | ⟨hne, e⟩
    · cases e
      exact ⟨v, t, F, by rw [List.getElem?_set_self (Nat.lt_of_lt_of_le hl I.len)], r, fun a ha => by rw [hi, gset_in ha]; rfl, fun a ha => by rw [gset_ne fun z => (h1 a z).2 ha]; exact h2 a ha, h3⟩
    · obtain ⟨v', t', F', e1, r', g1, g2, g3⟩ := I.slot j d e
      have n : ∀ a ∈ t' ++ F', a ∉ t := fun a ha z => r'.there a ha (h1 a z).1
      refine ⟨v', t', F', by rw [List.getElem?_set_ne (Ne.symm hne)]; exact e1, r'.step S fun a ha => (g3 a ha).1, fun a ha => ?_, fun a ha => ?_, fun a ha => ⟨S.notin (r'.there a ha) (g3 a ha).1, (g3 a ha).2⟩⟩
      · rw [gset_ne (n a (List.mem_append_left _ ha))]; exact g1 a ha
      · rw [gset_ne (n a (List.mem_append_right _ ha))]; exact g2 a ha
  · rw [gset_ne fun z => (h3 a (List.mem_append_left _ z)).1 ha]
    exact (I1.gmu a ha).1
  · by_cases z : a ∈ t
    · exact r.there a (List.mem_append_left _ z)
    · rw [gset_ne z] at ha
      exact I1.gdom a ha
theorem gset_ss {M : List Nat} {μ1 : List Addr} {H1 : Hp} {i : Nat} (S : Step μ H μ1 H1) (h : ∀ a ∈ t, H a = none) : StepS M μ G H μ1 (gset G t i) H1 := ⟨S.sl, fun a ha _ => gset_ne fun z => ha (h a z)⟩
/-- what a name gets where it holds no lists -/
theorem SI.flat (I : SI K ow Ok env st μ G σ H) {i : Nat} (r : Rep K H μ x v [] []) : SI K ow Ok (env.set i (some x)) st μ G (σ.set i (some v)) H := by
  refine ⟨fun j d e => ?_, I.box, I.muLen, I.muNd, I.gmu, I.gdom, I.okn, by simpa using I.len⟩
  rcases slot_set e with ⟨rfl, hl, e⟩ | ⟨hne, e⟩
  · cases e
    exact ⟨v, [], [], by rw [List.getElem?_set_self (Nat.lt_of_lt_of_le hl I.len)], r, fun _ h => by simp at h, fun _ h => by simp at h, fun _ h => by simp at h⟩
  · obtain ⟨v', t', F', e1, r'⟩ := I.slot j d e
    exact ⟨v', t', F', by rw [List.getElem?_set_ne (Ne.symm hne)]; exact e1, r'⟩
theorem SI.kill (I : SI K ow Ok env st μ G σ H) {i : Nat} : SI K ow Ok (env.set i none) st μ G σ H := by
  refine ⟨fun j d e => ?_, I.box, I.muLen, I.muNd, I.gmu, I.gdom, I.okn, by simpa using I.len⟩
  rcases slot_set e with ⟨_, _, e⟩ | ⟨hne, e⟩
  · cases e
  · exact I.slot j d e
end
end WT
end

section
set_option Elab.async false
set_option linter.all false
set_option maxRecDepth 100000
set_option autoImplicit false
/-! K17: values go to names. -/
namespace WT
open PySem PySem.Spec PyProof.Rows L2

def Cfg.ok (c : Cfg) (o : Addr → Prop) : Cfg := { c with Ok := o }
theorem XOk.ok {m : MC} {c : Cfg} {k : Nat} {sc : Scope} {X : Cx} (x : XOk m c k sc X) (o : Addr → Prop) : XOk m (c.ok o) k sc X :=
  { hN := x.hN, nd := x.nd, sc := x.sc, ow := x.ow, calm := x.calm, room := x.room, gd := x.gd, tk := x.tk, fns := x.fns, cons := x.cons, free := x.free, mth := x.mth, cls := x.cls, exm := x.exm }
theorem SI.less {K : FW} {ow : Nat → Bool} {Ok Ok' : Addr → Prop} {env : Env} {st : Sto} {μ : List Addr} {G : Addr → Option Nat} {σ : St} {H : Hp} (I : SI K ow Ok env st μ G σ H) (h : ∀ a, Ok a → Ok' a) : SI K ow Ok' env st μ G σ H := by
  refine ⟨fun i d e => ?_, I.box, I.muLen, I.muNd, I.gmu, I.gdom, fun a ha => h a (I.okn a ha), I.len⟩
  obtain ⟨v, t, F, e1, r, g1, g2, g3⟩ := I.slot i d e
  exact ⟨v, t, F, e1, r, g1, g2, fun a ha => ⟨(g3 a ha).1, h a (g3 a ha).2⟩⟩
/-- does the kind fit what is known? -/
def akC (m : MC) (i : Nat) (k : Ak) (p : Pv) : Bool := match k with
  | .own => m.ow i && p.new && p.inn.isEmpty
  | .pln => !m.ow i && (p.new || p.top.isEmpty) && p.inn.isEmpty
  | .nl => true
  | .n1 => !m.ow i && p.new
theorem Rep.noI {K : FW} {H : Hp} {μ : List Addr} {d : WT.D} {v : V} {t F : List Addr} (r : Rep K H μ d v t F) (h : WT.noI d = true) : F = [] := by
  cases d with
  | lst xs => cases r with
    | lst _ s => exact Reps.noL s h
  | _ => exact (Rep.noL r h).2
section
variable {m : MC} {c : Cfg} {K : FW} {M : List Nat} {rn : Bool} {μ μ1 μ2 : List Addr} {G GA : Addr → Option Nat} {H H1 H2 : Hp} {D : Ends} {p : Pv} {env envA : Env} {st st1 st2 : Sto} {σ σA : St} {x : WT.D} {v : V} {t F : List Addr}
theorem Held.pln (h : Held K c G p H x v t F μ1 H1) (gd : ∀ a, G a ≠ none → H a ≠ none) (h1 : (p.new || p.top.isEmpty) = true) (h2 : p.inn = []) : ∀ a ∈ t ++ F, G a = none ∧ a ∉ μ1 ∧ c.Ok a := fun a ha => by
  refine ⟨?_, h.po.out a ha⟩
  rcases List.mem_append.mp ha with ha | ha
  · have z := h.po.top a ha
    cases e : p.new with
    | true =>
      rw [e, if_pos rfl] at z
      cases q : G a with
      | none => rfl
      | some i => exact absurd z.1 (gd a (by rw [q]; simp))
    | false =>
      rw [e, if_neg (by simp)] at z
      rw [e, Bool.false_or, List.isEmpty_iff] at h1
      rw [h1] at z
      exact z.elim id fun ⟨i, hi, _⟩ => by simp at hi
  · have z := h.po.inn a ha
    rw [h2] at z
    exact z.elim id fun ⟨i, hi, _⟩ => by simp at hi
/-- a name set, as its kind says; T' are the lists that got an owner -/
theorem SI.putK (how : c.ow = m.ow) (I : SI K c.ow c.Ok env st μ G σ H) (S : Step μ H μ1 H1) (I1 : SI K c.ow c.Ok env st1 μ1 G σ H1) {i : Nat} {k : Ak} (h : Held K c G p H x v t F μ1 H1) (hk : akC m i k p = true) (hd : akOk k x = true) :
    ∃ (G' : Addr → Option Nat) (T : List Addr), SI K c.ow c.Ok (env.set i (some x)) st1 μ1 G' (σ.set i (some v)) H1 ∧ (∀ a ∈ T, H a = none ∧ H1 a ≠ none) ∧ (∀ a, a ∉ T → G' a = G a) := by
  cases k with
  | own =>
    simp only [akC, Bool.and_eq_true, List.isEmpty_iff] at hk
    obtain ⟨⟨h1, h2⟩, h3⟩ := hk
    have ht : ∀ a ∈ t, H a = none ∧ a ∉ F := fun a ha => by
      have z := h.po.top a ha
      rw [if_pos h2] at z
      exact z
    refine ⟨gset G t i, t, I.own S I1 (by rw [how]; exact h1) h.rep ht (fun a ha => ?_) h.po.out, fun a ha => ⟨(ht a ha).1, h.rep.there a (List.mem_append_left _ ha)⟩, fun a ha => gset_ne ha⟩
    have z := h.po.inn a ha
    rw [h3] at z
    exact z.elim id fun ⟨i, hi, _⟩ => by simp at hi
  | pln =>
    simp only [akC, Bool.and_eq_true, List.isEmpty_iff, Bool.not_eq_true'] at hk
    obtain ⟨⟨h1, h2⟩, h3⟩ := hk
    exact ⟨G, [], I1.put (by rw [how]; exact h1) h.rep (h.pln I.gdom h2 h3), fun _ h => by simp at h, fun _ _ => rfl⟩
  | nl =>
    obtain ⟨e1, e2⟩ := h.rep.noL hd
    subst e1
    subst e2
    exact ⟨G, [], I1.flat h.rep, fun _ h => by simp at h, fun _ _ => rfl⟩
  | n1 =>
    simp only [akC, Bool.and_eq_true, Bool.not_eq_true'] at hk
    obtain ⟨h1, h2⟩ := hk
    have hF : F = [] := Rep.noI h.rep hd
    subst hF
    refine ⟨G, [], I1.put (by rw [how]; exact h1) h.rep (fun a ha => ?_), fun _ h => by simp at h, fun _ _ => rfl⟩
    have ha' : a ∈ t := by simpa using ha
    have z := h.po.top a ha'
    rw [if_pos h2] at z
    refine ⟨?_, h.po.out a ha⟩
    cases q : G a with
    | none => rfl
    | some i => exact absurd z.1 (I.gdom a (by rw [q]; simp))
/-- values come one after another, and go to their names only then: σA, envA, GA as if they had gone -/
structure Acc (c : Cfg) (K : FW) (env : Env) (μ : List Addr) (G : Addr → Option Nat) (σ : St) (H : Hp) (st1 : Sto) (μ1 : List Addr) (H1 : Hp) (envA : Env) (GA : Addr → Option Nat) (σA : St) (T : List Addr) : Prop where
  act : SI K c.ow c.Ok env st1 μ1 G σ H1
  vir : SI K c.ow c.Ok envA st1 μ1 GA σA H1
  step : Step μ H μ1 H1
  tn : ∀ a ∈ T, H a = none ∧ H1 a ≠ none
  ga : ∀ a, a ∉ T → GA a = G a
theorem Acc.nil (I : SI K c.ow c.Ok env st μ G σ H) : Acc c K env μ G σ H st μ H env G σ [] := ⟨I, I, .refl, fun _ h => by simp at h, fun _ _ => rfl⟩
theorem Acc.ss {T : List Addr} (A : Acc c K env μ G σ H st1 μ1 H1 envA GA σA T) : StepS M μ G H μ1 GA H1 := ⟨A.step.sl, fun a ha _ => A.ga a fun z => ha (A.tn a z).1⟩
theorem Acc.put {T : List Addr} (how : c.ow = m.ow) (A : Acc c K env μ G σ H st1 μ1 H1 envA GA σA T) {i : Nat} {k : Ak} (I2 : SI K c.ow c.Ok env st2 μ2 G σ H2) (S2 : Step μ1 H1 μ2 H2) (h : Held K c G p H1 x v t F μ2 H2) (hT : ∀ a ∈ t ++ F, a ∉ T) (hk : akC m i k p = true) (hd : akOk k x = true) :
    ∃ (GB : Addr → Option Nat) (T' : List Addr), Acc c K env μ G σ H st2 μ2 H2 (envA.set i (some x)) GB (σA.set i (some v)) T' := by
  have V2 := A.vir.after S2 I2.box I2.muLen I2.muNd
  have h' : Held K c GA p H1 x v t F μ2 H2 := by
    refine ⟨h.rep, fun a ha => ?_, fun a ha => ?_, h.po.out⟩
    · have z := h.po.top a ha
      rw [A.ga a (hT a (List.mem_append_left _ ha))]
      exact z
    · rw [A.ga a (hT a (List.mem_append_right _ ha))]
      exact h.po.inn a ha
  obtain ⟨GB, T2, J, t2, g2⟩ := A.vir.putK how S2 V2 h' hk hd
  refine ⟨GB, T2 ++ T, I2, J, A.step.trans S2, fun a ha => ?_, fun a ha => ?_⟩
  · rcases List.mem_append.mp ha with ha | ha
    · exact ⟨A.step.wasNone (t2 a ha).1, (t2 a ha).2⟩
    · exact ⟨(A.tn a ha).1, S2.dom a (A.tn a ha).2⟩
  · rw [g2 a fun z => ha (List.mem_append_left _ z), A.ga a fun z => ha (List.mem_append_right _ z)]
/-- a further value, away from those -/
theorem Acc.eval {T : List Addr} {s : Env → Sto → WT.R WT.D} {f : WT.D → Sto → RS} {R' : VK} (I : SI K c.ow c.Ok env st μ G σ H) (A : Acc c K env μ G σ H st1 μ1 H1 envA GA σA T) (h : okS c K M rn μ G H D ((s env st1).toS env f))
    (k : ∀ x st2 v H2 μ2 t F, SI K c.ow c.Ok env st2 μ2 G σ H2 → Step μ1 H1 μ2 H2 → Held K c G p H1 x v t F μ2 H2 → (∀ a ∈ t ++ F, a ∉ T) → okS c K M rn μ G H D (f x st2) → R' v H2) : ∃ o, TEv (c.ok o) K p s σ H1 R' := by
  refine ⟨fun a => c.Ok a ∧ a ∉ T, env, st1, μ1, G, ?_, ?_⟩
  · refine ⟨fun i d e => ?_, A.act.box, A.act.muLen, A.act.muNd, A.act.gmu, A.act.gdom, fun a ha => ⟨A.act.okn a ha, fun z => (A.tn a z).2 ha⟩, A.act.len⟩
    obtain ⟨v, t, F, e1, r, g1, g2, g3⟩ := I.slot i d e
    exact ⟨v, t, F, e1, r.step A.step fun a ha => (g3 a ha).1, g1, g2, fun a ha => ⟨A.step.notin (r.there a ha) (g3 a ha).1, (g3 a ha).2, fun z => r.there a ha (A.tn a z).1⟩⟩
  · have h1 := (h.step A.step.ss).toS A.act
    cases e : s env st1 with
    | bad => rw [e] at h; exact h.elim
    | exn x d st2 =>
      rw [e] at h1
      exact fun cls dd H' μ' I' S' xr => h1 cls dd H' μ' (I'.less fun a z => z.1) S' (xr.mono fun a z => z.1)
    | ok x st2 =>
      rw [e] at h
      exact fun v H2 μ2 t F I2 S2 r po => k x st2 v H2 μ2 t F (I2.less fun a z => z.1) S2 ⟨r, po.top, po.inn, fun a ha => ⟨(po.out a ha).1, (po.out a ha).2.1⟩⟩ (fun a ha => (po.out a ha).2.2) h
end
end WT
end

section
set_option Elab.async false
set_option linter.all false
set_option maxRecDepth 100000
set_option autoImplicit false
/-! K18: lists are changed; which text a statement is. -/
namespace WT
open PySem PySem.Spec PyProof.Rows L2

section
variable {K : FW} {ow : Nat → Bool} {Ok : Addr → Prop} {env : Env} {st : Sto} {μ : List Addr} {G : Addr → Option Nat} {σ : St} {H : Hp} {M : List Nat}
theorem Reps.flatMu {ds : List D} {vs : List V} (r : Reps K H μ ds vs []) {L : Addr → Prop} {μ' : List Addr} {H' : Hp} (s : SL L μ H μ' H') : Reps K H' μ' ds vs [] := r.sl s fun _ h => by simp at h
theorem SI.chgOwn (I : SI K ow Ok env st μ G σ H) {i : Nat} (hi : ow i = true) (hM : i ∈ M) {xs ys : List D} (e : WT.slot env i = some (.lst xs)) :
    ∃ a vs F, σ[i]? = some (some (.ref a)) ∧ H a = some (.lst vs) ∧ Reps K H μ xs vs F ∧ (∀ b ∈ F, G b = none ∧ b ∉ μ ∧ Ok b) ∧ ∀ vs' F', Reps K H μ ys vs' F' → (∀ b ∈ F', G b = none ∧ b ∉ μ ∧ Ok b) →
      SI K ow Ok (env.set i (some (.lst ys))) st μ G σ (upd H a (.lst vs')) ∧ StepS M μ G H μ G (upd H a (.lst vs')) := by
  obtain ⟨v, t, F, e1, r, g1, g2, g3⟩ := I.slot i _ e
  cases r with
  | lst ha rs =>
    rename_i a vs
    have ga : G a = some i := by rw [g1 a (by simp), hi]; rfl
    have na : a ∉ μ := (g3 a (by simp)).1
    refine ⟨a, vs, F, e1, ha, rs, fun b hb => ⟨g2 b hb, g3 b (by simp [hb])⟩, fun vs' F' rs' hF' => ?_⟩
    have sl : SL (· ≠ a) μ H μ (upd H a (.lst vs')) := SL.upd ha fun z => z rfl
    have ne : ∀ b, G b ≠ some i → b ≠ a := fun b hb z => hb (by rw [z]; exact ga)
    refine ⟨⟨fun j d ej => ?_, I.box.sl sl fun b hb ws eb => ?_, I.muLen, I.muNd, fun b hb => ⟨(I.gmu b hb).1, sl.dom b (I.gmu b hb).2⟩, fun b hb => sl.dom b (I.gdom b hb), fun b hb => I.okn b (sl.wasNone hb), by simpa using I.len⟩, SL.upd ha fun z => z i hM ga, fun _ _ _ => rfl⟩
    · rcases slot_set ej with ⟨rfl, hl, ej⟩ | ⟨hne, ej⟩
      · cases ej
        refine ⟨.ref a, [a], F', e1, .lst upd_same (rs'.sl sl fun b hb => ⟨(hF' b hb).2.1, ne b (by rw [(hF' b hb).1]; simp)⟩), fun b hb => g1 b hb, fun b hb => (hF' b hb).1, fun b hb => ?_⟩
        rcases List.mem_append.mp hb with hb | hb
        · exact g3 b (List.mem_append_left _ hb)
        · exact (hF' b hb).2
      · obtain ⟨v', t', F2, e2, r2, k1, k2, k3⟩ := I.slot j d ej
        refine ⟨v', t', F2, e2, r2.sl sl fun b hb => ⟨(k3 b hb).1, ne b ?_⟩, k1, k2, k3⟩
        rcases List.mem_append.mp hb with hb | hb
        · rw [k1 b hb]
          split
          · exact fun z => hne (Option.some.inj z)
          · simp
        · rw [k2 b hb]; simp
    · rw [upd_ne fun z => na (by rw [← z]; exact hb)]
      exact eb
theorem SI.chgRef (I : SI K ow Ok env st μ G σ H) {i k : Nat} {xs ys : List D} (e : WT.slot env i = some (.ref k)) (ex : st[k]? = some xs) :
    ∃ a vs, σ[i]? = some (some (.ref a)) ∧ H a = some (.lst vs) ∧ Reps K H μ xs vs [] ∧ ∀ vs', Reps K H μ ys vs' [] →
      SI K ow Ok env (st.set k ys) μ G σ (upd H a (.lst vs')) ∧ StepS M μ G H μ G (upd H a (.lst vs')) := by
  obtain ⟨v, t, F, e1, r, g1, g2, g3⟩ := I.slot i _ e
  cases r with
  | ref hk =>
    rename_i a
    obtain ⟨a', vs, hk', ha, rs⟩ := I.box k xs ex
    rw [hk] at hk'
    cases hk'
    have ma : a ∈ μ := List.mem_of_getElem? hk
    refine ⟨a, vs, e1, ha, rs, fun vs' rs' => ?_⟩
    have sl : SL (· ≠ a) μ H μ (upd H a (.lst vs')) := SL.upd ha fun z => z rfl
    refine ⟨⟨fun j d ej => ?_, fun j zs ej => ?_, by rw [List.length_set]; exact I.muLen, I.muNd, fun b hb => ⟨(I.gmu b hb).1, sl.dom b (I.gmu b hb).2⟩, fun b hb => sl.dom b (I.gdom b hb), fun b hb => I.okn b (sl.wasNone hb), I.len⟩, ⟨fun b o eb nb _ => ?_, sl.tups, sl.frzs, sl.dom, sl.ext⟩, fun _ _ _ => rfl⟩
    · obtain ⟨v', t', F2, e2, r2, k1, k2, k3⟩ := I.slot j d ej
      exact ⟨v', t', F2, e2, r2.sl sl fun b hb => ⟨(k3 b hb).1, fun z => (k3 b hb).1 (by rw [z]; exact ma)⟩, k1, k2, k3⟩
    · by_cases hj : j = k
      · subst hj
        rw [List.getElem?_set_self (List.getElem?_eq_some_iff.mp ex).1] at ej
        cases ej
        exact ⟨a, vs', hk, upd_same, rs'.flatMu sl⟩
      · rw [List.getElem?_set_ne (Ne.symm hj)] at ej
        obtain ⟨b, ws, hb, eb, rb⟩ := I.box j zs ej
        refine ⟨b, ws, hb, ?_, rb.flatMu sl⟩
        rw [upd_ne ?_]
        · exact eb
        · intro z
          subst z
          have h1 := (List.getElem?_eq_some_iff.mp hb).1
          have h2 := (List.getElem?_eq_some_iff.mp hk).1
          have h3 := (List.getElem?_eq_some_iff.mp hb).2
          have h4 := (List.getElem?_eq_some_iff.mp hk).2
          exact hj ((List.getElem_inj I.muNd).mp (h3.trans h4.symm))
    · rw [upd_ne fun z => nb (by rw [z]; exact ma)]
      exact eb
end

/-! ### which text a statement is, and what must be known of it -/
def fnB (sc : Scope) : Bool := match sc.kind with | .function => true | _ => false
def lclB (sc : Scope) (x : Str) : Bool := match sc.names.lookup x with | some .local => true | _ => false
def isLC : Expr → Bool
  | .ListComp _ _ _ _ => true
  | .SetComp _ _ _ _ => true
  | .DictComp _ _ _ _ _ => true
  | _ => false
def isComp : E → Bool
  | .comp _ _ _ _ _ => true
  | _ => false
def swL (sc : Scope) (x : Str) (p : Pos) : Expr → Bool
  | .ListComp _ _ scope pos => p.line == pos.line && lclB sc x && !(scope.names.any fun (n, k) => n == x && (k == .local || k == .cell))
  | _ => false
def isTupX : Expr → Bool
  | .Tuple _ _ _ => true
  | _ => false
def stars : List Expr → Bool := fun vs => vs.any fun | .Starred .. => true | _ => false
/-- a tuple display is taken apart as it stands: no stores from the right -/
def swNone (t y : Expr) : Bool := match t, y with
  | .Tuple ts _ _, .Tuple vs _ _ => !(ts.length == 2 || ts.length == 3) || vs.length != ts.length || vs.all (foldedForSure 8)
  | _, _ => true
def swPair (sc : Scope) (x y : Str) (px py : Pos) (vs : List Expr) : Bool := lclB sc x && lclB sc y && py.line == px.line && !(vs.all (foldedForSure 8)) && !(vs.all (constantsAlone 8))
def swTri (sc : Scope) (x y z : Str) (px py pz : Pos) (vs : List Expr) : Bool := lclB sc x && lclB sc y && lclB sc z && py.line == px.line && pz.line == px.line && !(vs.all (foldedForSure 8)) && !(vs.all (constantsAlone 8))
def pvK (m : MC) (e : E) (f : Pv → Bool) : Bool := match pvE m e with
  | some p => f p
  | none => false
def plnP (p : Pv) : Bool := (p.new || p.top.isEmpty) && p.inn.isEmpty
def ownVar (m : MC) : E → Bool
  | .var i => m.ow i
  | _ => false
def nmC (m : MC) (sc : Scope) (i : Nat) (x : Str) : Bool := decide (m.N[i]? = some x) && locB sc x
def isKill : S → Option Nat
  | .kill i => some i
  | _ => none
def isDead : S → Bool
  | .dead => true
  | _ => false
mutual
/-- whose lists are changed -/
def tchs : S → List Nat
  | .move _ j => [j]
  | .setIx i o _ _ _ => if o then [i] else []
  | .augIx i o _ _ _ => if o then [i] else []
  | .app i o _ _ => if o then [i] else []
  | .mth i o _ _ => if o then [i] else []
  | .dput i _ _ => [i]
  | .ite _ a b => tchss a ++ tchss b
  | .whl _ b => tchss b
  | .for_ _ _ b => tchss b
  | .popApp i j oi oj _ => (if oi then [i] else []) ++ (if oj then [j] else [])
  | .popDrop j o _ => if o then [j] else []
  | .try_ _ b _ => tchss b
  | _ => []
def tchss : Ss → List Nat
  | .nil => []
  | .cons s ss => tchs s ++ tchss ss
end
def augOp : Operator → Bool
  | .Add => true
  | .Sub => true
  | .Mult => true
  | _ => false
def cRet (m : MC) (sc : Scope) (rn : Bool) (e : E) (st : Stmt) : Bool := match st with
  | .Return (some x) _ => mE m e sc x && pvK m e fun p => !rn || p.new || ownVar m e
  | _ => false
def cRetN (st : Stmt) : Bool := match st with
  | .Return none _ => true
  | _ => false
def cSet (m : MC) (sc : Scope) (i : Nat) (k : Ak) (e : E) (st : Stmt) : Bool := match st with
  | .Assign [.Name x p] y _ => nmC m sc i x && mE m e sc y && pvK m e (akC m i k) && (!isLC y || !lclB sc x || (isComp e && swL sc x p y))
  | _ => false
def cSetT (m : MC) (sc : Scope) (tg : Tg) (e : E) (st : Stmt) : Bool := match st with
  | .Assign [t] y _ => isTupX t && mTg m sc tg t && mE m e sc y && pvK m e plnP && (tg.slots.all fun i => !m.ow i) && swNone t y
  | _ => false
def cPar (m : MC) (sc : Scope) (i j : Nat) (ki kj : Ak) (a b : E) (st : Stmt) : Bool := match st with
  | .Assign [.Tuple [.Name x px, .Name y py] _ _] (.Tuple [u, v] _ _) _ => nmC m sc i x && nmC m sc j y && decide (i ≠ j) && mE m a sc u && mE m b sc v && pvK m a (akC m i ki) && pvK m b (akC m j kj) && (swPair sc x y px py [u, v] || ([u, v].all (foldedForSure 8) || (!lclB sc x || !lclB sc y)))
  | _ => false
def cPar3 (m : MC) (sc : Scope) (i j l : Nat) (ki kj kl : Ak) (a b c : E) (st : Stmt) : Bool := match st with
  | .Assign [.Tuple [.Name x px, .Name y py, .Name z pz] _ _] (.Tuple [u, v, w] _ _) _ => nmC m sc i x && nmC m sc j y && nmC m sc l z && decide (i ≠ j) && decide (i ≠ l) && decide (j ≠ l) && mE m a sc u && mE m b sc v && mE m c sc w &&
      pvK m a (akC m i ki) && pvK m b (akC m j kj) && pvK m c (akC m l kl) && (swTri sc x y z px py pz [u, v, w] || ([u, v, w].all (foldedForSure 8) || (!lclB sc x || !lclB sc y || !lclB sc z)))
  | _ => false
def cMove (m : MC) (sc : Scope) (i j : Nat) (st : Stmt) : Bool := match st with
  | .Assign [.Name x _] (.Name y _) _ => nmC m sc i x && decide (m.N[j]? = some y) && visB sc y && plB y && decide (m.ow i = m.ow j) && decide (i ≠ j)
  | _ => false
def cAug (m : MC) (sc : Scope) (i : Nat) (op : Operator) (e : E) (st : Stmt) : Bool := match st with
  | .AugAssign (.Name x _) op' y _ => nmC m sc i x && decide (op = op') && augOp op && mE m e sc y && pvK m e fun _ => true
  | _ => false
def cSetIx (m : MC) (sc : Scope) (i : Nat) (o nl : Bool) (ix e : E) (st : Stmt) : Bool := match st with
  | .Assign [.Subscript (.Name x _) z _] y _ => decide (m.N[i]? = some x) && visB sc x && plB x && mE m ix sc z && mE m e sc y && (!o || m.ow i) && (pvK m e fun p => nl || plnP p) && pvK m ix fun _ => true
  | _ => false
def cAugIx (m : MC) (sc : Scope) (i : Nat) (o : Bool) (op : Operator) (ix e : E) (st : Stmt) : Bool := match st with
  | .AugAssign (.Subscript (.Name x _) z _) op' y _ => decide (m.N[i]? = some x) && visB sc x && plB x && mE m ix sc z && mE m e sc y && decide (op = op') && augOp op && (!o || m.ow i) && (pvK m e fun _ => true) && pvK m ix fun _ => true
  | _ => false
def cApp (m : MC) (sc : Scope) (i : Nat) (o nl : Bool) (e : E) (st : Stmt) : Bool := match st with
  | .Expr (.Call (.Attribute (.Name x _) f ap) [y] [] cp) _ => f == ("append" : Str) && decide (m.N[i]? = some x) && visB sc x && plB x && mE m e sc y && (!o || m.ow i) && (pvK m e fun p => nl || plnP p) && ap.endLine == cp.line
  | _ => false
def Mth.nm : Mth → Str
  | .extend => "extend"
  | .insert => "insert"
  | .reverse => "reverse"
def cMth (m : MC) (sc : Scope) (i : Nat) (o : Bool) (f : Mth) (es : Es) (st : Stmt) : Bool := match st with
  | .Expr (.Call (.Attribute (.Name x _) n ap) (y :: ys) [] cp) _ => n == f.nm && decide (m.N[i]? = some x) && visB sc x && plB x && mEs m es sc (y :: ys) && (!o || m.ow i) && (pvEs m es).isSome && ap.endLine == cp.line && decide (ys.length ≤ 1) && !decide (f = .reverse)
  | _ => false
def cDput (m : MC) (sc : Scope) (i : Nat) (k e : E) (st : Stmt) : Bool := match st with
  | .Assign [.Subscript (.Name x _) z _] y _ => decide (m.N[i]? = some x) && visB sc x && plB x && mE m k sc z && mE m e sc y && m.ow i && !isLC y && (pvK m e fun _ => true) && pvK m k fun _ => true
  | _ => false
def cDrop (m : MC) (sc : Scope) (e : E) (st : Stmt) : Bool := match st with
  | .Expr x _ => mE m e sc x && !isLC x && pvK m e fun _ => true
  | _ => false
def cBrk (st : Stmt) : Bool := match st with
  | .Break _ => true
  | _ => false
def cCont (st : Stmt) : Bool := match st with
  | .Continue _ => true
  | _ => false
def cPass (st : Stmt) : Bool := match st with
  | .Pass _ => true
  | _ => false
def cIf (m : MC) (sc : Scope) (e : E) (f f' : List Stmt → Bool) (st : Stmt) : Bool := match st with
  | .If x p q _ => mE m e sc x && tOk e && (pvK m e fun _ => true) && f p && f' q
  | _ => false
def cWh (m : MC) (sc : Scope) (e : E) (f : List Stmt → Bool) (st : Stmt) : Bool := match st with
  | .While x p [] _ => mE m e sc x && tOk e && (pvK m e fun _ => true) && f p
  | _ => false
def cFor (m : MC) (sc : Scope) (tg : Tg) (it : It) (M : List Nat) (f : List Stmt → Bool) (st : Stmt) : Bool := match st with
  | .For t i p [] _ => mTg m sc tg t && mIt m it sc i && itTg it tg && (match pvIt m it with | some l => l.isEmpty | none => false) && (tg.slots.all fun i => !m.ow i) && ((pvAll m it).all fun i => decide (i ∉ M)) && f p
  | _ => false
def cCons (d : Bool) (k : Bool) (f : List Stmt → Bool) (f1 : Stmt → Bool) (f2 : List Stmt → Bool) (stmts : List Stmt) : Bool := d || (if k then f stmts else match stmts with
    | st :: r => f1 st && f2 r
    | [] => false)
def cRaise (m : MC) (sc : Scope) (c : Str) (e : E) (st : Stmt) : Bool := match st with
  | .Raise (some (.Call (.Name x _) [y] [] _)) none _ => x == c && glB sc x && plB x && decide (x ∈ m.cls) && mE m e sc y && pvK m e fun _ => true
  | .Raise (some (.Call (.Name x _) [] [kw] _)) none _ => x == c && glB sc x && plB x && decide (x ∈ m.cls) && mE m e sc kw.value && kwsM [kw] [("value" : Str)] && pvK m e fun _ => true
  | _ => false
def cPopApp (m : MC) (sc : Scope) (i j : Nat) (oi oj : Bool) (e : E) (st : Stmt) : Bool := match st with
  | .Expr (.Call (.Attribute (.Name x _) f ap) [.Call (.Attribute (.Name z _) f2 ap2) [y] [] cp2] [] cp) _ => f == ("append" : Str) && f2 == ("pop" : Str) && decide (m.N[i]? = some x) && visB sc x && plB x && decide (m.N[j]? = some z) && visB sc z && plB z &&
      mE m e sc y && (!oi || m.ow i) && oj && m.ow j && decide (i ≠ j) && ap.endLine == cp.line && ap2.endLine == cp2.line && pvK m e fun _ => true
  | _ => false
def cPopDrop (m : MC) (sc : Scope) (j : Nat) (o : Bool) (e : E) (st : Stmt) : Bool := match st with
  | .Expr (.Call (.Attribute (.Name z _) f2 ap2) [y] [] cp2) _ => f2 == ("pop" : Str) && decide (m.N[j]? = some z) && visB sc z && plB z && mE m e sc y && o && m.ow j && ap2.endLine == cp2.line && pvK m e fun _ => true
  | _ => false
def xaM (m : MC) (nm : Nat) (a : Xa) (x : Expr) : Bool := match a with
  | .str s => (match x with
    | .Constant (.str y) _ _ => s == y
    | _ => false)
  | .bl s => (match x with
    | .Constant (.bool y) _ _ => s == y
    | _ => false)
  | .non => (match x with
    | .Constant .none _ _ => true
    | _ => false)
  | .val => (match x with
    | .Attribute (.Name n _) f _ => f == ("value" : Str) && decide (m.N[nm]? = some n) && plB n
    | _ => false)
def xasM (m : MC) (nm : Nat) : List Xa → List Expr → Bool
  | [], es => es.isEmpty
  | a :: as, es => (match es with
    | [] => false
    | e :: es => xaM m nm a e && xasM m nm as es)
def xsM (m : MC) (nm : Nat) (e : Xs) (x : Expr) : Bool := match e with
  | .atom a => xaM m nm a x
  | .tup as => (match x with
    | .Tuple es _ _ => decide (as.length ≤ 100) && xasM m nm as es
    | _ => false)
  | .lst as => (match x with
    | .List es _ => decide (as.length ≤ 100) && xasM m nm as es
    | _ => false)
def xsNew : Xs → Bool
  | .atom .val => false
  | _ => true
def sxM (m : MC) (sc : Scope) (rn : Bool) (nm : Nat) (s : Sx) (st : Stmt) : Bool := match s with
  | .set j e => (match st with
    | .Assign [.Name y _] z _ => nmC m sc j y && decide (j ≠ nm) && xsM m nm e z
    | _ => false)
  | .keep j => (match st with
    | .Assign [.Name y _] (.Name z _) _ => nmC m sc j y && decide (j ≠ nm) && decide (m.N[nm]? = some z) && plB z
    | _ => false)
  | .ret e => (match st with
    | .Return (some z) _ => xsM m nm e z && (!rn || xsNew e)
    | _ => false)
def clM (m : MC) (sc : Scope) (rn : Bool) (c : Cls) (h : ExceptHandler) : Bool := match h with
  | .ExceptHandler (some (.Name x _)) (some n) [s] _ => x == c.cls && glB sc x && plB x && decide (x ∈ m.cls) && (c.all == (x == m.base)) && decide (m.N[c.nm]? = some n) && lclB sc n && plB n && sxM m sc rn c.nm c.body s
  | _ => false
def clsM (m : MC) (sc : Scope) (rn : Bool) : List Cls → List ExceptHandler → Bool
  | [], hs => hs.isEmpty
  | c :: cs, hs => (match hs with
    | [] => false
    | h :: hs => clM m sc rn c h && clsM m sc rn cs hs)
def noOwn (m : MC) : Bool := (List.range m.N.length).all fun i => !m.ow i
def cTry (m : MC) (sc : Scope) (rn : Bool) (n : Nat) (f : List Stmt → Bool) (cs : List Cls) (st : Stmt) : Bool := match st with
  | .Try body (h :: hs) [] [] _ => decide (n ≤ m.N.length) && f body && noOwn m && clsM m sc rn cs (h :: hs)
  | _ => false
mutual
def cS (m : MC) (sc : Scope) (rn : Bool) : S → Stmt → Bool
  | .ret e, st => cRet m sc rn e st
  | .retN, st => cRetN st
  | .set i k e, st => cSet m sc i k e st
  | .setT tg e, st => cSetT m sc tg e st
  | .par i j ki kj a b, st => cPar m sc i j ki kj a b st
  | .par3 i j l ki kj kl a b c, st => cPar3 m sc i j l ki kj kl a b c st
  | .move i j, st => cMove m sc i j st
  | .aug i op e, st => cAug m sc i op e st
  | .setIx i o nl ix e, st => cSetIx m sc i o nl ix e st
  | .augIx i o op ix e, st => cAugIx m sc i o op ix e st
  | .app i o nl e, st => cApp m sc i o nl e st
  | .mth i o f es, st => cMth m sc i o f es st
  | .dput i k e, st => cDput m sc i k e st
  | .ite e a b, st => cIf m sc e (fun p => cSs m sc rn a p) (fun q => cSs m sc rn b q) st
  | .whl e a, st => cWh m sc e (fun p => cSs m sc rn a p) st
  | .for_ tg it a, st => cFor m sc tg it (tchss a) (fun p => cSs m sc rn a p) st
  | .brk, st => cBrk st
  | .cont, st => cCont st
  | .pass, st => cPass st
  | .drop e, st => cDrop m sc e st
  | .kill _, _ => false
  | .raise_ c e, st => cRaise m sc c e st
  | .popApp i j oi oj e, st => cPopApp m sc i j oi oj e st
  | .popDrop j o e, st => cPopDrop m sc j o e st
  | .try_ n b cs, st => cTry m sc rn n (fun p => cSs m sc rn b p) cs st
  | .dead, _ => true
def cSs (m : MC) (sc : Scope) (rn : Bool) : Ss → List Stmt → Bool
  | .nil, stmts => stmts.isEmpty
  | .cons s ss, stmts => cCons (isDead s) (isKill s).isSome (fun l => cSs m sc rn ss l) (fun st => cS m sc rn s st) (fun l => cSs m sc rn ss l) stmts
end
end WT
end

section
set_option Elab.async false
set_option linter.all false
set_option maxRecDepth 100000
set_option autoImplicit false
/-! K19: statements do what they are evaluated to. -/
namespace WT
open PySem PySem.Spec PyProof.Rows L2

structure XS (m : MC) (c : Cfg) (k : Nat) (sc : Scope) (X : Cx) : Prop where
  ok : XOk m c k sc X
  fn : ∀ x, X.fn x = true
  po : PassesOwn (model X.prog X.w) X.A X.env X.xe
  kind : sc.kind = .function
  stk : X.stack = X.env :: X.outer
  fr : X.env.frame = some X.env.locals
def SndS (m : MC) (g : GE) (k : Nat) (rn : Bool) (s : S) : Prop := ∀ (c : Cfg) (sc : Scope) (X : Cx) (st : Stmt), c.g = g → XS m c k sc X → cS m sc rn s st = true → PS X st (TSv c X.KW (tchs s) rn (evS g s))
def SndSs (m : MC) (g : GE) (k : Nat) (rn : Bool) (s : Ss) : Prop := ∀ (c : Cfg) (sc : Scope) (X : Cx) (st : List Stmt), c.g = g → XS m c k sc X → cSs m sc rn s st = true → PSs X st (TSv c X.KW (tchss s) rn (evSs g s))
theorem pvK_of {m : MC} {e : E} {f : Pv → Bool} (h : pvK m e f = true) : ∃ p, pvE m e = some p ∧ f p = true := by
  unfold pvK at h
  split at h
  · exact ⟨_, by assumption, h⟩
  · cases h
theorem sw_plain {y : Expr} {t : Option Expr} {l : Nat} {env : PySem.Env} (h : isLC y = false) : swapsWith y t l env = pure false := by
  cases y <;> first | rfl | (cases h; done)
theorem sw_tup {y t : Expr} {l : Nat} {env : PySem.Env} (h : isTupX t = true) : swapsWithSole [t] y l env = pure false := by
  cases t <;> first | (cases h; done) | skip
  cases y <;> rfl
theorem sw_none {t y : Expr} {env : PySem.Env} (ht : isTupX t = true) (h : swNone t y = true) : swappedStores [t] y env = pure none := by
  cases t with
  | Tuple ts k p =>
    cases y with
    | Tuple vs k2 p2 =>
      simp only [swNone, Bool.or_eq_true] at h
      unfold swappedStores
      simp only [pure_bind]
      rcases h with (h | h) | h
      · rw [if_pos (by rw [h]; rfl)]
      · rw [if_pos (by rw [h]; simp)]
      · split
        · rfl
        · split
          · rfl
          · split
            · rfl
            · rfl
    | _ => rfl
  | _ => cases ht
theorem lclB_of {sc : Scope} {x : Str} (h : lclB sc x = true) : sc.names.lookup x = some .local := by
  unfold lclB at h
  split at h
  · assumption
  · cases h
theorem blkFn {env : PySem.Env} (h : env.scope.kind = .function) : env.blockKind = .function := by
  unfold Env.blockKind
  rw [h]
  rfl
theorem kindOf_lcl {env : PySem.Env} {x : Str} (h : lclB env.scope x = true) : env.kindOf x = some .local := lclB_of h
theorem sw_pair {x y : Str} {px py pt pt2 : Pos} {kt k2 : Nat} {u v : Expr} {env : PySem.Env} (hk : env.scope.kind = .function) (hne : x ≠ y) (hu : plainX u = true) (hv : plainX v = true) (h : swPair env.scope x y px py [u, v] = true) :
    swappedStores [.Tuple [.Name x px, .Name y py] kt pt] (.Tuple [u, v] k2 pt2) env = pure (some [x, y]) := by
  simp only [swPair, Bool.and_eq_true, Bool.not_eq_true'] at h
  obtain ⟨⟨⟨⟨h1, h2⟩, h3⟩, h4⟩, h5⟩ := h
  have e1 : (x == y) = false := by simpa using hne
  unfold swappedStores
  simp only [pure_bind, blkFn hk, List.any_cons, List.any_nil, Expr.pos, List.head?, Option.map_some, Option.getD_some, List.filterMap_cons, List.filterMap_nil, kindOf_lcl h1, kindOf_lcl h2, h3, h4, h5, beq_self_eq_true, Bool.and_self, if_true, List.length_cons, List.length_nil]
  rw [if_neg (by simp), if_neg ?_, if_neg (by simp [List.eraseDups_cons, hne.symm, e1])]
  · rfl
  · have hs : ∀ w : Expr, plainX w = true → (match w with | .Starred .. => true | _ => false) = false := fun w hw => by cases w <;> first | rfl | (cases hw; done)
    intro z
    rw [Bool.or_eq_true, Bool.or_eq_true] at z
    rcases z with z | z | z
    · have := hs u hu
      exact absurd (this.symm.trans z) (by decide)
    · have := hs v hv
      exact absurd (this.symm.trans z) (by decide)
    · cases z
theorem kindOf_ncl {env : PySem.Env} {x : Str} (h : lclB env.scope x = false) : (env.kindOf x == some .local) = false := by
  refine Bool.eq_false_iff.mpr fun e => ?_
  have e2 : env.scope.names.lookup x = some .local := eq_of_beq e
  unfold lclB at h
  rw [e2] at h
  cases h
theorem sw_cell {x y : Str} {px py pt pt2 : Pos} {kt k2 : Nat} {u v : Expr} {env : PySem.Env} (h : (!lclB env.scope x || !lclB env.scope y) = true) :
    swappedStores [.Tuple [.Name x px, .Name y py] kt pt] (.Tuple [u, v] k2 pt2) env = pure none := by
  unfold swappedStores
  simp only [pure_bind]
  split
  · rfl
  · split
    · rfl
    · rw [Bool.or_eq_true, Bool.not_eq_true', Bool.not_eq_true'] at h
      refine if_pos ?_
      rcases h with h | h
      · simp only [List.filterMap_cons, List.filterMap_nil, kindOf_ncl h, Bool.false_and]
        split <;> split <;> simp_all
      · simp only [List.filterMap_cons, List.filterMap_nil, kindOf_ncl h, Bool.false_and]
        split <;> split <;> simp_all
theorem sw_cell3 {x y z : Str} {px py pz pt pt2 : Pos} {kt k2 : Nat} {u v w : Expr} {env : PySem.Env} (h : lclB env.scope x = false ∨ lclB env.scope y = false ∨ lclB env.scope z = false) :
    swappedStores [.Tuple [.Name x px, .Name y py, .Name z pz] kt pt] (.Tuple [u, v, w] k2 pt2) env = pure none := by
  unfold swappedStores
  simp only [pure_bind]
  split
  · rfl
  · split
    · rfl
    · refine if_pos ?_
      rcases h with h | h | h
      · simp only [List.filterMap_cons, List.filterMap_nil, kindOf_ncl h, Bool.false_and]
        split <;> split <;> simp_all
        all_goals (try split) <;> simp_all
      · simp only [List.filterMap_cons, List.filterMap_nil, kindOf_ncl h, Bool.false_and]
        split <;> split <;> simp_all
        all_goals (try split) <;> simp_all
      · simp only [List.filterMap_cons, List.filterMap_nil, kindOf_ncl h, Bool.false_and]
        split <;> split <;> simp_all
        all_goals (try split) <;> simp_all
theorem sw_ncl {y : Expr} {x : Str} {px : Pos} {l : Nat} {env : PySem.Env} (h : lclB env.scope x = false) : swapsWith y (some (.Name x px)) l env = pure false := by
  cases y <;> first | rfl | skip
  all_goals
    unfold swapsWith
    simp only [pure_bind]
    rw [kindOf_ncl h, Bool.and_false, Bool.false_and, Bool.false_and]
theorem sw_tri {x y z : Str} {px py pz pt pt2 : Pos} {kt k2 : Nat} {u v w : Expr} {env : PySem.Env} (hk : env.scope.kind = .function) (hxy : x ≠ y) (hxz : x ≠ z) (hyz : y ≠ z) (hu : plainX u = true) (hv : plainX v = true) (hw : plainX w = true) (h : swTri env.scope x y z px py pz [u, v, w] = true) :
    swappedStores [.Tuple [.Name x px, .Name y py, .Name z pz] kt pt] (.Tuple [u, v, w] k2 pt2) env = pure (some [x, y, z]) := by
  simp only [swTri, Bool.and_eq_true, Bool.not_eq_true'] at h
  obtain ⟨⟨⟨⟨⟨⟨h1, h2⟩, h3⟩, h6⟩, h7⟩, h4⟩, h5⟩ := h
  have e1 : (x == y) = false := by simpa using hxy
  have e2 : (x == z) = false := by simpa using hxz
  have e3 : (y == z) = false := by simpa using hyz
  unfold swappedStores
  simp only [pure_bind, blkFn hk, List.any_cons, List.any_nil, Expr.pos, List.head?, Option.map_some, Option.getD_some, List.filterMap_cons, List.filterMap_nil, kindOf_lcl h1, kindOf_lcl h2, kindOf_lcl h3, h6, h7, h4, h5, beq_self_eq_true, Bool.and_self, if_true, List.length_cons, List.length_nil]
  rw [if_neg (by simp), if_neg ?_, if_neg (by simp [List.eraseDups_cons, hxy.symm, hxz.symm, hyz.symm, e1, e2, e3])]
  · rfl
  · have hs : ∀ w : Expr, plainX w = true → (match w with | .Starred .. => true | _ => false) = false := fun w hw => by cases w <;> first | rfl | (cases hw; done)
    intro z
    rw [Bool.or_eq_true, Bool.or_eq_true, Bool.or_eq_true] at z
    rcases z with z | z | z | z
    · exact absurd ((hs u hu).symm.trans z) (by decide)
    · exact absurd ((hs v hv).symm.trans z) (by decide)
    · exact absurd ((hs w hw).symm.trans z) (by decide)
    · cases z
end WT
end

section
set_option Elab.async false
set_option linter.all false
set_option maxRecDepth 100000
set_option autoImplicit false
/-! K19t: try with several clauses that name the error. -/
namespace WT
open PySem PySem.Spec PyProof.Rows L2

abbrev SuR := Addr → Value → Option Addr → TS
/-- behind a suite the clause's name is gone; the error may be kept -/
def cutE (D : Ends) (i : Nat) (a : Addr) (cls : Value) (d : Option Addr) : Ends := { nx := fun σ H => D.nx (σ.set i none) H ∨ D.nx (σ.set i none) (upd H a (exC a cls d)), rt := D.rt, bk := fun σ H => D.bk (σ.set i none) H, ct := fun σ H => D.ct (σ.set i none) H }
def wCl (K : FW) (out : WX) (D : Ends) : List (Value × Nat × SuR) → WX
  | [] => out
  | q :: r => fun cls d σ H => ∃ b, PySem.W.exmOne K cls q.1 = some b ∧ if b = true then ∀ a, H a = none → q.2.2 a cls d (cutE D q.2.1 a cls d) (σ.set q.2.1 (some (.ref a))) H else wCl K out D r cls d σ H
inductive ClsAs (X : Cx) : List ExceptHandler → List (Value × Nat × SuR) → Prop
  | nil : ClsAs X [] []
  | cons {x n : Str} {c : Value} {i : Nat} {ts : SuR} {s0 : Stmt} {su : List Stmt} {p1 p2 : Pos} {hs : List ExceptHandler} {l : List (Value × Nat × SuR)} (h1 : X.N[i]? = some n) (h2 : X.env.kindOf n = some .local) (h3 : Names X x c)
      (h4 : ∀ (a : Addr) (oe : Obj) (cls : Value) (d : Option Addr) (pn : List (Addr × Obj)), Zc cls d oe → (∃ vs, oe.data = .fields vs) → PSs (X.suite a ((a, oe) :: pn)) (s0 :: su) (ts a cls d)) (h5 : ClsAs X hs l) :
      ClsAs X (.ExceptHandler (some (.Name x p1)) (some n) (s0 :: su) p2 :: hs) ((c, i, ts) :: l)
section
variable {X : Cx} {pins : List (Addr × Obj)} {σ : St} {H : Hp} {s : Shared} {a : Addr} {o : Obj} {cls : Value} {d : Option Addr}
/-- an object that stands, is none of ours and wasn't there at the def's entry is known from now on -/
theorem Inv.adopt (I : Inv X ((a, o) :: pins) σ H s) (hz : Zc cls d o) (hd : ∃ fs, o.data = .fields fs) (n0 : ∀ u, X.s_0.heap.get? a = some u → a ∈ X.ex) (np : ∀ p ∈ X.pn ++ pins, p.1 ≠ a) : Inv X pins σ (upd H a (exC a cls d)) s := by
  have mem : ∀ p ∈ X.pn ++ pins, p ∈ X.pn ++ ((a, o) :: pins) := fun p hp => by
    rcases List.mem_append.mp hp with h | h
    · exact List.mem_append_left _ h
    · exact List.mem_append_right _ (List.mem_cons_of_mem _ h)
  obtain ⟨e, na, nL, nF, nc⟩ := I.pin (a, o) (List.mem_append_right _ List.mem_cons_self)
  refine ⟨I.ok, I.os, I.bare, ⟨I.base.keep, I.base.slot, fun b u q n hx => ?_, I.base.there, fun b xs q => ?_, fun b u xs q => ?_, fun b ps q => ?_⟩, I.loc, I.cell, ?_, fun x c q => ?_, fun p hp => ?_, ?_, I.len⟩
  · have hb : b ≠ a := fun z => hx (by subst z; exact n0 u q)
    rw [upd_ne hb]
    exact I.base.free b u q n hx
  · have z := I.base.tups b xs q
    rw [upd_ne (ne_of_none z na)]
    exact z
  · have z := I.base.frzs b u xs q
    rw [upd_ne (ne_of_none z na)]
    exact z
  · obtain ⟨more, z⟩ := I.base.tbls b ps q
    exact ⟨more, by rw [upd_ne (ne_of_none z na)]; exact z⟩
  · rw [upd_ne (Ne.symm nL)]
    exact I.free
  · have hc : c ≠ a := fun z => by
      obtain ⟨v, oc, h1, h2⟩ := I.cell x c q
      rw [z] at h1
      have z2 := h1.symm.trans e
      cases z2
      exact nc _ h2
    rw [upd_ne hc]
    exact I.freeC x c q
  · obtain ⟨h1, h2, h3⟩ := I.pin p (mem p hp)
    exact ⟨h1, by rw [upd_ne (np p hp)]; exact h2, h3⟩
  · exact I.hok.laidN (fun _ _ z => z) na ⟨⟨o, e, hz, hd⟩, ⟨o, e⟩, fun h1 h2 ⟨oe, q, r⟩ k => ⟨oe, k _ q, r⟩⟩
end
section
variable {X : Cx} {pins : List (Addr × Obj)} {out : WX} {D : Ends} {B : Heap} {a : Addr} {sI s : Shared} {σ : St} {H : Hp} {cls : Value} {d : Option Addr}
/-- the error has landed: the clauses are asked -/
theorem cls_run (ok : X.Ok) (hN : X.N.Nodup) (hs : X.stack = X.env :: X.outer) (hf : X.env.frame = some X.env.locals) (tk : Takes X out) (J : Inv X pins σ H sI) (nb : ∀ b o, sI.heap.get? b = some o → b ∉ frs X.stack → B.get? b = some o)
    (os : s.os = sI.os) (ag : AllBare s.gens) (na : H a = none) (fl : HandSPX.FlyingZ B (X.env :: X.outer) a (Zc cls d) s.heap) (up : sI.heap.UpToSlots s.heap) :
    ∀ {hds : List ExceptHandler} {l : List (Value × Nat × SuR)}, ClsAs X hds l → wCl X.KW out D l cls d σ H → wpAny (model X.prog X.w) X.A (handleBy (.ref a) X.env hds) (SP X pins D) X.xe s := by
  have J0 : Inv X pins σ H s := J.landed nb fl.1 up os ag
  -- the error is no frame of ours
  have notF : ∀ {g : Heap} {o : Obj} {fs : Array Value}, g.FunFrames B (X.env :: X.outer) → g.get? a = some o → o.data = .fields fs → a ∉ frs (X.env :: X.outer) := fun ff e de hm => by
    obtain ⟨_, o2, e2, nf⟩ := ff.mem hm
    rw [e] at e2
    exact nf _ (Option.some.inj e2 ▸ de)
  obtain ⟨oe, fs, he, hz, hd⟩ := fl.there
  have n1 := notF fl.2.2.1 he hd
  have nL : a ≠ X.env.locals := fun z => n1 (List.mem_filterMap.mpr ⟨X.env, List.mem_cons_self, by rw [hf, z]⟩)
  have nF : a ∉ X.fs := fun hm => by
    obtain ⟨e, h1, h2⟩ := List.mem_filterMap.mp hm
    exact n1 (List.mem_filterMap.mpr ⟨e, List.mem_cons_of_mem _ h1, h2⟩)
  have S0 := J0.suite he hd na nL nF
  -- nor was it there before
  have nB : ∀ {b : Addr} {u : Obj}, sI.heap.get? b = some u → b ∉ frs X.stack → b ≠ a := fun {b u} e hb z => by
    have q := nb b u e hb
    rw [z, fl.2.1] at q
    cases q
  have n0 : ∀ u, X.s_0.heap.get? a = some u → a ∈ X.ex := fun u hu => by
    by_cases hx : a ∈ X.ex
    · exact hx
    · obtain ⟨o2, q⟩ := J.base.there a u hu hx
      exact absurd rfl (nB q (by rw [hs]; exact n1))
  have np : ∀ p ∈ X.pn ++ pins, p.1 ≠ a := fun p hp => by
    obtain ⟨q1, _, q3, q4, _⟩ := J.pin p hp
    refine nB q1 fun hm => ?_
    rw [hs] at hm
    obtain ⟨e, h1, h2⟩ := List.mem_filterMap.mp hm
    rcases List.mem_cons.mp h1 with z | z
    · rw [z, hf] at h2
      exact q3 (Option.some.inj h2).symm
    · exact q4 (List.mem_filterMap.mpr ⟨e, z, h2⟩)
  intro hds l hc
  induction hc with
  | nil =>
    intro w
    refine wpAny_handleBy_nil ?_
    obtain ⟨_, _, _, o, vs, T, oT, ts, e1, _, e3, e4, _⟩ := id fl
    unfold PySem.passOn
    refine wpAny_bind (wpAny_field e1 e3 e4 ?_)
    rw [if_neg (show ¬ (Value.ref T == Value.none) = true by simp)]
    have last : wpAny (model X.prog X.w) X.A (setFlight (.ref a) X.env.frame) (fun _ s2 => wpAny (model X.prog X.w) X.A (throw (.ref a) : Sem Flow) (SP X pins D) X.xe s2) X.xe s := by
      rw [hf]
      exact HandSPX.setFlight_upZ fl fun g hg ug => wpAny_throw (tk _ _ ⟨a, B, sI, pins, σ, H, cls, d, rfl, J, nb, up.trans ug, .inr (.inr (by rw [hs]; exact hg)), na, os, ag, w⟩)
    first
      | exact wpAny_bind (wpAny_pure (wpAny_bind last))
      | exact wpAny_bind last
  | @cons x n c i ts s0 su p1 p2 hs2 l2 h1 h2 h3 h4 h5 ih =>
    intro w
    obtain ⟨b, hb, w⟩ := w
    refine wpAny_handleBy_cons (codeAny_handlers_test ?_) (by intro q; cases q)
    have ty : PySem.W.Looks (model X.prog X.w) s.heap (typeOf (.ref a)) cls := fun A Q E s2 k q => wpAny_typeOf_ref (k _ _ he) (by rw [hz.1]; exact q)
    have lk := PySem.W.exm_one (M := model X.prog X.w) J0.kIn ty hb
    have nm : ∀ {Q : Value → Shared → Prop} {E : Value → Shared → Prop}, Q c s → wpAny (model X.prog X.w) (X.A.mark (some (.ref a))) (eval (.Name x p1) X.env) Q E s := fun {Q E} q => by
      obtain ⟨hg, hdb, hm | ⟨hm, hv, hn⟩⟩ := h3
      · exact ld_glob (X := X.suite a ((a, oe) :: (X.pn ++ pins))) S0 hg hm q hdb
      · exact ld_blt (X := X.suite a ((a, oe) :: (X.pn ++ pins))) S0 hg hm hv q hn hdb
    refine nm (lk.here ?_)
    cases b with
    | false =>
      have w : wCl X.KW out D l2 cls d σ H := w
      show wpAny _ X.A (handleBy (.ref a) X.env hs2) _ _ _
      exact ih w
    | true =>
      have w : ∀ a, H a = none → ts a cls d (cutE D i a cls d) (σ.set i (some (.ref a))) H := w
      refine codeAny_handlers_suite_as (HandSPX.lands_againZ fl fun g fg ug => ?_)
      have J1 : Inv X pins σ H { s with heap := g } := J.landed nb fg.1 (up.trans ug) os ag
      obtain ⟨o1, v1, e1, z1, d1⟩ := fg.there
      have S1 := J1.suite e1 d1 na nL nF
      refine store_ok (X := X.suite a ((a, o1) :: (X.pn ++ pins))) (v := .ref a) S1 hN h1 (.inl h2) rfl (fun s2 S2 => ?_) (.inr h2)
      refine wpAny_mono ((h4 a o1 cls d (X.pn ++ pins) z1 ⟨_, d1⟩).run [] s2 _ H _ S2 (w a na)) (fun f s3 h3 => ?_) (fun _ _ z => z.elim)
      have gone : ∀ {σ3 : St} {H3 : Hp} {Q : Shared → Prop}, Inv (X.suite a ((a, o1) :: (X.pn ++ pins))) [] σ3 H3 s3 → (∀ s4, Inv X pins (σ3.set i none) H3 s4 → Q s4) →
          wpAny (model X.prog X.w) X.A (do bindName X.env n .none; unbindBehindTheSuite X.env n p2) (fun _ s4 => Q s4) X.xe s3 := fun S3 hq => gone_ok (S3.unsuite ok) hN h1 h2 hq
      have goneK : ∀ {σ3 : St} {H3 : Hp} {Q : Shared → Prop}, Inv (X.suite a ((a, o1) :: (X.pn ++ pins))) [] σ3 H3 s3 → (∀ s4, Inv X pins (σ3.set i none) (upd H3 a (exC a cls d)) s4 → Q s4) →
          wpAny (model X.prog X.w) X.A (do bindName X.env n .none; unbindBehindTheSuite X.env n p2) (fun _ s4 => Q s4) X.xe s3 := fun {σ3 H3 Q} S3 hq => by
        have S4 : Inv X ((a, o1) :: pins) σ3 H3 s3 := ⟨ok, S3.os, S3.bare, S3.base, S3.loc, S3.cell, S3.free, S3.freeC, fun p hp => S3.pin p (List.mem_append_left _ (by
          rcases List.mem_append.mp hp with h | h
          · exact List.mem_cons_of_mem _ (List.mem_append_left _ h)
          · rcases List.mem_cons.mp h with h | h
            · rw [h]; exact List.mem_cons_self
            · exact List.mem_cons_of_mem _ (List.mem_append_right _ h))), S3.hok, S3.len⟩
        exact gone_ok S4 hN h1 h2 fun s4 J4 => hq s4 (Inv.adopt J4 z1 ⟨_, d1⟩ n0 np)
      cases f with
      | ret u =>
        obtain ⟨v3, σ3, H3, S3, r3, q3⟩ := h3
        exact gone S3 fun s4 J4 => ⟨v3, _, H3, J4, r3, q3⟩
      | next =>
        obtain ⟨σ3, H3, S3, q3⟩ := h3
        rcases q3 with q3 | q3
        · exact gone S3 fun s4 J4 => ⟨_, H3, J4, q3⟩
        · exact goneK S3 fun s4 J4 => ⟨_, _, J4, q3⟩
      | brk =>
        obtain ⟨σ3, H3, S3, q3⟩ := h3
        exact gone S3 fun s4 J4 => ⟨_, H3, J4, q3⟩
      | cont =>
        obtain ⟨σ3, H3, S3, q3⟩ := h3
        exact gone S3 fun s4 J4 => ⟨_, H3, J4, q3⟩
theorem ps_try_cls {body : List Stmt} {h0 : ExceptHandler} {hds : List ExceptHandler} {l : List (Value × Nat × SuR)} {pos : Pos} {tb : WX → TS} (hs : X.stack = X.env :: X.outer) (hf : X.env.frame = some X.env.locals) (hN : X.N.Nodup) (tk : Takes X out)
    (hb : ∀ (W : WX) (pn : List (Addr × Obj)) (xe : Value → Shared → Prop), Takes (X.tr pn xe) W → PassesOwn (model X.prog X.w) X.A X.env xe → PSs (X.tr pn xe) body (tb W)) (hc : ClsAs X (h0 :: hds) l) :
    PS X (.Try body (h0 :: hds) [] [] pos) (fun D σ H => tb (wCl X.KW out D l) D σ H) := by
  refine ⟨fun pins s σ H D I h => wpAny_Try_except ?_⟩
  have ok := I.ok
  have fr : X.A.frames = some (X.env :: X.outer) := by rw [ok.frames, hs]
  have run := hb (wCl X.KW out D l) (X.pn ++ pins) (fun e s1 => wpAny (model X.prog X.w) X.A (noteFrame e X.env) (fun _ s2 => wpAny (model X.prog X.w) X.A (setFlight e none) (fun _ s3 => wpAny (model X.prog X.w) X.A (handleBy e X.env (h0 :: hds)) (SP X pins D) X.xe s3) X.xe s2) X.xe s1)
    (fun u s1 hx => by
      obtain ⟨a, B, sI, pins2, σ1, H1, cls, d, rfl, J1, nb, up, sky, na, os, ag, w⟩ := hx
      have J : Inv X pins σ1 H1 sI := J1.ofTry ok
      exact Sky.land Zc.steady fr hf (by rw [← hs]; exact sky) fun g fl ug => cls_run (s := { s1 with heap := g }) ok hN hs hf tk J nb os ag na fl (up.trans ug) hc w) PassesOwn.looking
  refine wpAny_mono (run.run [] s σ H D (I.toTry _) h) (fun f s1 hq => ?_) fun e s1 he => he
  cases f with
  | next =>
    obtain ⟨σ1, H1, J1, q⟩ := hq
    exact wpAny_execs_nil ⟨σ1, H1, J1.ofTry ok, q⟩
  | ret u =>
    obtain ⟨v, σ1, H1, J1, r, q⟩ := hq
    exact ⟨v, σ1, H1, J1.ofTry ok, r, q⟩
  | brk =>
    obtain ⟨σ1, H1, J1, q⟩ := hq
    exact ⟨σ1, H1, J1.ofTry ok, q⟩
  | cont =>
    obtain ⟨σ1, H1, J1, q⟩ := hq
    exact ⟨σ1, H1, J1.ofTry ok, q⟩
end
end WT
end

section
set_option Elab.async false
set_option linter.all false
set_option maxRecDepth 100000
set_option autoImplicit false
/-! K19e: an error that is made by value=.. -/
namespace PySem
namespace HandSPX
section
variable {M : Model} {A : Around} {E : Value → Shared → Prop} {h : Heap} {g : Array GenState} {d : Drawn} {t : Nat} {os : OsState}
variable {nm q : Str} {C N : Addr} {bs bm bmB : List Value} {hdct : Bool} {sn : List Str} {sub : List Value} {ab : Bool} {col : Option Bool} {dd : Option Addr} {k0 k1 k2 k3 k5 : Option Value} {B newId initId : String}
theorem check_new_kw (F : ExcBaseFacts B newId initId bmB) (hT : ∀ X : String, bm.contains (.type X) = bmB.contains (.type X)) {u : Value} {Q : Unit → Shared → Prop}
    (hC : h.get? C = some (excClassObj nm q C N bs bm hdct sn sub ab col dd k0 k1 k2 k3 k5 newId)) (hq : Q () ⟨h, g, d, t, os⟩) : wpAny M A (checkBuiltinCall newId ⟨[.ref C], [("value", u)]⟩) Q E ⟨h, g, d, t, os⟩ := by
  have hcont : (Value.ref C :: bm).contains (.type B) = true := by rw [List.contains_cons, hT, F.hasB, Bool.or_true]
  have hstar := F.noStar
  simp only [checkBuiltinCall, F.newKind, F.newSplit, F.newRow]
  repeat (first | refine wpAny_loadPart_at hC ?_ | (refine wpAny_isSubtype_exc hC ?_; rw [hcont]) | refine wpAny_staticBase_exc hC ?_ | refine wpAny_madeBy_exc hC ?_ | simp only [bne_self_eq_false, Bool.false_eq_true, if_false] | wp_step)
  exact hq
end
section
variable {prog : Program} {w : World} {A : Around} {E : Value → Shared → Prop} {R : Result → Shared → Prop} {h : Heap} {g : Array GenState} {d : Drawn} {t : Nat} {os : OsState}
variable {nm q : Str} {C N : Addr} {bs bm bmB : List Value} {hdct : Bool} {sn : List Str} {sub : List Value} {ab : Bool} {col : Option Bool} {dd : Option Addr} {k0 k1 k2 k3 k5 : Option Value} {B newId initId : String}
theorem new_kw (F : ExcBaseFacts B newId initId bmB) (hT : ∀ X : String, bm.contains (.type X) = bmB.contains (.type X)) {u : Value}
    (hC : h.get? C = some (excClassObj nm q C N bs bm hdct sn sub ab col dd k0 k1 k2 k3 k5 newId))
    (hq : R (.ok (.ret (.ref (h.objs.size + 1)))) ⟨(h.push (W.kdv_tup [])).push (excO C h.objs.size), g, d, t, os⟩) :
    codeAny (model prog w) A (.builtin newId ⟨[.ref C], [("value", u)]⟩) R ⟨h, g, d, t, os⟩ := by
  have hends := F.ends
  have hrest : ([] : List Value).length ≤ sizeLine := Nat.zero_le _
  have hcB : (Value.ref C :: bm).contains (.type B) = true := by rw [List.contains_cons, hT, F.hasB, Bool.or_true]
  have hcA : (Value.ref C :: bm).contains (.type "AttributeError") = false := by rw [List.contains_cons, hT, F.noAttr]; rfl
  have hcN : (Value.ref C :: bm).contains (.type "NameError") = false := by rw [List.contains_cons, hT, F.noName]; rfl
  refine codeAny_builtinAt F.entry ?_
  unfold Builtin.«BaseException.__new__»
  refine wpAt_bind ?_
  show wpAt _ _ _ (stack >>= _) _ _ _
  refine wpAt_bind (wpAt_stack fun p below => wpAt_of_wpAny ?_)
  wp_walk
  refine wpAt_of_wpAny ?_
  rw [F.owner]
  repeat (first | with_reducible refine wpAny_madeHere_exc F.canon hC ?_ | with_reducible refine wpAny_loadPart_at hC ?_ | (with_reducible refine wpAny_isSubtype_exc hC ?_; first | rw [hcB] | rw [hcA] | rw [hcN]) | wp_step)
  show R _ _
  rw [Heap.size_push]
  exact hq
theorem type_call_kw (F : ExcBaseFacts B newId initId bmB) (hT : ∀ X : String, bm.contains (.type X) = bmB.contains (.type X)) {u : Value} {fI : Addr} {Q : Fin → Shared → Prop}
    (hC : h.get? C = some (excClassObj nm q C N bs bm hdct sn sub ab col dd k0 k1 k2 k3 k5 newId))
    (hi : W.Looks (model prog w) h (typeLookup (.ref C) "__init__") (some (.ref fI))) (hb : ∀ self, W.Looks (model prog w) h (bindSpecial (.ref fI) self) (.ref fI, [self]))
    (hq : codeAny (model prog w) A (.call (.ref fI) ⟨[.ref (h.objs.size + 1)], [("value", u)]⟩)
      (fun r s' => match r with | .ok (.ret v) => v = .none ∧ Q (.done (.ret (.ref (h.objs.size + 1)))) s' | .ok _ => False | .error e => E e s')
      ⟨(h.push (W.kdv_tup [])).push (excO C h.objs.size), g, d, t, os⟩) :
    wpAny (model prog w) A (Builtin.«type.__call__» ⟨[.ref C], [("value", u)]⟩) Q E ⟨h, g, d, t, os⟩ := by
  repeat (first | with_reducible refine wpAny_loadPart_at hC ?_ | with_reducible refine wpAny_madeBy_exc hC ?_ | wp_step)
  refine codeAny_call_builtin_code (Code.quiet_builtin _ F.quiet) (check_new_kw F hT hC ?_)
  refine new_kw F hT hC ?_
  show wpAny _ _ _ _ _ _
  have k : ∀ b o, h.get? b = some o → ((h.push (W.kdv_tup [])).push (excO C h.objs.size)).get? b = some o := fun b o e => Heap.get?_push_of_some _ (Heap.get?_push_of_some _ e)
  have hC₁ := k _ _ hC
  have hget : ((h.push (W.kdv_tup [])).push (excO C h.objs.size)).get? (h.objs.size + 1) = some (excO C h.objs.size) := by heap_get
  have hcC : (Value.ref C :: bm).contains (.ref C) = true := by simp
  have i1 := hi.keeps k
  have b1 := (hb (.ref (h.objs.size + 1))).keeps k
  unfold isInstance
  repeat (first | with_reducible refine wpAny_loadPart_at hget ?_ | (with_reducible refine wpAny_isSubtype_exc hC₁ ?_; rw [hcC]) | wp_step)
  show wpAny _ _ (typeLookup (.ref C) _) _ _ _
  refine i1.at ?_
  refine wpAny_holding (wpAny_bind (b1.at ?_))
  refine wpAny_bind (wpAny_call (codeAny_mono hq fun r s' z => ?_))
  rcases r with e | (v | _ | _ | _) <;> first | exact z | exact z.elim | skip
  obtain ⟨rfl, z⟩ := z
  first
    | exact wpAny_pure (wpAny_pure z)
    | (wp_walk; exact z)
theorem check_type_kw {M : Model} {u : Value} {Q : Unit → Shared → Prop} (hC : h.get? C = some (excClassObj nm q C N bs bm hdct sn sub ab col dd k0 k1 k2 k3 k5 newId))
    (hq : Q () ⟨h, g, d, t, os⟩) : wpAny M A (checkBuiltinCall "type.__call__" ⟨[.ref C], [("value", u)]⟩) Q E ⟨h, g, d, t, os⟩ := by
  have f3 := tc_sub
  have hT : (⟨h, g, d, t, os⟩ : Shared).TypeIs (.ref C) "type" := ⟨_, hC, rfl⟩
  simp only [checkBuiltinCall, tc_kind, tc_split]
  repeat (any_goals (first | assumption | with_reducible refine wpAny_loadPart_at hC ?_ | with_reducible refine wpAny_onRaise ?_ | with_reducible refine wpAny_map ?_ | wp_step))
theorem call_kw (F : ExcBaseFacts B newId initId bmB) (hT : ∀ X : String, bm.contains (.type X) = bmB.contains (.type X)) {u : Value} {fI : Addr}
    (hC : h.get? C = some (excClassObj nm q C N bs bm hdct sn sub ab col dd k0 k1 k2 k3 k5 newId))
    (hi : W.Looks (model prog w) h (typeLookup (.ref C) "__init__") (some (.ref fI))) (hb : ∀ self, W.Looks (model prog w) h (bindSpecial (.ref fI) self) (.ref fI, [self]))
    (hq : codeAny (model prog w) (A.under (.builtin "type.__call__" ⟨[.ref C], [("value", u)]⟩)) (.call (.ref fI) ⟨[.ref (h.objs.size + 1)], [("value", u)]⟩) (W.InitBack (h.objs.size + 1) R)
      ⟨(h.push (W.kdv_tup [])).push (excO C h.objs.size), g, d, t, os⟩) :
    codeAny (model prog w) A (.call (.ref C) ⟨[], [("value", u)]⟩) R ⟨h, g, d, t, os⟩ := by
  have f1 := tc_lookup
  have f2 := tc_bind (.ref C)
  have hTy : (⟨h, g, d, t, os⟩ : Shared).TypeIs (.ref C) "type" := ⟨_, hC, rfl⟩
  refine codeAny_of_tree ?_
  show wpAny _ _ (callAny (.ref C) _) _ _ _
  repeat (any_goals (first | assumption | with_reducible refine wpAny_loadPart_at hC ?_ | wp_step))
  refine ⟨rfl, ?_⟩
  refine codeAny_call_builtin_at (Code.quiet_builtin _ (by decide +kernel)) entry_typeCall (check_type_kw hC (type_call_kw F hT hC hi hb ?_))
  refine codeAny_mono hq fun r s' z => ?_
  rcases r with e | (v | _ | _ | _) <;> exact z
end
end HandSPX
end PySem
namespace WT
open PySem PySem.Spec PyProof.Rows L2
section
variable {X : Cx} {k : Nat} {tk : TA} {kw : Keyword} {p pos : Pos}
theorem pmk_oexk {CX : CXT} {x : Str} {C fI : Addr} {fd : FuncData} {sp : Sp} (T : OexC X.K C) (iC : PySem.W.findIn X.K (.ref C) "__init__" = some (some (.ref fI))) (tI : PySem.W.typeIn X.K (.ref fI) = some (.type "function"))
    (F1 : FnOk X.prog X.w X.K X.mg X.base CX k fI fd ["self", "value"] sp) (hr : Room (k + 1) X.A) (hb : KBd X.K fd ["self", "value"] [(1, ["value"], [0])]) (hx : Passes CX X (fun _ _ _ => False)) (hg : Gl X x) (hm : X.mg x = some (.ref C)) (hkw : PK X [kw] tk) (hkn : kwsM [kw] [("value" : Str)] = true)
    (hdb : (x == ("__debug__" : Str)) = false := by decide) :
    PMk X (.Call (.Name x p) [] [kw] pos) (tMkO C sp [] (fun σ H Q => tk σ H fun vs H1 => vs.length = 1 ∧ Q vs H1)) := by
  intro pins s σ H Q I h
  obtain ⟨nm, q, N, bs, bm, sn, sub, ab, col, dd, k0, k1, k2, k3, k5, hC, hbm⟩ := T.cls
  obtain ⟨e1, e2, e3⟩ := kws_all (x := x) pos X.env hkn
  refine wpAny_Call_Name_kw (ld_glob I hg hm ?_ hdb)
  refine PySem.W.callWith_KW0 (h₀ := X.base) I.ok.mod.kin T.kC e1 (thn (hkw.run pos pins s σ H _ I h) fun ws s1 ⟨vs, H1, I1, rz, l0, q1⟩ => ⟨I1.kIn, ?_⟩) (by rw [e2] <;> rfl)
  rw [e3]
  obtain ⟨lw, q1⟩ := q1
  cases rz with
  | nil => cases l0
  | @cons v w vs ws rv rz =>
    cases rz with
    | cons _ _ => cases l0
    | nil =>
      show wpAny _ _ (call (.ref C) [] [("value", w)]) _ _ _
      obtain ⟨hp, g, dr, tk, os⟩ := s1
      have hsz : hp.objs.size ≤ hp.objs.size + 1 := Nat.le_succ _
      have hn : H1 (hp.objs.size + 1) = none := I1.hok.fresh hsz
      have hq := q1 (hp.objs.size + 1) hn
      have kk : ∀ b o, hp.get? b = some o → ((hp.push (PySem.W.kdv_tup [])).push (PySem.HandSPX.excO C hp.objs.size)).get? b = some o := fun b o e => Heap.get?_push_of_some _ (Heap.get?_push_of_some _ e)
      have hget : ((hp.push (PySem.W.kdv_tup [])).push (PySem.HandSPX.excO C hp.objs.size)).get? (hp.objs.size + 1) = some (PySem.HandSPX.excO C hp.objs.size) := by heap_get
      have I2 : Inv X pins σ (upd H1 (hp.objs.size + 1) (exo (hp.objs.size + 1) C none)) ⟨(hp.push (PySem.W.kdv_tup [])).push (PySem.HandSPX.excO C hp.objs.size), g, dr, tk, os⟩ :=
        I1.laid (t' := tk) (a := hp.objs.size + 1) (o := exo (hp.objs.size + 1) C none) (h' := (hp.push (PySem.W.kdv_tup [])).push (PySem.HandSPX.excO C hp.objs.size)) kk hsz (exo_ok hget)
      have r2 : Vals [V.ref (hp.objs.size + 1), v] [Value.ref (hp.objs.size + 1), w] := .cons rfl (.cons rv .nil)
      refine wpAny_call (PySem.HandSPX.call_kw F.excBase_ValueError (fun Y => PySem.HandSPX.refsVE_contains Y bm hbm) (I1.kIn _ _ hC) (PySem.W.looks_findIn I1.kIn iC) (fun self => PySem.W.bind_fn I1.kIn self tI)
        (codeAny_mono (F1.run _ X.stack _ _ ⟨[Value.ref (hp.objs.size + 1)], [("value", w)]⟩ [Value.ref (hp.objs.size + 1), w] _ _ (fun _ _ _ => False) (hr.make C [] [("value", w)]) (I2.env0.make C [] [("value", w)]) ((hb _ [Value.ref (hp.objs.size + 1)] [w] I2.kIn).2 (1, ["value"], [0]) (by simp) rfl rfl) r2 hq) fun r s' hq' => ?_))
      cases r with
      | error er => exact hx pins σ _ _ er s' I2 hq'
      | ok fl =>
        cases fl with
        | ret u =>
          obtain ⟨v, H2, os2, bare2, un2, hok2, rv, ev, d, fs, ea, ed, hd1, q2⟩ := hq'
          subst ev
          obtain ⟨h2, g2, d2, t2, os'⟩ := s'
          exact ⟨rv, mk_end (raises_own T.exC T.tyC) I1 hsz kk un2 hok2 os2 bare2 ea ed hd1 q2⟩
        | next => exact False.elim hq'
        | brk => exact False.elim hq'
        | cont => exact False.elim hq'
end
end WT
end

section
set_option Elab.async false
set_option linter.all false
set_option maxRecDepth 100000
set_option autoImplicit false
/-! K20: statements do what they are evaluated to. -/
namespace WT
open PySem PySem.Spec PyProof.Rows L2

section
variable {m : MC} {g : GE} {k : Nat} {rn : Bool} {a b d e : E}
theorem nmC_of {sc : Scope} {i : Nat} {x : Str} (h : nmC m sc i x = true) : m.N[i]? = some x ∧ locB sc x = true := by
  unfold nmC at h
  rw [Bool.and_eq_true, decide_eq_true_eq] at h
  exact h
theorem sm_ret : SndS m g k rn (.ret e) := by
  intro c sc X st hg xs h
  rw [cS] at h
  unfold cRet at h
  split at h
  · rename_i x pos
    rw [Bool.and_eq_true] at h
    obtain ⟨h1, h2⟩ := h
    obtain ⟨p, hp, h2⟩ := pvK_of h2
    cases ho : ownVar m e with
    | false =>
      refine (ps_ret (snd e hp c sc X x hg xs.ok h1)).mono fun D σ H ⟨env, st, μ, G, I, hq⟩ => ?_
      rw [evS] at hq
      refine TEv.ofS I hq fun x st1 v H1 μ1 t F I1 S1 r1 hq => ?_
      refine hq v H1 μ1 G t F I1.box I1.muLen I1.muNd S1.ss r1.rep r1.po.out fun hrn a ha => ?_
      rw [ho, hrn] at h2
      have hn : p.new = true := by simpa using h2
      have z := r1.po.top a ha
      rw [if_pos hn] at z
      exact ⟨.inl z.1, z.2⟩
    | true =>
      cases e with
      | var i =>
        cases x with
        | Name y ypos =>
          simp only [mE, Bool.and_eq_true, decide_eq_true_eq] at h1
          obtain ⟨⟨h3, h4⟩, h5⟩ := h1
          obtain ⟨d1, d2⟩ := plB_ok h5
          refine (ps_ret (pe_var (i := i) (by rw [xs.ok.hN]; exact h3) (xs.ok.vis h4) d1 d2)).mono fun D σ H ⟨env, st, μ, G, I, hq⟩ => ?_
          rw [evS, evE] at hq
          cases e1 : slot env i with
          | none => rw [e1] at hq; exact hq.elim
          | some d =>
            rw [e1] at hq
            obtain ⟨v, t, F, e2, r, g1, g2, g3⟩ := I.slot i d e1
            refine ⟨v, e2, hq v H μ G t F I.box I.muLen I.muNd .refl r g3 fun _ a ha => ?_⟩
            have z := g1 a ha
            rw [xs.ok.ow, show m.ow i = true from ho, if_pos rfl] at z
            exact ⟨.inr (by rw [z]; simp), fun hm => by rw [g2 a hm] at z; cases z⟩
        | _ => simp [mE] at h1
      | _ => cases ho
  · cases h
theorem sm_retN : SndS m g k rn .retN := by
  intro c sc X st hg xs h
  rw [cS] at h
  unfold cRetN at h
  split at h
  · exact ps_retN.mono fun D σ H ⟨env, st, μ, G, I, hq⟩ => by
      rw [evS] at hq
      exact hq .non H μ G [] [] I.box I.muLen I.muNd .refl .non (fun _ h => by simp at h) fun _ _ h => by simp at h
  · cases h
theorem comp_of {tg : Tg} {it : WT.It} {hif : Bool} {cond elt : E} {p : Pv} (h : pvE m (.comp tg it hif cond elt) = some p) : ∃ lt pe, SndI m g k it [] lt ∧ SndT m g k cond ∧ Snd m g k elt pe ∧ (∀ i ∈ tg.slots, m.ow i = false) ∧ itTg it tg = true ∧ p = .new1 (pe.top ++ pe.inn) := by
  rw [pvE] at h
  cases ei : pvIt m it with
  | none => rw [ei] at h; cases h
  | some l =>
    cases ec : pvE m cond with
    | none => rw [ei, ec] at h; cases h
    | some pc =>
      cases ee : pvE m elt with
      | none => rw [ei, ec, ee] at h; cases h
      | some pe =>
        rw [ei, ec, ee] at h
        simp only at h
        split at h
        · rename_i hn
          cases h
          simp only [Bool.and_eq_true, List.all_eq_true, Bool.not_eq_true', List.isEmpty_iff] at hn
          obtain ⟨⟨h1, h2⟩, h3⟩ := hn
          subst h1
          exact ⟨_, pe, sndi it ei, sndt cond ec, snd elt ee, h2, h3, rfl⟩
        · cases h
theorem sm_set {i : Nat} {kk : Ak} : SndS m g k rn (.set i kk e) := by
  intro c sc X st hg xs h
  have key : ∀ {p : Pv}, akC m i kk p = true → ∀ (D : Ends) (σ : St) (H : Hp), TSv c X.KW (tchs (.set i kk e)) rn (evS g (.set i kk e)) D σ H → tAsg (TEv c X.KW p (evE g e)) (gName i) D σ H := fun {p} hk D σ H ⟨env, st, μ, G, I, hq⟩ => by
    rw [evS] at hq
    refine TEv.ofS I hq fun x st1 v H1 μ1 t F I1 S1 r1 hq => ?_
    split at hq
    · rename_i hd
      obtain ⟨G', T, J, t1, g1⟩ := SI.putK xs.ok.ow I S1 I1 r1 hk hd
      exact hq _ H1 μ1 G' J ⟨S1.sl, fun a ha _ => g1 a fun z => ha (t1 a z).1⟩
    · exact hq.elim
  rw [cS] at h
  unfold cSet at h
  split at h
  · rename_i x px y pos
    simp only [Bool.and_eq_true, Bool.or_eq_true, Bool.not_eq_true'] at h
    obtain ⟨⟨⟨h1, h2⟩, h3⟩, h4⟩ := h
    obtain ⟨n1, n2⟩ := nmC_of h1
    obtain ⟨p, hp, hk⟩ := pvK_of h3
    have hN : X.N.Nodup := by rw [xs.ok.hN]; exact xs.ok.nd
    have hi : X.N[i]? = some x := by rw [xs.ok.hN]; exact n1
    rcases h4 with (h4 | h4) | ⟨h4, h5⟩
    · exact (ps_set hN hi (xs.ok.loc n2) (snd e hp c sc X y hg xs.ok h2) (sw_plain h4) (.inl (xs.fn x))).mono (key hk)
    · exact (ps_set hN hi (xs.ok.loc n2) (snd e hp c sc X y hg xs.ok h2) (sw_ncl (by rw [xs.ok.sc]; exact h4)) (.inl (xs.fn x))).mono (key hk)
    · cases e with
      | comp tg it hif cond elt =>
        obtain ⟨lt, pe, hI, hC, hE, ho, hP, rfl⟩ := comp_of (g := g) (k := k) hp
        obtain ⟨y1, t, i1, ifs, scope, cpos, own, wi, gT, tt, te, rfl, b1, b2, b3, b4, b5, b6, b7⟩ := comp_parts hI hC hE ho hP hg xs.ok h2
        simp only [swL, Bool.and_eq_true, Bool.not_eq_true'] at h5
        obtain ⟨⟨s1, s2⟩, s3⟩ := h5
        have hl : X.env.scope.names.lookup x = some .local := by rw [xs.ok.sc]; exact lclB_of s2
        exact (ps_setLc xs.ok.calm hN hi hl (sw_true (by rw [xs.ok.sc]; exact xs.kind) hl s1 s3) b1 b2 b3 b4 b5 b6).mono fun D σ H z => b7 σ H _ (key hk D σ H z)
      | _ => cases h4
  · cases h
theorem pg_st {c : Cfg} {sc : Scope} {X : Cx} {tg : Tg} {t : Expr} (xs : XS m c k sc X) (h : mTg m sc tg t = true) : PG X t (tgG X.KW tg) :=
  pg_tgT xs.ok.calm (fun i x pos hi hl => pg_name (by rw [xs.ok.hN]; exact xs.ok.nd) (by rw [xs.ok.hN]; exact hi) (xs.ok.loc hl) (.inl (xs.fn x))) h
theorem plnP_of {p : Pv} (h : plnP p = true) : (p.new || p.top.isEmpty) = true ∧ p.inn = [] := by
  unfold plnP at h
  rw [Bool.and_eq_true, List.isEmpty_iff] at h
  exact h
theorem sm_setT {tg : Tg} : SndS m g k rn (.setT tg e) := by
  intro c sc X st hg xs h
  rw [cS] at h
  unfold cSetT at h
  split at h
  · rename_i t y pos
    simp only [Bool.and_eq_true, List.all_eq_true, Bool.not_eq_true'] at h
    obtain ⟨⟨⟨⟨⟨h1, h2⟩, h3⟩, h4⟩, h5⟩, h6⟩ := h
    obtain ⟨p, hp, hk⟩ := pvK_of h4
    obtain ⟨k1, k2⟩ := plnP_of hk
    refine (ps_asg (snd e hp c sc X y hg xs.ok h3) (pg_st xs h2) (sw_tup h1) (sw_none h1 h6) ?_).mono fun D σ H ⟨env, st, μ, G, I, hq⟩ => ?_
    · cases t with
      | Tuple _ _ _ => rfl
      | _ => cases h1
    · rw [evS] at hq
      refine TEv.ofS I hq fun x st1 v H1 μ1 t F I1 S1 r1 hq => ?_
      cases hb : bindTg tg x env with
      | none => rw [hb] at hq; exact hq.elim
      | some env' =>
        rw [hb] at hq
        exact SI.tg I1 (fun i hi => by rw [xs.ok.ow]; exact h5 i hi) hb r1.rep (r1.pln I.gdom k1 k2) fun σ' I' hl hj => hq σ' H1 μ1 G I' S1.ss
  · cases h
theorem sm_brk : SndS m g k rn .brk := by
  intro c sc X st hg xs h
  rw [cS] at h
  unfold cBrk at h
  split at h
  · exact ps_break.mono fun D σ H ⟨env, st, μ, G, I, hq⟩ => by
      rw [evS] at hq
      exact hq σ H μ G I .refl
  · cases h
theorem sm_cont : SndS m g k rn .cont := by
  intro c sc X st hg xs h
  rw [cS] at h
  unfold cCont at h
  split at h
  · exact ps_continue.mono fun D σ H ⟨env, st, μ, G, I, hq⟩ => by
      rw [evS] at hq
      exact hq σ H μ G I .refl
  · cases h
theorem sm_pass : SndS m g k rn .pass := by
  intro c sc X st hg xs h
  rw [cS] at h
  unfold cPass at h
  split at h
  · exact ps_pass.mono fun D σ H ⟨env, st, μ, G, I, hq⟩ => by
      rw [evS] at hq
      exact hq σ H μ G I .refl
  · cases h
theorem sm_dead : SndS m g k rn .dead := fun c sc X st hg xs h => ps_never.mono fun D σ H ⟨env, st, μ, G, I, hq⟩ => by
  rw [evS] at hq
  exact hq
theorem sm_drop : SndS m g k rn (.drop e) := by
  intro c sc X st hg xs h
  rw [cS] at h
  unfold cDrop at h
  split at h
  · rename_i x pos
    simp only [Bool.and_eq_true, Bool.not_eq_true'] at h
    obtain ⟨⟨h1, h2⟩, h3⟩ := h
    obtain ⟨p, hp, _⟩ := pvK_of h3
    refine (ps_expr (snd e hp c sc X x hg xs.ok h1) (sw_plain h2)).mono fun D σ H ⟨env, st, μ, G, I, hq⟩ => ?_
    rw [evS] at hq
    exact TEv.ofS I hq fun x st1 v H1 μ1 t F I1 S1 r1 hq => hq σ H1 μ1 G I1 S1.ss
  · cases h
end
end WT
end

section
set_option Elab.async false
set_option linter.all false
set_option maxRecDepth 100000
set_option autoImplicit false
/-! K21: statements: several names, changes of lists. -/
namespace WT
open PySem PySem.Spec PyProof.Rows L2

section
variable {m : MC} {g : GE} {k : Nat} {rn : Bool} {a b d e : E}
theorem Acc.new {c : Cfg} {K : FW} {env envA : Env} {μ μ1 : List Addr} {G GA : Addr → Option Nat} {σ σA : St} {H H1 : Hp} {st1 : Sto} {T : List Addr} (A : Acc c K env μ G σ H st1 μ1 H1 envA GA σA T) {p : Addr} {o : HO} (hp : H1 p = none) : Acc c K env μ G σ H st1 μ1 (upd H1 p o) envA GA σA T :=
  ⟨A.act.new hp, A.vir.new hp, A.step.trans (.new hp), fun a ha => ⟨(A.tn a ha).1, (Step.new (μ := μ1) (o := o) hp).dom a (A.tn a ha).2⟩, A.ga⟩
theorem nodup_ne {N : List Str} {i j : Nat} {x y : Str} (hN : N.Nodup) (hi : N[i]? = some x) (hj : N[j]? = some y) (h : i ≠ j) : x ≠ y := fun e => by
  subst e
  have h1 := (List.getElem?_eq_some_iff.mp hi)
  have h2 := (List.getElem?_eq_some_iff.mp hj)
  obtain ⟨l1, e1⟩ := h1
  obtain ⟨l2, e2⟩ := h2
  exact h ((List.getElem_inj hN).mp (e1.trans e2.symm))
theorem folded_swNone {t1 t2 : List Expr} {k1 k2 : Nat} {p1 p2 : Pos} (h : t2.all (foldedForSure 8) = true) : swNone (.Tuple t1 k1 p1) (.Tuple t2 k2 p2) = true := by
  unfold swNone
  simp only [h, Bool.or_true]
theorem Acc.fit {c : Cfg} {K : FW} {env envA : Env} {μ μ1 : List Addr} {G GA : Addr → Option Nat} {σ σA : St} {H H1 : Hp} {st1 : Sto} {T : List Addr} {M : List Nat} {D : Ends} (A : Acc c K env μ G σ H st1 μ1 H1 envA GA σA T) (h : okS c K M rn μ G H D (.nx envA st1)) : D.nx σA H1 := h σA H1 μ1 GA A.vir A.ss
theorem sm_par {i j : Nat} {ki kj : Ak} : SndS m g k rn (.par i j ki kj a b) := by
  intro c sc X st hg xs h
  rw [cS] at h
  unfold cPar at h
  split at h
  · rename_i x px y py kt pt u v k2 pt2 pos
    simp only [Bool.and_eq_true, Bool.or_eq_true, decide_eq_true_eq] at h
    obtain ⟨⟨⟨⟨⟨⟨⟨h1, h2⟩, h3⟩, h4⟩, h5⟩, h6⟩, h7⟩, h8⟩ := h
    obtain ⟨n1, n2⟩ := nmC_of h1
    obtain ⟨n3, n4⟩ := nmC_of h2
    obtain ⟨p, hp, hk⟩ := pvK_of h6
    obtain ⟨q, hq, hk2⟩ := pvK_of h7
    have hN : X.N.Nodup := by rw [xs.ok.hN]; exact xs.ok.nd
    have hi : X.N[i]? = some x := by rw [xs.ok.hN]; exact n1
    have hj : X.N[j]? = some y := by rw [xs.ok.hN]; exact n3
    have pa := pa_cons (snd (k := k) a hp c sc X u hg xs.ok h4) (pa_cons (PE.ex fun o => snd (k := k) b hq (c.ok o) sc X v hg (xs.ok.ok o) h5) pa_nil (star_of (mE_plain h5) _ _)) (star_of (mE_plain h4) _ _)
    have key : ∀ (D : Ends) (σ : St) (H : Hp) (Q : List V → Hp → Prop), (∀ v w H1, D.nx ((σ.set i (some v)).set j (some w)) H1 → True) → TSv c X.KW (tchs (.par i j ki kj a b)) rn (evS g (.par i j ki kj a b)) D σ H →
        (∀ v w μ1 H1 st1 env μ G envA GA T, Acc c X.KW env μ G σ H st1 μ1 H1 envA GA ((σ.set i (some v)).set j (some w)) T → okS c X.KW [] rn μ G H D (.nx envA st1) → Q [v, w] H1) → tCons (TEv c X.KW p (evE g a)) (tCons (fun σ H Q => ∃ o, TEv (c.ok o) X.KW q (evE g b) σ H Q) tNil) σ H Q := fun D σ H Q _ ⟨env, st, μ, G, I, hw⟩ kk => by
      rw [evS] at hw
      refine TEv.ofS I hw fun x1 st1 v1 H1 μ1 t1 F1 I1 S1 r1 hw => ?_
      cases hd : akOk ki x1 with
      | false => rw [hd] at hw; exact hw.elim
      | true =>
        rw [hd, if_pos rfl] at hw
        obtain ⟨GB, T1, A1⟩ := (Acc.nil I).put xs.ok.ow I1 S1 r1 (fun _ _ h => by simp at h) hk hd
        refine A1.eval I hw fun x2 st2 v2 H2 μ2 t2 F2 I2 S2 r2 hT hw => ?_
        cases hd2 : akOk kj x2 with
        | false => rw [hd2] at hw; exact hw.elim
        | true =>
          rw [hd2, if_pos rfl] at hw
          obtain ⟨GC, T2, A2⟩ := A1.put xs.ok.ow I2 S2 r2 hT hk2 hd2
          exact kk v1 v2 μ2 H2 st2 env μ G _ _ _ A2 hw
    rcases h8 with h8 | h8
    · have h9 := h8
      simp only [swPair, Bool.and_eq_true] at h9
      refine (ps_par xs.ok.calm hN hi hj h3 (by rw [xs.ok.sc]; exact lclB_of h9.1.1.1.1) (by rw [xs.ok.sc]; exact lclB_of h9.1.1.1.2) pa (sw_pair (by rw [xs.ok.sc]; exact xs.kind) (nodup_ne hN hi hj h3) (mE_plain h4) (mE_plain h5) (by rw [xs.ok.sc]; exact h8)) (sw_tup rfl)).mono fun D σ H hw => ?_
      exact key D σ H _ (fun _ _ _ _ => trivial) hw fun v w μ1 H1 st1 env μ G envA GA T A hw => ⟨v, w, rfl, A.fit hw⟩
    · have hsw : ∀ env : PySem.Env, env.scope = sc → swappedStores [.Tuple [.Name x px, .Name y py] kt pt] (.Tuple [u, v] k2 pt2) env = pure none := fun env he => by
        rcases h8 with h8 | h8
        · exact sw_none rfl (folded_swNone h8)
        · exact sw_cell (by rw [he, Bool.or_eq_true]; exact h8)
      refine (ps_asg (pe_tup pa) (pg_tup xs.ok.calm (pgs_cons (pg_name hN hi (xs.ok.loc n2) (.inl (xs.fn x))) (pgs_cons (pg_name hN hj (xs.ok.loc n4) (.inl (xs.fn y))) pgs_nil))) (sw_tup rfl) (hsw _ xs.ok.sc)).mono fun D σ H hw => ?_
      exact key D σ H (fun vs H1 => vs.length ≤ sizeLine ∧ ∀ p, H1 p = none → gTup X.KW 2 (gCons (gName i) (gCons (gName j) gNil)) (.ref p) σ (upd H1 p (.tup vs)) D.nx) (fun _ _ _ _ => trivial) hw fun v w μ1 H1 st1 env μ G envA GA T A hw =>
        ⟨by show 2 ≤ sizeLine; decide, fun p hp => ⟨p, [v, w], rfl, .inl (.inl upd_same), rfl, v, [w], rfl, w, [], rfl, rfl, (A.new hp).fit hw⟩⟩
  · cases h
theorem sm_par3 {i j l : Nat} {ki kj kl : Ak} : SndS m g k rn (.par3 i j l ki kj kl a b d) := by
  intro c sc X st hg xs h
  rw [cS] at h
  unfold cPar3 at h
  split at h
  · rename_i x px y py z pz kt pt u v w k2 pt2 pos
    simp only [Bool.and_eq_true, Bool.or_eq_true, decide_eq_true_eq] at h
    obtain ⟨⟨⟨⟨⟨⟨⟨⟨⟨⟨⟨⟨h1, h2⟩, h3⟩, n12⟩, n13⟩, n23⟩, h4⟩, h5⟩, h6⟩, h7⟩, h8⟩, h9⟩, h10⟩ := h
    obtain ⟨n1, n2⟩ := nmC_of h1
    obtain ⟨n3, n4⟩ := nmC_of h2
    obtain ⟨n5, n6⟩ := nmC_of h3
    obtain ⟨p, hp, hk⟩ := pvK_of h7
    obtain ⟨q, hq, hk2⟩ := pvK_of h8
    obtain ⟨r, hr, hk3⟩ := pvK_of h9
    have hN : X.N.Nodup := by rw [xs.ok.hN]; exact xs.ok.nd
    have hi : X.N[i]? = some x := by rw [xs.ok.hN]; exact n1
    have hj : X.N[j]? = some y := by rw [xs.ok.hN]; exact n3
    have hl : X.N[l]? = some z := by rw [xs.ok.hN]; exact n5
    have pa := pa_cons (snd (k := k) a hp c sc X u hg xs.ok h4) (pa_cons (PE.ex fun o => snd (k := k) b hq (c.ok o) sc X v hg (xs.ok.ok o) h5) (pa_cons (PE.ex fun o => snd (k := k) d hr (c.ok o) sc X w hg (xs.ok.ok o) h6) pa_nil (star_of (mE_plain h6) _ _)) (star_of (mE_plain h5) _ _)) (star_of (mE_plain h4) _ _)
    have key : ∀ (D : Ends) (σ : St) (H : Hp) (Q : List V → Hp → Prop), TSv c X.KW (tchs (.par3 i j l ki kj kl a b d)) rn (evS g (.par3 i j l ki kj kl a b d)) D σ H →
        (∀ v w x μ1 H1 st1 env μ G envA GA T, Acc c X.KW env μ G σ H st1 μ1 H1 envA GA (((σ.set i (some v)).set j (some w)).set l (some x)) T → okS c X.KW [] rn μ G H D (.nx envA st1) → Q [v, w, x] H1) →
        tCons (TEv c X.KW p (evE g a)) (tCons (fun σ H Q => ∃ o, TEv (c.ok o) X.KW q (evE g b) σ H Q) (tCons (fun σ H Q => ∃ o, TEv (c.ok o) X.KW r (evE g d) σ H Q) tNil)) σ H Q := fun D σ H Q ⟨env, st, μ, G, I, hw⟩ kk => by
      rw [evS] at hw
      refine TEv.ofS I hw fun x1 st1 v1 H1 μ1 t1 F1 I1 S1 r1 hw => ?_
      cases hd : akOk ki x1 with
      | false => rw [hd] at hw; exact hw.elim
      | true =>
        rw [hd, if_pos rfl] at hw
        obtain ⟨GB, T1, A1⟩ := (Acc.nil I).put xs.ok.ow I1 S1 r1 (fun _ _ h => by simp at h) hk hd
        refine A1.eval I hw fun x2 st2 v2 H2 μ2 t2 F2 I2 S2 r2 hT hw => ?_
        cases hd2 : akOk kj x2 with
        | false => rw [hd2] at hw; exact hw.elim
        | true =>
          rw [hd2, if_pos rfl] at hw
          obtain ⟨GC, T2, A2⟩ := A1.put xs.ok.ow I2 S2 r2 hT hk2 hd2
          refine A2.eval I hw fun x3 st3 v3 H3 μ3 t3 F3 I3 S3 r3 hT3 hw => ?_
          cases hd3 : akOk kl x3 with
          | false => rw [hd3] at hw; exact hw.elim
          | true =>
            rw [hd3, if_pos rfl] at hw
            obtain ⟨GD, T3, A3⟩ := A2.put xs.ok.ow I3 S3 r3 hT3 hk3 hd3
            exact kk v1 v2 v3 μ3 H3 st3 env μ G _ _ _ A3 hw
    rcases h10 with h10 | h10
    · have h11 := h10
      simp only [swTri, Bool.and_eq_true] at h11
      refine (ps_par3 xs.ok.calm hN hi hj hl n12 n13 n23 (by rw [xs.ok.sc]; exact lclB_of h11.1.1.1.1.1.1) (by rw [xs.ok.sc]; exact lclB_of h11.1.1.1.1.1.2) (by rw [xs.ok.sc]; exact lclB_of h11.1.1.1.1.2) pa
        (sw_tri (by rw [xs.ok.sc]; exact xs.kind) (nodup_ne hN hi hj n12) (nodup_ne hN hi hl n13) (nodup_ne hN hj hl n23) (mE_plain h4) (mE_plain h5) (mE_plain h6) (by rw [xs.ok.sc]; exact h10)) (sw_tup rfl)).mono fun D σ H hw => ?_
      exact key D σ H _ hw fun v w x μ1 H1 st1 env μ G envA GA T A hw => ⟨v, w, x, rfl, A.fit hw⟩
    · have hsw : swappedStores [.Tuple [.Name x px, .Name y py, .Name z pz] kt pt] (.Tuple [u, v, w] k2 pt2) X.env = pure none := by
        rcases h10 with h10 | h10
        · exact sw_none rfl (folded_swNone h10)
        · have he : X.env.scope = sc := xs.ok.sc
          refine sw_cell3 ?_
          rw [he]
          simp only [Bool.not_eq_true'] at h10
          rcases h10 with (h | h) | h
          · exact .inl h
          · exact .inr (.inl h)
          · exact .inr (.inr h)
      refine (ps_asg (pe_tup pa) (pg_tup xs.ok.calm (pgs_cons (pg_name hN hi (xs.ok.loc n2) (.inl (xs.fn x))) (pgs_cons (pg_name hN hj (xs.ok.loc n4) (.inl (xs.fn y))) (pgs_cons (pg_name hN hl (xs.ok.loc n6) (.inl (xs.fn z))) pgs_nil)))) (sw_tup rfl) hsw).mono fun D σ H hw => ?_
      exact key D σ H (fun vs H1 => vs.length ≤ sizeLine ∧ ∀ p, H1 p = none → gTup X.KW 3 (gCons (gName i) (gCons (gName j) (gCons (gName l) gNil))) (.ref p) σ (upd H1 p (.tup vs)) D.nx) hw fun v w x μ1 H1 st1 env μ G envA GA T A hw =>
        ⟨by show 3 ≤ sizeLine; decide, fun p hp => ⟨p, [v, w, x], rfl, .inl (.inl upd_same), rfl, v, [w, x], rfl, w, [x], rfl, x, [], rfl, rfl, (A.new hp).fit hw⟩⟩
  · cases h
theorem gset_owner {t : List Addr} {G : Addr → Option Nat} {i j : Nat} (h : ∀ a ∈ t, G a = some j) {a : Addr} : a ∈ t → G a = some j := h a
theorem sm_move {i j : Nat} : SndS m g k rn (.move i j) := by
  intro c sc X st hg xs h
  rw [cS] at h
  unfold cMove at h
  split at h
  · rename_i x px y py pos
    simp only [Bool.and_eq_true, decide_eq_true_eq] at h
    obtain ⟨⟨⟨⟨⟨h1, h2⟩, h3⟩, h4⟩, h5⟩, h6⟩ := h
    obtain ⟨n1, n2⟩ := nmC_of h1
    obtain ⟨d1, d2⟩ := plB_ok h4
    have hN : X.N.Nodup := by rw [xs.ok.hN]; exact xs.ok.nd
    refine (ps_set hN (by rw [xs.ok.hN]; exact n1) (xs.ok.loc n2) (pe_var (i := j) (by rw [xs.ok.hN]; exact h2) (xs.ok.vis h3) d1 d2) rfl (.inl (xs.fn x))).mono fun D σ H ⟨env, st, μ, G, I, hq⟩ => ?_
    rw [evS] at hq
    cases e1 : slot env j with
    | none => rw [e1] at hq; exact hq.elim
    | some d =>
      rw [e1] at hq
      obtain ⟨v, t, F, e2, r, g1, g2, g3⟩ := I.slot j d e1
      refine ⟨v, e2, ?_⟩
      rw [xs.ok.ow] at g1
      cases ho : m.ow j with
      | false =>
        rw [ho] at g1 h5
        have J := I.put (i := i) (by rw [xs.ok.ow]; exact h5) r fun a ha => ⟨by
          rcases List.mem_append.mp ha with ha | ha
          · simpa using g1 a ha
          · exact g2 a ha, g3 a ha⟩
        exact hq _ H μ G (J.kill (i := j)) .refl
      | true =>
        rw [ho] at g1 h5
        have gj : ∀ a ∈ t, G a = some j := fun a ha => by simpa using g1 a ha
        refine hq (σ.set i (some v)) H μ (gset G t i) ?_ ⟨.refl, fun a ha hM => gset_ne fun z => hM j (by simp [tchs]) (gj a z)⟩
        refine ⟨fun l d' e' => ?_, I.box, I.muLen, I.muNd, fun a ha => ⟨?_, (I.gmu a ha).2⟩, fun a ha => ?_, I.okn, by simpa using I.len⟩
        · rcases slot_set e' with ⟨_, _, e'⟩ | ⟨hlj, e'⟩
          · cases e'
          · rcases slot_set e' with ⟨rfl, hl, e'⟩ | ⟨hli, e'⟩
            · cases e'
              refine ⟨v, t, F, by rw [List.getElem?_set_self (Nat.lt_of_lt_of_le hl I.len)], r, fun a ha => by rw [xs.ok.ow, h5, gset_in ha]; rfl, fun a ha => ?_, g3⟩
              rw [gset_ne fun z => by have := gj a z; rw [g2 a ha] at this; cases this]
              exact g2 a ha
            · obtain ⟨v', t', F', k1, k2, k3, k4, k5⟩ := I.slot l d' e'
              refine ⟨v', t', F', by rw [List.getElem?_set_ne (Ne.symm hli)]; exact k1, k2, fun a ha => ?_, fun a ha => ?_, k5⟩
              · rw [gset_ne fun z => ?_]
                · exact k3 a ha
                · have h8 := gj a z
                  rw [k3 a ha] at h8
                  split at h8
                  · exact hlj (Option.some.inj h8)
                  · cases h8
              · rw [gset_ne fun z => by have := gj a z; rw [k4 a ha] at this; cases this]
                exact k4 a ha
        · rw [gset_ne fun z => by have := gj a z; rw [(I.gmu a ha).1] at this; cases this]
          exact (I.gmu a ha).1
        · by_cases z : a ∈ t
          · exact r.there a (List.mem_append_left _ z)
          · rw [gset_ne z] at ha
            exact I.gdom a ha
  · cases h
end
end WT
end

section
set_option Elab.async false
set_option linter.all false
set_option maxRecDepth 100000
set_option autoImplicit false
/-! K22: statements: changes. -/
namespace WT
open PySem PySem.Spec PyProof.Rows L2

section
variable {m : MC} {g : GE} {k : Nat} {rn : Bool} {a b d e : E}
def ipV (op : Operator) : TIp := fun x y H Q => ∃ i j z, x = .int i ∧ y = .int j ∧ binD op (.int i) (.int j) = some (.int z) ∧ Q (.int z) H
theorem mulD_int {i j z : Int} (h : mulD (.int i) (.int j) = some (.int z)) : mulOK i j ∧ z = i * j := by
  unfold mulD guardO at h
  simp only at h
  split at h
  · cases h; exact ⟨by assumption, rfl⟩
  · cases h
theorem ip_v {X : Cx} {op : Operator} (h : augOp op = true) : PIp X op (ipV op) := by
  intro pins s σ H x y v u Q I r1 r2 hq
  obtain ⟨i, j, z, rfl, rfl, hb, q⟩ := hq
  obtain ⟨t, rfl⟩ := r1
  obtain ⟨t', rfl⟩ := r2
  cases op with
  | Add =>
    cases hb
    exact iadd_int ⟨.int _, H, I.tok _, ⟨_, rfl⟩, q⟩
  | Sub =>
    cases hb
    exact isub_int ⟨.int _, H, I.tok _, ⟨_, rfl⟩, q⟩
  | Mult =>
    obtain ⟨h1, rfl⟩ := mulD_int hb
    exact imul_int ⟨.int _, H, I.tok _, ⟨_, rfl⟩, q⟩ h1.ok
  | _ => cases h
theorem sm_aug {i : Nat} {op : Operator} : SndS m g k rn (.aug i op e) := by
  intro c sc X st hg xs h
  rw [cS] at h
  unfold cAug at h
  split at h
  · rename_i x px op' y pos
    simp only [Bool.and_eq_true, decide_eq_true_eq] at h
    obtain ⟨⟨⟨⟨h1, rfl⟩, h2⟩, h3⟩, h4⟩ := h
    obtain ⟨n1, n2⟩ := nmC_of h1
    obtain ⟨p, hp, _⟩ := pvK_of h4
    refine (ps_aug (by rw [xs.ok.hN]; exact xs.ok.nd) (by rw [xs.ok.hN]; exact n1) (xs.ok.loc n2) (snd e hp c sc X y hg xs.ok h3) (ip_v h2) (.inl (xs.fn x))).mono fun D σ H ⟨env, st, μ, G, I, hq⟩ => ?_
    rw [evS] at hq
    cases e1 : slot env i with
    | none => rw [e1] at hq; exact hq.elim
    | some d =>
      rw [e1] at hq
      obtain ⟨v, t, F, e2, r, g1, g2, g3⟩ := I.slot i d e1
      refine ⟨v, e2, TEv.ofS I hq fun x1 st1 v1 H1 μ1 t1 F1 I1 S1 r1 hq => ?_⟩
      obtain ⟨i0, rfl⟩ : ∃ i0, d = .int i0 := by cases d <;> first | exact ⟨_, rfl⟩ | exact hq.elim
      obtain ⟨j0, rfl⟩ : ∃ j0, x1 = .int j0 := by cases x1 <;> first | exact ⟨_, rfl⟩ | exact hq.elim
      cases hb : binD op (.int i0) (.int j0) with
      | none => rw [hb] at hq; exact hq.elim
      | some z =>
        rw [hb] at hq
        obtain ⟨z0, rfl⟩ : ∃ z0, z = .int z0 := by
          cases op with
          | Add => cases hb; exact ⟨_, rfl⟩
          | Sub => cases hb; exact ⟨_, rfl⟩
          | Mult =>
            have hb : mulD (.int i0) (.int j0) = some z := hb
            unfold mulD guardO at hb
            simp only at hb
            split at hb
            · cases hb; exact ⟨_, rfl⟩
            · cases hb
          | _ => cases h2
        cases r
        obtain ⟨r2, po⟩ := r1
        cases r2
        exact ⟨i0, j0, z0, rfl, rfl, hb, hq _ H1 μ1 G (I1.flat (.int z0)) S1.ss⟩
  · cases h
/-- a name's list, changed -/
theorem chg_ok {c : Cfg} {K : FW} {M : List Nat} {μ0 μ : List Addr} {G : Addr → Option Nat} {H0 H : Hp} {D : Ends} {i : Nat} {o ok : Bool} {env : Env} {st : Sto} {σ : St} {f : List WT.D → Option (List WT.D)} (how : c.ow = m.ow) (ho : o = true → m.ow i = true ∧ i ∈ M) (I : SI K c.ow c.Ok env st μ G σ H) (S : StepS M μ0 G H0 μ G H)
    (h : okS c K M rn μ0 G H0 D (chg i o ok env st f)) : ∃ a xs ys vs F, σ[i]? = some (some (.ref a)) ∧ H a = some (.lst vs) ∧ Reps K H μ xs vs F ∧ f xs = some ys ∧ (∀ b ∈ F, G b = none ∧ b ∉ μ ∧ c.Ok b) ∧
      ∀ vs' F', Reps K H μ ys vs' F' → (∀ b ∈ F', G b = none ∧ b ∉ μ ∧ c.Ok b) → (ok = true → F = [] → F' = []) → D.nx σ (upd H a (.lst vs')) := by
  unfold chg at h
  cases e1 : slot env i with
  | none => rw [e1] at h; exact h.elim
  | some d =>
    rw [e1] at h
    cases d with
    | lst xs =>
      simp only at h
      cases o with
      | false => exact h.elim
      | true =>
        rw [if_pos rfl] at h
        cases e2 : f xs with
        | none => rw [e2] at h; exact h.elim
        | some ys =>
          rw [e2] at h
          obtain ⟨h1, h2⟩ := ho rfl
          obtain ⟨a, vs, F, k1, k2, k3, k4, k5⟩ := I.chgOwn (ys := ys) (by rw [how]; exact h1) h2 e1
          refine ⟨a, xs, ys, vs, F, k1, k2, k3, e2, k4, fun vs' F' r hF _ => ?_⟩
          obtain ⟨J, S2⟩ := k5 vs' F' r hF
          exact h σ _ μ G J (S.trans S2)
    | ref j =>
      simp only at h
      cases ok with
      | false => exact h.elim
      | true =>
        rw [if_pos rfl] at h
        cases e2 : st[j]? with
        | none => rw [e2] at h; exact h.elim
        | some xs =>
          rw [e2] at h
          cases e3 : f xs with
          | none => rw [Option.bind_some, e3] at h; exact h.elim
          | some ys =>
            rw [Option.bind_some, e3] at h
            obtain ⟨a, vs, k1, k2, k3, k4⟩ := I.chgRef (M := M) (ys := ys) e1 e2
            refine ⟨a, xs, ys, vs, [], k1, k2, k3, e3, fun _ h => by simp at h, fun vs' F' r hF hf => ?_⟩
            have : F' = [] := hf rfl rfl
            subst this
            obtain ⟨J, S2⟩ := k4 vs' r
            exact h σ _ μ G J (S.trans S2)
    | _ => exact h.elim
theorem named {c : Cfg} {K : FW} {M : List Nat} {μ : List Addr} {G : Addr → Option Nat} {H : Hp} {D : Ends} {i : Nat} {env : Env} {st : Sto} {σ : St} {r : RS} (I : SI K c.ow c.Ok env st μ G σ H) (h : okS c K M rn μ G H D (if (slot env i).isNone = true then .bad else r)) : ∃ v0, σ[i]? = some (some v0) ∧ okS c K M rn μ G H D r := by
  cases e1 : slot env i with
  | none => rw [e1] at h; exact h.elim
  | some d =>
    rw [e1] at h
    obtain ⟨v, t, F, e2, _⟩ := I.slot i d e1
    exact ⟨v, e2, h⟩
theorem own_tch {i : Nat} {o : Bool} (h : (!o || m.ow i) = true) : o = true → m.ow i = true ∧ i ∈ (if o = true then [i] else []) := fun e => by
  subst e
  exact ⟨by simpa using h, by simp⟩
theorem pln_or {c : Cfg} {K : FW} {G : Addr → Option Nat} {p : Pv} {nl : Bool} {H H1 : Hp} {x : WT.D} {v : V} {t F μ1 : List Addr} (r : Held K c G p H x v t F μ1 H1) (gd : ∀ a, G a ≠ none → H a ≠ none) (h : (nl || plnP p) = true) (hd : (nl && !noL x) = false) : ∀ a ∈ t ++ F, G a = none ∧ a ∉ μ1 ∧ c.Ok a := by
  cases nl with
  | true =>
    have hn : noL x = true := by simpa using hd
    obtain ⟨rfl, rfl⟩ := r.rep.noL hn
    exact fun _ h => by simp at h
  | false =>
    obtain ⟨k1, k2⟩ := plnP_of (by simpa using h)
    exact r.pln gd k1 k2
theorem sm_setIx {i : Nat} {o nl : Bool} {ix : E} : SndS m g k rn (.setIx i o nl ix e) := by
  intro c sc X st hg xs h
  rw [cS] at h
  unfold cSetIx at h
  split at h
  · rename_i x px z sp y pos
    simp only [Bool.and_eq_true, decide_eq_true_eq] at h
    obtain ⟨⟨⟨⟨⟨⟨⟨n1, n2⟩, n3⟩, h1⟩, h2⟩, h3⟩, h4⟩, h5⟩ := h
    obtain ⟨d1, d2⟩ := plB_ok n3
    obtain ⟨p, hp, hk⟩ := pvK_of h4
    obtain ⟨q, hq, _⟩ := pvK_of h5
    have hz := mE_plain h1
    refine (ps_asg (snd e hp c sc X y hg xs.ok h2) (pg_sub (pe_var (i := i) (by rw [xs.ok.hN]; exact n1) (xs.ok.vis n2) d1 d2) (snd ix hq c sc X z hg xs.ok h1) set_list (fun v => ?_)) ?_ ?_ rfl).mono fun D σ H ⟨env, st, μ, G, I, hw⟩ => ?_
    · cases z <;> first | rfl | (cases hz; done)
    · cases y <;> rfl
    · cases y <;> rfl
    · rw [evS] at hw
      obtain ⟨v0, hv0, hw⟩ := named I hw
      refine TEv.ofS I hw fun x1 st1 v1 H1 μ1 t1 F1 I1 S1 r1 hw => ?_
      -- the name's list, then the index
      have go : TEv c X.KW q (evE g ix) σ H1 fun kv H2 => ∀ v0, σ[i]? = some (some v0) → rSetL v0 kv v1 H2 fun H3 => D.nx σ H3 := by
        refine TEv.nxtS S1 I1 hw fun x2 st2 v2 H2 μ2 t2 F2 I2 S2 r2 hw v0 hv0 => ?_
        cases hd : (nl && !noL x1) with
        | true => rw [hd] at hw; exact hw.elim
        | false =>
          rw [hd, if_neg (by simp)] at hw
          have r1' := r1.step S2
          have pl := pln_or r1' I.gdom hk hd
          obtain ⟨a0, xs0, ys0, vs0, F0, k1, k2, k3, k4, k5, k6⟩ := chg_ok xs.ok.ow (own_tch h3) I2 (S1.trans S2).ss hw
          rw [k1] at hv0
          cases hv0
          cases x2 with
          | int kk =>
            obtain ⟨r2, po⟩ := r2
            cases r2
            obtain ⟨j0, e1, rfl⟩ := Option.map_eq_some_iff.mp (show (ixN xs0.length kk).map (fun j => xs0.set j x1) = some ys0 from k4)
            rw [k3.length] at e1
            obtain ⟨F3, r3, hF3⟩ := k3.set j0 r1'.rep
            refine ⟨a0, vs0, kk, j0, rfl, rfl, k2, e1, k6 _ F3 r3 (fun b hb => ?_) fun hn hF0 => ?_⟩
            · rcases hF3 b hb with hb | hb
              · exact k5 b hb
              · exact pl b hb
            · obtain ⟨z1, z2⟩ := r1'.rep.noL hn
              cases F3 with
              | nil => rfl
              | cons b F3 =>
                rcases hF3 b (by simp) with hb | hb
                · rw [hF0] at hb; simp at hb
                · rw [z1, z2] at hb; simp at hb
          | _ => cases k4
      obtain ⟨env2, st2, μ2, G2, I', hf⟩ := go
      exact ⟨v0, hv0, env2, st2, μ2, G2, I', hf.mono (fun x2 st3 _ z v2 H2 μ2 t2 F2 I2 S2 r2 po2 => z v2 H2 μ2 t2 F2 I2 S2 r2 po2 v0 hv0) fun _ _ _ z => z⟩
  · cases h
end
end WT
end

section
set_option Elab.async false
set_option linter.all false
set_option maxRecDepth 100000
set_option autoImplicit false
/-! K23: statements: append, augmented items, if, while, for; every statement. -/
namespace WT
open PySem PySem.Spec PyProof.Rows L2

theorem meth_desc_append : typeOf (.builtin "list.append") = pure (.type "method_descriptor") := by show builtinType _ = _; rw [builtinType_eq_fast]; kernel_rfl
section
variable {m : MC} {g : GE} {k : Nat} {rn : Bool} {a b d e : E}
theorem attr_plain {x : Str} {p : Pos} {n : Str} {env : PySem.Env} (w : Sem Value) : attributeBase (.Name x p) n env w = w := rfl
theorem listed {c : Cfg} {K : FW} {M : List Nat} {μ : List Addr} {G : Addr → Option Nat} {H : Hp} {D : Ends} {i : Nat} {env : Env} {st : Sto} {σ : St} {r : RS} (I : SI K c.ow c.Ok env st μ G σ H) (h : okS c K M rn μ G H D (if (!isLs env st i) = true then .bad else r)) :
    ∃ a vs, σ[i]? = some (some (.ref a)) ∧ H a = some (.lst vs) ∧ okS c K M rn μ G H D r := by
  cases hl : isLs env st i with
  | false => rw [hl] at h; exact h.elim
  | true =>
    rw [hl] at h
    unfold isLs at hl
    cases e1 : slot env i with
    | none => rw [e1] at hl; cases hl
    | some d =>
      rw [e1] at hl
      obtain ⟨v, t, F, e2, r1, _⟩ := I.slot i d e1
      cases d with
      | lst xs =>
        cases r1 with
        | lst ha _ => exact ⟨_, _, e2, ha, h⟩
      | ref j =>
        cases r1 with
        | ref hj =>
          obtain ⟨a, vs, k1, k2, _⟩ := I.box j _ (List.getElem?_eq_getElem (by simpa using hl))
          rw [hj] at k1
          cases k1
          exact ⟨_, vs, e2, k2, h⟩
      | _ => cases hl
theorem sm_app {i : Nat} {o nl : Bool} : SndS m g k rn (.app i o nl e) := by
  intro c sc X st hg xs h
  rw [cS] at h
  unfold cApp at h
  split at h
  · rename_i x px f ap y cp pos
    simp only [Bool.and_eq_true, decide_eq_true_eq, beq_iff_eq] at h
    obtain ⟨⟨⟨⟨⟨⟨⟨rfl, n1⟩, n2⟩, n3⟩, h1⟩, h2⟩, h3⟩, h4⟩ := h
    obtain ⟨d1, d2⟩ := plB_ok n3
    obtain ⟨p, hp, hk⟩ := pvK_of h3
    have hy := mE_plain h1
    have hst := star_of hy ([] : List Expr) X.env
    refine (ps_expr (pe_bm F.plainAttrs_list F.slot_list_append meth_desc_append mt_append (pe_var (i := i) (by rw [xs.ok.hN]; exact n1) (xs.ok.vis n2) d1 d2) (pa_cons (snd e hp c sc X y hg xs.ok h1) pa_nil hst) rfl ?_ (by rw [h4]; simp) hst rfl) rfl).mono fun D σ H ⟨env, st, μ, G, I, hw⟩ => ?_
    · rw [hst]
      rfl
    · rw [evS] at hw
      obtain ⟨a0, vs0, hv0, ha0, hw⟩ := listed I hw
      refine ⟨_, hv0, .inl ⟨rfl, vs0, .inl (.inl ha0)⟩, ?_⟩
      refine TEv.ofS I hw fun x1 st1 v1 H1 μ1 t1 F1 I1 S1 r1 hw => ?_
      cases hd : (nl && !noL x1) with
      | true => rw [hd] at hw; exact hw.elim
      | false =>
        rw [hd, if_neg (by simp)] at hw
        have pl := pln_or r1 I.gdom hk hd
        obtain ⟨a1, xs0, ys0, vs1, F0, k1, k2, k3, k4, k5, k6⟩ := chg_ok xs.ok.ow (own_tch h2) I1 S1.ss hw
        rw [k1] at hv0
        cases hv0
        obtain ⟨hz, rfl⟩ := guardO_some k4
        obtain ⟨F3, r3, hF3⟩ := k3.append (.cons r1.rep .nil)
        refine ⟨_, vs1, v1, rfl, rfl, k2, by rw [← k3.length]; exact hz, ?_⟩
        refine k6 _ F3 r3 (fun b hb => ?_) fun hn hF0 => ?_
        · rcases hF3 b hb with hb | hb
          · exact k5 b hb
          · exact pl b (by simpa using hb)
        · obtain ⟨z1, z2⟩ := r1.rep.noL hn
          cases F3 with
          | nil => rfl
          | cons b F3 =>
            rcases hF3 b (by simp) with hb | hb
            · rw [hF0] at hb; simp at hb
            · rw [z1, z2] at hb; simp at hb
  · cases h
end
end WT
end

section
set_option Elab.async false
set_option linter.all false
set_option maxRecDepth 100000
set_option autoImplicit false
/-! K24: augmented items, if, while, for; every statement. -/
namespace WT
open PySem PySem.Spec PyProof.Rows L2

section
variable {m : MC} {g : GE} {k : Nat} {rn : Bool} {a b d e : E}
theorem SndSs.nil : SndSs m g k rn .nil := by
  intro c sc X st hg xs h
  rw [cSs] at h
  have : st = [] := List.isEmpty_iff.mp h
  subst this
  exact pss_nil.mono fun D σ H ⟨env, st, μ, G, I, hq⟩ => by
    rw [evSs] at hq
    exact hq σ H μ G I .refl
theorem SndSs.cons {s : S} {ss : Ss} (h1 : SndS m g k rn s) (h2 : SndSs m g k rn ss) : SndSs m g k rn (.cons s ss) := by
  intro c sc X st hg xs h
  rw [cSs] at h
  unfold cCons at h
  rw [Bool.or_eq_true] at h
  rcases h with h | h
  · cases s <;> first | (cases h; done) | skip
    exact pss_never.mono fun D σ H ⟨env, st, μ, G, I, hq⟩ => by
      rw [evSs, evS] at hq
      exact hq
  · cases hk : isKill s with
    | some i =>
      rw [hk, if_pos (by rfl)] at h
      have e : s = .kill i := by
        cases s <;> first | (cases hk; done) | skip
        cases hk
        rfl
      subst e
      refine (h2 c sc X st hg xs h).mono fun D σ H ⟨env, st, μ, G, I, hq⟩ => ?_
      rw [evSs, evS] at hq
      exact ⟨_, st, μ, G, I.kill (i := i), hq⟩
    | none =>
      rw [hk, if_neg (by simp)] at h
      cases st with
      | nil => cases h
      | cons x r =>
        rw [Bool.and_eq_true] at h
        refine (pss_cons (h1 c sc X x hg xs h.1) (h2 c sc X r hg xs h.2)).mono fun D σ H ⟨env, st, μ, G, I, hq⟩ => ?_
        rw [evSs] at hq
        rw [tchss] at hq
        refine ⟨env, st, μ, G, I, ?_⟩
        cases es : evS g s env st with
        | nx env' st' =>
          rw [es] at hq
          exact fun σ' H' μ' G' I' S' => ⟨env', st', μ', G', I', (hq.step (S'.weak fun i hi => List.mem_append_left _ hi)).less fun i hi => List.mem_append_right _ hi⟩
        | bk env' st' =>
          rw [es] at hq
          exact okS.less (D := D) (r := .bk env' st') hq fun i hi => List.mem_append_left _ hi
        | ct env' st' =>
          rw [es] at hq
          exact okS.less (D := D) (r := .ct env' st') hq fun i hi => List.mem_append_left _ hi
        | rt d st' =>
          rw [es] at hq
          exact okS.less (D := D) (r := .rt d st') hq fun i hi => List.mem_append_left _ hi
        | exn x d env' st' =>
          rw [es] at hq
          exact okS.less (D := D) (r := .exn x d env' st') hq fun i hi => List.mem_append_left _ hi
        | bad => rw [es] at hq; exact hq
theorem sm_ite {p q : Ss} (h1 : SndSs m g k rn p) (h2 : SndSs m g k rn q) : SndS m g k rn (.ite e p q) := by
  intro c sc X st hg xs h
  rw [cS] at h
  unfold cIf at h
  split at h
  · rename_i x pp qq pos
    simp only [Bool.and_eq_true] at h
    obtain ⟨⟨⟨⟨e1, e2⟩, e3⟩, e4⟩, e5⟩ := h
    obtain ⟨pv, hp, _⟩ := pvK_of e3
    refine (ps_if (sndt e hp c sc X x hg xs.ok e1 e2) (h1 c sc X pp hg xs e4) (h2 c sc X qq hg xs e5)).mono fun D σ H ⟨env, st, μ, G, I, hq⟩ => ?_
    rw [evS] at hq
    refine TTv.ofS I hq fun b st1 H1 μ1 I1 S1 hq => ?_
    have hq := hq.step S1.ss
    cases b with
    | true => exact ⟨env, st1, μ1, G, I1, hq.less fun i hi => by rw [tchs]; exact List.mem_append_left _ hi⟩
    | false => exact ⟨env, st1, μ1, G, I1, hq.less fun i hi => by rw [tchs]; exact List.mem_append_right _ hi⟩
  · cases h
/-- behind a loop's body -/
theorem okS.again {c : Cfg} {K : FW} {M : List Nat} {μ : List Addr} {G : Addr → Option Nat} {H : Hp} {D : Ends} {r : RS} {N : St → Hp → Prop} {f : RS}
    (h : okS c K M rn μ G H D f) (h1 : ∀ env st, r = .nx env st → ∀ σ' H' μ' G', SI K c.ow c.Ok env st μ' G' σ' H' → StepS M μ G H μ' G' H' → N σ' H') (h2 : ∀ env st, r = .ct env st → ∀ σ' H' μ' G', SI K c.ow c.Ok env st μ' G' σ' H' → StepS M μ G H μ' G' H' → N σ' H')
    (h3 : ∀ env st, r = .bk env st → f = .nx env st) (h4 : (∀ env st, r ≠ .nx env st) → (∀ env st, r ≠ .ct env st) → (∀ env st, r ≠ .bk env st) → f = r) : okS c K M rn μ G H { D with nx := N, ct := N, bk := D.nx } r := by
  cases r with
  | nx env st => exact h1 env st rfl
  | ct env st => exact h2 env st rfl
  | bk env st =>
    have := h3 env st rfl
    subst this
    exact h
  | rt d st =>
    have := h4 (fun _ _ z => by cases z) (fun _ _ z => by cases z) (fun _ _ z => by cases z)
    subst this
    exact h
  | exn x d env st =>
    have := h4 (fun _ _ z => by cases z) (fun _ _ z => by cases z) (fun _ _ z => by cases z)
    subst this
    exact h
  | bad =>
    have := h4 (fun _ _ z => by cases z) (fun _ _ z => by cases z) (fun _ _ z => by cases z)
    subst this
    exact h
theorem sm_whl {p : Ss} (h1 : SndSs m g k rn p) : SndS m g k rn (.whl e p) := by
  intro c sc X st hg xs h
  rw [cS] at h
  unfold cWh at h
  split at h
  · rename_i x pp pos
    · simp only [Bool.and_eq_true] at h
      obtain ⟨⟨⟨e1, e2⟩, e3⟩, e4⟩ := h
      obtain ⟨pv, hp, _⟩ := pvK_of e3
      refine (ps_while xs.po (sndt e hp c sc X x hg xs.ok e1 e2) (h1 c sc X pp hg xs e4)).mono fun D σ H ⟨env, st, μ, G, I, hq⟩ => ?_
      rw [evS] at hq
      rw [tchs] at hq
      have hne : whD (evC g e) (evSs g p) env st ≠ .bad := fun z => by rw [z] at hq; exact hq
      obtain ⟨n, hn⟩ := whD_ne hne
      rw [whD_of hn] at hq
      refine ⟨fun n σ' H' => ∃ env' st' μ' G', SI X.KW c.ow c.Ok env' st' μ' G' σ' H' ∧ okS c X.KW (tchss p) rn μ' G' H' D (whN (evC g e) (evSs g p) n env' st'), ⟨n, env, st, μ, G, I, hq⟩, ?_⟩
      rintro n σ' H' ⟨env', st', μ', G', I', hq⟩
      cases n with
      | zero => exact hq.elim
      | succ n =>
        rw [whN] at hq
        refine TTv.ofS I' hq fun b st1 H1 μ1 I1 S1 hq => ?_
        have hq := hq.step S1.ss
        cases b with
        | false =>
          rw [if_neg (by simp)]
          exact hq σ' H1 μ1 G' I1 .refl
        | true =>
          rw [if_pos rfl]
          refine ⟨fun σ2 H2 => ∃ env2 st2 μ2 G2, SI X.KW c.ow c.Ok env2 st2 μ2 G2 σ2 H2 ∧ okS c X.KW (tchss p) rn μ2 G2 H2 D (whN (evC g e) (evSs g p) n env2 st2), fun σ2 H2 z => ⟨n, by omega, z⟩, env', st1, μ1, G', I1, ?_⟩
          refine okS.again hq (fun env2 st2 e2 σ2 H2 μ2 G2 I2 S2 => ⟨env2, st2, μ2, G2, I2, ?_⟩) (fun env2 st2 e2 σ2 H2 μ2 G2 I2 S2 => ⟨env2, st2, μ2, G2, I2, ?_⟩) (fun env2 st2 e2 => by simp only [e2]) fun n1 n2 n3 => ?_
          · simp only [e2] at hq
            exact hq.step S2
          · simp only [e2] at hq
            exact hq.step S2
          · cases er : evSs g p env' st1 with
            | nx env2 st2 => exact absurd er (n1 env2 st2)
            | ct env2 st2 => exact absurd er (n2 env2 st2)
            | bk env2 st2 => exact absurd er (n3 env2 st2)
            | _ => rfl
  · cases h
theorem sm_for {tg : Tg} {it : WT.It} {p : Ss} (h1 : SndSs m g k rn p) : SndS m g k rn (.for_ tg it p) := by
  intro c sc X st hg xs h
  rw [cS] at h
  unfold cFor at h
  split at h
  · rename_i t i pp pos
    · simp only [Bool.and_eq_true, List.all_eq_true, decide_eq_true_eq, Bool.not_eq_true'] at h
      obtain ⟨⟨⟨⟨⟨⟨e1, e2⟩, e3⟩, e4⟩, e5⟩, e6⟩, e7⟩ := h
      cases el : pvIt m it with
      | none => rw [el] at e4; cases e4
      | some l =>
        rw [el] at e4
        have : l = [] := List.isEmpty_iff.mp e4
        subst this
        have htup : itP it = true → ∃ elts kk tpos, t = .Tuple elts kk tpos := fun z => by
          cases tg with
          | name _ => cases it <;> simp [itP, itTg] at z e3
          | tup _ =>
            cases t with
            | Tuple e k p => exact ⟨e, k, p, rfl⟩
            | _ => simp [mTg] at e1
        refine (ps_for xs.po xs.ok.calm (sndi it el c sc X t i hg xs.ok e2 htup) (pg_st xs e1) (h1 c sc X pp hg xs e7) (foldedSet e2)).mono fun D σ H ⟨env, st, μ, G, I, hq⟩ => ?_
        rw [evS, tchs] at hq
        refine TIv.ofS I hq fun ds st1 J H1 μ1 L I1 S1 wk hL hq => ?_
        have hq := hq.step S1.ss
        refine ⟨fun i n σ' H' => n = ds.length - i ∧ i ≤ ds.length ∧ ∃ env' st' μ' G', SI X.KW c.ow c.Ok env' st' μ' G' σ' H' ∧ StepS (tchss p) μ1 G H1 μ' G' H' ∧ okS c X.KW (tchss p) rn μ' G' H' D (forD tg (evSs g p) (ds.drop i) env' st'), ⟨ds.length, by simp, Nat.zero_le _, env, st1, μ1, G, I1, .refl, hq⟩, ?_⟩
        rintro i n σ' H' ⟨rfl, hi, env', st', μ', G', I', S', hq⟩
        have sl : SL (· ∈ L) μ1 H1 μ' H' := S'.sl.weak fun a ha i hi e => (hL a ha).elim (fun z => by rw [z] at e; cases e) fun ⟨j, hj, z⟩ => by
          rw [z] at e
          cases e
          exact e6 _ hj hi
        have nL : ∀ a ∈ L, ∀ i ∈ tchss p, G a ≠ some i := fun a ha i hi e => (hL a ha).elim (fun z => by rw [z] at e; cases e) fun ⟨j, hj, z⟩ => by
          rw [z] at e
          cases e
          exact e6 _ hj hi
        by_cases hlt : i < ds.length
        · obtain ⟨go, yl⟩ := wk.go μ' H' i _ sl (List.getElem?_eq_getElem hlt)
          refine .inr ⟨go, fun σ2 H2 => ∃ env' st' μ' G', SI X.KW c.ow c.Ok env' st' μ' G' σ2 H2 ∧ StepS (tchss p) μ1 G H1 μ' G' H2 ∧ okS c X.KW (tchss p) rn μ' G' H2 D (forD tg (evSs g p) (ds.drop (i + 1)) env' st'), fun σ2 H2 z => ⟨ds.length - (i + 1), by omega, rfl, hlt, z⟩, fun v H2 hy => ?_⟩
          obtain ⟨n1, tv, Fv, rv, hv⟩ := yl v H2 hy
          rw [List.drop_eq_getElem_cons hlt, forD] at hq
          cases eb : bindTg tg ds[i] env' with
          | none => rw [eb] at hq; exact hq.elim
          | some env1 =>
            rw [eb] at hq
            simp only at hq
            have hq := hq.step (n1.step (μ := μ')).ss
            refine SI.tg (I'.new1 n1) (fun i hi => by rw [xs.ok.ow]; exact e5 i hi) eb rv (fun a ha => ?_) fun σ2 I2 hl hj => ?_
            · obtain ⟨z1, z2, z3⟩ := hv a ha
              refine ⟨?_, wk.mu sl a z1, z3⟩
              rw [S'.agr a (wk.there a z1).1 (nL a z1)]
              exact z2.elim id fun ⟨i, hi, _⟩ => by simp at hi
            · have S2 : StepS (tchss p) μ1 G H1 μ' G' H2 := S'.trans (n1.step (μ := μ')).ss
              refine ⟨env1, st', μ', G', I2, ?_⟩
              refine okS.again hq (fun env2 st2 e2 σ3 H3 μ3 G3 I3 S3 => ⟨env2, st2, μ3, G3, I3, S2.trans S3, ?_⟩) (fun env2 st2 e2 σ3 H3 μ3 G3 I3 S3 => ⟨env2, st2, μ3, G3, I3, S2.trans S3, ?_⟩) (fun env2 st2 e2 => by simp only [e2]) fun n1 n2 n3 => ?_
              · simp only [e2] at hq
                exact hq.step S3
              · simp only [e2] at hq
                exact hq.step S3
              · cases er : evSs g p env1 st' with
                | nx env2 st2 => exact absurd er (n1 env2 st2)
                | ct env2 st2 => exact absurd er (n2 env2 st2)
                | bk env2 st2 => exact absurd er (n3 env2 st2)
                | _ => rfl
        · refine .inl ?_
          have e : i = ds.length := by omega
          subst e
          rw [List.drop_length, forD] at hq
          exact ⟨wk.stop μ' H' _ sl (Nat.le_refl _), hq σ' H' μ' G' I' .refl⟩
  · cases h
end
end WT
end

section
set_option Elab.async false
set_option linter.all false
set_option maxRecDepth 100000
set_option autoImplicit false
/-! K24m: statements: extend, insert; d[k] = v. -/
namespace WT
open PySem PySem.Spec PyProof.Rows L2
theorem meth_desc_extend : typeOf (.builtin "list.extend") = pure (.type "method_descriptor") := by show builtinType _ = _; rw [builtinType_eq_fast]; kernel_rfl
theorem meth_desc_insert : typeOf (.builtin "list.insert") = pure (.type "method_descriptor") := by show builtinType _ = _; rw [builtinType_eq_fast]; kernel_rfl
section
variable {m : MC} {g : GE} {k : Nat} {rn : Bool} {a b d e : E}
theorem TAv.ofS {c : Cfg} {K : FW} {M : List Nat} {μ : List Addr} {G : Addr → Option Nat} {H : Hp} {D : Ends} {env : Env} {st : Sto} {σ : St} {l : List Nat} {s : Env → Sto → WT.R (List WT.D)} {f : List WT.D → Sto → RS} {R' : List V → Hp → Prop} (I : SI K c.ow c.Ok env st μ G σ H) (h : okS c K M rn μ G H D ((s env st).toS env f))
    (kk : ∀ xs st1 vs H1 μ1 F, SI K c.ow c.Ok env st1 μ1 G σ H1 → Step μ H μ1 H1 → Reps K H1 μ1 xs vs F → okS c K M rn μ G H D (f xs st1) → R' vs H1) : TAv c K l s σ H R' :=
  ⟨env, st, μ, G, I, (h.toS I).mono (fun xs st1 _ hx vs H1 μ1 F I1 S1 r po => kk xs st1 vs H1 μ1 F I1 S1 r hx) fun _ _ _ hx => hx⟩
theorem few_of {m : MC} {sc : Scope} {es : Es} {y : Expr} {ys : List Expr} (h : mEs m es sc (y :: ys) = true) (hl : ys.length ≤ 1) (env : PySem.Env) (cp : Pos) :
    ((backTo cp (starEach (y :: ys) env)).all (fun x => !x.1) && (backToKw cp (keywordEach [] env)).all (fun x => x.1.isSome) && decide ((y :: ys).length + ([] : List Keyword).length + (if ([] : List Keyword).isEmpty then 0 else 1) < 30)) = true := by
  have h1 := mEs_star h env cp
  have e1 : (backTo cp (starEach (y :: ys) env)).all (fun x => !x.1) = true := by
    rw [List.all_eq_true]
    intro x hx
    have : ¬ x.1 = true := fun z => by
      rw [List.any_eq_false] at h1
      exact h1 x hx z
    simpa using this
  rw [e1]
  match ys, hl with
  | [], _ => rfl
  | [_], _ => rfl
theorem noL_flat {K : FW} {H : Hp} {μ : List Addr} {v : WT.D} {x : V} {t F : List Addr} (r : Rep K H μ v x t F) (h : noL v = true) : Rep K H μ v x [] [] := by
  obtain ⟨h1, h2⟩ := r.noL h
  subst h1 h2
  exact r
theorem Reps.nil_of {K : FW} {H : Hp} {μ : List Addr} {ds : List WT.D} {vs : List V} {F : List Addr} (r : Reps K H μ ds vs F) (h : noLs ds = true) : Reps K H μ ds vs [] := by
  have := r.noL h
  subst this
  exact r
theorem mthD_ext {xs ds ys : List WT.D} (h : mthD .extend xs ds = some ys) : ∃ zs, ds = [.lst zs] ∧ noLs zs = true ∧ xs.length + zs.length ≤ sizeLine ∧ ys = xs ++ zs := by
  match ds, h with
  | [.lst zs], h =>
    obtain ⟨⟨hn, hz⟩, e⟩ := guardO_some (show guardO _ (xs ++ zs) = some ys from h)
    exact ⟨zs, rfl, hn, hz, e.symm⟩
  | [], h => cases h
  | _ :: _ :: _, h => simp [mthD] at h
theorem mthD_ins {xs ds ys : List WT.D} (h : mthD .insert xs ds = some ys) : ∃ i d, ds = [.int i, d] ∧ noL d = true ∧ xs.length < sizeLine ∧ 0 ≤ i ∧ i < 2 ^ 63 ∧ ys = xs.take i.toNat ++ [d] ++ xs.drop i.toNat := by
  match ds, h with
  | [.int i, d], h =>
    obtain ⟨⟨hn, hz, h0, h1⟩, e⟩ := guardO_some (show guardO _ (xs.take i.toNat ++ [d] ++ xs.drop i.toNat) = some ys from h)
    exact ⟨i, d, rfl, hn, hz, h0, h1, e.symm⟩
  | [], h => cases h
  | [x], h => cases x <;> cases h
  | x :: _ :: _ :: _, h => cases x <;> cases h
theorem sm_mth {i : Nat} {o : Bool} {f : Mth} {es : Es} : SndS m g k rn (.mth i o f es) := by
  intro c sc X st hg xs h
  rw [cS] at h
  unfold cMth at h
  split at h
  · rename_i x px n ap y ys cp pos
    simp only [Bool.and_eq_true, decide_eq_true_eq, beq_iff_eq, Bool.not_eq_true', decide_eq_false_iff_not] at h
    obtain ⟨⟨⟨⟨⟨⟨⟨⟨⟨rfl, n1⟩, n2⟩, n3⟩, h1⟩, h2⟩, h3⟩, h4⟩, h5⟩, h6⟩ := h
    obtain ⟨d1, d2⟩ := plB_ok n3
    obtain ⟨l, hl⟩ := Option.isSome_iff_exists.mp h3
    have hst : starEach (y :: ys) X.env = (false, eval y X.env) :: starEach ys X.env := by
      cases es with
      | nil => simp [mEs] at h1
      | cons e es => rw [mEs, Bool.and_eq_true] at h1; exact star_of (mE_plain h1.1) ys X.env
    have hpl : (backTo cp (starEach ys X.env)).any (·.1) = false := by
      cases es with
      | nil => simp [mEs] at h1
      | cons e es => rw [mEs, Bool.and_eq_true] at h1; exact mEs_star h1.2 X.env cp
    have few := few_of h1 h5 X.env cp
    cases f with
    | reverse => exact absurd rfl h6
    | extend =>
      refine (ps_expr (pe_bm F.plainAttrs_list F.slot_list_extend meth_desc_extend mt_extend (pe_var (i := i) (by rw [xs.ok.hN]; exact n1) (xs.ok.vis n2) d1 d2) (snda es hl c sc X (y :: ys) hg xs.ok h1).1 rfl few (by rw [h4]; simp) hst hpl) rfl).mono fun D σ H ⟨env, st, μ, G, I, hw⟩ => ?_
      rw [evS] at hw
      obtain ⟨a0, vs0, hv0, ha0, hw⟩ := listed I hw
      refine ⟨_, hv0, .inl ⟨rfl, vs0, .inl (.inl ha0)⟩, ?_⟩
      refine TAv.ofS I hw fun ds st1 ws H1 μ1 F1 I1 S1 r1 hw => ?_
      obtain ⟨a1, xs0, ys0, vs1, F0, k1, k2, k3, k4, k5, k6⟩ := chg_ok xs.ok.ow (own_tch h2) I1 S1.ss hw
      rw [k1] at hv0
      cases hv0
      obtain ⟨zs, rfl, hn, hz, rfl⟩ := mthD_ext k4
      cases r1 with
      | cons r1 r2 =>
        cases r2
        cases r1
        rename_i b zv e1 rz
        have rz := rz.nil_of hn
        obtain ⟨F3, r3, hF3⟩ := k3.append rz
        refine ⟨_, b, vs1, zv, rfl, rfl, k2, e1, by rw [← k3.length, ← rz.length]; exact hz, ?_⟩
        refine k6 _ F3 r3 (fun b hb => ?_) fun _ hF0 => ?_
        · rcases hF3 b hb with hb | hb
          · exact k5 b hb
          · simp at hb
        · cases F3 with
          | nil => rfl
          | cons b F3 =>
            rcases hF3 b (by simp) with hb | hb
            · rw [hF0] at hb; simp at hb
            · simp at hb
    | insert =>
      refine (ps_expr (pe_bm F.plainAttrs_list F.slot_list_insert meth_desc_insert mt_insert (pe_var (i := i) (by rw [xs.ok.hN]; exact n1) (xs.ok.vis n2) d1 d2) (snda es hl c sc X (y :: ys) hg xs.ok h1).1 rfl few (by rw [h4]; simp) hst hpl) rfl).mono fun D σ H ⟨env, st, μ, G, I, hw⟩ => ?_
      rw [evS] at hw
      obtain ⟨a0, vs0, hv0, ha0, hw⟩ := listed I hw
      refine ⟨_, hv0, .inl ⟨rfl, vs0, .inl (.inl ha0)⟩, ?_⟩
      refine TAv.ofS I hw fun ds st1 ws H1 μ1 F1 I1 S1 r1 hw => ?_
      obtain ⟨a1, xs0, ys0, vs1, F0, k1, k2, k3, k4, k5, k6⟩ := chg_ok xs.ok.ow (own_tch h2) I1 S1.ss hw
      rw [k1] at hv0
      cases hv0
      obtain ⟨j, w, rfl, hn, hz, hj, hj2, rfl⟩ := mthD_ins k4
      cases r1 with
      | cons r1 r2 =>
        cases r1
        cases r2 with
        | cons r2 r3 =>
          cases r3
          have r2 := noL_flat r2 hn
          obtain ⟨Fa, ra, hFa⟩ := k3.take j.toNat
          obtain ⟨Fb, rb, hFb⟩ := k3.drop j.toNat
          obtain ⟨Fc, rc, hFc⟩ := ra.append (.cons r2 .nil)
          obtain ⟨F3, r3, hF3⟩ := rc.append rb
          have hall : ∀ b ∈ F3, b ∈ F0 := fun b hb => by
            rcases hF3 b hb with hb | hb
            · rcases hFc b hb with hb | hb
              · exact hFa b hb
              · simp at hb
            · exact hFb b hb
          refine ⟨_, vs1, j, _, rfl, rfl, k2, by rw [← k3.length]; exact hz, hj, hj2, ?_⟩
          refine k6 _ F3 r3 (fun b hb => k5 b (hall b hb)) fun _ hF0 => ?_
          cases F3 with
          | nil => rfl
          | cons b F3 =>
            have := hall b (by simp)
            rw [hF0] at this; simp at this
  · cases h
/-! ### dicts -/
theorem slUpdK {L : Addr → Prop} {μ : List Addr} {H : Hp} {p : Addr} {xs ys : List (Key × V)} (h : H p = some (.dK xs)) (hL : ¬ L p) : SL L μ H μ (upd H p (.dK ys)) where
  keep := fun a o e n l => by rw [upd_ne (fun z => hL (by rw [← z]; exact l) : a ≠ p)]; exact e
  tups := fun a u e => by
    rw [upd_ne fun z => ?_]
    · exact e
    · rw [z, h] at e; cases e
  frzs := fun a o u e => by
    rw [upd_ne fun z => ?_]
    · exact e
    · rw [z, h] at e; cases e
  dom := fun a e => by
    by_cases q : a = p
    · rw [q, upd_same]; simp
    · rw [upd_ne q]; exact e
  ext := ⟨[], by simp, fun _ h => by simp at h⟩
theorem SI.chgDict {K : FW} {ow : Nat → Bool} {Ok : Addr → Prop} {env : Env} {st : Sto} {μ : List Addr} {G : Addr → Option Nat} {σ : St} {H : Hp} {M : List Nat} (I : SI K ow Ok env st μ G σ H) {i : Nat} (hi : ow i = true) (hM : i ∈ M) {ks : List Key} {ds : List WT.D} (e : WT.slot env i = some (.dK ks ds)) :
    ∃ a kvs, σ[i]? = some (some (.ref a)) ∧ H a = some (.dK kvs) ∧ kvs.map (·.1) = ks ∧ Reps K H μ ds (kvs.map (·.2)) [] ∧ ∀ kvs' ks' ds', kvs'.map (·.1) = ks' → Reps K H μ ds' (kvs'.map (·.2)) [] →
      SI K ow Ok (env.set i (some (.dK ks' ds'))) st μ G σ (upd H a (.dK kvs')) ∧ StepS M μ G H μ G (upd H a (.dK kvs')) := by
  obtain ⟨v, t, F, e1, r, g1, g2, g3⟩ := I.slot i _ e
  cases r with
  | dK ha hk hv rs hF =>
    rename_i a kvs vs F
    subst hv
    subst hF
    have ga : G a = some i := by rw [g1 a (by simp), hi]; rfl
    have na : a ∉ μ := (g3 a (by simp)).1
    refine ⟨a, kvs, e1, ha, hk, rs, fun kvs' ks' ds' hk' rs' => ?_⟩
    have sl : SL (· ≠ a) μ H μ (upd H a (.dK kvs')) := slUpdK ha fun z => z rfl
    have ne : ∀ b, G b ≠ some i → b ≠ a := fun b hb z => hb (by rw [z]; exact ga)
    refine ⟨⟨fun j d ej => ?_, I.box.sl sl fun b hb ws eb => ?_, I.muLen, I.muNd, fun b hb => ⟨(I.gmu b hb).1, sl.dom b (I.gmu b hb).2⟩, fun b hb => sl.dom b (I.gdom b hb), fun b hb => I.okn b (sl.wasNone hb), by simpa using I.len⟩, slUpdK ha fun z => z i hM ga, fun _ _ _ => rfl⟩
    · rcases slot_set ej with ⟨rfl, hl, ej⟩ | ⟨hne, ej⟩
      · cases ej
        exact ⟨.ref a, [a], [], e1, .dK upd_same hk' rfl (rs'.flatMu sl) rfl, fun b hb => g1 b hb, fun b hb => by simp at hb, fun b hb => g3 b (by simpa using hb)⟩
      · obtain ⟨v', t', F2, e2, r2, k1, k2, k3⟩ := I.slot j d ej
        refine ⟨v', t', F2, e2, r2.sl sl fun b hb => ⟨(k3 b hb).1, ne b ?_⟩, k1, k2, k3⟩
        rcases List.mem_append.mp hb with hb | hb
        · rw [k1 b hb]
          split
          · exact fun z => hne (Option.some.inj z)
          · simp
        · rw [k2 b hb]; simp
    · rw [upd_ne fun z => na (by rw [← z]; exact hb)]
      exact eb
/-! ### dicts with tuples for keys -/
theorem slUpdX {L : Addr → Prop} {μ : List Addr} {H : Hp} {p : Addr} {φ ψ : Heap → Prop} (h : H p = some (.ext φ)) (hL : ¬ L p) : SL L μ H μ (upd H p (.ext ψ)) where
  keep := fun a o e n l => by rw [upd_ne (fun z => hL (by rw [← z]; exact l) : a ≠ p)]; exact e
  tups := fun a u e => by
    rw [upd_ne fun z => ?_]
    · exact e
    · rw [z, h] at e; cases e
  frzs := fun a o u e => by
    rw [upd_ne fun z => ?_]
    · exact e
    · rw [z, h] at e; cases e
  dom := fun a e => by
    by_cases q : a = p
    · rw [q, upd_same]; simp
    · rw [upd_ne q]; exact e
  ext := ⟨[], by simp, fun _ h => by simp at h⟩
theorem SI.chgDictX {K : FW} {ow : Nat → Bool} {Ok : Addr → Prop} {env : Env} {st : Sto} {μ : List Addr} {G : Addr → Option Nat} {σ : St} {H : Hp} {M : List Nat} (I : SI K ow Ok env st μ G σ H) {i : Nat} (hi : ow i = true) (hM : i ∈ M) {ks : List NestedKey} {ds : List WT.D} (e : WT.slot env i = some (.dT ks ds)) :
    ∃ a o xs vs, σ[i]? = some (some (.ref a)) ∧ H a = some (DTo K.w a o xs) ∧ (a == sysModules) = false ∧ xs.map (·.1) = ks ∧ NKx K H xs ∧ Vals vs (xs.map (·.2.2)) ∧ Reps K H μ ds vs [] ∧ ∀ o' xs' ks' vs' ds', xs'.length ≤ sizeLine → xs'.map (·.1) = ks' → NKx K H xs' → Vals vs' (xs'.map (·.2.2)) → Reps K H μ ds' vs' [] →
      SI K ow Ok (env.set i (some (.dT ks' ds'))) st μ G σ (upd H a (DTo K.w a o' xs')) ∧ StepS M μ G H μ G (upd H a (DTo K.w a o' xs')) := by
  obtain ⟨v, t, F, e1, r, g1, g2, g3⟩ := I.slot i _ e
  cases r with
  | dT ha hs hl hk nk hv rs hF =>
    rename_i a o xs vs F
    subst hF
    have ga : G a = some i := by rw [g1 a (by simp), hi]; rfl
    have na : a ∉ μ := (g3 a (by simp)).1
    refine ⟨a, o, xs, vs, e1, ha, hs, hk, nk, hv, rs, fun o' xs' ks' vs' ds' hl' hk' nk' hv' rs' => ?_⟩
    have sl : SL (· ≠ a) μ H μ (upd H a (DTo K.w a o' xs')) := slUpdX ha fun z => z rfl
    have ne : ∀ b, G b ≠ some i → b ≠ a := fun b hb z => hb (by rw [z]; exact ga)
    refine ⟨⟨fun j d ej => ?_, I.box.sl sl fun b hb ws eb => ?_, I.muLen, I.muNd, fun b hb => ⟨(I.gmu b hb).1, sl.dom b (I.gmu b hb).2⟩, fun b hb => sl.dom b (I.gdom b hb), fun b hb => I.okn b (sl.wasNone hb), by simpa using I.len⟩, slUpdX ha fun z => z i hM ga, fun _ _ _ => rfl⟩
    · rcases slot_set ej with ⟨rfl, hl, ej⟩ | ⟨hne, ej⟩
      · cases ej
        exact ⟨.ref a, [a], [], e1, .dT upd_same hs hl' hk' (nk'.mono fun _ _ z => SqT.sl z sl) hv' (rs'.flatMu sl) rfl, fun b hb => g1 b hb, fun b hb => by simp at hb, fun b hb => g3 b (by simpa using hb)⟩
      · obtain ⟨v', t', F2, e2, r2, k1, k2, k3⟩ := I.slot j d ej
        refine ⟨v', t', F2, e2, r2.sl sl fun b hb => ⟨(k3 b hb).1, ne b ?_⟩, k1, k2, k3⟩
        rcases List.mem_append.mp hb with hb | hb
        · rw [k1 b hb]
          split
          · exact fun z => hne (Option.some.inj z)
          · simp
        · rw [k2 b hb]; simp
    · rw [upd_ne fun z => na (by rw [← z]; exact hb)]
      exact eb
theorem putAt_fst {k : NestedKey} {u : Value} : ∀ {xs : List (NestedKey × Addr × Value)}, (xs.map (putAt k u)).map (·.1) = xs.map (·.1)
  | [] => rfl
  | p :: xs => by
    rw [List.map_cons, List.map_cons, putAt_fst, List.map_cons]
    unfold putAt
    split <;> rfl
theorem putAt_vals {k : NestedKey} {v : V} {u : Value} (rv : RelV v u) : ∀ {xs : List (NestedKey × Addr × Value)} {vs : List V}, Vals vs (xs.map (·.2.2)) → Vals (WT.repP k v (xs.map (·.1)) vs) ((xs.map (putAt k u)).map (·.2.2))
  | [], _, r => by cases r; exact .nil
  | p :: xs, _, r => by
    rw [List.map_cons] at r
    cases r with
    | cons r rs =>
      have ih := putAt_vals (k := k) rv rs
      rw [List.map_cons, List.map_cons, List.map_cons]
      unfold WT.repP putAt
      split
      · exact .cons rv ih
      · exact .cons r ih
theorem mem_storedH {xs : List (NestedKey × Addr × Value)} {k : NestedKey} {b : Addr} {u : Value} {x : NestedKey × Addr × Value} (h : x ∈ storedH xs k b u) : (∃ y ∈ xs, y.1 = x.1 ∧ y.2.1 = x.2.1) ∨ x = (k, b, u) := by
  unfold storedH at h
  split at h
  · obtain ⟨y, hy, rfl⟩ := List.mem_map.mp h
    refine .inl ⟨y, hy, ?_⟩
    unfold putAt
    split <;> exact ⟨rfl, rfl⟩
  · rcases List.mem_append.mp h with h | h
    · exact .inl ⟨x, h, rfl, rfl⟩
    · exact .inr (List.mem_singleton.mp h)
theorem NKx.stored {K : FW} {H : Hp} {xs : List (NestedKey × Addr × Value)} (h : NKx K H xs) {k : NestedKey} {b : Addr} (nk : NK K H k (.ref b)) (n2 : noTx k = true) (n3 : k.depth ≤ 8) (u : Value) : NKx K H (storedH xs k b u) := fun x hx => by
  rcases mem_storedH hx with ⟨y, hy, e1, e2⟩ | rfl
  · rw [← e1, ← e2]; exact h y hy
  · exact ⟨nk, n2, n3⟩
/-- what a write does -/
def DPX (K : FW) (H : Hp) (a : Addr) (y v : V) (Q : Hp → Prop) : Prop := ∃ o xs k b, H a = some (DTo K.w a o xs) ∧ (a == sysModules) = false ∧ xs.length < sizeLine ∧ NKx K H xs ∧ y = .ref b ∧ NK K H k (.ref b) ∧ noTx k = true ∧ k.depth ≤ 8 ∧
  ∀ o' u, RelV v u → Q (upd H a (DTo K.w a o' (storedH xs k b u)))
def sDPutX (K : FW) (td ty tv : TE) : TS := fun D σ H => tv σ H fun v H1 => td σ H1 fun x H2 => ty σ H2 fun y H3 => ∃ a, x = .ref a ∧ ((∃ H4, DPut H3 a y v H4 ∧ D.nx σ H4) ∨ DPX K H3 a y v (D.nx σ))
theorem ps_dputX {X : Cx} {o i value : Expr} {pos pos' : Pos} {td ty tv : TE} (hu : X.A.units + 64 < cLine) (ho : PE X o td) (hi : PE X i ty) (hv : PE X value tv) (hs : swapsWith value (some (.Subscript o i pos')) pos.line X.env = pure false) :
    PS X (.Assign [.Subscript o i pos'] value pos) (sDPutX X.KW td ty tv) := by
  refine ⟨fun pins s σ H D I h => ?_⟩
  refine wpAny_Assign_Subscript (thn (hv.run pins s σ H _ I h) fun r s1 ⟨v, H1, I1, rv, q1⟩ => thn (ho.run pins s1 σ H1 _ I1 q1) fun u s2 ⟨x, H2, I2, rx, q2⟩ => thn (hi.run pins s2 σ H2 _ I2 q2) fun iv s3 ⟨y, H3, I3, ry, a, ex, g⟩ => ?_) hs
  subst ex
  obtain rfl : u = Value.ref a := rx
  rcases g with ⟨H4, g, q3⟩ | ⟨od, xs, k, b, e, hs, hl, nk, ey, n1, n2, n3, q3⟩
  · exact d_setItem (by omega) I3 g ry rv fun s4 I4 => ⟨σ, H4, I4, q3⟩
  · subst ey
    obtain rfl : iv = Value.ref b := ry
    refine wpAny_setItem_heap (knd := nestedKind X.prog X.w) (k := k) (hsz := by omega) (nk_room hu) ⟨n1.is I3 rfl, n3⟩ (dto_of I3 e nk) fun h' dd hsb => ?_
    obtain ⟨q, es, ep, hq, k2, k3, k4, _, k5⟩ := dd
    refine ⟨σ, _, d_write (ob := DTo X.w a q (storedH xs k b r)) I3 (by rw [e]; exact True.intro) hsb ⟨q, hq⟩ ⟨⟨hq, k2, es, ep, k3, ?_, k5⟩, ⟨q, hq⟩, fun h1 h2 ⟨e1, e2⟩ k => ⟨k _ e1, e2⟩⟩, q3 q r rv⟩
    rw [k4]
    refine List.map_congr_left fun x hx => ?_
    rfl
theorem sm_dput {i : Nat} {kx : E} : SndS m g k rn (.dput i kx e) := by
  intro c sc X st hg xs h
  rw [cS] at h
  unfold cDput at h
  split at h
  · rename_i x px z sp y pos
    simp only [Bool.and_eq_true, decide_eq_true_eq, Bool.not_eq_true'] at h
    obtain ⟨⟨⟨⟨⟨⟨⟨⟨n1, n2⟩, n3⟩, h1⟩, h2⟩, h3⟩, h4⟩, h5⟩, h6⟩ := h
    obtain ⟨d1, d2⟩ := plB_ok n3
    obtain ⟨p, hp, _⟩ := pvK_of h5
    obtain ⟨q, hq, _⟩ := pvK_of h6
    refine (ps_dputX (by have := xs.ok.room.units; omega) (pe_var (i := i) (by rw [xs.ok.hN]; exact n1) (xs.ok.vis n2) d1 d2) (snd kx hq c sc X z hg xs.ok h1) (snd e hp c sc X y hg xs.ok h2) (sw_plain h4)).mono fun D σ H ⟨env, st, μ, G, I, hw⟩ => ?_
    rw [evS] at hw
    obtain ⟨v0, hv0, hw⟩ := named I hw
    refine TEv.ofS I hw fun x1 st1 v1 H1 μ1 t1 F1 I1 S1 r1 hw => ?_
    refine ⟨v0, hv0, TEv.nxtS S1 I1 hw fun x2 st2 v2 H2 μ2 t2 F2 I2 S2 r2 hw => ?_⟩
    cases e1 : slot env i with
    | none => rw [e1] at hw; exact hw.elim
    | some d =>
      rw [e1, Option.bind_some] at hw
      cases e2 : dputD d x2 x1 with
      | none => rw [e2] at hw; exact hw.elim
      | some d' =>
        rw [e2] at hw
        cases d with
        | dK ks ds =>
          simp only [dputD] at e2
          split at e2
          · rename_i hn
            simp only [Bool.and_eq_true, decide_eq_true_eq] at hn
            obtain ⟨kk, e3, e4⟩ := Option.map_eq_some_iff.mp e2
            obtain rfl := r2.rep.key e3
            have rv := noL_flat (r1.rep.step S2 fun a ha => (r1.po.out a ha).1) hn.1
            obtain ⟨a, kvs, k1, k2, k3, k4, k5⟩ := I2.chgDict (M := [i]) (by rw [xs.ok.ow]; exact h3) (by simp) e1
            rw [k1] at hv0
            cases hv0
            have hlen : kvs.length < sizeLine := by
              have := hn.2
              rw [← k3, List.length_map] at this
              exact this
            refine ⟨a, rfl, .inl ⟨_, .k k2 hlen, ?_⟩⟩
            have hany : (kvs.any fun kv => decide (kv.1 = kk)) = (valP ks ds kk).isSome := by
              rw [valV_any]
              rcases Reps.valP kk k3 rfl k4 with ⟨d0, v0, t0, G0, a1, a2, _, _⟩ | ⟨a1, a2⟩
              · rw [a1, a2]; rfl
              · rw [a1, a2]; rfl
            unfold putK
            rw [hany]
            cases hs : (valP ks ds kk).isSome with
            | true =>
              rw [hs, if_pos rfl] at e4
              subst e4
              rw [if_pos rfl]
              obtain ⟨m1, m2⟩ := repP_map (k := kk) (v := v1) (kvs := kvs)
              obtain ⟨J, S3⟩ := k5 (kvs.map fun kv => if kv.1 = kk then (kv.1, v1) else kv) ks (repP kk x1 ks ds) (m1.trans k3) (by rw [m2, k3]; exact Reps.repP rv k4)
              exact hw σ _ μ2 G J ((S1.trans S2).ss.trans S3)
            | false =>
              rw [hs, if_neg (by simp)] at e4
              subst e4
              rw [if_neg (by simp)]
              obtain ⟨L, r3, hL⟩ := k4.append (.cons rv .nil)
              have hL0 : L = [] := by
                cases L with
                | nil => rfl
                | cons b L =>
                  rcases hL b (by simp) with hb | hb
                  · simp at hb
                  · simp at hb
              subst hL0
              obtain ⟨J, S3⟩ := k5 (kvs ++ [(kk, v1)]) (ks ++ [kk]) (ds ++ [x1]) (by rw [List.map_append, k3]; rfl) (by rw [List.map_append]; exact r3)
              exact hw σ _ μ2 G J ((S1.trans S2).ss.trans S3)
          · cases e2
        | dT ks ds =>
          simp only [dputD] at e2
          split at e2
          · rename_i hn
            simp only [Bool.and_eq_true, decide_eq_true_eq] at hn
            obtain ⟨kk, e3, e4⟩ := Option.map_eq_some_iff.mp e2
            obtain ⟨b, rfl, n1, n2, n3⟩ := r2.rep.keyT e3
            have rv := noL_flat (r1.rep.step S2 fun a ha => (r1.po.out a ha).1) hn.1
            obtain ⟨a, od, ys, ws, k1, k2, ks0, k3, nk, kv, k4, k5⟩ := I2.chgDictX (M := [i]) (by rw [xs.ok.ow]; exact h3) (by simp) e1
            rw [k1] at hv0
            cases hv0
            have hlen : ys.length < sizeLine := by
              have := hn.2
              rw [← k3, List.length_map] at this
              exact this
            refine ⟨a, rfl, .inr ⟨od, ys, kk, b, k2, ks0, hlen, nk, rfl, n1, n2, n3, fun o' u ru => ?_⟩⟩
            have nk' := nk.stored n1 n2 n3 u
            rcases Reps.valT kk k3 kv k4 with ⟨d0, v0, t0, G0, b0, u0, a1, a2, _⟩ | ⟨a1, a2⟩
            · rw [a1, Option.isSome_some, if_pos rfl] at e4
              subst e4
              rw [storedH_old a2] at nk' ⊢
              obtain ⟨J, S3⟩ := k5 o' (ys.map (putAt kk u)) ks (repP kk v1 ks ws) (repP kk x1 ks ds) (by rw [List.length_map]; omega) (by rw [putAt_fst]; exact k3) nk' (by rw [← k3]; exact putAt_vals ru kv) (Reps.repP rv k4)
              exact hw σ _ μ2 G J ((S1.trans S2).ss.trans S3)
            · rw [a1, Option.isSome_none, if_neg (by simp)] at e4
              subst e4
              rw [storedH_new a2] at nk' ⊢
              obtain ⟨L, r3, hL⟩ := k4.append (.cons rv .nil)
              have hL0 : L = [] := by
                cases L with
                | nil => rfl
                | cons b L =>
                  rcases hL b (by simp) with hb | hb
                  · simp at hb
                  · simp at hb
              subst hL0
              obtain ⟨J, S3⟩ := k5 o' (ys ++ [(kk, b, u)]) (ks ++ [kk]) (ws ++ [v1]) (ds ++ [x1]) (by rw [List.length_append]; simp; omega) (by rw [List.map_append, k3]; rfl) nk' (by rw [List.map_append]; exact Vals.append kv (.cons ru .nil)) r3
              exact hw σ _ μ2 G J ((S1.trans S2).ss.trans S3)
          · cases e2
        | _ => cases e2
  · cases h
end
end WT
end

section
set_option Elab.async false
set_option linter.all false
set_option maxRecDepth 100000
set_option autoImplicit false
/-! K24x: raise, list.pop, try. -/
namespace WT
open PySem PySem.Spec PyProof.Rows L2
theorem meth_desc_pop : typeOf (.builtin "list.pop") = pure (.type "method_descriptor") := by show builtinType _ = _; rw [builtinType_eq_fast]; kernel_rfl
section
variable {m : MC} {g : GE} {k : Nat} {rn : Bool} {a b d e : E}
/-- what is made is raised -/
theorem raise_tail {c : Cfg} {K : FW} {y : Str} {C : Addr} {p : Pv} {tc : Bool} {env : Env} {st : Sto} {μ : List Addr} {G : Addr → Option Nat} {σ : St} {H : Hp} {D : Ends} (a1 : c.CA y = some C) (a3 : OexC K C) (a4 : PySem.W.findIn K (.ref C) "value" = some none) (I : SI K c.ow c.Ok env st μ G σ H)
    {x1 : WT.D} {st1 : Sto} {v1 : V} {H1 : Hp} {μ1 : List Addr} {t1 F1 : List Addr} {M : List Nat} (I1 : SI K c.ow c.Ok env st1 μ1 G σ H1) (S1 : Step μ H μ1 H1) (r1 : Held K c G p H x1 v1 t1 F1 μ1 H1) (hq : okS c K M rn μ G H D (.exn y x1 env st1)) :
    [v1].length ≤ 1000 ∧ ∀ a, H1 a = none → spI K (.ref a :: ([v1] ++ [])) (upd H1 a (exo a C none)) (fun v H2 => v = .non ∧ ∃ (d : Addr) (fs : List (Str × V)), H2 a = some (exo a C (some d)) ∧ H2 d = some (exd d fs) ∧ H1 d = none ∧ c.W (.ref C) (some d) σ (upd (del H2 a) d (.xd fs))) (fun _ _ _ => False) := by
  refine ⟨(by decide : 1 ≤ 1000), fun q hn => ⟨q, C, v1, rfl, a3, a4, upd_same, fun dx hd ne => ⟨rfl, dx, [("value", v1)], upd_same, ?_, ?_, ?_⟩⟩⟩
  · rw [upd_ne ne, upd_same]
  · rw [upd_ne ne] at hd; exact hd
  · have hd1 : H1 dx = none := by rw [upd_ne ne] at hd; exact hd
    have e1 : upd (del (upd (upd (upd H1 q (exo q C none)) dx (exd dx [("value", v1)])) q (exo q C (some dx))) q) dx (.xd [("value", v1)]) = upd H1 dx (.xd [("value", v1)]) := by
      funext b
      by_cases hb : b = dx
      · rw [hb, upd_same, upd_same]
      · rw [upd_ne hb, upd_ne hb]
        by_cases hq : b = q
        · rw [hq, del_same, hn]
        · rw [del_ne hq, upd_ne hq, upd_ne hb, upd_ne hq]
    rw [e1]
    have sn := Step.new (μ := μ1) (o := .xd [("value", v1)]) hd1
    refine hq (.ref C) (some dx) σ _ μ1 G (I1.new hd1) (S1.trans sn).ss ⟨C, dx, v1, t1, F1, a1, rfl, rfl, upd_same, r1.rep.step sn fun a ha => (r1.po.out a ha).1, fun b hb => ?_⟩
    rcases List.mem_cons.mp hb with z | hb
    · rw [z]
      exact ⟨fun z => (I1.gmu dx z).2 hd1, I1.okn dx hd1⟩
    · exact r1.po.out b hb
theorem sm_raise {y : Str} : SndS m g k rn (.raise_ y e) := by
  intro c sc X st hg xs h
  rw [cS] at h
  unfold cRaise at h
  split at h
  · rename_i x fp z cp pos
    simp only [Bool.and_eq_true, beq_iff_eq, decide_eq_true_eq] at h
    obtain ⟨⟨⟨⟨⟨rfl, h1⟩, h2⟩, h3⟩, h4⟩, h5⟩ := h
    obtain ⟨p, hp, _⟩ := pvK_of h5
    obtain ⟨hk, C, fI, fd, a1, a2, a3, a4, a5, a6, a7, a8, _, _⟩ := xs.ok.cls _ h3
    have hst := star_of (mE_plain h4) ([] : List Expr) X.env
    refine (ps_raise xs.ok.calm xs.ok.tk (pmk_oex (ds := []) (dvs := []) a3 a5 a6 a7 (xs.ok.room.mono hk) a8 .nil (passes_call xs.ok.tk fun _ _ _ _ h => h.elim) (xs.ok.gl h1) a2 (pa_cons (snd e hp c sc X z hg xs.ok h4) pa_nil hst) (plB_ok h2).1 hst rfl)).mono fun D σ H ⟨env, st, μ, G, I, hq⟩ => ?_
    rw [evS] at hq
    refine TEv.ofS I hq fun x1 st1 v1 H1 μ1 t1 F1 I1 S1 r1 hq => ?_
    exact raise_tail (rn := rn) (tc := true) a1 a3 a4 I I1 S1 r1 hq
  · rename_i x fp kw cp pos
    simp only [Bool.and_eq_true, beq_iff_eq, decide_eq_true_eq] at h
    obtain ⟨⟨⟨⟨⟨⟨rfl, h1⟩, h2⟩, h3⟩, h4⟩, h6⟩, h5⟩ := h
    obtain ⟨p, hp, _⟩ := pvK_of h5
    obtain ⟨hk, C, fI, fd, a1, a2, a3, a4, a5, a6, a7, a8, a9, _⟩ := xs.ok.cls _ h3
    obtain ⟨n, v, kp⟩ := kw
    have pk := pk_cons (nm := n) (kpos := kp) (snd e hp c sc X v hg xs.ok h4) pk_nil
    refine (ps_raise xs.ok.calm xs.ok.tk (pmk_oexk a3 a5 a6 a7 (xs.ok.room.mono hk) a9 (passes_call xs.ok.tk fun _ _ _ _ h => h.elim) (xs.ok.gl h1) a2 pk h6 (plB_ok h2).1)).mono fun D σ H ⟨env, st, μ, G, I, hq⟩ => ?_
    rw [evS] at hq
    refine TEv.ofS I hq fun x1 st1 v1 H1 μ1 t1 F1 I1 S1 r1 hq => ?_
    exact ⟨rfl, raise_tail (rn := rn) (tc := true) a1 a3 a4 I I1 S1 r1 hq⟩
  · cases h
/-! ### an item is taken out -/
theorem Reps.erase {K : FW} {H : Hp} {μ : List Addr} {ds : List WT.D} {vs : List V} {F : List Addr} (r : Reps K H μ ds vs F) (n : Nat) : ∃ L, Reps K H μ (ds.eraseIdx n) (vs.eraseIdx n) L ∧ ∀ a ∈ L, a ∈ F := by
  obtain ⟨L1, r1, h1⟩ := r.take n
  obtain ⟨L2, r2, h2⟩ := r.drop (n + 1)
  obtain ⟨L, r3, h3⟩ := r1.append r2
  rw [← List.eraseIdx_eq_take_drop_succ, ← List.eraseIdx_eq_take_drop_succ] at r3
  exact ⟨L, r3, fun a ha => (h3 a ha).elim (h1 a) (h2 a)⟩
theorem pop_ok {c : Cfg} {K : FW} {M : List Nat} {μ0 μ : List Addr} {G : Addr → Option Nat} {H0 H : Hp} {D : Ends} {j : Nat} {o : Bool} {env : Env} {st : Sto} {σ : St} {x : WT.D} {f : WT.D → Env → Sto → RS} (hj : c.ow j = true) (hM : j ∈ M) (I : SI K c.ow c.Ok env st μ G σ H) (S : StepS M μ0 G H0 μ G H)
    (h : okS c K M rn μ0 G H0 D (popD j o x env st f)) : ∃ a ds i n y vs v t F env', x = .int i ∧ slot env j = some (.lst ds) ∧ σ[j]? = some (some (.ref a)) ∧ H a = some (.lst vs) ∧ -(2 ^ 63) ≤ i ∧ i < 2 ^ 63 ∧ seqIndex? i vs.length = some n ∧ vs[n]? = some v ∧ Rep K H μ y v t F ∧
      SI K c.ow c.Ok env' st μ G σ (upd H a (.lst (vs.eraseIdx n))) ∧ StepS M μ0 G H0 μ G (upd H a (.lst (vs.eraseIdx n))) ∧ okS c K M rn μ0 G H0 D (f y env' st) := by
  unfold popD at h
  cases e1 : slot env j with
  | none => rw [e1] at h; exact h.elim
  | some d =>
    rw [e1] at h
    cases d with
    | lst ds =>
      cases x with
      | int i =>
        simp only at h
        split at h
        · rename_i hb
          rw [Bool.and_eq_true, decide_eq_true_eq] at hb
          cases e2 : ixN ds.length i with
          | none => rw [e2] at h; exact h.elim
          | some n =>
            rw [e2] at h
            simp only at h
            cases e3 : ds[n]? with
            | none => rw [e3] at h; exact h.elim
            | some y =>
              rw [e3] at h
              simp only at h
              obtain ⟨a, vs, F, k1, k2, k3, k4, k5⟩ := I.chgOwn (M := M) (ys := ds.eraseIdx n) hj hM e1
              obtain ⟨v, t, F2, g1, g2, g3⟩ := k3.get e3
              obtain ⟨L, r3, hL⟩ := Reps.erase k3 n
              obtain ⟨J, S2⟩ := k5 _ L r3 fun b hb => k4 b (hL b hb)
              exact ⟨a, ds, i, n, y, vs, v, t, F2, _, rfl, rfl, k1, k2, hb.2.1, hb.2.2, by rw [← k3.length]; exact (ixN_seq e2).1, g1, g2, J, S.trans S2, h⟩
        · exact h.elim
      | _ => exact h.elim
    | _ => exact h.elim
theorem sm_popDrop {j : Nat} {o : Bool} : SndS m g k rn (.popDrop j o e) := by
  intro c sc X st hg xs h
  rw [cS] at h
  unfold cPopDrop at h
  split at h
  · rename_i z zp f2 ap2 y cp2 pos
    simp only [Bool.and_eq_true, decide_eq_true_eq, beq_iff_eq] at h
    obtain ⟨⟨⟨⟨⟨⟨⟨⟨rfl, n1⟩, n2⟩, n3⟩, h1⟩, rfl⟩, h2⟩, h3⟩, h4⟩ := h
    obtain ⟨d1, d2⟩ := plB_ok n3
    obtain ⟨p, hp, _⟩ := pvK_of h4
    have hst := star_of (mE_plain h1) ([] : List Expr) X.env
    refine (ps_expr (pe_bm F.plainAttrs_list F.slot_list_pop meth_desc_pop mt_popAt (pe_var (i := j) (by rw [xs.ok.hN]; exact n1) (xs.ok.vis n2) d1 d2) (pa_cons (snd e hp c sc X y hg xs.ok h1) pa_nil hst) rfl ?_ (by rw [h3]; simp) hst rfl) rfl).mono fun D σ H ⟨env, st, μ, G, I, hw⟩ => ?_
    · rw [hst]
      rfl
    · rw [evS] at hw
      obtain ⟨a0, vs0, hv0, ha0, hw⟩ := listed I hw
      refine ⟨_, hv0, .inl ⟨rfl, vs0, .inl (.inl ha0)⟩, ?_⟩
      refine TEv.ofS I hw fun x1 st1 v1 H1 μ1 t1 F1 I1 S1 r1 hw => ?_
      obtain ⟨a, ds, i, n, y, vs, v, t, F, env', rfl, q1, q2, q3, q4, q5, q6, q7, q8, J, S2, hw⟩ := pop_ok (by rw [xs.ok.ow]; exact h2) (show j ∈ tchs (.popDrop j true e) from by rw [tchs]; simp) I1 S1.ss hw
      rw [q2] at hv0
      cases hv0
      obtain ⟨r1, _⟩ := r1
      cases r1
      exact ⟨_, vs, i, n, v, rfl, rfl, q3, q4, q5, q6, q7, hw σ _ μ1 G J S2⟩
  · cases h
theorem sm_popApp {i j : Nat} {oi oj : Bool} : SndS m g k rn (.popApp i j oi oj e) := by
  intro c sc X st hg xs h
  rw [cS] at h
  unfold cPopApp at h
  split at h
  · rename_i x xp f ap z zp f2 ap2 y cp2 cp pos
    simp only [Bool.and_eq_true, decide_eq_true_eq, beq_iff_eq] at h
    obtain ⟨⟨⟨⟨⟨⟨⟨⟨⟨⟨⟨⟨⟨⟨⟨rfl, rfl⟩, l1⟩, l2⟩, l3⟩, n1⟩, n2⟩, n3⟩, h1⟩, h2⟩, rfl⟩, h4⟩, h5⟩, h6⟩, h7⟩, h8⟩ := h
    obtain ⟨d1, d2⟩ := plB_ok n3
    obtain ⟨d3, d4⟩ := plB_ok l3
    obtain ⟨p, hp, _⟩ := pvK_of h8
    have hst := star_of (mE_plain h1) ([] : List Expr) X.env
    have inner := pe_bm F.plainAttrs_list F.slot_list_pop meth_desc_pop mt_popAt (pe_var (X := X) (i := j) (pos := zp) (by rw [xs.ok.hN]; exact n1) (xs.ok.vis n2) d1 d2) (pa_cons (snd e hp c sc X y hg xs.ok h1) pa_nil hst) (apos := ap2) (cpos := cp2) rfl (by rw [hst]; rfl) (by rw [h7]; simp) hst rfl
    have hst2 : starEach [.Call (.Attribute (.Name z zp) "pop" ap2) [y] [] cp2] X.env = (false, eval (.Call (.Attribute (.Name z zp) "pop" ap2) [y] [] cp2) X.env) :: starEach [] X.env := rfl
    refine (ps_expr (pe_bm F.plainAttrs_list F.slot_list_append meth_desc_append mt_append (pe_var (i := i) (by rw [xs.ok.hN]; exact l1) (xs.ok.vis l2) d3 d4) (pa_cons inner pa_nil hst2) rfl (by rw [hst2]; rfl) (by rw [h6]; simp) hst2 rfl) rfl).mono fun D σ H ⟨env, st, μ, G, I, hw⟩ => ?_
    rw [evS] at hw
    obtain ⟨a0, vs0, hv0, ha0, hw⟩ := listed I hw
    refine ⟨_, hv0, .inl ⟨rfl, vs0, .inl (.inl ha0)⟩, ?_⟩
    obtain ⟨az, vz, hvz, haz, hw⟩ := listed I hw
    refine ⟨_, hvz, .inl ⟨rfl, vz, .inl (.inl haz)⟩, ?_⟩
    refine TEv.ofS I hw fun x1 st1 v1 H1 μ1 t1 F1 I1 S1 r1 hw => ?_
    obtain ⟨a, ds, n0, n, w, vs, v, t, F, env', rfl, q1, q2, q3, q4, q5, q6, q7, q8, J, S2, hw⟩ := pop_ok (by rw [xs.ok.ow]; exact h4) (show j ∈ tchs (.popApp i j oi true e) from by rw [tchs]; simp) I1 S1.ss hw
    rw [q2] at hvz
    cases hvz
    obtain ⟨r1, _⟩ := r1
    cases r1
    refine ⟨_, vs, n0, n, v, rfl, rfl, q3, q4, q5, q6, q7, ?_⟩
    split at hw
    · rename_i hn
      obtain ⟨rfl, rfl⟩ := q8.noL hn
      obtain ⟨a1, xs0, ys0, vs1, F0, k1, k2, k3, k4, k5, k6⟩ := chg_ok xs.ok.ow (fun z => ⟨by subst z; simpa using h2, by rw [tchs, z]; simp⟩) J S2 hw
      rw [k1] at hv0
      cases hv0
      obtain ⟨hz, rfl⟩ := guardO_some k4
      obtain ⟨F3, r3, hF3⟩ := k3.append (.cons (q8.sl (SL.upd (L := fun b => b ≠ az) (ys := vs.eraseIdx n) q3 fun z => z rfl) fun b hb => by simp at hb) .nil)
      refine ⟨_, vs1, v, rfl, rfl, k2, by rw [← k3.length]; exact hz, k6 _ F3 r3 (fun b hb => ?_) fun _ hF0 => ?_⟩
      · rcases hF3 b hb with hb | hb
        · exact k5 b hb
        · simp at hb
      · cases F3 with
        | nil => rfl
        | cons b F3 =>
          rcases hF3 b (by simp) with hb | hb
          · rw [hF0] at hb; simp at hb
          · simp at hb
    · exact hw.elim
  · cases h
end
end WT
end

section
set_option Elab.async false
set_option linter.all false
set_option maxRecDepth 100000
set_option autoImplicit false
/-! K24t: try. -/
namespace WT
open PySem PySem.Spec PyProof.Rows L2
/-- the error that a suite holds, and its value -/
def Er (K : FW) (nm : Nat) (a : Addr) (cls : Value) (d : Option Addr) (σ : St) (H : Hp) (μ : List Addr) (dv : WT.D) (t F : List Addr) : Prop := ∃ (C dd : Addr) (v : V), cls = .ref C ∧ XfC K C ∧ PySem.W.findIn K (.ref C) "value" = some none ∧ σ[nm]? = some (some (.ref a)) ∧ d = some dd ∧ H dd = some (.xd [("value", v)]) ∧ Rep K H μ dv v t F ∧ ∀ b ∈ t ++ F, b ∉ μ
section
variable {m : MC} {X : Cx} {nm : Nat} {a : Addr} {oe : Obj} {cls : Value} {d : Option Addr} {pn : List (Addr × Obj)}
theorem xaM_plain {x : Xa} {z : Expr} (h : xaM m nm x z = true) : plainX z = true := by
  unfold xaM at h
  cases x <;> simp only at h <;> split at h <;> first | rfl | (cases h; done)
theorem pe_xa (hN : X.N = m.N) (hv : ∀ n, m.N[nm]? = some n → Vis X.env.scope n) (hz : Zc cls d oe) (hf : ∃ vs, oe.data = .fields vs) {x : Xa} {z : Expr} (h : xaM m nm x z = true) :
    PE (X.suite a ((a, oe) :: pn)) z (fun σ H Q => ∃ μ dv t F, Er X.KW nm a cls d σ H μ dv t F ∧ ∀ v' t' F', Rep X.KW H μ (evXa dv x) v' t' F' → (∀ b ∈ t' ++ F', b ∈ t ++ F) → Q v' H) := by
  unfold xaM at h
  cases x with
  | str s =>
    simp only at h
    split at h
    · have := eq_of_beq h
      subst this
      exact pe_str.mono fun σ H Q ⟨μ, dv, t, F, _, hq⟩ => hq _ [] [] (.str _) fun b hb => by simp at hb
    · cases h
  | bl s =>
    simp only at h
    split at h
    · have := eq_of_beq h
      subst this
      exact pe_bl.mono fun σ H Q ⟨μ, dv, t, F, _, hq⟩ => hq _ [] [] (.bl _) fun b hb => by simp at hb
    · cases h
  | non =>
    simp only at h
    split at h
    · exact pe_non.mono fun σ H Q ⟨μ, dv, t, F, _, hq⟩ => hq _ [] [] .non fun b hb => by simp at hb
    · cases h
  | val =>
    simp only at h
    split at h
    · rename_i n np f pos
      simp only [Bool.and_eq_true, beq_iff_eq, decide_eq_true_eq] at h
      obtain ⟨⟨rfl, h1⟩, h2⟩ := h
      obtain ⟨d1, d2⟩ := plB_ok h2
      refine (PE.ex (ι := { C : Addr // XfC X.KW C ∧ PySem.W.findIn X.KW (.ref C) "value" = some none }) fun C => pe_xf (d := d) C.2.1 C.2.2 hz hf (pe_var (X := X.suite a ((a, oe) :: pn)) (i := nm) (pos := np) (by show X.N[nm]? = some n; rw [hN]; exact h1) (hv n h1) d1 d2) rfl).mono fun σ H Q ⟨μ, dv, t, F, ⟨C, dd, v, e1, e2, e3, e4, e5, e6, e7, _⟩, hq⟩ => ?_
      refine ⟨⟨C, e2, e3⟩, .ref a, e4, rfl, e1, dd, _, v, e5, e6, by simp [List.lookup], hq v t F e7 fun b hb => hb⟩
    · cases h
theorem pa_xas (hN : X.N = m.N) (hv : ∀ n, m.N[nm]? = some n → Vis X.env.scope n) (hz : Zc cls d oe) (hf : ∃ vs, oe.data = .fields vs) : ∀ {xs : List Xa} {es : List Expr}, xasM m nm xs es = true →
    PA (X.suite a ((a, oe) :: pn)) es (fun σ H Q => ∃ μ dv t F, Er X.KW nm a cls d σ H μ dv t F ∧ ∀ vs' F', Reps X.KW H μ (xs.map (evXa dv)) vs' F' → (∀ b ∈ F', b ∈ t ++ F) → Q vs' H)
  | [], es, h => by
    unfold xasM at h
    have := List.isEmpty_iff.mp h
    subst this
    exact pa_nil.mono fun σ H Q ⟨μ, dv, t, F, _, hq⟩ => hq [] [] .nil fun b hb => by simp at hb
  | x :: xs, es, h => by
    unfold xasM at h
    cases es with
    | nil => cases h
    | cons e es =>
      simp only [Bool.and_eq_true] at h
      refine (pa_cons (pe_xa hN hv hz hf h.1) (pa_xas hN hv hz hf h.2) (star_of (xaM_plain h.1) _ _)).mono fun σ H Q ⟨μ, dv, t, F, er, hq⟩ => ?_
      refine ⟨μ, dv, t, F, er, fun v' t' F' r hb => ⟨μ, dv, t, F, er, fun vs' G' rs hg => hq _ _ (.cons r rs) fun b hm => ?_⟩⟩
      rcases List.mem_append.mp hm with hm | hm
      · exact hb b hm
      · exact hg b hm
theorem pe_xs (hN : X.N = m.N) (hv : ∀ n, m.N[nm]? = some n → Vis X.env.scope n) (hz : Zc cls d oe) (hf : ∃ vs, oe.data = .fields vs) {x : Xs} {z : Expr} (h : xsM m nm x z = true) :
    PE (X.suite a ((a, oe) :: pn)) z (fun σ H Q => ∃ μ dv t F, Er X.KW nm a cls d σ H μ dv t F ∧ ∀ v' t' F' H', (H' = H ∨ ∃ p o, H p = none ∧ H' = upd H p o) → Rep X.KW H' μ (evXs dv x) v' t' F' → (∀ b ∈ t' ++ F', b ∈ t ++ F ∨ H b = none) → (xsNew x = true → ∀ b ∈ t', H b = none ∧ b ∉ F') → Q v' H') := by
  unfold xsM at h
  cases x with
  | atom x =>
    refine (pe_xa hN hv hz hf h).mono fun σ H Q ⟨μ, dv, t, F, er, hq⟩ => ⟨μ, dv, t, F, er, fun v' t' F' r hb => hq v' t' F' H (.inl rfl) r (fun b hm => .inl (hb b hm)) fun hn b hm => ?_⟩
    cases x with
    | val => cases hn
    | _ => cases r; simp at hm
  | tup xs =>
    simp only at h
    split at h
    · rw [Bool.and_eq_true, decide_eq_true_eq] at h
      refine (pe_tup (pa_xas hN hv hz hf h.2)).mono fun σ H Q ⟨μ, dv, t, F, er, hq⟩ => ⟨μ, dv, t, F, er, fun vs F' rs hb => ⟨?_, fun p hp => ?_⟩⟩
      · have := rs.length
        rw [List.length_map] at this
        rw [← this, sizeLine_eq]
        omega
      · have sn := Step.new (μ := μ) (o := .tup vs) hp
        obtain ⟨_, _, _, _, _, _, _, _, _, _, nb⟩ := id er
        exact hq _ [] F' _ (.inr ⟨p, _, hp, rfl⟩) (.tup (.inl (.inl upd_same)) (rs.step sn fun b hm => nb b (hb b hm))) (fun b hm => .inl (hb b (by simpa using hm))) fun _ b hm => by simp at hm
    · cases h
  | lst xs =>
    simp only at h
    split at h
    · rw [Bool.and_eq_true, decide_eq_true_eq] at h
      refine (pe_lst (pa_xas hN hv hz hf h.2)).mono fun σ H Q ⟨μ, dv, t, F, er, hq⟩ => ⟨μ, dv, t, F, er, fun vs F' rs hb => ⟨?_, fun p hp => ?_⟩⟩
      · have := rs.length
        rw [List.length_map] at this
        rw [← this, sizeLine_eq]
        omega
      · have sn := Step.new (μ := μ) (o := .lst vs) hp
        obtain ⟨_, _, _, _, _, _, _, _, _, _, nb⟩ := id er
        refine hq _ [p] F' _ (.inr ⟨p, _, hp, rfl⟩) (.lst upd_same (rs.step sn fun b hm => nb b (hb b hm))) (fun b hm => ?_) fun _ b hm => ?_
        · rcases List.mem_append.mp hm with hm | hm
          · exact .inr (by rw [List.mem_singleton.mp hm]; exact hp)
          · exact .inl (hb b hm)
        · rw [List.mem_singleton.mp hm]
          exact ⟨hp, fun z => rs.there p z hp⟩
    · cases h
end
end WT
namespace WT
open PySem PySem.Spec PyProof.Rows L2
theorem _root_.L2.PSs.ex {ι : Type} {X : Cx} {b : List Stmt} {t : ι → TS} (h : ∀ i, PSs X b (t i)) : PSs X b fun D σ H => ∃ i, t i D σ H := ⟨fun pins s σ H D I ⟨i, q⟩ => (h i).run pins s σ H D I q⟩
section
variable {K : FW} {ow : Nat → Bool} {Ok : Addr → Prop} {env : Env} {st : Sto} {μ : List Addr} {G G2 : Addr → Option Nat} {σ : St} {H : Hp}
/-- a name that is forgotten may hold anything -/
theorem SI.loose (I : SI K ow Ok env st μ G σ H) {i : Nat} {z : Option V} : SI K ow Ok (env.set i none) st μ G (σ.set i z) H := by
  refine ⟨fun j d e => ?_, I.box, I.muLen, I.muNd, I.gmu, I.gdom, I.okn, by simpa using I.len⟩
  rcases slot_set e with ⟨_, _, e⟩ | ⟨hne, e⟩
  · cases e
  · obtain ⟨v, t, F, e1, r⟩ := I.slot j d e
    exact ⟨v, t, F, by rw [List.getElem?_set_ne (Ne.symm hne)]; exact e1, r⟩
/-- without owners -/
theorem SI.reG (I : SI K ow Ok env st μ G σ H) (ho : ∀ i, i < env.length → ow i = false) (h : ∀ a, G2 a = none ∨ G2 a = G a) : SI K ow Ok env st μ G2 σ H := by
  have down : ∀ a, G a = none → G2 a = none := fun a z => (h a).elim id fun e => e.trans z
  refine ⟨fun j d e => ?_, I.box, I.muLen, I.muNd, fun a ha => ⟨down a (I.gmu a ha).1, (I.gmu a ha).2⟩, fun a ha => ?_, I.okn, I.len⟩
  · obtain ⟨v, t, F, e1, r, g1, g2, g3⟩ := I.slot j d e
    have hj : j < env.length := by
      unfold WT.slot at e
      cases q : env[j]? with
      | none => rw [q] at e; cases e
      | some z => exact (List.getElem?_eq_some_iff.mp q).1
    have h0 := ho j hj
    refine ⟨v, t, F, e1, r, fun a ha => ?_, fun a ha => down a (g2 a ha), g3⟩
    have := g1 a ha
    rw [h0, if_neg (by simp)] at this ⊢
    exact down a this
  · rcases h a with z | z
    · exact absurd z ha
    · exact I.gdom a (by rw [← z]; exact ha)
end
section
variable {m : MC} {g : GE} {k : Nat} {rn : Bool}
def tSu (K : FW) (s : Sx) (nm : Nat) : SuR := fun a cls d D σ H => ∃ μ dv t F, Er K nm a cls d σ H μ dv t F ∧ match s with
  | .keep j => D.nx (σ.set j (some (.ref a))) H
  | .set j x => ∀ v' t' F' H', (H' = H ∨ ∃ p o, H p = none ∧ H' = upd H p o) → Rep K H' μ (evXs dv x) v' t' F' → (∀ b ∈ t' ++ F', b ∈ t ++ F ∨ H b = none) → D.nx (σ.set j (some v')) H'
  | .ret x => ∀ v' t' F' H', (H' = H ∨ ∃ p o, H p = none ∧ H' = upd H p o) → Rep K H' μ (evXs dv x) v' t' F' → (∀ b ∈ t' ++ F', b ∈ t ++ F ∨ H b = none) → (xsNew x = true → ∀ b ∈ t', H b = none ∧ b ∉ F') → D.rt v' H'
theorem xsM_nlc {nm : Nat} {x : Xs} {z : Expr} (h : xsM m nm x z = true) : isLC z = false := by
  unfold xsM at h
  cases x with
  | atom x =>
    have h : xaM m nm x z = true := h
    unfold xaM at h
    cases x <;> simp only at h <;> split at h <;> first | rfl | (cases h; done)
  | tup _ => simp only at h; split at h <;> first | rfl | (cases h; done)
  | lst _ => simp only at h; split at h <;> first | rfl | (cases h; done)
theorem suite_ok {c : Cfg} {sc : Scope} {X : Cx} (xs : XS m c k sc X) {s : Sx} {nm : Nat} {z : Stmt} (h : sxM m sc rn nm s z = true) (hv : ∀ n, m.N[nm]? = some n → Vis X.env.scope n) {a : Addr} {oe : Obj} {cls : Value} {d : Option Addr} {pn : List (Addr × Obj)} (hz : Zc cls d oe) (hf : ∃ vs, oe.data = .fields vs) :
    PSs (X.suite a ((a, oe) :: pn)) [z] (tSu X.KW s nm a cls d) := by
  unfold sxM at h
  cases s with
  | set j x =>
    simp only at h
    split at h
    · rename_i y yp w pos
      simp only [Bool.and_eq_true, decide_eq_true_eq] at h
      obtain ⟨⟨h1, h2⟩, h3⟩ := h
      obtain ⟨n1, n2⟩ := nmC_of h1
      refine (pss_one (ps_set (X := X.suite a ((a, oe) :: pn)) (i := j) (by show X.N.Nodup; rw [xs.ok.hN]; exact xs.ok.nd) (by show X.N[j]? = _; rw [xs.ok.hN]; exact n1) (xs.ok.loc n2) (pe_xs xs.ok.hN hv hz hf h3) (sw_plain (xsM_nlc h3)) (.inl (xs.fn y)))).mono fun D σ H ⟨μ, dv, t, F, er, hq⟩ => ?_
      exact ⟨μ, dv, t, F, er, fun v' t' F' H' e r ho _ => hq v' t' F' H' e r ho⟩
    · cases h
  | keep j =>
    simp only at h
    split at h
    · rename_i y yp n np pos
      simp only [Bool.and_eq_true, decide_eq_true_eq] at h
      obtain ⟨⟨⟨h1, h2⟩, h3⟩, h4⟩ := h
      obtain ⟨n1, n2⟩ := nmC_of h1
      obtain ⟨d1, d2⟩ := plB_ok h4
      refine (pss_one (ps_set (X := X.suite a ((a, oe) :: pn)) (i := j) (by show X.N.Nodup; rw [xs.ok.hN]; exact xs.ok.nd) (by show X.N[j]? = _; rw [xs.ok.hN]; exact n1) (xs.ok.loc n2) (pe_var (X := X.suite a ((a, oe) :: pn)) (i := nm) (pos := np) (by show X.N[nm]? = some n; rw [xs.ok.hN]; exact h3) (hv n h3) d1 d2) (sw_plain rfl) (.inl (xs.fn y)))).mono fun D σ H ⟨μ, dv, t, F, er, hq⟩ => ?_
      obtain ⟨_, _, _, _, _, _, e1, _⟩ := er
      exact ⟨.ref a, e1, hq⟩
    · cases h
  | ret x =>
    simp only at h
    split at h
    · rename_i w pos
      rw [Bool.and_eq_true] at h
      exact (pss_one (ps_ret (pe_xs xs.ok.hN hv hz hf h.1))).mono fun D σ H ⟨μ, dv, t, F, er, hq⟩ => ⟨μ, dv, t, F, er, hq⟩
    · cases h
theorem clauses_ok {c : Cfg} {sc : Scope} {X : Cx} (xs : XS m c k sc X) : ∀ {cs : List Cls} {hs : List ExceptHandler}, clsM m sc rn cs hs = true →
    ClsAs X hs (cs.map fun q => (Value.ref ((c.CA q.cls).getD 0), q.nm, tSu X.KW q.body q.nm)) ∧ ∀ q ∈ cs, (∃ C, c.CA q.cls = some C) ∧ q.all = (q.cls == m.base) ∧ (rn = true → ∀ x, q.body = .ret x → xsNew x = true) ∧ (∀ j x, q.body = .set j x → j ≠ q.nm) ∧ (∀ j, q.body = .keep j → j ≠ q.nm)
  | [], hs, h => by
    unfold clsM at h
    have := List.isEmpty_iff.mp h
    subst this
    exact ⟨.nil, fun _ h => by simp at h⟩
  | q :: cs, hs, h => by
    unfold clsM at h
    cases hs with
    | nil => cases h
    | cons z hs =>
      simp only [Bool.and_eq_true] at h
      obtain ⟨h1, h2⟩ := h
      obtain ⟨r1, r2⟩ := clauses_ok xs h2
      unfold clM at h1
      split at h1
      · rename_i x xp n s pos
        simp only [Bool.and_eq_true, beq_iff_eq, decide_eq_true_eq] at h1
        obtain ⟨⟨⟨⟨⟨⟨⟨⟨e1, e2⟩, e3⟩, e4⟩, e5⟩, e6⟩, e7⟩, e8⟩, e9⟩ := h1
        subst e1
        obtain ⟨_, C, _, _, a1, a2, _⟩ := xs.ok.cls _ e4
        have hl : X.env.kindOf n = some .local := by
          show X.env.scope.names.lookup n = _
          rw [xs.ok.sc]
          exact lclB_of e7
        refine ⟨.cons (by rw [xs.ok.hN]; exact e6) hl ⟨xs.ok.gl e2, (plB_ok e3).1, .inl (by rw [a1]; exact a2)⟩ (fun a oe cls d pn hz hf => suite_ok xs e9 (fun n' hn => .inl (by rw [e6] at hn; cases hn; exact hl)) hz hf) r1, fun q' hq => ?_⟩
        rcases List.mem_cons.mp hq with rfl | hq
        · refine ⟨⟨C, a1⟩, e5, fun hr x hx => ?_, fun j x hx => ?_, fun j hx => ?_⟩
          · unfold sxM at e9
            rw [hx] at e9
            simp only at e9
            split at e9
            · rw [Bool.and_eq_true, hr] at e9
              simpa using e9.2
            · cases e9
          · unfold sxM at e9
            rw [hx] at e9
            simp only at e9
            split at e9
            · simp only [Bool.and_eq_true, decide_eq_true_eq] at e9
              exact e9.1.2
            · cases e9
          · unfold sxM at e9
            rw [hx] at e9
            simp only at e9
            split at e9
            · simp only [Bool.and_eq_true, decide_eq_true_eq] at e9
              exact e9.1.1.2
            · cases e9
        · exact r2 q' hq
      · cases h1
end
end WT
end

section
set_option Elab.async false
set_option linter.all false
set_option maxRecDepth 100000
set_option autoImplicit false
/-! K24u: try, the whole statement. -/
namespace WT
open PySem PySem.Spec PyProof.Rows L2
section
variable {m : MC} {g : GE} {k : Nat} {rn : Bool}
theorem noOwn_lt (h : noOwn m = true) {n : Nat} (hn : n ≤ m.N.length) {i : Nat} (hi : i < n) : m.ow i = false := by
  unfold noOwn at h
  rw [List.all_eq_true] at h
  simpa using h i (List.mem_range.mpr (by omega))
theorem set_twice {α : Type} (l : List α) {i j : Nat} (h : j ≠ i) (a b c : α) : ((l.set i a).set j b).set i c = (l.set j b).set i c := by
  rw [List.set_comm _ _ h, List.set_set]
  exact (List.set_comm _ _ h.symm).symm ▸ (List.set_comm _ _ h) ▸ rfl
theorem catch_ok {c : Cfg} {K : FW} {M : List Nat} {μ μ' : List Addr} {G G' : Addr → Option Nat} {H H' : Hp} {D : Ends} {n : Nat} {x : Str} {d : WT.D} {env1 : Env} {st1 : Sto} {σ' : St} {cls : Value} {dd : Option Addr} (how : ∀ i, i < n → c.ow i = false) (ex : ExmOk K c.CA m.base)
    (I : SI K c.ow (fun a => c.Ok a ∧ G a = none) env1 st1 μ' G' σ' H') (S : StepS M μ G H μ' G' H') (xr : XR c.CA K H' μ' (fun a => c.Ok a ∧ G a = none) x d cls dd) :
    ∀ {cs : List Cls}, (∀ q ∈ cs, (∃ C, c.CA q.cls = some C) ∧ q.all = (q.cls == m.base) ∧ (rn = true → ∀ x, q.body = .ret x → xsNew x = true) ∧ (∀ j x, q.body = .set j x → j ≠ q.nm) ∧ (∀ j, q.body = .keep j → j ≠ q.nm)) → okS c K M rn μ G H D (catchD n x d env1 st1 cs) →
      wCl K c.W D (cs.map fun q => (Value.ref ((c.CA q.cls).getD 0), q.nm, tSu K q.body q.nm)) cls dd σ' H'
  | [], _, hq => hq cls dd σ' H' μ' G' (I.less fun a h => h.1) S (xr.mono fun a h => h.1)
  | q :: cs, hcs, hq => by
    obtain ⟨⟨C', hC'⟩, hall, hret, hset, hkeep⟩ := hcs q (by simp)
    have ih := catch_ok (D := D) (cs := cs) how ex I S xr (fun q hq => hcs q (by simp [hq]))
    obtain ⟨C, dx, v, t, F, a1, rfl, rfl, a4, r, ho⟩ := xr
    refine ⟨q.all || q.cls == x, by show PySem.W.exmOne K (.ref C) (.ref ((c.CA q.cls).getD 0)) = _; rw [hC', hall]; exact ex.exm _ _ _ _ a1 hC', ?_⟩
    rw [catchD] at hq
    split at hq
    · rename_i hb
      rw [if_pos hb]
      split at hq
      · rename_i hn
        obtain ⟨hn1, hn2⟩ := hn
        intro a na
        have hown : ∀ i, i < env1.length → c.ow i = false := fun i hi => how i (by omega)
        -- the owners, looked at anew
        let G2 : Addr → Option Nat := fun b => if H b = none then none else G' b
        have hG2 : ∀ b, G2 b = none ∨ G2 b = G' b := fun b => by
          show (if H b = none then none else G' b) = none ∨ _
          split
          · exact .inl rfl
          · rename_i z
            exact .inr (if_neg z)
        have J0 : SI K c.ow c.Ok env1 st1 μ' G2 σ' H' := (I.less fun a h => h.1).reG hown hG2
        have S0 : StepS M μ G H μ' G2 H' := ⟨S.sl, fun b hb hi => (if_neg hb).trans (S.agr b hb hi)⟩
        have g0 : ∀ b, G b = none → G2 b = none := fun b hb => by
          show (if H b = none then none else G' b) = none
          split
          · rfl
          · rename_i z
            rw [S.agr b z fun i _ => by rw [hb]; simp]
            exact hb
        have own : ∀ {t' F' : List Addr} {H2 : Hp}, (∀ b ∈ t' ++ F', b ∈ t ++ F ∨ H' b = none) → ∀ b ∈ t' ++ F', G2 b = none ∧ b ∉ μ' ∧ c.Ok b := fun {t' F' H2} h b hb => by
          rcases h b hb with hb | hb
          · obtain ⟨z1, z2, z3⟩ := ho b (List.mem_cons_of_mem _ hb)
            exact ⟨g0 b z3, z1, z2⟩
          · refine ⟨?_, fun z => (J0.gmu b z).2 hb, J0.okn b hb⟩
            cases e : G2 b with
            | none => rfl
            | some i => exact absurd hb (J0.gdom b (by rw [e]; simp))
        have er : Er K q.nm a (.ref C) (some dx) (σ'.set q.nm (some (.ref a))) H' μ' d t F :=
          ⟨C, dx, v, rfl, (ex.xf x C a1).1, (ex.xf x C a1).2, by rw [List.getElem?_set_self (Nat.lt_of_lt_of_le (by omega) J0.len)], rfl, a4, r, fun b hb => (ho b (List.mem_cons_of_mem _ hb)).1⟩
        refine ⟨μ', d, t, F, er, ?_⟩
        have new : ∀ {H2 : Hp}, (H2 = H' ∨ ∃ p o, H' p = none ∧ H2 = upd H' p o) → SI K c.ow c.Ok env1 st1 μ' G2 σ' H2 ∧ StepS M μ G H μ' G2 H2 := fun {H2} e => by
          rcases e with rfl | ⟨p, o, hp, rfl⟩
          · exact ⟨J0, S0⟩
          · exact ⟨J0.new hp, S0.trans (Step.new hp).ss⟩
        cases eb : q.body with
        | set j xx =>
          rw [eb] at hq
          simp only at hq ⊢
          intro v' t' F' H2 e r' hb'
          have hj := hset j xx eb
          obtain ⟨J1, S1⟩ := new e
          have J2 := (J1.loose (i := q.nm) (z := some (.ref a))).put (i := j) (x := evXs d xx) (v := v') (t := t') (F := F')
          by_cases hjn : j < n
          · have J3 := (J2 (how j hjn) r' (own (H2 := H2) hb')).loose (i := q.nm) (z := none)
            rw [set_twice _ hj] at J3
            exact .inl (hq _ H2 μ' G2 J3 S1)
          · have ej : env1.set j (some (evXs d xx)) = env1 := List.set_eq_of_length_le (by omega)
            rw [ej] at hq
            have J3 := J1.loose (i := q.nm) (z := some (.ref a))
            have J4 : SI K c.ow c.Ok (env1.set q.nm none) st1 μ' G2 ((σ'.set q.nm (some (.ref a))).set j (some v')) H2 := by
              refine ⟨fun i z ez => ?_, J3.box, J3.muLen, J3.muNd, J3.gmu, J3.gdom, J3.okn, by simpa using J3.len⟩
              obtain ⟨w, tw, Fw, e1, rest⟩ := J3.slot i z ez
              have hi : i < (env1.set q.nm none).length := by
                unfold WT.slot at ez
                cases q0 : (env1.set q.nm none)[i]? with
                | none => rw [q0] at ez; cases ez
                | some z => exact (List.getElem?_eq_some_iff.mp q0).1
              rw [List.length_set] at hi
              exact ⟨w, tw, Fw, by rw [List.getElem?_set_ne (by omega)]; exact e1, rest⟩
            have J5 := J4.loose (i := q.nm) (z := none)
            rw [List.set_set] at J5
            exact .inl (hq _ H2 μ' G2 J5 S1)
        | keep j =>
          rw [eb] at hq
          simp only at hq ⊢
          have hj := hkeep j eb
          have sn := Step.new (μ := μ') (o := exC a (.ref C) (some dx)) na
          have J1 := J0.new (o := exC a (.ref C) (some dx)) na
          have S1 := S0.trans sn.ss
          have eC := ex.ga x C a1
          have r' : Rep K (upd H' a (exC a (.ref C) (some dx))) μ' (.exc x d) (.ref a) [] (a :: dx :: (t ++ F)) := .exc (by rw [upd_same, eC]) (by rw [upd_ne (ne_of_none a4 na)]; exact a4) (r.step sn fun b hb => (ho b (List.mem_cons_of_mem _ hb)).1)
          have own2 : ∀ b ∈ [] ++ (a :: dx :: (t ++ F)), G2 b = none ∧ b ∉ μ' ∧ c.Ok b := fun b hb => by
            rcases List.mem_cons.mp (by simpa using hb : b ∈ a :: dx :: (t ++ F)) with z | hb
            · rw [z]
              exact ⟨by show (if H a = none then none else G' a) = none; rw [if_pos (S.sl.wasNone na)], fun z => (J0.gmu a z).2 na, J0.okn a na⟩
            · obtain ⟨z1, z2, z3⟩ := ho b hb
              exact ⟨g0 b z3, z1, z2⟩
          have J2 := (J1.loose (i := q.nm) (z := some (.ref a))).put (i := j) (x := .exc x d) (v := .ref a) (t := []) (F := a :: dx :: (t ++ F))
          by_cases hjn : j < n
          · have J3 := (J2 (how j hjn) r' own2).loose (i := q.nm) (z := none)
            rw [set_twice _ hj] at J3
            exact .inr (hq _ _ μ' G2 J3 S1)
          · have ej : env1.set j (some (.exc x d)) = env1 := List.set_eq_of_length_le (by omega)
            rw [ej] at hq
            have J3 := J1.loose (i := q.nm) (z := some (.ref a))
            have J4 : SI K c.ow c.Ok (env1.set q.nm none) st1 μ' G2 ((σ'.set q.nm (some (.ref a))).set j (some (.ref a))) (upd H' a (exC a (.ref C) (some dx))) := by
              refine ⟨fun i z ez => ?_, J3.box, J3.muLen, J3.muNd, J3.gmu, J3.gdom, J3.okn, by simpa using J3.len⟩
              obtain ⟨w, tw, Fw, e1, rest⟩ := J3.slot i z ez
              have hi : i < (env1.set q.nm none).length := by
                unfold WT.slot at ez
                cases q0 : (env1.set q.nm none)[i]? with
                | none => rw [q0] at ez; cases ez
                | some z => exact (List.getElem?_eq_some_iff.mp q0).1
              rw [List.length_set] at hi
              exact ⟨w, tw, Fw, by rw [List.getElem?_set_ne (by omega)]; exact e1, rest⟩
            have J5 := J4.loose (i := q.nm) (z := none)
            rw [List.set_set] at J5
            exact .inr (hq _ _ μ' G2 J5 S1)
        | ret xx =>
          rw [eb] at hq
          simp only at hq ⊢
          intro v' t' F' H2 e r' hb' hnew
          obtain ⟨J1, S1⟩ := new e
          refine hq v' H2 μ' G2 t' F' J1.box J1.muLen J1.muNd S1 r' (fun b hb => (own (H2 := H2) hb' b hb).2) fun hr b hb => ?_
          obtain ⟨z1, z2⟩ := hnew (hret hr xx eb) b hb
          exact ⟨.inl (S.sl.wasNone z1), z2⟩
      · exact hq.elim
    · rename_i hb
      rw [if_neg hb]
      exact ih hq
theorem sm_try {n : Nat} {p : Ss} {cs : List Cls} (h1 : SndSs m g k rn p) : SndS m g k rn (.try_ n p cs) := by
  intro c sc X st hg xs h
  rw [cS] at h
  unfold cTry at h
  split at h
  · rename_i body hh hs pos
    simp only [Bool.and_eq_true, decide_eq_true_eq] at h
    obtain ⟨⟨⟨e0, e1⟩, e2⟩, e3⟩ := h
    obtain ⟨hC, hcs⟩ := clauses_ok xs e3
    have hN : X.N.Nodup := by rw [xs.ok.hN]; exact xs.ok.nd
    refine (ps_try_cls (out := c.W) (tb := fun W D σ H => ∃ o, TSv { c with Ok := o, W := W } X.KW (tchss p) rn (evSs g p) D σ H) xs.stk xs.fr hN xs.ok.tk (fun W pn xe tk po => PSs.ex fun o => h1 { c with Ok := o, W := W } sc (X.tr pn xe) body hg ⟨?_, xs.fn, po, xs.kind, xs.stk, xs.fr⟩ e1) hC).mono fun D σ H ⟨env, st, μ, G, I, hq⟩ => ?_
    · exact { hN := xs.ok.hN, nd := xs.ok.nd, sc := xs.ok.sc, ow := xs.ok.ow, calm := xs.ok.calm, room := xs.ok.room, gd := xs.ok.gd, tk := tk, fns := xs.ok.fns, cons := xs.ok.cons, free := xs.ok.free, mth := xs.ok.mth, cls := xs.ok.cls, exm := xs.ok.exm }
    · rw [evS, tchs] at hq
      split at hq
      · rename_i hn
        have how : ∀ i, i < n → c.ow i = false := fun i hi => by rw [xs.ok.ow]; exact noOwn_lt e2 e0 hi
        have gnone : ∀ a, H a = none → G a = none := fun a ha => by
          cases e : G a with
          | none => rfl
          | some i => exact absurd ha (I.gdom a (by rw [e]; simp))
        refine ⟨fun a => c.Ok a ∧ G a = none, env, st, μ, G, ⟨fun i d e => ?_, I.box, I.muLen, I.muNd, I.gmu, I.gdom, fun a ha => ⟨I.okn a ha, gnone a ha⟩, I.len⟩, ?_⟩
        · obtain ⟨v, t, F, e1, r, g1, g2, g3⟩ := I.slot i d e
          have hi : i < env.length := by
            unfold WT.slot at e
            cases q : env[i]? with
            | none => rw [q] at e; cases e
            | some z => exact (List.getElem?_eq_some_iff.mp q).1
          refine ⟨v, t, F, e1, r, g1, g2, fun a ha => ⟨(g3 a ha).1, (g3 a ha).2, ?_⟩⟩
          rcases List.mem_append.mp ha with ha | ha
          · have := g1 a ha
            rw [how i (by omega), if_neg (by simp)] at this
            exact this
          · exact g2 a ha
        · cases e : evSs g p env st with
          | nx env1 st1 =>
            rw [e] at hq
            exact fun σ' H' μ' G' I' S' => hq σ' H' μ' G' (I'.less fun a h => h.1) S'
          | bk env1 st1 =>
            rw [e] at hq
            exact fun σ' H' μ' G' I' S' => hq σ' H' μ' G' (I'.less fun a h => h.1) S'
          | ct env1 st1 =>
            rw [e] at hq
            exact fun σ' H' μ' G' I' S' => hq σ' H' μ' G' (I'.less fun a h => h.1) S'
          | rt d st1 =>
            rw [e] at hq
            exact fun v H' μ' G' t F b l nd S' r po nw => hq v H' μ' G' t F b l nd S' r (fun a ha => ⟨(po a ha).1, (po a ha).2.1⟩) nw
          | bad => rw [e] at hq; exact hq.elim
          | exn x d env1 st1 =>
            rw [e] at hq
            simp only at hq
            exact fun cls dd σ' H' μ' G' I' S' xr => catch_ok (m := m) how xs.ok.exm I' S' xr hcs hq
      · exact hq.elim
  · cases h
end
end WT
end

section
set_option Elab.async false
set_option linter.all false
set_option maxRecDepth 100000
set_option autoImplicit false
/-! K25: augmented items; every statement. -/
namespace WT
open PySem PySem.Spec PyProof.Rows L2

section
variable {m : MC} {g : GE} {k : Nat} {rn : Bool} {e : E}
def rGetL : V → V → Hp → VK → Prop := fun x y H Q => ∃ p xs i v, x = .ref p ∧ y = .int i ∧ H p = some (.lst xs) ∧ atI xs i = some v ∧ Q v H
theorem get_list {X : Cx} : PGet X rGetL := by
  intro pins s σ H x y v u Q I rx ry h
  obtain ⟨p, xs, i, z, rfl, rfl, hq, he, q⟩ := h
  cases rx
  obtain ⟨t, rfl⟩ := ry
  obtain ⟨its, r, pl, hz⟩ := I.list (.inl (.inl hq))
  obtain ⟨j, h1, h2, h3, h4, h5⟩ := atI_get he
  obtain ⟨w, ew, rw'⟩ := r.get h2
  have hl := r.length
  have hn := line63
  have fin : EP X pins σ Q w s := ⟨z, H, I, rw', q⟩
  by_cases h0 : 0 ≤ i
  · have hj : i.toNat = j := by
      rw [seqIndex_of h0 h5] at h1
      exact Option.some.inj h1
    exact wpAny_getItem_list pl.isList h0 (by omega) (by rw [hj]; simpa using ew) fin
  · have hj : (i + (its.toArray.size : Int)).toNat = j := by
      rw [seqIndex_neg (by omega) h4] at h1
      rw [List.size_toArray, ← hl]
      exact Option.some.inj h1
    exact wpAny_getItem_list_neg pl.isList (by omega) (by rw [List.size_toArray] <;> omega) (by omega) (by rw [hj]; simpa using ew) fin
theorem sm_augIx {i : Nat} {o : Bool} {op : Operator} {ix : E} : SndS m g k rn (.augIx i o op ix e) := by
  intro c sc X st hg xs h
  rw [cS] at h
  unfold cAugIx at h
  split at h
  · rename_i x px z sp op' y pos
    simp only [Bool.and_eq_true, decide_eq_true_eq] at h
    obtain ⟨⟨⟨⟨⟨⟨⟨⟨⟨n1, n2⟩, n3⟩, h1⟩, h2⟩, rfl⟩, h6⟩, h3⟩, h4⟩, h5⟩ := h
    obtain ⟨d1, d2⟩ := plB_ok n3
    obtain ⟨p, hp, hk⟩ := pvK_of h4
    obtain ⟨q, hq, _⟩ := pvK_of h5
    have hz := mE_plain h1
    refine (ps_augS (pe_var (i := i) (by rw [xs.ok.hN]; exact n1) (xs.ok.vis n2) d1 d2) (snd ix hq c sc X z hg xs.ok h1) get_list (snd e hp c sc X y hg xs.ok h2) (ip_v h6) set_list (fun ov iv new => ?_)).mono fun D σ H ⟨env, st, μ, G, I, hw⟩ => ?_
    · cases z <;> first | rfl | (cases hz; done)
    · rw [evS] at hw
      have hw0 := hw
      obtain ⟨a0, vs0, hv0, ha0, hw⟩ := listed I hw
      refine ⟨_, hv0, TEv.ofS I hw fun x1 st1 v1 H1 μ1 t1 F1 I1 S1 r1 hw => ?_⟩
      cases eg : (slot env i).bind fun d => idxD st1 d x1 with
      | none => rw [eg] at hw; exact hw.elim
      | some xv =>
        rw [eg] at hw
        simp only at hw
        obtain ⟨ds, es, eg⟩ := Option.bind_eq_some_iff.mp eg
        -- the item that stands there
        have item : ∃ kk vs v t F, v1 = .int kk ∧ x1 = .int kk ∧ H1 a0 = some (.lst vs) ∧ atI vs kk = some v ∧ Rep X.KW H1 μ1 xv v t F := by
          obtain ⟨vv, tt, FF, e2, rr, _⟩ := I1.slot i ds es
          rw [hv0] at e2
          cases e2
          cases ds with
          | lst zs =>
            cases rr with
            | lst ha rs =>
              cases x1 with
              | int kk =>
                obtain ⟨r1, _⟩ := r1
                cases r1
                obtain ⟨v, t, F, z1, z2, _⟩ := atI_rep rs eg
                exact ⟨kk, _, v, t, F, rfl, rfl, ha, z1, z2⟩
              | _ => cases eg
          | ref j =>
            cases rr with
            | ref hj =>
              cases x1 with
              | int kk =>
                obtain ⟨r1, _⟩ := r1
                cases r1
                obtain ⟨zs, z0, eg⟩ := Option.bind_eq_some_iff.mp (show (st1[j]?).bind (fun xs => ixD xs kk) = some xv from eg)
                obtain ⟨a, vs, k1, k2, rs⟩ := I1.box j zs z0
                rw [hj] at k1
                cases k1
                obtain ⟨v, t, F, z1, z2, _⟩ := atI_rep rs eg
                exact ⟨kk, _, v, t, F, rfl, rfl, k2, z1, z2⟩
              | _ => cases eg
          | _ =>
            exfalso
            obtain ⟨vv, tt, FF, e2, rr, _⟩ := I.slot i _ es
            revert hw0
            unfold isLs
            rw [es]
            exact fun z => z
        obtain ⟨kk, vs, v, t, F, rfl, rfl, k2, k3, k4⟩ := item
        refine ⟨a0, vs, kk, v, rfl, rfl, k2, k3, ?_⟩
        refine TEv.nxtS S1 I1 hw fun x2 st2 v2 H2 μ2 t2 F2 I2 S2 r2 hw => ?_
        obtain ⟨i0, rfl⟩ : ∃ i0, xv = .int i0 := by cases xv <;> first | exact ⟨_, rfl⟩ | exact hw.elim
        obtain ⟨j0, rfl⟩ : ∃ j0, x2 = .int j0 := by cases x2 <;> first | exact ⟨_, rfl⟩ | exact hw.elim
        cases hb : binD op (.int i0) (.int j0) with
        | none => rw [hb] at hw; exact hw.elim
        | some z =>
          rw [hb] at hw
          obtain ⟨z0, rfl⟩ : ∃ z0, z = .int z0 := by
            cases op with
            | Add => cases hb; exact ⟨_, rfl⟩
            | Sub => cases hb; exact ⟨_, rfl⟩
            | Mult =>
              have hb : mulD (.int i0) (.int j0) = some z := hb
              unfold mulD guardO at hb
              simp only at hb
              split at hb
              · cases hb; exact ⟨_, rfl⟩
              · cases hb
            | _ => cases h6
          cases k4
          obtain ⟨r2, po⟩ := r2
          cases r2
          refine ⟨i0, j0, z0, rfl, rfl, hb, ?_⟩
          simp only at hw
          obtain ⟨a1, xs0, ys0, vs1, F0, m1, m2, m3, m4, m5, m6⟩ := chg_ok xs.ok.ow (own_tch h3) I2 (S1.trans S2).ss hw
          rw [hv0] at m1
          cases m1
          obtain ⟨j1, e1, rfl⟩ := Option.map_eq_some_iff.mp (show (ixN xs0.length kk).map (fun j => xs0.set j (.int z0)) = some ys0 from m4)
          rw [m3.length] at e1
          obtain ⟨F3, r3, hF3⟩ := m3.set j1 (.int z0)
          refine ⟨a0, vs1, kk, j1, rfl, rfl, m2, e1, m6 _ F3 r3 (fun b hb => ?_) fun hn hF0 => ?_⟩
          · rcases hF3 b hb with hb | hb
            · exact m5 b hb
            · simp at hb
          · cases F3 with
            | nil => rfl
            | cons b F3 =>
              rcases hF3 b (by simp) with hb | hb
              · rw [hF0] at hb; simp at hb
              · simp at hb
  · cases h
theorem sm_no {s : S} (h : ∀ sc st, cS m sc rn s st = false) : SndS m g k rn s := fun c sc X st hg xs hh => by rw [h] at hh; cases hh
mutual
theorem sndS : ∀ s : S, SndS m g k rn s
  | .ret e => sm_ret
  | .retN => sm_retN
  | .set i kk e => sm_set
  | .setT tg e => sm_setT
  | .par i j ki kj a b => sm_par
  | .par3 i j l ki kj kl a b c => sm_par3
  | .move i j => sm_move
  | .aug i op e => sm_aug
  | .setIx i o nl ix e => sm_setIx
  | .augIx i o op ix e => sm_augIx
  | .app i o nl e => sm_app
  | .mth i o f es => sm_mth
  | .dput i kx e => sm_dput
  | .ite e a b => sm_ite (sndSs a) (sndSs b)
  | .whl e a => sm_whl (sndSs a)
  | .for_ tg it a => sm_for (sndSs a)
  | .brk => sm_brk
  | .cont => sm_cont
  | .pass => sm_pass
  | .drop e => sm_drop
  | .kill i => sm_no fun sc st => by rw [cS]
  | .raise_ c e => sm_raise
  | .popApp i j oi oj e => sm_popApp
  | .popDrop j o e => sm_popDrop
  | .try_ n b cs => sm_try (sndSs b)
  | .dead => sm_dead
theorem sndSs : ∀ s : Ss, SndSs m g k rn s
  | .nil => SndSs.nil
  | .cons s ss => SndSs.cons (sndS s) (sndSs ss)
end
end
end WT
end

section
set_option Elab.async false
set_option linter.all false
set_option maxRecDepth 100000
set_option autoImplicit false
/-! K26: a def keeps its promise. -/
namespace WT
open PySem PySem.Spec PyProof.Rows L2

theorem slot_args {ds : List D} {n i : Nat} {d : D} (h : slot (ds.map some ++ List.replicate n none) i = some d) : ds[i]? = some d := by
  unfold slot at h
  by_cases hi : i < ds.length
  · rw [List.getElem?_append_left (by simpa using hi), List.getElem?_map] at h
    cases e : ds[i]? with
    | none => rw [e] at h; cases h
    | some a => rw [e] at h; cases h; rfl
  · rw [List.getElem?_append_right (by simpa using hi), List.getElem?_replicate] at h
    split at h <;> cases h
theorem start_get {N : List Str} {vs : List V} {i : Nat} {v : V} (h : vs[i]? = some v) : (L2.start N vs)[i]? = some (some v) := by
  have hi : i < vs.length := (List.getElem?_eq_some_iff.mp h).1
  unfold L2.start
  rw [List.getElem?_append_left (by simpa using hi), List.getElem?_map, h]
  rfl
theorem StepS.step {μ μ' : List Addr} {G' : Addr → Option Nat} {M : List Nat} {H H' : Hp} (s : StepS M μ (fun _ => none) H μ' G' H') : Step μ H μ' H' :=
  ⟨fun a o h n => s.sl.keep a o h n fun i hi => by simp, s.sl.tups, s.sl.frzs, s.sl.dom, s.sl.ext⟩
/-- what the defs that are in reach promise -/
structure FnsOk (P : Program) (w : World) (K : PySem.W.Frag) (mg : Str → Option Value) (base : Heap) (CA : Str → Option Addr) (m : MC) (g : GE) (k : Nat) : Prop where
  fns : ∀ (i : Nat) (n : Str) (ps : List Str), m.fns[i]? = some (n, ps) → ∃ fi f fd, g.fns[i]? = some fi ∧ fi.ps = ps ∧ mg n = some (.ref f) ∧ PySem.W.keepIn K (.ref f) = true ∧
    FnG P w K mg base (L2.CX P w) k f fd ps (spF (kw K w) CA (m.rn i) fi.sem ps.length) ∧ KBd K fd ps (m.kw i)
  cons : ∀ (i : Nat) (x : Str), m.cons[i]? = some x → ∃ d v u, g.cons[i]? = some (x, d) ∧ mg x = some u ∧ RelV v u ∧ ∀ H μ, Rep (kw K w) H μ d v [] []
  free : ∀ x ∈ freeNames, mg x = none
  mth : ∀ f ∈ m.mth, mg f.nm = some f.vl
  cls : ∀ y ∈ m.cls, 2 ≤ k ∧ ClsOk P w K mg base CA y
  exm : ExmOk K CA m.base
section
variable {P : Program} {w : World} {K : PySem.W.Frag} {mg : Str → Option Value} {base : Heap} {CA : Str → Option Addr} {m : MC} {g : GE} {k : Nat} {rn : Bool}
theorem fn_body {ps : List Str} {scope : Scope} {stmts : List Stmt} {body : Ss} (fo : FnsOk P w K mg base CA m g k) (S : FnScope m.N ps scope) (hpo : ∀ i, i < ps.length → m.ow i = false) (hc : cSs m scope rn body stmts = true)
    (qual : Str) (f : Addr) (cdv : Value) (A : Around) (outer : List PySem.Env) (s : Shared) (H : Hp) (vs : List V) (Q : VK) (E : XK) (hgd : A.guards = some []) (hr : Room k (A.deeper (envOfC qual scope s.heap.objs.size f cdv))) (hsp : spF (kw K w) CA rn (evF g m.N.length body) ps.length vs H Q E) :
    ∃ t, PSs (cxOf (L2.CX P w) P w K mg base m.N qual scope f cdv A outer s H E) stmts t ∧ t { nx := fun _ H' => Q .non H', rt := Q } (L2.start m.N vs) H := by
  obtain ⟨ds, st, μ, F, A', hl, reps, bx, ml, md, hF, fin⟩ := hsp
  let c : Cfg := { g := g, ow := m.ow, Ok := fun a => H a = none ∨ A' a, CA := CA, W := fun cls d _ H => E cls d H }
  have xs : XS m c k scope (cxOf (L2.CX P w) P w K mg base m.N qual scope f cdv A outer s H E) :=
    { ok := { hN := rfl, nd := S.nd, sc := rfl, ow := rfl, calm := rfl, room := hr, gd := hgd, tk := takes_of rfl rfl rfl rfl, fns := fo.fns, cons := fo.cons, free := fo.free, mth := fo.mth, cls := fo.cls, exm := fo.exm }
      fn := fun _ => rfl
      po := passes_of rfl
      kind := S.kind
      stk := rfl
      fr := rfl }
  refine ⟨_, sndSs (g := g) body c scope _ stmts rfl xs hc, ds.map some ++ List.replicate (m.N.length - ds.length) none, st, μ, fun _ => none, ⟨fun i d e => ?_, bx, ml, md, fun a ha => ⟨rfl, ?_⟩, fun a ha => absurd rfl ha, fun a ha => .inl ha, ?_⟩, ?_⟩
  · have e1 := slot_args e
    obtain ⟨v, t, F', e2, r, hs⟩ := reps.get e1
    have hi : i < ps.length := by rw [← hl]; exact (List.getElem?_eq_some_iff.mp e1).1
    refine ⟨v, t, F', start_get e2, r, fun a ha => ?_, fun a ha => rfl, fun a ha => ⟨(hF a (hs a ha)).1, .inr (hF a (hs a ha)).2⟩⟩
    show none = if m.ow i = true then some i else none
    rw [hpo i hi]
    rfl
  · obtain ⟨j, hj, e⟩ := List.mem_iff_getElem.mp ha
    obtain ⟨a', vs', e1, e2, _⟩ := bx j _ (List.getElem?_eq_getElem (by rw [← ml]; exact hj))
    rw [List.getElem?_eq_getElem hj] at e1
    cases e1
    rw [← e, e2]
    simp
  · have hlv : ds.length = vs.length := reps.length
    unfold L2.start
    simp only [List.length_append, List.length_map, List.length_replicate, hlv]
    exact Nat.le_refl _
  · have fin2 := fin
    unfold evF at fin2
    cases er : evSs g body (ds.map some ++ List.replicate (m.N.length - ds.length) none) st with
    | nx env' st' =>
      rw [er] at fin2
      exact fun σ' H' μ' G' I' S' => fin2 .non H' μ' [] [] S'.step I'.box I'.muLen I'.muNd .non (fun _ h => by simp at h) fun _ _ h => by simp at h
    | rt d st' =>
      rw [er] at fin2
      exact fun v H' μ' G' t F' b l n S' r po nw => fin2 v H' μ' t F' S'.step b l n r po fun e a ha => ⟨(nw e a ha).1.elim id fun z => by
        cases q : H a with
        | none => rfl
        | some o => exact absurd (S'.agr a (by rw [q]; simp) fun i hi => by simp) z, (nw e a ha).2⟩
    | exn x d env' st' =>
      rw [er] at fin2
      exact fun cls dd σ' H' μ' G' I' S' xr => fin2 cls dd H' μ' S'.step I'.box I'.muLen I'.muNd xr
    | bk env' st' => rw [er] at fin2; exact fin2.elim
    | ct env' st' => rw [er] at fin2; exact fin2.elim
    | bad => rw [er] at fin2; exact fin2.elim
theorem spF_len {sem : List D → Sto → R D} {n : Nat} {vs : List V} {H : Hp} {Q : VK} {E : XK} (h : spF (kw K w) CA rn sem n vs H Q E) : vs.length = n := by
  obtain ⟨ds, st, μ, F, A', hl, reps, _⟩ := h
  rw [← reps.length]
  exact hl
theorem fn_ok {x qual : Str} {params : Arguments} {ps : List Str} {scope : Scope} {stmts : List Stmt} {body : Ss} {dvs : List V} {kws : List (Str × V)} {f : Addr} {fd : FuncData} (fo : FnsOk P w K mg base CA m g k) (F : FunD K x qual params stmts scope dvs kws f fd)
    (S : FnScope m.N ps scope) (hpo : ∀ i, i < ps.length → m.ow i = false) (hc : cSs m scope rn body stmts = true) : FnG P w K mg base (L2.CX P w) (k + 1) f fd ps (spF (kw K w) CA rn (evF g m.N.length body) ps.length) := by
  refine ⟨fun vs H Q E h => spF_len h, fun A out s H ar us vs Q E hgd hr e0 hb rv hsp => ?_⟩
  obtain ⟨oc, od, dV, kV, doc, pm, an, cdv, ct, osl, rfl, lk, hcd, _, _⟩ := F.ex
  have hl := spF_len hsp
  have inH := e0.mod.kin.keeps fun b o e => (e0.bs b o e).1
  have noLim := e0.mod.nolimit.keeps fun b o e => (e0.bs b o e).1
  have kinds : ∀ y ∈ ps.zip us, scope.names.lookup y.1 = some .local ∨ (scope.names.lookup y.1 = some .cell ∧ ((cellsFrom (s.heap.objs.size + 1) scope.names []).lookup y.1).isSome = true) := by
    rintro ⟨y, v⟩ hy
    cases S.par y (List.of_mem_zip hy).1 with
    | inl q => exact .inl q
    | inr q => exact .inr ⟨q, PySem.W.cellsFrom_some _ _ _ (.inl q)⟩
  refine codeAny_call_function hr.depth (inH _ _ lk) rfl S.co S.gen rfl (PySem.W.codeRec_of inH hcd) (hb _ _ _ _ ?_)
  refine wpAny_newFunctionEnv_cells S.kind kinds fun env he s1 x => ?_
  cases he
  refine ⟨noLim.keeps x.toInCall.keep, codeAny_func ?_⟩
  obtain ⟨t, ht, hq⟩ := fn_body fo S hpo hc qual f cdv A out s H vs Q E hgd (hr.deeper _) hsp
  have I0 := inv_start (CX := L2.CX P w) (N := m.N) (E := E) S hr.hd e0 hl rv x
  refine wpAny_mono (ht.run [] s1 (L2.start m.N vs) H _ I0 hq) (fun fl s' hs => ?_) fun e s' hs => hs
  cases fl with
  | ret u =>
    obtain ⟨v, σ', H', J, rv', q⟩ := hs
    exact ⟨v, H', J.os, J.bare, J.base, J.hok, rv', q⟩
  | next =>
    obtain ⟨σ', H', J, q⟩ := hs
    exact ⟨V.non, H', J.os, J.bare, J.base, J.hok, rfl, q⟩
  | brk => exact hs.elim fun _ z => z.elim fun _ z => False.elim z.2
  | cont => exact hs.elim fun _ z => z.elim fun _ z => False.elim z.2
end
end WT
end

section
set_option Elab.async false
set_option linter.all false
set_option maxRecDepth 100000
set_option autoImplicit false
/-! K26i: how errors are made: the base class's __init__. -/
namespace WT
open PySem PySem.Spec PyProof.Rows L2

/-- the first def of a class -/
def clsInit (s : Stmt) : Stmt := match s with
  | .ClassDef _ _ _ (d :: _) _ _ _ _ _ _ _ => d
  | _ => s
def initB (b : List Stmt) : Bool := match b with
  | [.Expr (.Call (.Attribute (.Name x _) f p2) [.Name s1 _, .Name v1 _] [] p5) _, .Assign [.Attribute (.Name s2 _) f2 _] (.Name v2 _) _] =>
      x == ("ValueError" : Str) && f == ("__init__" : Str) && s1 == ("self" : Str) && v1 == ("value" : Str) && s2 == ("self" : Str) && f2 == ("value" : Str) && v2 == ("value" : Str) && p2.endLine == p5.line
  | _ => false
theorem ve_init {K : PySem.W.Frag} : PySem.W.findCls K (.type "ValueError") (.type "type") "__init__" = some (.val (.builtin "ValueError.__init__")) := by kernel_rfl
theorem ve_call {p1 p2 pos : Pos} {es : List Expr} {env : PySem.Env} (h : methodCallForm es.length (backTo pos (starEach es env)) (backToKw pos (keywordEach [] env)) = true) (hl : (p2.endLine == pos.line) = true) :
    eval (.Call (.Attribute (.Name "ValueError" p1) "__init__" p2) es [] pos) env = (do
      let ov ← eval (.Name "ValueError" p1) env
      standAt p2.atName
      let (f, first) ← holding [ov] (getMethod ov "__init__" (do return (← importBound (.Name "ValueError" p1) env).getD true))
      callWith pos f first (backTo pos (starEach es env)) (backToKw pos (keywordEach [] env))) := by
  rw [arm_eval_Call]
  have e : methodCallPos true (.Name "ValueError" p1) env p2 pos = pure pos := by unfold methodCallPos; simp [hl]
  unfold methodCall
  simp only [List.length_nil, Nat.add_zero, h, e]
  rfl
section
variable {P : Program} {w : World} {K : PySem.W.Frag} {mg : Str → Option Value} {base : Heap}
theorem init_ok {x qual : Str} {params : Arguments} {scope : Scope} {body : List Stmt} {f : Addr} {fd : FuncData} (F : FunD K x qual params body scope [] [] f fd) (S : FnScope ["self", "value"] ["self", "value"] scope) (hg : glB scope "ValueError" = true) (hb : initB body = true) (hm : mg "ValueError" = none) :
    FnOk P w K mg base (L2.CX P w) 1 f fd ["self", "value"] (spI K) := by
  refine F.ok S (fun vs H Q E h => ?_) (fun cdv A outer s H vs Q E hr h => ?_)
  · obtain ⟨a, C, v, rfl, _⟩ := h
    rfl
  · unfold initB at hb
    split at hb
    · rename_i x p1 f p2 s1 p3 v1 p4 p5 p6 s2 p7 f2 p8 v2 p9 p10
      simp only [Bool.and_eq_true, beq_iff_eq] at hb
      obtain ⟨⟨⟨⟨⟨⟨⟨rfl, rfl⟩, rfl⟩, rfl⟩, rfl⟩, rfl⟩, rfl⟩, hl⟩ := hb
      have gl : Gl (cxOf (L2.CX P w) P w K mg base ["self", "value"] qual scope f cdv A outer s H E) "ValueError" := by
        show scope.names.lookup ("ValueError" : Str) = _
        unfold glB at hg
        split at hg
        · assumption
        · cases hg
      have vis : ∀ y, y ∈ (["self", "value"] : List Str) → Vis (cxOf (L2.CX P w) P w K mg base ["self", "value"] qual scope f cdv A outer s H E).env.scope y := fun y hy => (S.par y hy).elim .inl fun z => .inr (.inl z)
      have e1 : ∀ pos, PE (cxOf (L2.CX P w) P w K mg base ["self", "value"] qual scope f cdv A outer s H E) (.Name "self" pos) (tVar 0) := fun pos => pe_var (i := 0) rfl (vis _ (by simp)) (by decide) (by decide)
      have e2 : ∀ pos, PE (cxOf (L2.CX P w) P w K mg base ["self", "value"] qual scope f cdv A outer s H E) (.Name "value" pos) (tVar 1) := fun pos => pe_var (i := 1) rfl (vis _ (by simp)) (by decide) (by decide)
      have hc := ve_call (p1 := p1) (p2 := p2) (pos := p5) (es := [.Name "self" p3, .Name "value" p4]) (env := (cxOf (L2.CX P w) P w K mg base ["self", "value"] qual scope f cdv A outer s H E).env) rfl (by rw [hl]; simp)
      refine ⟨_, pss_cons (ps_expr (pe_veinit gl hm ve_init (pa_cons (e1 p3) (pa_cons (e2 p4) pa_nil)) hc rfl rfl) rfl) (pss_one (ps_ost (e1 p7) (e2 p9) rfl)), ?_⟩
      obtain ⟨a, C, v, rfl, hT, hno, ha, hq⟩ := h
      exact ⟨_, rfl, _, rfl, a, C, [v], rfl, by simp, hT, ha, _, rfl, _, rfl, a, C, rfl, hT, hno, .inl ⟨ha, fun dx h1 h2 => hq dx h1 h2⟩⟩
    · cases hb
end
end WT
end

section
set_option Elab.async false
set_option linter.all false
set_option maxRecDepth 100000
set_option autoImplicit false
/-! K27: the module's facts, the law's end. -/
namespace WT
open PySem PySem.Spec PyProof.Rows L2

/-! ### constants of the module -/
mutual
def repB (K : PySem.W.Frag) : D → Value → Bool
  | .non, v => (match v with | .none => true | _ => false)
  | .bl b, v => (match v with | .bool c => b == c | _ => false)
  | .int i, v => (match v with | .int j _ => decide (i = j) | _ => false)
  | .str x, v => (match v with | .str y _ => decide (x = y) | _ => false)
  | .tup ds, v => (match v with
    | .ref a => (match K.lookup a with
      | some ⟨.type c, _, .seq its _, _⟩ => decide (c = "tuple") && (decide (its.size ≤ sizeLine) && repsB K ds its.toList)
      | _ => false)
    | _ => false)
  | .lst _, _ => false
  | .frz _, _ => false
  | .dK _ _, _ => false
  | .dT _ _, _ => false
  | .ref _, _ => false
  | .exc _ _, _ => false
def repsB (K : PySem.W.Frag) : List D → List Value → Bool
  | [], us => us.isEmpty
  | d :: ds, us => (match us with
    | [] => false
    | u :: us => repB K d u && repsB K ds us)
end
mutual
theorem repB_ok {K : PySem.W.Frag} {w : World} : ∀ {d : D} {u : Value}, repB K d u = true → ∃ v, RelV v u ∧ ∀ H μ, Rep (kw K w) H μ d v [] []
  | .non, u, h => by
    unfold repB at h
    split at h
    · exact ⟨.non, rfl, fun _ _ => .non⟩
    · cases h
  | .bl b, u, h => by
    unfold repB at h
    split at h
    · have := eq_of_beq h
      subst this
      exact ⟨.bl b, rfl, fun _ _ => .bl b⟩
    · cases h
  | .int i, u, h => by
    unfold repB at h
    split at h
    · have := of_decide_eq_true h
      subst this
      exact ⟨.int i, ⟨_, rfl⟩, fun _ _ => .int i⟩
    · cases h
  | .str x, u, h => by
    unfold repB at h
    split at h
    · have := of_decide_eq_true h
      subst this
      exact ⟨.str x, ⟨_, rfl⟩, fun _ _ => .str x⟩
    · cases h
  | .tup ds, u, h => by
    unfold repB at h
    split at h
    · rename_i a
      cases q : K.lookup a with
      | none => rw [q] at h; cases h
      | some o =>
        rw [q] at h
        obtain ⟨oc, od, dt, osl⟩ := o
        cases oc with
        | type c =>
          cases dt with
          | seq its n =>
            have h : (decide (c = "tuple") && (decide (its.size ≤ sizeLine) && repsB K ds its.toList)) = true := h
            rw [Bool.and_eq_true, Bool.and_eq_true, decide_eq_true_eq, decide_eq_true_eq] at h
            obtain ⟨h1, h2, h3⟩ := h
            obtain ⟨vs, r1, r2⟩ := repsB_ok h3
            exact ⟨.ref a, rfl, fun H μ => .tup (.inr ⟨_, its, n, q, congrArg Value.type h1, rfl, h2, r1⟩) (r2 H μ)⟩
          | _ => cases h
        | _ => cases dt <;> cases h
    · cases h
  | .lst _, u, h => by cases h
  | .frz _, u, h => by cases h
  | .dK _ _, u, h => by cases h
  | .dT _ _, u, h => by cases h
  | .ref _, u, h => by cases h
  | .exc _ _, u, h => by cases h
theorem repsB_ok {K : PySem.W.Frag} {w : World} : ∀ {ds : List D} {us : List Value}, repsB K ds us = true → ∃ vs, Vals vs us ∧ ∀ H μ, Reps (kw K w) H μ ds vs []
  | [], us, h => by
    unfold repsB at h
    have := List.isEmpty_iff.mp h
    subst this
    exact ⟨[], .nil, fun _ _ => .nil⟩
  | d :: ds, us, h => by
    unfold repsB at h
    split at h
    · cases h
    · rw [Bool.and_eq_true] at h
      obtain ⟨v, r1, r2⟩ := repB_ok h.1
      obtain ⟨vs, r3, r4⟩ := repsB_ok h.2
      exact ⟨v :: vs, .cons r1 r3, fun H μ => .cons (r2 H μ) (r4 H μ)⟩
end
/-! ### a Hook of one's own: any look at the fragment, and the defs -/
abbrev AlW : Type := Bool × List He.FnW
def obsW (chk : PySem.W.Frag → Bool) (fn : List He.DefD) (K : PySem.W.Frag) : AlW := (chk K && fn.all fun d => d.ok K, fn.map fun d => He.fnW K d.at_)
def valW (fn : List He.DefD) : AlW := (true, fn.map He.DefD.val)
def SaysW (chk : PySem.W.Frag → Bool) (fn : List He.DefD) (K : PySem.W.Frag) : Prop := obsW chk fn K = valW fn
def obsWG (n : Nat) (chk : PySem.W.Frag → Bool) (fn : List He.DefD) (g : Addr → Option Obj) : AlW := obsW chk fn (He.frG g (He.asD g n))
def hookW (n : Nat) (chk : PySem.W.Frag → Bool) (fn : List He.DefD) : PySem.W.Hook where
  α := AlW
  obs := fun s => obsWG n chk fn s.heap.get?
  val := fun _ => valW fn
  says := fun _ h => ∃ K : PySem.W.Frag, K.In h ∧ SaysW chk fn K
  of := fun _ _ e => ⟨_, He.frG_in, e⟩
  keeps := fun _ _ _ ⟨K, hK, c⟩ k => ⟨K, PySem.W.Frag.In.keeps hK k, c⟩
theorem obsWG_eq {n : Nat} {chk : PySem.W.Frag → Bool} {fn : List He.DefD} {g : Addr → Option Obj} {s : Shared} (h : ∀ a, g a = s.heap.get? a) : obsWG n chk fn g = (hookW n chk fn).obs s := by
  have e : g = s.heap.get? := funext h
  rw [e] <;> rfl
section
variable {chk : PySem.W.Frag → Bool} {fn : List He.DefD} {K : PySem.W.Frag}
theorem SaysW.look (c : SaysW chk fn K) : chk K = true := (Bool.and_eq_true_iff.mp (show (chk K && fn.all fun d => d.ok K) = true from congrArg (fun z : AlW => z.1) c)).1
theorem SaysW.def_ (c : SaysW chk fn K) (i : Nat) {d : He.DefD} (h : fn[i]? = some d) : ∃ fd, FunD K d.name d.qual d.params d.body d.scope (d.dvs K) (d.kws K) (He.fAd K d.at_) fd := by
  have c2 := (Bool.and_eq_true_iff.mp (show (chk K && fn.all fun d => d.ok K) = true from congrArg (fun z : AlW => z.1) c)).2
  have e : fn.map (fun d => He.fnW K d.at_) = fn.map He.DefD.val := congrArg (fun z : AlW => z.2) c
  have e2 : (fn.map fun d => He.fnW K d.at_)[i]? = (fn.map He.DefD.val)[i]? := by rw [e]
  rw [List.getElem?_map, List.getElem?_map, h] at e2
  exact He.DefD.funD (Option.some.inj e2) (List.all_eq_true.mp c2 d (List.mem_of_getElem? h))
end
/-- the facts that the defs lean on -/
def conB (K : PySem.W.Frag) (p : Str × D) : Bool := match PySem.W.nsIn K mainGlobals p.1 with
  | some (some v) => repB K p.2 v
  | _ => false
/-- a class of errors, as the written part tells it -/
def oexB (K : PySem.W.Frag) (C : Addr) : Bool := match K.lookup C with
  | some ⟨.type t, _, .cls cd, sl⟩ => (match cd.mro, sl.toList with
    | .ref C2 :: bm, [_, _, _, _, some (.builtin z), _] => decide (t = "type") && decide (C2 = C) && decide (z = "ValueError.__new__") && !cd.hasDel && cd.hasDict && HandSPX.refsVE bm
    | _, _ => false)
  | _ => false
theorem oexB_ok {K : PySem.W.Frag} {C : Addr} (h : oexB K C = true) : ∃ nm q N bs bm sn sub ab col dd k0 k1 k2 k3 k5, K.lookup C = some (excClassObj nm q C N bs bm true sn sub ab col dd k0 k1 k2 k3 k5 "ValueError.__new__") ∧ HandSPX.refsVE bm = true := by
  unfold oexB at h
  split at h
  · rename_i t dd cd sl e
    split at h
    · rename_i C2 bm k0 k1 k2 k3 z k5 e1 e2
      simp only [Bool.and_eq_true, Bool.not_eq_true', decide_eq_true_eq] at h
      obtain ⟨⟨⟨⟨⟨rfl, rfl⟩, rfl⟩, h1⟩, h2⟩, h3⟩ := h
      cases cd
      cases sl
      simp only at e1 e2 h1 h2
      subst e1 e2 h1 h2
      exact ⟨_, _, _, _, bm, _, _, _, _, dd, k0, k1, k2, k3, k5, e, h3⟩
    · cases h
  · cases h
/-- what must stand of a class; f is the base's __init__ -/
def clsB (K : PySem.W.Frag) (f : Addr) (x : Str) : Bool :=
  (He.Fa.glo x).ok K && oexB K (He.ga K x) && decide (PySem.W.findIn K (.ref (He.ga K x)) "__setattr__" = some (some (.builtin "object.__setattr__"))) && decide (PySem.W.subIn K (.ref (He.ga K x)) (.type "BaseException") = some true) &&
    decide (PySem.W.typeIn K (.ref (He.ga K x)) = some (.type "type")) && PySem.W.keepIn K (.ref (He.ga K x)) && xfB K (He.ga K x) && decide (PySem.W.findIn K (.ref (He.ga K x)) "value" = some none) &&
    decide (PySem.W.findIn K (.ref (He.ga K x)) "__init__" = some (some (.ref f))) && decide (PySem.W.typeIn K (.ref f) = some (.type "function"))
/-- .. of a class whose errors are looked at -/
def clsKB (K : PySem.W.Frag) (cls : List Str) (root : Str) (x : Str) : Bool :=
  (cls.all fun y => decide (PySem.W.kitOne K (.ref (He.ga K x)) (.ref (He.ga K y)) = some (y == root || y == x))) && decide (PySem.W.kitOne K (.ref (He.ga K x)) (.type "ValueError") = some true) && decide (PySem.W.findIn K (.ref (He.ga K x)) "__class__" = some (some (.builtin "object.__class__"))) &&
    decide (PySem.W.mroIn K (He.ga K x) (.type "object") = some true)
def clsKG (K : PySem.W.Frag) : Bool := decide (PySem.W.specialIn K (.builtin "object.__class__") "__get__" = some (some (.builtin "getset_descriptor.__get__"))) && decide (PySem.W.takesIn K (.builtin "object.__class__") = some true)
def initAd (K : PySem.W.Frag) (root : Str) : Addr := He.fAd K (root, some "__init__")
def factsC (cls : List Str) (root : Str) (K : PySem.W.Frag) : Bool :=
  (cls.all fun x => clsB K (initAd K root) x) && (cls.all fun x => cls.all fun y => (He.Fa.exm x y (y == root || y == x)).ok K) && (cls.isEmpty || (He.Fa.free "ValueError").ok K) && ((cls.all fun x => clsKB K cls root x) && (cls.isEmpty || clsKG K))
def facts (names : List Str) (cons : List (Str × D)) (mth : List Bi) (cls : List Str) (root : Str) (K : PySem.W.Frag) : Bool :=
  (names.all fun x => (He.Fa.glo x).ok K) && (cons.all fun p => conB K p) && (freeNames.all fun x => (He.Fa.free x).ok K) && (mth.all fun f => He.eqO (PySem.W.nsIn K mainGlobals f.nm) (some (some f.vl))) && factsC cls root K
/-- the address of a class -/
def caOf (K : PySem.W.Frag) (cls : List Str) : Str → Option Addr := fun x => if x ∈ cls then some (He.ga K x) else none
theorem caOf_some {K : PySem.W.Frag} {cls : List Str} {x : Str} {C : Addr} (h : caOf K cls x = some C) : x ∈ cls ∧ C = He.ga K x := by
  unfold caOf at h
  split at h
  · cases h; exact ⟨by assumption, rfl⟩
  · cases h
theorem factsC_exm {K : PySem.W.Frag} {cls : List Str} {root : Str} (h : factsC cls root K = true) : ExmOk K (caOf K cls) root := by
  unfold factsC at h
  simp only [Bool.and_eq_true, List.all_eq_true] at h
  obtain ⟨h, hK⟩ := h
  have kb : ∀ x ∈ cls, clsKB K cls root x = true := hK.1
  refine ⟨fun x y C C' h1 h2 => ?_, fun x C h1 => ?_, fun x C h1 => ?_, fun x y C C' h1 h2 => ?_, fun x C h1 => ?_, fun x C h1 => ?_⟩
  · obtain ⟨a1, rfl⟩ := caOf_some h1
    obtain ⟨a2, rfl⟩ := caOf_some h2
    exact He.exm_ok (h.1.2 x a1 y a2)
  · obtain ⟨a1, rfl⟩ := caOf_some h1
    have z := h.1.1 x a1
    unfold clsB at z
    simp only [Bool.and_eq_true, decide_eq_true_eq] at z
    exact ⟨xfB_ok z.1.1.1.2, z.1.1.2⟩
  · exact (caOf_some h1).2
  · obtain ⟨a1, rfl⟩ := caOf_some h1
    obtain ⟨a2, rfl⟩ := caOf_some h2
    have z := kb x a1
    unfold clsKB at z
    simp only [Bool.and_eq_true, decide_eq_true_eq, List.all_eq_true] at z
    exact z.1.1.1 y a2
  · obtain ⟨a1, rfl⟩ := caOf_some h1
    have z := kb x a1
    unfold clsKB at z
    simp only [Bool.and_eq_true, decide_eq_true_eq, List.all_eq_true] at z
    exact z.1.1.2
  · obtain ⟨a1, rfl⟩ := caOf_some h1
    have z := kb x a1
    unfold clsKB at z
    simp only [Bool.and_eq_true, decide_eq_true_eq, List.all_eq_true] at z
    have y := h.1.1 x a1
    unfold clsB at y
    simp only [Bool.and_eq_true, decide_eq_true_eq] at y
    have w := xfB_ok y.1.1.1.2
    have v : clsKG K = true := by
      rcases (Bool.or_eq_true _ _).mp hK.2 with v | v
      · rw [List.isEmpty_iff.mp v] at a1
        simp at a1
      · exact v
    unfold clsKG at v
    simp only [Bool.and_eq_true, decide_eq_true_eq] at v
    exact ⟨w.ga, w.gg, w.exC, w.hdC, z.1.2, v.1, v.2, z.2⟩
theorem factsC_cls {P : Program} {w : World} {K : PySem.W.Frag} {mg : Str → Option Value} {base h : Heap} {cls : List Str} {root : Str} (X : K.In h) (G : h.Ns mainGlobals mg) (hf : factsC cls root K = true) {fd : FuncData}
    (F : (He.Fa.free "ValueError").ok K = true → FnOk P w K mg base (L2.CX P w) 1 (initAd K root) fd ["self", "value"] (spI K)) (hb : Binds K fd ["self", "value"] []) (hkb : KBd K fd ["self", "value"] [(1, ["value"], [0])]) : ∀ y ∈ cls, ClsOk P w K mg base (caOf K cls) y := fun y hy => by
  unfold factsC at hf
  simp only [Bool.and_eq_true, List.all_eq_true, Bool.or_eq_true] at hf
  have z := hf.1.1.1 y hy
  have hv : (He.Fa.free "ValueError").ok K = true := hf.1.2.elim (fun z => by cases cls <;> first | (simp at hy; done) | cases z) id
  unfold clsB at z
  simp only [Bool.and_eq_true, decide_eq_true_eq] at z
  obtain ⟨⟨⟨⟨⟨⟨⟨⟨⟨z1, z2⟩, z3⟩, z4⟩, z5⟩, z6⟩, z7⟩, z8⟩, z9⟩, z10⟩ := z
  exact ⟨He.ga K y, initAd K root, fd, if_pos hy, He.glo_ok X G z1, ⟨oexB_ok z2, z3, z4, z5, z6⟩, z8, z9, z10, F hv, hb, hkb, He.free_ok X G hv⟩
theorem conB_ok {K : PySem.W.Frag} {w : World} {h : Heap} {mg : Str → Option Value} (X : K.In h) (G : h.Ns mainGlobals mg) {p : Str × D} (c : conB K p = true) : ∃ u v, mg p.1 = some u ∧ RelV v u ∧ ∀ H μ, Rep (kw K w) H μ p.2 v [] [] := by
  unfold conB at c
  split at c
  · rename_i u e
    obtain ⟨v, r1, r2⟩ := repB_ok c
    exact ⟨u, v, PySem.W.mg_of X G e, r1, r2⟩
  · cases c
/-- how arguments go to a plain def's parameters -/
theorem kbd_of {K : PySem.W.Frag} {x qual : Str} {params : Arguments} {body : List Stmt} {scope : Scope} {f : Addr} {fd : FuncData} {ps : List Str} {kw : List (Nat × List Str × List Nat)} (F : FunD K x qual params body scope [] [] f fd)
    (h0 : ∀ (kV doc pm : Value) (an : Option Addr) (cdv ct : Value) (us : List Value), us.length = ps.length → bindArgs (PySem.W.fnOf x qual params body scope .none kV doc pm an cdv ct) ⟨us, []⟩ = pure (ps.zip us))
    (h : ∀ q ∈ kw, ∀ (kV doc pm : Value) (an : Option Addr) (cdv ct : Value) (us ws : List Value), us.length = q.1 → ws.length = q.2.1.length → bindArgs (PySem.W.fnOf x qual params body scope .none kV doc pm an cdv ct) ⟨us, q.2.1.zip ws⟩ = pure (ps.zip (us ++ permL q.2.2 ws))) : KBd K fd ps kw := by
  obtain ⟨oc, od, dV, kV, doc, pm, an, cdv, ct, osl, rfl, lk, hcd, hD, hK⟩ := F.ex
  rcases hD with ⟨_, rfl⟩ | ⟨e, _⟩
  · exact fun s us ws _ => ⟨fun hl => .of_eq (h0 kV doc pm an cdv ct us hl), fun q hq h1 h2 => .of_eq (h q hq kV doc pm an cdv ct us ws h1 h2)⟩
  · exact absurd rfl e
/-- a promise that no one can ask for -/
theorem fn_bad {P : Program} {w : World} {K : PySem.W.Frag} {mg : Str → Option Value} {base : Heap} {CX : CXT} {k : Nat} {f : Addr} {fd : FuncData} {ps : List Str} {CA : Str → Option Addr} {rn : Bool} : FnG P w K mg base CX k f fd ps (spF (kw K w) CA rn (fun _ _ => .bad) ps.length) :=
  ⟨fun vs H Q E h => spF_len h, fun A outer s H args us vs Q E hgd hr he hb hv hs => by
    obtain ⟨_, _, _, _, _, _, _, _, _, _, _, z⟩ := hs
    exact z.elim⟩
end WT
end

section
set_option Elab.async false
set_option linter.all false
set_option maxRecDepth 100000
set_option autoImplicit false
/-! K28: the defs one behind another. -/
namespace WT
open PySem PySem.Spec PyProof.Rows L2

section
variable {P : Program} {w : World} {K : PySem.W.Frag} {mg : Str → Option Value} {base : Heap} {CA : Str → Option Addr} {m m' : MC} {g g' : GE} {k : Nat}
/-- the fields that the promise of the defs in reach looks at -/
theorem FnsOk.cong (fo : FnsOk P w K mg base CA m g k) (h1 : m'.fns = m.fns) (h2 : m'.cons = m.cons) (h3 : m'.rn = m.rn) (h4 : m'.kw = m.kw) (h5 : m'.mth = m.mth) (h6 : m'.cls = m.cls) (h7 : m'.base = m.base) : FnsOk P w K mg base CA m' g k :=
  ⟨fun i n ps h => by rw [h1] at h; rw [h3, h4]; exact fo.fns i n ps h, fun i x h => by rw [h2] at h; exact fo.cons i x h, fo.free, by rw [h5]; exact fo.mth, by rw [h6]; exact fo.cls, by rw [h7]; exact fo.exm⟩
theorem FnsOk.mono (fo : FnsOk P w K mg base CA m g k) {k' : Nat} (h : k ≤ k') : FnsOk P w K mg base CA m g k' :=
  ⟨fun i n ps e => by
    obtain ⟨fi, f, fd, a1, a2, a3, a4, a5, a6⟩ := fo.fns i n ps e
    exact ⟨fi, f, fd, a1, a2, a3, a4, a5.mono h, a6⟩, fo.cons, fo.free, fo.mth, fun y hy => ⟨Nat.le_trans (fo.cls y hy).1 h, (fo.cls y hy).2⟩, fo.exm⟩
theorem FnsOk.snoc (fo : FnsOk P w K mg base CA m g k) {n : Str} {ps : List Str} {fi : FnI} {f : Addr} {fd : FuncData} {k' : Nat} (hk' : k ≤ k') (h1 : m'.fns = m.fns ++ [(n, ps)]) (h2 : m'.cons = m.cons) (h3 : m'.rn = m.rn) (h4 : m'.kw = m.kw) (h5 : m'.mth = m.mth) (h6 : m'.cls = m.cls) (h7 : m'.base = m.base)
    (e1 : g'.fns = g.fns ++ [fi]) (e2 : g'.cons = g.cons) (el : m.fns.length = g.fns.length) (hps : fi.ps = ps) (hm : mg n = some (.ref f)) (hk : PySem.W.keepIn K (.ref f) = true)
    (F : FnG P w K mg base (L2.CX P w) k' f fd ps (spF (kw K w) CA (m.rn m.fns.length) fi.sem ps.length)) (hb : KBd K fd ps (m.kw m.fns.length)) : FnsOk P w K mg base CA m' g' k' := by
  refine ⟨fun i n' ps' h => ?_, fun i x h => ?_, fo.free, by rw [h5]; exact fo.mth, by rw [h6]; exact fun y hy => ⟨Nat.le_trans (fo.cls y hy).1 hk', (fo.cls y hy).2⟩, by rw [h7]; exact fo.exm⟩
  · rw [h1] at h
    rw [h3, h4]
    by_cases hi : i < m.fns.length
    · rw [List.getElem?_append_left hi] at h
      obtain ⟨fi', f', fd', a1, a2, a3, a4, a5, a6⟩ := fo.fns i n' ps' h
      exact ⟨fi', f', fd', by rw [e1, List.getElem?_append_left (by rw [← el]; exact hi)]; exact a1, a2, a3, a4, a5.mono hk', a6⟩
    · rw [List.getElem?_append_right (by omega)] at h
      have hi2 : i = m.fns.length := by
        have := (List.getElem?_eq_some_iff.mp h).1
        simp at this
        omega
      subst hi2
      simp at h
      obtain ⟨rfl, rfl⟩ := h
      exact ⟨fi, f, fd, by rw [e1, el, List.getElem?_append_right (Nat.le_refl _)]; simp, hps, hm, hk, F, hb⟩
  · rw [h2] at h
    obtain ⟨d, v, u, b1, b2⟩ := fo.cons i x h
    exact ⟨d, v, u, by rw [e2]; exact b1, b2⟩
end
end WT
end

section
set_option Elab.async false
set_option linter.all false
set_option maxRecDepth 100000
set_option autoImplicit false
/-! K29: the law's own promise. -/
namespace WT
open PySem PySem.Spec PyProof.Rows L2

theorem fz_of {K : FW} {H : Hp} {a : Addr} {ns : List Int} (hO : Only H) (h : SqL K H a (ns.map V.int)) : Fz K H a ns := by
  rcases h with (h | ⟨o, h⟩) | h
  · rcases hO a with z | ⟨o, xs, z⟩
    · rw [z] at h; cases h
    · rw [z] at h; cases h
  · exact .inl ⟨o, h⟩
  · exact .inr h
theorem law_sp {w : World} {K : PySem.W.Frag} {CA : Str → Option Addr} {rn : Bool} {sem : List D → Sto → R D} {H : Hp} {a : Addr} {ns : List Int} {st' : Sto} (h : sem [.frz ns] [] = .ok (.bl true) st') (hO : Only H) (hS : SqL (kw K w) H a (ns.map V.int)) :
    spF (kw K w) CA rn sem 1 [.ref a] H (fun v _ => v = .bl true) fun _ _ _ => False := by
  refine ⟨[.frz ns], [], [], [], fun _ => True, rfl, .cons (t := []) (F := []) (.frz (fz_of hO hS)) .nil, fun k xs e => by simp at e, rfl, List.nodup_nil, fun _ h => by simp at h, ?_⟩
  rw [h]
  exact fun v H' μ' t F' _ _ _ _ r _ _ => by cases r; rfl
/-- a def that calls itself, by how deep it may -/
theorem rec_ok {P : Program} {w : World} {K : PySem.W.Frag} {mg : Str → Option Value} {base : Heap} {CA : Str → Option Addr} {m m' : MC} {g : GE} {k : Nat} {x qual : Str} {params : Arguments} {ps : List Str} {scope : Scope} {stmts : List Stmt} {body : Ss} {dvs : List V} {kws : List (Str × V)} {f : Addr} {fd : FuncData}
    {n : Str} {sem : Nat → List D → Sto → R D} (fo : FnsOk P w K mg base CA m g k) (F : FunD K x qual params stmts scope dvs kws f fd) (S : FnScope m'.N ps scope) (hpo : ∀ i, i < ps.length → m'.ow i = false) (hc : cSs m' scope (m.rn m.fns.length) body stmts = true)
    (h0 : sem 0 = fun _ _ => .bad) (hs : ∀ j, sem (j + 1) = evF ⟨g.fns ++ [⟨n, ps, sem j⟩], g.cons⟩ m'.N.length body)
    (h1 : m'.fns = m.fns ++ [(n, ps)]) (h2 : m'.cons = m.cons) (h3 : m'.rn = m.rn) (h4 : m'.kw = m.kw) (h5 : m'.mth = m.mth) (h6 : m'.cls = m.cls) (h7 : m'.base = m.base) (el : m.fns.length = g.fns.length) (hm : mg n = some (.ref f)) (hk : PySem.W.keepIn K (.ref f) = true) (hb : KBd K fd ps (m.kw m.fns.length)) :
    ∀ j, FnG P w K mg base (L2.CX P w) (k + j) f fd ps (spF (kw K w) CA (m.rn m.fns.length) (sem j) ps.length)
  | 0 => by
    rw [h0]
    exact fn_bad
  | j + 1 => by
    have ih := rec_ok fo F S hpo hc h0 hs h1 h2 h3 h4 h5 h6 h7 el hm hk hb j
    have fo' : FnsOk P w K mg base CA m' ⟨g.fns ++ [⟨n, ps, sem j⟩], g.cons⟩ (k + j) := fo.snoc (by omega) h1 h2 h3 h4 h5 h6 h7 rfl rfl el rfl hm hk ih hb
    rw [hs j]
    exact fn_ok fo' F S hpo hc
end WT
end

section
set_option Elab.async false
set_option linter.all false
set_option maxRecDepth 100000
set_option autoImplicit false
/-! K30: from the module's facts. -/
namespace WT
open PySem PySem.Spec PyProof.Rows L2

section
variable {P : Program} {w : World} {K : PySem.W.Frag} {mg : Str → Option Value} {base h : Heap} {CA : Str → Option Addr} {names : List Str} {cons : List (Str × D)} {mth : List Bi} {cls : List Str} {root : Str}
theorem facts_parts (hf : facts names cons mth cls root K = true) : (∀ x ∈ names, (He.Fa.glo x).ok K = true) ∧ (∀ p ∈ cons, conB K p = true) ∧ (∀ x ∈ freeNames, (He.Fa.free x).ok K = true) ∧ (∀ f ∈ mth, PySem.W.nsIn K mainGlobals f.nm = some (some f.vl)) ∧ factsC cls root K = true := by
  unfold facts at hf
  simp only [Bool.and_eq_true, List.all_eq_true] at hf
  obtain ⟨⟨⟨⟨h1, h2⟩, h3⟩, h4⟩, h5⟩ := hf
  exact ⟨h1, h2, h3, fun f hm => He.eqO_ok (h4 f hm), h5⟩
theorem facts_glo (hf : facts names cons mth cls root K = true) (X : K.In h) (G : h.Ns mainGlobals mg) {x : Str} (hx : x ∈ names) : mg x = some (.ref (He.ga K x)) := He.glo_ok X G ((facts_parts hf).1 x hx)
theorem FnsOk.zero {m : MC} (hf : facts names cons mth cls root K = true) (X : K.In h) (G : h.Ns mainGlobals mg) (h1 : m.fns = []) (h2 : m.cons = cons.map (·.1)) (h3 : m.mth = mth) (h4 : m.base = root) (h5 : ∀ y ∈ m.cls, ClsOk P w K mg base (caOf K cls) y) : FnsOk P w K mg base (caOf K cls) m ⟨[], cons⟩ 2 := by
  obtain ⟨f1, f2, f3, f4, f5⟩ := facts_parts hf
  refine ⟨fun i n ps e => by rw [h1] at e; simp at e, fun i x e => ?_, fun x hx => He.free_ok X G (f3 x hx), by rw [h3]; exact fun f hm => PySem.W.mg_of X G (f4 f hm), fun y hy => ⟨Nat.le_refl _, h5 y hy⟩, by rw [h4]; exact factsC_exm f5⟩
  rw [h2, List.getElem?_map] at e
  obtain ⟨p, hp, rfl⟩ := Option.map_eq_some_iff.mp e
  obtain ⟨u, v, g1, g2, g3⟩ := conB_ok X G (f2 p (List.mem_of_getElem? hp))
  exact ⟨p.2, v, u, hp, g1, g2, g3⟩
end
def scB (N P : List Str) (sc : Scope) : Bool := fnB sc && !sc.isCoroutine && !sc.isGenerator && decide N.Nodup && decide (N.take P.length = P) && (P.all fun x => locB sc x) && sc.names.all fun y => !decide (y.2 = .free)
theorem fnScope_by {N P : List Str} {sc : Scope} (h : scB N P sc = true) : FnScope N P sc := by
  unfold scB at h
  simp only [Bool.and_eq_true, Bool.not_eq_true', decide_eq_true_eq, List.all_eq_true, decide_eq_false_iff_not] at h
  obtain ⟨⟨⟨⟨⟨⟨h1, h2⟩, h3⟩, h4⟩, h5⟩, h6⟩, h7⟩ := h
  refine ⟨?_, h2, h3, h4, h5, fun x hx => locB_k (h6 x hx), h7⟩
  unfold fnB at h1
  split at h1
  · assumption
  · cases h1
end WT
end

section
set_option Elab.async false
set_option linter.all false
set_option maxRecDepth 100000
set_option autoImplicit false
/-! K31: the law's end: what a callee may let out depends on the world. -/
namespace WT
open PySem PySem.Spec PyProof.Rows L2
/-- the head, from a promise that holds where no repr is under way: the caller's own surroundings are such -/
theorem head_call {P : Program} {w : World} {K : PySem.W.Frag} {mg mb : Str → Option Value} {CX : CXT} {k : Nat} {fa a : Addr} {fd : FuncData} {x : Str} {sp : Sp} {s : Shared} {vs : List Value} {ns : List Int}
    (KX : K.In s.heap) (g1 : s.heap.Ns mainGlobals mg) (g2 : s.heap.Ns builtinsNs mb) (g3 : ∀ y : Str, y ≠ "__name__" → mb y = bootBuiltins y) (g4 : s.heap.NoLimit) (g5 : s.gens = #[])
    (ha : s.heap.get? a = some { cls := .type "list", data := .seq vs.toArray }) (hi : IntsAre vs ns) (hl : ns.length ≤ sizeLine) (hr : Room k callerA)
    (F : ∀ b : Heap, K.In b → b.Ns mainGlobals mg → FnG P w K mg b CX k fa fd [x] sp) (hb : ∀ (s : Shared) (u : Value), BindsTo s fd ⟨[u], []⟩ [(x, u)])
    (hs : ∀ H : Hp, Only H → SqL K H a (ns.map V.int) → sp [.ref a] H (fun v _ => v = .bl true) fun _ _ _ => False)
    (hX : ∀ H e s', CX [] H s (fun _ _ _ => False) e s' → False) :
    codeAny (model P w) callerA (.call (.ref fa) ⟨[.ref a], []⟩) (fun r s' => r = .ok (.ret (.bool true)) ∧ OldK s.heap s'.heap ∧ s'.os = s.os ∧ AllBare s'.gens) s := by
  have rel := vals_ints hi
  have len := hi.length
  -- H tracks the script alone, or nothing
  have go : ∀ H : Hp, Only H → SqL K H a (ns.map V.int) → HOk P w H s.heap → (∀ b, H b ≠ none → b = a) → (H a ≠ none → K.lookup a = none) →
      codeAny (model P w) callerA (.call (.ref fa) ⟨[.ref a], []⟩) (fun r s' => r = .ok (.ret (.bool true)) ∧ OldK s.heap s'.heap ∧ s'.os = s.os ∧ AllBare s'.gens) s := by
    intro H hO hS ok only free
    have notD : ∀ {b : Addr} {o : Obj} {es : Array DictEntry} {n : Nat}, s.heap.get? b = some o → o.data = .dict es n → H b = none := by
      intro b o es n e d
      cases q : H b with
      | none => rfl
      | some u =>
        obtain rfl : b = a := only b fun z => by rw [q] at z; cases z
        rw [ha] at e
        cases e
        exact absurd d (fun z => by cases z)
    have nsH : ∀ {b : Addr} {f : Str → Option Value}, s.heap.Ns b f → (hidT s.heap H).Ns b f := by
      rintro b f ⟨o, es, n, e, d, r⟩
      exact ⟨o, es, n, hidT_get e (notD e d), d, r⟩
    have inK : K.In (hidT s.heap H) := by
      intro b o e
      refine hidT_get (KX b o e) ?_
      cases q : H b with
      | none => rfl
      | some u =>
        obtain rfl : b = a := only b fun z => by rw [q] at z; cases z
        rw [free fun z => by rw [q] at z; cases z] at e
        cases e
    have md : Mod K mg (hidT s.heap H) := by
      obtain ⟨mc, l1, l2⟩ := g4
      exact ⟨inK, nsH g1, ⟨mb, nsH g2, g3⟩, mc, nsH l1, l2⟩
    have env : Env0 P w K mg (hidT s.heap H) callerA [] s H :=
      { frames := rfl, mod := md, bs := fun b o e => of_hidT e, bsz := Nat.le_of_eq (hidT_size _ _), funs := trivial, frf := fun b z => (by cases (show b ∈ ([] : List Addr) from z)), hok := ok, bare := .of_eq g5 }
    refine codeAny_mono ((F _ inK (nsH g1)).goes callerA [] s H ⟨[.ref a], []⟩ [.ref a] [.ref a] _ _ rfl hr env (hb s (.ref a)) (.cons rfl .nil) (hs H hO hS)) ?_
    intro r s' h
    cases r with
    | error e => exact (hX H e s' h).elim
    | ok fl =>
      cases fl with
      | ret u =>
        obtain ⟨v, H', o1, o2, un, ok', rv, (rfl : v = .bl true)⟩ := h
        obtain rfl : u = Value.bool true := rv
        refine ⟨rfl, OldK.of_keep ?_, o1, o2⟩
        intro b o e
        cases q : H b with
        | none => exact un.keep b o e q (fun z => by cases (show b ∈ ([] : List Addr) from z)) (by simp)
        | some u =>
          obtain z | ⟨ob, xs, z⟩ := hO b
          · rw [q] at z; cases z
          · have e2 := (ok' b _ (un.frzs b ob _ z)).1
            rw [(ok b _ z).1] at e
            cases e
            exact e2
      | next => exact h.elim
      | brk => exact h.elim
      | cont => exact h.elim
  cases q : K.lookup a with
  | some o =>
    have e := KX a o q
    rw [ha] at e
    cases e
    exact go (fun _ => none) (fun _ => .inl rfl) (.inr ⟨_, vs.toArray, _, q, rfl, rfl, rfl, by rw [List.size_toArray, len]; exact hl, by simpa using rel⟩) (fun b u z => by cases (show (none : Option HO) = some u from z)) (fun b z => (z rfl).elim) fun z => (z rfl).elim
  | none =>
    have at_a : ∀ b u, (if b = a then some (HO.frz { cls := .type "list", data := .seq vs.toArray } (.lst (ns.map V.int))) else none) = some u → b = a ∧ u = HO.frz { cls := .type "list", data := .seq vs.toArray } (.lst (ns.map V.int)) := by
      intro b u z
      by_cases c : b = a
      · rw [if_pos c] at z; exact ⟨c, (Option.some.inj z).symm⟩
      · rw [if_neg c] at z; cases z
    refine go (fun b => if b = a then some (.frz { cls := .type "list", data := .seq vs.toArray } (.lst (ns.map V.int))) else none) (fun b => ?_) (.inl (.inr ⟨{ cls := .type "list", data := .seq vs.toArray }, if_pos rfl⟩)) (fun b u z => ?_) (fun b z => ?_) fun _ => q
    · by_cases c : b = a
      · exact .inr ⟨_, _, if_pos c⟩
      · exact .inl (if_neg c)
    · obtain ⟨rfl, rfl⟩ := at_a b u z
      exact ⟨ha, by rw [List.length_map]; exact hl, vs, _, rel, ha⟩
    · by_cases c : b = a
      · exact c
      · exact (z (if_neg c)).elim
theorem walk_ofW {l : PySem.W.OpenLaw} {n k : Nat} {q : Program} {loose : List Str} {XP : (Str → Option Value) → Heap → Prop} {YP : World → Heap → Prop} {d : DefRec} {x : Str}
    (hn : l.most = some n) (hn2 : n ≤ sizeLine) (hdf : d.params.defaults = []) (hr : Room k callerA)
    (F : ∀ (w : World) (mg : Str → Option Value) (fa : Addr) (h : Heap), YP w h → h.Ns mainGlobals mg → mg d.name = some (.ref fa) →
      ∃ (K : PySem.W.Frag) (fd : FuncData) (sp : Sp), K.In h ∧ (∀ (s : Shared) (u : Value), BindsTo s fd ⟨[u], []⟩ [(x, u)]) ∧
        (∀ (H : Hp) (a : Addr) (ns : List Int), ns.length ≤ n → Only H → SqL K H a (ns.map V.int) → sp [.ref a] H (fun v _ => v = .bl true) fun _ _ _ => False) ∧
        ∀ base : Heap, K.In base → base.Ns mainGlobals mg → FnG l.prog w K mg base (L2.CX l.prog w) k fa fd [x] sp) :
    PySem.W.WalkO q loose XP YP l.row.toRowW d [] (fun f vs => PySem.call f vs) := by
  refine Att.attach_call hn hdf fun w s₀ s₁ mg mb fa o pm cd doc a vs ns G Y ho hd hcd hmg hobj hints hlen hg => ?_
  obtain ⟨K, fd, sp, KX, hb, hsp, hF⟩ := F w mg fa _ Y G.T.g hmg
  exact head_call KX G.T.g G.T.b G.T.builtins G.T.nolimit hg hobj hints (Nat.le_trans hlen hn2) hr hF hb (fun H hO hS => hsp H a ns hlen hO hS) fun H e s' z => by
    obtain ⟨_, _, _, _, _, _, _, _, _, _, _, _, z⟩ := z
    exact z
end WT
end

section
set_option Elab.async false
set_option linter.all false
set_option maxRecDepth 100000
set_option autoImplicit false
/-! M1: the evaluator as rewriting rules without open lambdas, loop rules. Own work. -/
namespace WT
open PySem
variable {α β : Type}
def callK (g : GE) (f : Nat) (ord : List Nat) (xs zs : List D) (st : Sto) : R D := match g.fns[f]? with
  | some fi => if xs.length + (permL ord zs).length = fi.ps.length then fi.sem (xs ++ permL ord zs) st else .bad
  | none => .bad
def kBin2 (op : Operator) (x : D) : D → Sto → R D := fun y st => .ofO st (binD op x y)
def kBin (g : GE) (op : Operator) (b : E) (env : Env) : D → Sto → R D := fun x st => (evE g b env st).bind (kBin2 op x)
def kNeg : D → Sto → R D := fun x st1 => match x with | .int i => .ok (.int (-i)) st1 | _ => .bad
def kNot : D → Sto → R D := fun x st1 => .ofO st1 ((truD st1 x).map fun b => D.bl (!b))
def kCmp2 (op : CmpOp) (x : D) : D → Sto → R D := fun y st => .ofO st ((cmpD op x y).map D.bl)
def kCmp (g : GE) (op : CmpOp) (b : E) (env : Env) : D → Sto → R D := fun x st => (evE g b env st).bind (kCmp2 op x)
def kCc (g : GE) (op' : CmpOp) (c : E) (env : Env) (y : D) (st : Sto) : Option Bool → R D
  | some true => (evE g c env st).bind (kCmp2 op' y)
  | some false => .ok (.bl false) st
  | none => .bad
def kCh2 (g : GE) (op op' : CmpOp) (c : E) (env : Env) (x : D) : D → Sto → R D := fun y st => kCc g op' c env y st (cmpD op x y)
def kCh (g : GE) (op op' : CmpOp) (b c : E) (env : Env) : D → Sto → R D := fun x st => (evE g b env st).bind (kCh2 g op op' c env x)
def kAnd' (g : GE) (b : E) (env : Env) (x : D) (st : Sto) : Option Bool → R D
  | some true => evE g b env st
  | some false => .ok x st
  | none => .bad
def kAnd (g : GE) (b : E) (env : Env) : D → Sto → R D := fun x st => kAnd' g b env x st (truD st x)
def kOr' (g : GE) (b : E) (env : Env) (x : D) (st : Sto) : Option Bool → R D
  | some true => .ok x st
  | some false => evE g b env st
  | none => .bad
def kOr (g : GE) (b : E) (env : Env) : D → Sto → R D := fun x st => kOr' g b env x st (truD st x)
def kIfe' (g : GE) (a b : E) (env : Env) (st : Sto) : Option Bool → R D
  | some true => evE g a env st
  | some false => evE g b env st
  | none => .bad
def kIfe (g : GE) (a b : E) (env : Env) : D → Sto → R D := fun x st => kIfe' g a b env st (truD st x)
def kTup : List D → Sto → R D := fun xs st => .ofO st (guardO (xs.length ≤ sizeLine) (.tup xs))
def kLst : List D → Sto → R D := fun xs st => .ofO st (guardO (xs.length ≤ sizeLine) (.lst xs))
def kIdx2 (x : D) : D → Sto → R D := fun y st => .ofO st (idxD st x y)
def kIdx (g : GE) (i : E) (env : Env) : D → Sto → R D := fun x st => (evE g i env st).bind (kIdx2 x)
def kSl3 (x : D) (l : Option Int) : Option Int → Sto → R D := fun u st => .ofO st (sliceD x l u)
def kSl2 (g : GE) (hi : Eo) (env : Env) (x : D) : Option Int → Sto → R D := fun l st => (evEo g hi env st).bind (kSl3 x l)
def kSl (g : GE) (lo hi : Eo) (env : Env) : D → Sto → R D := fun x st => (evEo g lo env st).bind (kSl2 g hi env x)
def kIsi (ts : List Ty) : D → Sto → R D := fun x st => .ofO st ((isiD x ts).map D.bl)
def kRg2 (l : Bool) (x : D) : D → Sto → R D := fun y st => .ofO st (rgD l x y)
def kRg (g : GE) (l : Bool) (b : E) (env : Env) : D → Sto → R D := fun x st => (evE g b env st).bind (kRg2 l x)
def kRev : D → Sto → R D := fun x st => .ofO st (revD x)
def kBi (f : Bi) : List D → Sto → R D := fun xs st => .ofO st (biD st f xs)
def kCall2 (g : GE) (f : Nat) (ord : List Nat) (xs : List D) : List D → Sto → R D := fun zs st => callK g f ord xs zs st
def kCall (g : GE) (f : Nat) (kes : Es) (ord : List Nat) (env : Env) : List D → Sto → R D := fun xs st => (evEs g kes env st).bind (kCall2 g f ord xs)
def kBox : D → Sto → R D := fun x st1 => match x with
    | .lst xs => if noLs xs then .ok (.ref st1.length) (st1 ++ [xs]) else .bad
    | _ => .bad
def kSome : D → Sto → R (Option D) := fun y st => .ok (some y) st
def kCi' (g : GE) (elt : E) (env : Env) (st : Sto) : Option Bool → R (Option D)
  | some true => (evE g elt env st).bind kSome
  | some false => .ok none st
  | none => .bad
def kCi (g : GE) (elt : E) (env : Env) : D → Sto → R (Option D) := fun c st => kCi' g elt env st (truD st c)
def kCb' (g : GE) (hasIf : Bool) (cond elt : E) (st : Sto) : Option Env → R (Option D)
  | some env => (if hasIf then (evE g cond env st).bind (kCi g elt env) else (evE g elt env st).bind kSome).nox
  | none => .bad
def kCb (g : GE) (tg : Tg) (hasIf : Bool) (cond elt : E) (env : Env) : D → Sto → R (Option D) := fun x st => kCb' g hasIf cond elt st (bindTg tg x env)
def kComp (g : GE) (tg : Tg) (hasIf : Bool) (cond elt : E) (env : Env) : List D → Sto → R D := fun xs st => (compLoop (kCb g tg hasIf cond elt env) xs st).bind kLst
def kIn (g : GE) (tg1 : Tg) (elt : E) (env : Env) : List D → Sto → R (List D) := fun ys st => compLoop (kCb g tg1 false .non elt env) ys st
def kC2' (g : GE) (tg1 : Tg) (it1 : It) (elt : E) (st : Sto) : Option Env → R (List D)
  | some env => ((evIt g it1 env st).bind (kIn g tg1 elt env)).nox
  | none => .bad
def kC2 (g : GE) (tg tg1 : Tg) (it1 : It) (elt : E) (env : Env) : D → Sto → R (List D) := fun x st => kC2' g tg1 it1 elt st (bindTg tg x (clrs env (tg.slots ++ tg1.slots)))
def kComp2 (g : GE) (tg tg1 : Tg) (it1 : It) (elt : E) (env : Env) : List D → Sto → R D := fun xs st => (compCat (kC2 g tg tg1 it1 elt env) xs st).bind kLst
def kDg3 (x y : D) : D → Sto → R D := fun z st => .ofO st (dgetoD x y z)
def kDg2 (g : GE) (e : E) (env : Env) (x : D) : D → Sto → R D := fun y st => (evE g e env st).bind (kDg3 x y)
def kDg (g : GE) (k e : E) (env : Env) : D → Sto → R D := fun x st => if isDK x then (evE g k env st).bind (kDg2 g e env x) else .bad
def kMi2 (x : D) : D → Sto → R D := fun y st => .ofO st (midxD x y)
def kMi (g : GE) (e : E) (env : Env) : D → Sto → R D := fun x st => if isLst x then (evE g e env st).bind (kMi2 x) else .bad
def kOp1 (o : Op1) : D → Sto → R D := fun x st => .ofO st (op1D o x)
def kOp22 (o : Op2) (x : D) : D → Sto → R D := fun y st => .ofO st (op2D o x y)
def kOp2 (g : GE) (o : Op2) (b : E) (env : Env) : D → Sto → R D := fun x st => if op2A o x then (evE g b env st).bind (kOp22 o x) else .bad
def kEs2 (x : D) : List D → Sto → R (List D) := fun xs st => .ok (x :: xs) st
def kEs (g : GE) (es : Es) (env : Env) : D → Sto → R (List D) := fun x st => (evEs g es env st).bind (kEs2 x)
def kEo : D → Sto → R (Option Int) := fun x st1 => match x with | .int i => .ok (some i) st1 | _ => .bad
def kSeq : D → Sto → R (List D) := fun x st => .ofO st (seqOf x)
def kR1 : D → Sto → R (List D) := fun x st1 => match x with | .int n => .ofO st1 (rangeD 0 n 1) | _ => .bad
def kR22 (x : D) : D → Sto → R (List D) := fun y st2 => match x, y with | .int m, .int n => .ofO st2 (rangeD m n 1) | _, _ => .bad
def kR2 (g : GE) (b : E) (env : Env) : D → Sto → R (List D) := fun x st => (evE g b env st).bind (kR22 x)
def kR33 (x y : D) : D → Sto → R (List D) := fun z st3 => match x, y, z with | .int m, .int n, .int c => .ofO st3 (rangeD m n c) | _, _, _ => .bad
def kR32 (g : GE) (c : E) (env : Env) (x : D) : D → Sto → R (List D) := fun y st => (evE g c env st).bind (kR33 x y)
def kR3 (g : GE) (b c : E) (env : Env) : D → Sto → R (List D) := fun x st => (evE g b env st).bind (kR32 g c env x)
def kEnum : D → Sto → R (List D) := fun x st1 => match x with | .lst xs => .ok (enumD xs) st1 | .tup xs => .ok (enumD xs) st1 | _ => .bad
def kItems : D → Sto → R (List D) := fun x st1 => match x with | .dT ks vs => .ok (itmD ks vs) st1 | _ => .bad
def kKeys : D → Sto → R (List D) := fun x st1 => match x with | .dT ks vs => .ok (ks.map nkD) st1 | _ => .bad
def kZip2 (x : D) : D → Sto → R (List D) := fun y st2 => match x, y with
      | .lst xs, .lst ys => .ok (zipD xs ys) st2
      | .tup xs, .tup ys => .ok (zipD xs ys) st2
      | _, _ => .bad
def kZip (g : GE) (b : E) (env : Env) : D → Sto → R (List D) := fun x st => (evE g b env st).bind (kZip2 x)

section
variable (g : GE) (env : Env) (st : Sto)
@[simp] theorem evE_var (i : Nat) : evE g (.var i) env st = .ofO st (slot env i) := (rfl)
@[simp] theorem evE_int (i : Int) : evE g (.int i) env st = .ok (.int i) st := (rfl)
@[simp] theorem evE_bl (b : Bool) : evE g (.bl b) env st = .ok (.bl b) st := (rfl)
@[simp] theorem evE_non : evE g .non env st = .ok .non st := (rfl)
@[simp] theorem evE_str (x : Str) : evE g (.str x) env st = .ok (.str x) st := (rfl)
@[simp] theorem evE_glob (c : Nat) : evE g (.glob c) env st = .ofO st ((g.cons[c]?).map (·.2)) := (rfl)
@[simp] theorem evE_bin (op : Operator) (a b : E) : evE g (.bin op a b) env st = (evE g a env st).bind (kBin g op b env) := (rfl)
@[simp] theorem kBin_ap (op : Operator) (b : E) (x : D) : kBin g op b env x st = (evE g b env st).bind (kBin2 op x) := (rfl)
@[simp] theorem kBin2_ap (op : Operator) (x y : D) : kBin2 op x y st = .ofO st (binD op x y) := (rfl)
@[simp] theorem evE_neg (a : E) : evE g (.neg a) env st = (evE g a env st).bind kNeg := (rfl)
@[simp] theorem kNeg_ap (i : Int) : kNeg (.int i) st = .ok (.int (-i)) st := (rfl)
@[simp] theorem evE_not (a : E) : evE g (.not a) env st = (evE g a env st).bind kNot := (rfl)
@[simp] theorem kNot_ap (x : D) : kNot x st = .ofO st ((truD st x).map fun b => D.bl (!b)) := (rfl)
@[simp] theorem evE_cmp (op : CmpOp) (a b : E) : evE g (.cmp op a b) env st = (evE g a env st).bind (kCmp g op b env) := (rfl)
@[simp] theorem kCmp_ap (op : CmpOp) (b : E) (x : D) : kCmp g op b env x st = (evE g b env st).bind (kCmp2 op x) := (rfl)
@[simp] theorem kCmp2_ap (op : CmpOp) (x y : D) : kCmp2 op x y st = .ofO st ((cmpD op x y).map D.bl) := (rfl)
@[simp] theorem evE_cmp2 (op op' : CmpOp) (a b c : E) : evE g (.cmp2 op op' a b c) env st = (evE g a env st).bind (kCh g op op' b c env) := by
  rw [evE]
  refine congrArg _ ?_; funext x st1
  refine congrArg _ ?_; funext y st2
  show _ = kCc g op' c env y st2 (cmpD op x y)
  generalize cmpD op x y = t
  rcases t with _ | _ | _ <;> rfl
@[simp] theorem kCh_ap (op op' : CmpOp) (b c : E) (x : D) : kCh g op op' b c env x st = (evE g b env st).bind (kCh2 g op op' c env x) := (rfl)
@[simp] theorem kCh2_ap (op op' : CmpOp) (c : E) (x y : D) : kCh2 g op op' c env x y st = kCc g op' c env y st (cmpD op x y) := (rfl)
@[simp] theorem kCc_t (op' : CmpOp) (c : E) (y : D) : kCc g op' c env y st (some true) = (evE g c env st).bind (kCmp2 op' y) := (rfl)
@[simp] theorem kCc_f (op' : CmpOp) (c : E) (y : D) : kCc g op' c env y st (some false) = .ok (.bl false) st := (rfl)
@[simp] theorem evE_and (a b : E) : evE g (.and a b) env st = (evE g a env st).bind (kAnd g b env) := by
  rw [evE]
  refine congrArg _ ?_; funext x st1
  show _ = kAnd' g b env x st1 (truD st1 x)
  generalize truD st1 x = t
  rcases t with _ | _ | _ <;> rfl
@[simp] theorem kAnd_ap (b : E) (x : D) : kAnd g b env x st = kAnd' g b env x st (truD st x) := (rfl)
@[simp] theorem kAnd_t (b : E) (x : D) : kAnd' g b env x st (some true) = evE g b env st := (rfl)
@[simp] theorem kAnd_f (b : E) (x : D) : kAnd' g b env x st (some false) = .ok x st := (rfl)
@[simp] theorem evE_or (a b : E) : evE g (.or a b) env st = (evE g a env st).bind (kOr g b env) := by
  rw [evE]
  refine congrArg _ ?_; funext x st1
  show _ = kOr' g b env x st1 (truD st1 x)
  generalize truD st1 x = t
  rcases t with _ | _ | _ <;> rfl
@[simp] theorem kOr_ap (b : E) (x : D) : kOr g b env x st = kOr' g b env x st (truD st x) := (rfl)
@[simp] theorem kOr_t (b : E) (x : D) : kOr' g b env x st (some true) = .ok x st := (rfl)
@[simp] theorem kOr_f (b : E) (x : D) : kOr' g b env x st (some false) = evE g b env st := (rfl)
@[simp] theorem evE_ife (c a b : E) : evE g (.ife c a b) env st = (evE g c env st).bind (kIfe g a b env) := by
  rw [evE]
  refine congrArg _ ?_; funext x st1
  show _ = kIfe' g a b env st1 (truD st1 x)
  generalize truD st1 x = t
  rcases t with _ | _ | _ <;> rfl
@[simp] theorem kIfe_ap (a b : E) (x : D) : kIfe g a b env x st = kIfe' g a b env st (truD st x) := (rfl)
@[simp] theorem kIfe_t (a b : E) : kIfe' g a b env st (some true) = evE g a env st := (rfl)
@[simp] theorem kIfe_f (a b : E) : kIfe' g a b env st (some false) = evE g b env st := (rfl)
@[simp] theorem evE_tup (es : Es) : evE g (.tup es) env st = (evEs g es env st).bind kTup := (rfl)
@[simp] theorem kTup_ap (xs : List D) : kTup xs st = .ofO st (guardO (xs.length ≤ sizeLine) (.tup xs)) := (rfl)
@[simp] theorem evE_lst (es : Es) : evE g (.lst es) env st = (evEs g es env st).bind kLst := (rfl)
@[simp] theorem kLst_ap (xs : List D) : kLst xs st = .ofO st (guardO (xs.length ≤ sizeLine) (.lst xs)) := (rfl)
@[simp] theorem evE_idx (a i : E) : evE g (.idx a i) env st = (evE g a env st).bind (kIdx g i env) := (rfl)
@[simp] theorem kIdx_ap (i : E) (x : D) : kIdx g i env x st = (evE g i env st).bind (kIdx2 x) := (rfl)
@[simp] theorem kIdx2_ap (x y : D) : kIdx2 x y st = .ofO st (idxD st x y) := (rfl)
@[simp] theorem evE_slice (a : E) (lo hi : Eo) : evE g (.slice a lo hi) env st = (evE g a env st).bind (kSl g lo hi env) := (rfl)
@[simp] theorem kSl_ap (lo hi : Eo) (x : D) : kSl g lo hi env x st = (evEo g lo env st).bind (kSl2 g hi env x) := (rfl)
@[simp] theorem kSl2_ap (hi : Eo) (x : D) (l : Option Int) : kSl2 g hi env x l st = (evEo g hi env st).bind (kSl3 x l) := (rfl)
@[simp] theorem kSl3_ap (x : D) (l u : Option Int) : kSl3 x l u st = .ofO st (sliceD x l u) := (rfl)
@[simp] theorem evE_isi (a : E) (ts : List Ty) (t : Bool) : evE g (.isi a ts t) env st = (evE g a env st).bind (kIsi ts) := (rfl)
@[simp] theorem kIsi_ap (ts : List Ty) (x : D) : kIsi ts x st = .ofO st ((isiD x ts).map D.bl) := (rfl)
@[simp] theorem evE_rg1 (l : Bool) (b : E) : evE g (.rg1 l b) env st = (evE g b env st).bind (kRg2 l (.int 0)) := (rfl)
@[simp] theorem evE_rg2 (l : Bool) (a b : E) : evE g (.rg2 l a b) env st = (evE g a env st).bind (kRg g l b env) := (rfl)
@[simp] theorem kRg_ap (l : Bool) (b : E) (x : D) : kRg g l b env x st = (evE g b env st).bind (kRg2 l x) := (rfl)
@[simp] theorem kRg2_ap (l : Bool) (x y : D) : kRg2 l x y st = .ofO st (rgD l x y) := (rfl)
@[simp] theorem evE_rev (a : E) : evE g (.rev a) env st = (evE g a env st).bind kRev := (rfl)
@[simp] theorem kRev_ap (x : D) : kRev x st = .ofO st (revD x) := (rfl)
@[simp] theorem evE_bi (f : Bi) (es : Es) : evE g (.bi f es) env st = (evEs g es env st).bind (kBi f) := (rfl)
@[simp] theorem kBi_ap (f : Bi) (xs : List D) : kBi f xs st = .ofO st (biD st f xs) := (rfl)
@[simp] theorem evE_call (f : Nat) (es kes : Es) (ord : List Nat) : evE g (.call f es kes ord) env st = (evEs g es env st).bind (kCall g f kes ord env) := (rfl)
@[simp] theorem kCall_ap (f : Nat) (kes : Es) (ord : List Nat) (xs : List D) : kCall g f kes ord env xs st = (evEs g kes env st).bind (kCall2 g f ord xs) := (rfl)
@[simp] theorem kCall2_ap (f : Nat) (ord : List Nat) (xs zs : List D) : kCall2 g f ord xs zs st = callK g f ord xs zs st := (rfl)
@[simp] theorem evE_box (e : E) : evE g (.box e) env st = (evE g e env st).bind kBox := (rfl)
@[simp] theorem kBox_ap (xs : List D) : kBox (.lst xs) st = if noLs xs then .ok (.ref st.length) (st ++ [xs]) else .bad := (rfl)
@[simp] theorem kSome_ap (x : D) : kSome x st = .ok (some x) st := (rfl)
theorem kCb_eq (tg : Tg) (hasIf : Bool) (cond elt : E) : (fun (x : D) (st2 : Sto) => match bindTg tg x env with
        | some env' => (if hasIf then (evE g cond env' st2).bind fun c st3 => match truD st3 c with
            | some true => (evE g elt env' st3).bind fun y st4 => .ok (some y) st4
            | some false => .ok none st3
            | none => .bad
          else (evE g elt env' st2).bind fun y st3 => .ok (some y) st3).nox
        | none => .bad) = kCb g tg hasIf cond elt env := by
  funext x st2
  show _ = kCb' g hasIf cond elt st2 (bindTg tg x env)
  generalize bindTg tg x env = t
  rcases t with _ | env'
  · rfl
  · show R.nox _ = R.nox _
    refine congrArg _ ?_
    cases hasIf
    · rfl
    · show R.bind _ _ = R.bind _ _
      refine congrArg _ ?_; funext c st3
      show _ = kCi' g elt env' st3 (truD st3 c)
      generalize truD st3 c = t
      rcases t with _ | _ | _ <;> rfl
@[simp] theorem evE_comp (tg : Tg) (it : It) (hasIf : Bool) (cond elt : E) : evE g (.comp tg it hasIf cond elt) env st = (evIt g it env st).bind (kComp g tg hasIf cond elt env) := by
  rw [evE]
  refine congrArg _ ?_; funext xs st1
  exact congrArg (fun f => R.bind (compLoop f xs st1) kLst) (kCb_eq g env tg hasIf cond elt)
@[simp] theorem evE_comp2 (tg tg1 : Tg) (it it1 : It) (elt : E) : evE g (.comp2 tg it tg1 it1 elt) env st = (evIt g it env st).bind (kComp2 g tg tg1 it1 elt env) := by
  rw [evE]
  refine congrArg _ ?_; funext xs st1
  refine congrArg (fun f => R.bind (compCat f xs st1) kLst) ?_
  funext x st2
  show _ = kC2' g tg1 it1 elt st2 (bindTg tg x (clrs env (tg.slots ++ tg1.slots)))
  generalize bindTg tg x (clrs env (tg.slots ++ tg1.slots)) = t
  rcases t with _ | env'
  · rfl
  · show R.nox _ = R.nox _
    refine congrArg _ ?_
    show R.bind _ _ = R.bind _ _
    refine congrArg _ ?_; funext ys st3
    exact congrArg (fun f => compLoop f ys st3) (kCb_eq g env' tg1 false .non elt)
@[simp] theorem kComp2_ap (tg tg1 : Tg) (it1 : It) (elt : E) (xs : List D) : kComp2 g tg tg1 it1 elt env xs st = (compCat (kC2 g tg tg1 it1 elt env) xs st).bind kLst := (rfl)
@[simp] theorem kComp_ap (tg : Tg) (hasIf : Bool) (cond elt : E) (xs : List D) : kComp g tg hasIf cond elt env xs st = (compLoop (kCb g tg hasIf cond elt env) xs st).bind kLst := (rfl)
@[simp] theorem kCb_ap (tg : Tg) (hasIf : Bool) (cond elt : E) (x : D) : kCb g tg hasIf cond elt env x st = kCb' g hasIf cond elt st (bindTg tg x env) := (rfl)
@[simp] theorem kCb_t (cond elt : E) : kCb' g true cond elt st (some env) = ((evE g cond env st).bind (kCi g elt env)).nox := (rfl)
@[simp] theorem kCb_f (cond elt : E) : kCb' g false cond elt st (some env) = ((evE g elt env st).bind kSome).nox := (rfl)
@[simp] theorem kCi_ap (elt : E) (c : D) : kCi g elt env c st = kCi' g elt env st (truD st c) := (rfl)
@[simp] theorem kCi_t (elt : E) : kCi' g elt env st (some true) = (evE g elt env st).bind kSome := (rfl)
@[simp] theorem kCi_f (elt : E) : kCi' g elt env st (some false) = .ok none st := (rfl)
@[simp] theorem evE_dnew : evE g (.dnew false) env st = .ok (.dK [] []) st := (rfl)
@[simp] theorem evE_dnewT : evE g (.dnew true) env st = .ok (.dT [] []) st := (rfl)
@[simp] theorem evE_dgeto (d k e : E) : evE g (.dgeto d k e) env st = (evE g d env st).bind (kDg g k e env) := (rfl)
@[simp] theorem kDg_ap (k e : E) (ks : List L2.Key) (vs : List D) : kDg g k e env (.dK ks vs) st = (evE g k env st).bind (kDg2 g e env (.dK ks vs)) := (rfl)
@[simp] theorem kDg2_ap (e : E) (x y : D) : kDg2 g e env x y st = (evE g e env st).bind (kDg3 x y) := (rfl)
@[simp] theorem kDg3_ap (x y z : D) : kDg3 x y z st = .ofO st (dgetoD x y z) := (rfl)
@[simp] theorem evE_isx (a : E) (cs : List Str) (all : Bool) (y : Str) : evE g (.isx a cs all y) env st = (evE g a env st).bind fun x st1 => .ofO st1 (isxD cs all y x) := (rfl)
@[simp] theorem evE_xval (a : E) (cs : List Str) : evE g (.xval a cs) env st = (evE g a env st).bind fun x st1 => .ofO st1 (xvalD cs x) := (rfl)
@[simp] theorem evE_xmk (y : Str) (a : E) : evE g (.xmk y a) env st = evE g a env st := (rfl)
@[simp] theorem evE_popE (i : Nat) (e : E) : evE g (.popE i e) env st = popK (slot env i) (evE g e env st) := (rfl)
@[simp] theorem popK_ref (k : Nat) (r : R D) : popK (some (.ref k)) r = r.bind (popR k) := (rfl)
@[simp] theorem evE_op1 (o : Op1) (a : E) : evE g (.op1 o a) env st = (evE g a env st).bind (kOp1 o) := (rfl)
@[simp] theorem kOp1_ap (o : Op1) (x : D) : kOp1 o x st = .ofO st (op1D o x) := (rfl)
@[simp] theorem evE_op2 (o : Op2) (a b : E) : evE g (.op2 o a b) env st = (evE g a env st).bind (kOp2 g o b env) := (rfl)
@[simp] theorem kOp2_cnt (b : E) (xs : List D) : kOp2 g .cnt b env (.lst xs) st = (evE g b env st).bind (kOp22 .cnt (.lst xs)) := (rfl)
@[simp] theorem kOp2_dct1 (b : E) (x : D) : kOp2 g .dct1 b env x st = (evE g b env st).bind (kOp22 .dct1 x) := (rfl)
@[simp] theorem kOp2_dctI2 (k l : Int) (b : E) (x : D) : kOp2 g (.dctI2 k l) b env x st = (evE g b env st).bind (kOp22 (.dctI2 k l) x) := (rfl)
@[simp] theorem kOp22_ap (o : Op2) (x y : D) : kOp22 o x y st = .ofO st (op2D o x y) := (rfl)
@[simp] theorem evE_midx (l e : E) : evE g (.midx l e) env st = (evE g l env st).bind (kMi g e env) := (rfl)
@[simp] theorem kMi_ap (e : E) (xs : List D) : kMi g e env (.lst xs) st = (evE g e env st).bind (kMi2 (.lst xs)) := (rfl)
@[simp] theorem kMi2_ap (x y : D) : kMi2 x y st = .ofO st (midxD x y) := (rfl)
@[simp] theorem evEs_nil : evEs g .nil env st = .ok [] st := (rfl)
@[simp] theorem evEs_cons (e : E) (es : Es) : evEs g (.cons e es) env st = (evE g e env st).bind (kEs g es env) := (rfl)
@[simp] theorem kEs_ap (es : Es) (x : D) : kEs g es env x st = (evEs g es env st).bind (kEs2 x) := (rfl)
@[simp] theorem kEs2_ap (x : D) (xs : List D) : kEs2 x xs st = .ok (x :: xs) st := (rfl)
@[simp] theorem evEo_no : evEo g .no env st = .ok none st := (rfl)
@[simp] theorem evEo_yes (e : E) : evEo g (.yes e) env st = (evE g e env st).bind kEo := (rfl)
@[simp] theorem kEo_ap (i : Int) : kEo (.int i) st = .ok (some i) st := (rfl)
@[simp] theorem evIt_seq (e : E) : evIt g (.seq e) env st = (evE g e env st).bind kSeq := (rfl)
@[simp] theorem kSeq_ap (x : D) : kSeq x st = .ofO st (seqOf x) := (rfl)
@[simp] theorem evIt_r1 (a : E) : evIt g (.range1 a) env st = (evE g a env st).bind kR1 := (rfl)
@[simp] theorem kR1_ap (n : Int) : kR1 (.int n) st = .ofO st (rangeD 0 n 1) := (rfl)
@[simp] theorem evIt_r2 (a b : E) : evIt g (.range2 a b) env st = (evE g a env st).bind (kR2 g b env) := (rfl)
@[simp] theorem kR2_ap (b : E) (x : D) : kR2 g b env x st = (evE g b env st).bind (kR22 x) := (rfl)
@[simp] theorem kR22_ap (m n : Int) : kR22 (.int m) (.int n) st = .ofO st (rangeD m n 1) := (rfl)
@[simp] theorem evIt_r3 (a b c : E) : evIt g (.range3 a b c) env st = (evE g a env st).bind (kR3 g b c env) := (rfl)
@[simp] theorem kR3_ap (b c : E) (x : D) : kR3 g b c env x st = (evE g b env st).bind (kR32 g c env x) := (rfl)
@[simp] theorem kR32_ap (c : E) (x y : D) : kR32 g c env x y st = (evE g c env st).bind (kR33 x y) := (rfl)
@[simp] theorem kR33_ap (m n c : Int) : kR33 (.int m) (.int n) (.int c) st = .ofO st (rangeD m n c) := (rfl)
@[simp] theorem evIt_enum (a : E) : evIt g (.enum a) env st = (evE g a env st).bind kEnum := (rfl)
@[simp] theorem evIt_items (a : E) : evIt g (.items a) env st = (evE g a env st).bind kItems := (rfl)
@[simp] theorem evIt_keys (a : E) : evIt g (.keys a) env st = (evE g a env st).bind kKeys := (rfl)
@[simp] theorem kKeys_ap (ks : List NestedKey) (vs : List D) : kKeys (.dT ks vs) st = .ok (ks.map nkD) st := (rfl)
@[simp] theorem kItems_ap (ks : List NestedKey) (vs : List D) : kItems (.dT ks vs) st = .ok (itmD ks vs) st := (rfl)
@[simp] theorem kEnum_ap (xs : List D) : kEnum (.lst xs) st = .ok (enumD xs) st := (rfl)
@[simp] theorem kEnum_apT (xs : List D) : kEnum (.tup xs) st = .ok (enumD xs) st := (rfl)
@[simp] theorem evIt_zip (a b : E) : evIt g (.zip a b) env st = (evE g a env st).bind (kZip g b env) := (rfl)
@[simp] theorem kZip_ap (b : E) (x : D) : kZip g b env x st = (evE g b env st).bind (kZip2 x) := (rfl)
@[simp] theorem kZip2_l (xs ys : List D) : kZip2 (.lst xs) (.lst ys) st = .ok (zipD xs ys) st := (rfl)
@[simp] theorem kZip2_t (xs ys : List D) : kZip2 (.tup xs) (.tup ys) st = .ok (zipD xs ys) st := (rfl)
end

/-! ### statements -/
def RS.seq (r : RS) (k : Env → Sto → RS) : RS := match r with
  | .nx env st => k env st
  | r => r
@[simp] theorem RS.seq_nx (env : Env) (st : Sto) (k : Env → Sto → RS) : (RS.nx env st).seq k = k env st := (rfl)
@[simp] theorem RS.seq_rt (d : D) (st : Sto) (k : Env → Sto → RS) : (RS.rt d st).seq k = .rt d st := (rfl)
@[simp] theorem RS.seq_bk (env : Env) (st : Sto) (k : Env → Sto → RS) : (RS.bk env st).seq k = .bk env st := (rfl)
@[simp] theorem RS.seq_ct (env : Env) (st : Sto) (k : Env → Sto → RS) : (RS.ct env st).seq k = .ct env st := (rfl)
@[simp] theorem RS.seq_exn (c : Str) (d : D) (env : Env) (st : Sto) (k : Env → Sto → RS) : (RS.exn c d env st).seq k = .exn c d env st := (rfl)
@[simp] theorem RS.fin_nx (env : Env) (st : Sto) : (RS.nx env st).fin = .ok .non st := (rfl)
@[simp] theorem RS.fin_rt (d : D) (st : Sto) : (RS.rt d st).fin = .ok d st := (rfl)
def kRet : D → Sto → RS := fun d st => .rt d st
def kSet (i : Nat) (k : Ak) (env : Env) : D → Sto → RS := fun d st1 => if akOk k d then .nx (env.set i (some d)) st1 else .bad
def kOpE (st : Sto) : Option Env → RS
  | some env => .nx env st
  | none => .bad
def kSetT (tg : Tg) (env : Env) : D → Sto → RS := fun d st1 => kOpE st1 (bindTg tg d env)
def kPar2 (i j : Nat) (kj : Ak) (env : Env) (x : D) : D → Sto → RS := fun y st2 => if akOk kj y then .nx ((env.set i (some x)).set j (some y)) st2 else .bad
def kPar (g : GE) (i j : Nat) (ki kj : Ak) (b : E) (env : Env) : D → Sto → RS := fun x st1 => if akOk ki x then (evE g b env st1).toS env (kPar2 i j kj env x) else .bad
def kP33 (i j l : Nat) (kl : Ak) (env : Env) (x y : D) : D → Sto → RS := fun z st3 => if akOk kl z then .nx (((env.set i (some x)).set j (some y)).set l (some z)) st3 else .bad
def kP32 (g : GE) (i j l : Nat) (kj kl : Ak) (c : E) (env : Env) (x : D) : D → Sto → RS := fun y st2 => if akOk kj y then (evE g c env st2).toS env (kP33 i j l kl env x y) else .bad
def kP3 (g : GE) (i j l : Nat) (ki kj kl : Ak) (b c : E) (env : Env) : D → Sto → RS := fun x st1 => if akOk ki x then (evE g b env st1).toS env (kP32 g i j l kj kl c env x) else .bad
def kMove (i j : Nat) (env : Env) (st : Sto) : Option D → RS
  | some d => .nx ((env.set i (some d)).set j none) st
  | none => .bad
def kAug3 (i : Nat) (env : Env) (st1 : Sto) : D → D → Option D → RS := fun x y z => match x, y, z with
      | .int _, .int _, some z => .nx (env.set i (some z)) st1
      | _, _, _ => .bad
def kAug2 (i : Nat) (op : Operator) (env : Env) (x : D) : D → Sto → RS := fun y st1 => kAug3 i env st1 x y (binD op x y)
def kAug (g : GE) (i : Nat) (op : Operator) (e : E) (env : Env) (st : Sto) : Option D → RS
  | some x => (evE g e env st).toS env (kAug2 i op env x)
  | none => .bad
def kSx2 (i : Nat) (o nl : Bool) (env : Env) (d : D) : D → Sto → RS := fun k st2 => if nl && !noL d then .bad else chg i o (noL d) env st2 fun xs => setIxL xs k d
def kSx (g : GE) (i : Nat) (o nl : Bool) (ix : E) (env : Env) : D → Sto → RS := fun d st1 => (evE g ix env st1).toS env (kSx2 i o nl env d)
def kAx4 (i : Nat) (o : Bool) (k : D) (env : Env) (st2 : Sto) : D → D → Option D → RS := fun x y z => match x, y, z with
      | .int _, .int _, some z => chg i o true env st2 fun xs => setIxL xs k z
      | _, _, _ => .bad
def kAx3 (i : Nat) (o : Bool) (op : Operator) (k : D) (env : Env) (x : D) : D → Sto → RS := fun y st2 => kAx4 i o k env st2 x y (binD op x y)
def kAx2 (g : GE) (i : Nat) (o : Bool) (op : Operator) (e : E) (env : Env) (k : D) (st1 : Sto) : Option D → RS
  | some x => (evE g e env st1).toS env (kAx3 i o op k env x)
  | none => .bad
def kAx (g : GE) (i : Nat) (o : Bool) (op : Operator) (e : E) (env : Env) : D → Sto → RS := fun k st1 => kAx2 g i o op e env k st1 ((slot env i).bind fun d => idxD st1 d k)
def kApp (i : Nat) (o nl : Bool) (env : Env) : D → Sto → RS := fun d st1 => if nl && !noL d then .bad else chg i o (noL d) env st1 fun xs => guardO (xs.length < sizeLine) (xs ++ [d])
noncomputable def kIte (g : GE) (a b : Ss) (env : Env) : Bool → Sto → RS := fun k st1 => match k with
    | true => evSs g a env st1
    | false => evSs g b env st1
def kMth (i : Nat) (o : Bool) (f : Mth) (env : Env) : List D → Sto → RS := fun ds st1 => chg i o true env st1 fun xs => mthD f xs ds
def kDp3 (i : Nat) (env : Env) (st : Sto) : Option D → RS
  | some d => .nx (env.set i (some d)) st
  | none => .bad
def kDp2 (i : Nat) (env : Env) (v : D) : D → Sto → RS := fun y st => kDp3 i env st ((slot env i).bind fun d => dputD d y v)
def kDp (g : GE) (i : Nat) (k : E) (env : Env) : D → Sto → RS := fun v st => (evE g k env st).toS env (kDp2 i env v)
def kTru : D → Sto → R Bool := fun x st1 => .ofO st1 (truD st1 x)
noncomputable def kFor (g : GE) (tg : Tg) (body : Ss) (env : Env) : List D → Sto → RS := fun xs st1 => forD tg (evSs g body) xs env st1
def kDrop (env : Env) : D → Sto → RS := fun _ st1 => .nx env st1
def kRaise (c : Str) (env : Env) : D → Sto → RS := fun d st1 => .exn c d env st1
def kPop (j : Nat) (o : Bool) (env : Env) (f : D → Env → Sto → RS) : D → Sto → RS := fun k st1 => popD j o k env st1 f
def kPa (i : Nat) (oi : Bool) : D → Env → Sto → RS := fun y env1 st2 => if noL y then chg i oi true env1 st2 fun xs => guardO (xs.length < sizeLine) (xs ++ [y]) else .bad
def kPd : D → Env → Sto → RS := fun _ env1 st2 => .nx env1 st2
def kTry (n : Nat) (cs : List Cls) : RS → RS
  | .exn x d env st => catchD n x d env st cs
  | r => r
@[simp] theorem kTry_nx (n : Nat) (cs : List Cls) (env : Env) (st : Sto) : kTry n cs (.nx env st) = .nx env st := (rfl)
@[simp] theorem kTry_rt (n : Nat) (cs : List Cls) (d : D) (st : Sto) : kTry n cs (.rt d st) = .rt d st := (rfl)
@[simp] theorem kTry_exn (n : Nat) (cs : List Cls) (x : Str) (d : D) (env : Env) (st : Sto) : kTry n cs (.exn x d env st) = catchD n x d env st cs := (rfl)
@[simp] theorem RS.fin_exn (c : Str) (d : D) (env : Env) (st : Sto) : (RS.exn c d env st).fin = .exn c d st := (rfl)
theorem popD_lst {j : Nat} {i : Int} {xs : List D} {n : Nat} {y : D} {env : Env} {st : Sto} {f : D → Env → Sto → RS} (h : slot env j = some (.lst xs)) (hb : -(2 ^ 63) ≤ i ∧ i < 2 ^ 63) (hx : L2.ixN xs.length i = some n) (hy : xs[n]? = some y) : popD j true (.int i) env st f = f y (env.set j (some (.lst (xs.eraseIdx n)))) st := by
  unfold popD
  rw [h]
  simp only [Bool.true_and]
  rw [if_pos (decide_eq_true hb), hx]
  simp only [hy]
section
variable (g : GE) (env : Env) (st : Sto)
@[simp] theorem evS_ret (e : E) : evS g (.ret e) env st = (evE g e env st).toS env kRet := (rfl)
@[simp] theorem kRet_ap (d : D) : kRet d st = .rt d st := (rfl)
@[simp] theorem evS_retN : evS g .retN env st = .rt .non st := (rfl)
@[simp] theorem evS_set (i : Nat) (k : Ak) (e : E) : evS g (.set i k e) env st = (evE g e env st).toS env (kSet i k env) := (rfl)
@[simp] theorem kSet_ap (i : Nat) (k : Ak) (d : D) : kSet i k env d st = if akOk k d then .nx (env.set i (some d)) st else .bad := (rfl)
@[simp] theorem evS_setT (tg : Tg) (e : E) : evS g (.setT tg e) env st = (evE g e env st).toS env (kSetT tg env) := by
  rw [evS]
  refine congrArg _ ?_; funext d st1
  show _ = kOpE st1 (bindTg tg d env)
  generalize bindTg tg d env = t
  rcases t with _ | _ <;> rfl
@[simp] theorem kSetT_ap (tg : Tg) (d : D) : kSetT tg env d st = kOpE st (bindTg tg d env) := (rfl)
@[simp] theorem kOpE_ap : kOpE st (some env) = .nx env st := (rfl)
@[simp] theorem evS_par (i j : Nat) (ki kj : Ak) (a b : E) : evS g (.par i j ki kj a b) env st = (evE g a env st).toS env (kPar g i j ki kj b env) := (rfl)
@[simp] theorem kPar_ap (i j : Nat) (ki kj : Ak) (b : E) (x : D) : kPar g i j ki kj b env x st = if akOk ki x then (evE g b env st).toS env (kPar2 i j kj env x) else .bad := (rfl)
@[simp] theorem kPar2_ap (i j : Nat) (kj : Ak) (x y : D) : kPar2 i j kj env x y st = if akOk kj y then .nx ((env.set i (some x)).set j (some y)) st else .bad := (rfl)
@[simp] theorem evS_par3 (i j l : Nat) (ki kj kl : Ak) (a b c : E) : evS g (.par3 i j l ki kj kl a b c) env st = (evE g a env st).toS env (kP3 g i j l ki kj kl b c env) := (rfl)
@[simp] theorem kP3_ap (i j l : Nat) (ki kj kl : Ak) (b c : E) (x : D) : kP3 g i j l ki kj kl b c env x st = if akOk ki x then (evE g b env st).toS env (kP32 g i j l kj kl c env x) else .bad := (rfl)
@[simp] theorem kP32_ap (i j l : Nat) (kj kl : Ak) (c : E) (x y : D) : kP32 g i j l kj kl c env x y st = if akOk kj y then (evE g c env st).toS env (kP33 i j l kl env x y) else .bad := (rfl)
@[simp] theorem kP33_ap (i j l : Nat) (kl : Ak) (x y z : D) : kP33 i j l kl env x y z st = if akOk kl z then .nx (((env.set i (some x)).set j (some y)).set l (some z)) st else .bad := (rfl)
@[simp] theorem evS_move (i j : Nat) : evS g (.move i j) env st = kMove i j env st (slot env j) := by
  rw [evS]
  generalize slot env j = t
  rcases t with _ | _ <;> rfl
@[simp] theorem kMove_ap (i j : Nat) (d : D) : kMove i j env st (some d) = .nx ((env.set i (some d)).set j none) st := (rfl)
@[simp] theorem evS_aug (i : Nat) (op : Operator) (e : E) : evS g (.aug i op e) env st = kAug g i op e env st (slot env i) := by
  rw [evS]
  generalize slot env i = t
  rcases t with _ | _ <;> rfl
@[simp] theorem kAug_ap (i : Nat) (op : Operator) (e : E) (x : D) : kAug g i op e env st (some x) = (evE g e env st).toS env (kAug2 i op env x) := (rfl)
@[simp] theorem kAug2_ap (i : Nat) (op : Operator) (x y : D) : kAug2 i op env x y st = kAug3 i env st x y (binD op x y) := (rfl)
@[simp] theorem kAug3_ap (i : Nat) (a b : Int) (z : D) : kAug3 i env st (.int a) (.int b) (some z) = .nx (env.set i (some z)) st := (rfl)
@[simp] theorem evS_setIx (i : Nat) (o nl : Bool) (ix e : E) : evS g (.setIx i o nl ix e) env st = if (slot env i).isNone then .bad else (evE g e env st).toS env (kSx g i o nl ix env) := (rfl)
@[simp] theorem kSx_ap (i : Nat) (o nl : Bool) (ix : E) (d : D) : kSx g i o nl ix env d st = (evE g ix env st).toS env (kSx2 i o nl env d) := (rfl)
@[simp] theorem kSx2_ap (i : Nat) (o nl : Bool) (d k : D) : kSx2 i o nl env d k st = if nl && !noL d then .bad else chg i o (noL d) env st fun xs => setIxL xs k d := (rfl)
@[simp] theorem evS_augIx (i : Nat) (o : Bool) (op : Operator) (ix e : E) : evS g (.augIx i o op ix e) env st = if !isLs env st i then .bad else (evE g ix env st).toS env (kAx g i o op e env) := by
  rw [evS]
  refine congrArg _ ?_
  refine congrArg _ ?_; funext k st1
  show _ = kAx2 g i o op e env k st1 ((slot env i).bind fun d => idxD st1 d k)
  generalize (slot env i).bind (fun d => idxD st1 d k) = t
  rcases t with _ | _ <;> rfl
@[simp] theorem kAx_ap (i : Nat) (o : Bool) (op : Operator) (e : E) (k : D) : kAx g i o op e env k st = kAx2 g i o op e env k st ((slot env i).bind fun d => idxD st d k) := (rfl)
@[simp] theorem kAx2_ap (i : Nat) (o : Bool) (op : Operator) (e : E) (k x : D) : kAx2 g i o op e env k st (some x) = (evE g e env st).toS env (kAx3 i o op k env x) := (rfl)
@[simp] theorem kAx3_ap (i : Nat) (o : Bool) (op : Operator) (k x y : D) : kAx3 i o op k env x y st = kAx4 i o k env st x y (binD op x y) := (rfl)
@[simp] theorem kAx4_ap (i : Nat) (o : Bool) (k : D) (a b : Int) (z : D) : kAx4 i o k env st (.int a) (.int b) (some z) = chg i o true env st fun xs => setIxL xs k z := (rfl)
@[simp] theorem evS_app (i : Nat) (o nl : Bool) (e : E) : evS g (.app i o nl e) env st = if !isLs env st i then .bad else (evE g e env st).toS env (kApp i o nl env) := (rfl)
@[simp] theorem kApp_ap (i : Nat) (o nl : Bool) (d : D) : kApp i o nl env d st = if nl && !noL d then .bad else chg i o (noL d) env st fun xs => guardO (xs.length < sizeLine) (xs ++ [d]) := (rfl)
@[simp] theorem evS_mth (i : Nat) (o : Bool) (f : Mth) (es : Es) : evS g (.mth i o f es) env st = if !isLs env st i then .bad else (evEs g es env st).toS env (kMth i o f env) := (rfl)
@[simp] theorem kMth_ap (i : Nat) (o : Bool) (f : Mth) (ds : List D) : kMth i o f env ds st = chg i o true env st fun xs => mthD f xs ds := (rfl)
@[simp] theorem evS_dput (i : Nat) (k e : E) : evS g (.dput i k e) env st = if (slot env i).isNone then .bad else (evE g e env st).toS env (kDp g i k env) := by
  rw [evS]
  refine congrArg _ ?_
  refine congrArg _ ?_; funext v st1
  refine congrArg _ ?_; funext y st2
  show _ = kDp3 i env st2 ((slot env i).bind fun d => dputD d y v)
  generalize (slot env i).bind (fun d => dputD d y v) = t
  rcases t with _ | _ <;> rfl
@[simp] theorem kDp_ap (i : Nat) (k : E) (v : D) : kDp g i k env v st = (evE g k env st).toS env (kDp2 i env v) := (rfl)
@[simp] theorem kDp2_ap (i : Nat) (v y : D) : kDp2 i env v y st = kDp3 i env st ((slot env i).bind fun d => dputD d y v) := (rfl)
@[simp] theorem kDp3_ap (i : Nat) (d : D) : kDp3 i env st (some d) = .nx (env.set i (some d)) st := (rfl)
@[simp] theorem evS_popApp (i j : Nat) (oi oj : Bool) (e : E) : evS g (.popApp i j oi oj e) env st = if !isLs env st i then .bad else if !isLs env st j then .bad else (evE g e env st).toS env (kPop j oj env (kPa i oi)) := (rfl)
@[simp] theorem evS_popDrop (j : Nat) (o : Bool) (e : E) : evS g (.popDrop j o e) env st = if !isLs env st j then .bad else (evE g e env st).toS env (kPop j o env kPd) := (rfl)
@[simp] theorem kPop_ap (j : Nat) (o : Bool) (f : D → Env → Sto → RS) (k : D) : kPop j o env f k st = popD j o k env st f := (rfl)
@[simp] theorem kPa_ap (i : Nat) (oi : Bool) (y : D) : kPa i oi y env st = if noL y then chg i oi true env st fun xs => guardO (xs.length < sizeLine) (xs ++ [y]) else .bad := (rfl)
@[simp] theorem kPd_ap (y : D) : kPd y env st = .nx env st := (rfl)
theorem evS_try (n : Nat) (b : Ss) (cs : List Cls) : evS g (.try_ n b cs) env st = if env.length = n then kTry n cs (evSs g b env st) else .bad := by
  rw [evS]
  refine congrArg (fun z => if env.length = n then z else RS.bad) ?_
  generalize evSs g b env st = t
  cases t <;> rfl
theorem evC_eq (c : E) : evC g c env st = (evE g c env st).bind kTru := rfl
@[simp] theorem kTru_ap (x : D) : kTru x st = .ofO st (truD st x) := (rfl)
@[simp] theorem evS_ite (c : E) (a b : Ss) : evS g (.ite c a b) env st = ((evE g c env st).bind kTru).toS env (kIte g a b env) := (rfl)
@[simp] theorem kIte_t (a b : Ss) : kIte g a b env true st = evSs g a env st := (rfl)
@[simp] theorem kIte_f (a b : Ss) : kIte g a b env false st = evSs g b env st := (rfl)
@[simp] theorem evS_whl (c : E) (body : Ss) : evS g (.whl c body) env st = whD (evC g c) (evSs g body) env st := (rfl)
@[simp] theorem evS_for (tg : Tg) (it : It) (body : Ss) : evS g (.for_ tg it body) env st = (evIt g it env st).toS env (kFor g tg body env) := (rfl)
@[simp] theorem kFor_ap (tg : Tg) (body : Ss) (xs : List D) : kFor g tg body env xs st = forD tg (evSs g body) xs env st := (rfl)
@[simp] theorem evS_brk : evS g .brk env st = .bk env st := (rfl)
@[simp] theorem evS_cont : evS g .cont env st = .ct env st := (rfl)
@[simp] theorem evS_pass : evS g .pass env st = .nx env st := (rfl)
@[simp] theorem evS_drop (e : E) : evS g (.drop e) env st = (evE g e env st).toS env (kDrop env) := (rfl)
@[simp] theorem kDrop_ap (d : D) : kDrop env d st = .nx env st := (rfl)
@[simp] theorem evS_kill (i : Nat) : evS g (.kill i) env st = .nx (env.set i none) st := (rfl)
@[simp] theorem evS_raise (c : Str) (e : E) : evS g (.raise_ c e) env st = (evE g e env st).toS env (kRaise c env) := (rfl)
@[simp] theorem kRaise_ap (c : Str) (d : D) : kRaise c env d st = .exn c d env st := (rfl)
@[simp] theorem evSs_nil : evSs g .nil env st = .nx env st := (rfl)
@[simp] theorem evSs_cons (s : S) (ss : Ss) : evSs g (.cons s ss) env st = (evS g s env st).seq (evSs g ss) := by
  rw [evSs]
  generalize evS g s env st = t
  cases t <;> rfl
end

/-! ### small facts for the rewriting -/
@[simp] theorem slot_zero (x : Option D) (env : Env) : slot (x :: env) 0 = x := (rfl)
@[simp] theorem slot_succ (x : Option D) (env : Env) (n : Nat) : slot (x :: env) (n + 1) = slot env n := (rfl)
@[simp] theorem guardO_true {p : Prop} [Decidable p] {x : α} (h : p) : guardO p x = some x := if_pos h
@[simp] theorem akOk_own (d : D) : akOk .own d = true := (rfl)
@[simp] theorem akOk_pln (d : D) : akOk .pln d = true := (rfl)
@[simp] theorem akOk_nl (d : D) : akOk .nl d = noL d := (rfl)
@[simp] theorem akOk_n1 (d : D) : akOk .n1 d = noI d := (rfl)
@[simp] theorem noI_lst (xs : List D) : noI (.lst xs) = noLs xs := (rfl)
@[simp] theorem permL_nil {zs : List α} : permL [] zs = [] := (rfl)
@[simp] theorem bindTg_name (i : Nat) (d : D) (env : Env) : bindTg (.name i) d env = some (env.set i (some d)) := (rfl)
@[simp] theorem bindTg_tup (ts : Tgs) (ds : List D) (env : Env) : bindTg (.tup ts) (.tup ds) env = bindTgs ts ds env := (rfl)
@[simp] theorem bindTgs_nil (env : Env) : bindTgs .nil [] env = some env := (rfl)
@[simp] theorem bindTgs_cons (t : Tg) (ts : Tgs) (d : D) (ds : List D) (env : Env) : bindTgs (.cons t ts) (d :: ds) env = (bindTg t d env).bind fun env' => bindTgs ts ds env' := (rfl)

/-! ### rules of loops -/
inductive stepOK (I : Env → Sto → Prop) (P : RS → Prop) : RS → Prop where
  | nx (e : Env) (s : Sto) : I e s → stepOK I P (.nx e s)
  | ct (e : Env) (s : Sto) : I e s → stepOK I P (.ct e s)
  | bk (e : Env) (s : Sto) : P (.nx e s) → stepOK I P (.bk e s)
  | rt (d : D) (s : Sto) : P (.rt d s) → stepOK I P (.rt d s)
  | exn (c : Str) (d : D) (e : Env) (s : Sto) : P (.exn c d e s) → stepOK I P (.exn c d e s)
@[simp] theorem stepOK_nx (I : Env → Sto → Prop) (P : RS → Prop) (e : Env) (s : Sto) : stepOK I P (.nx e s) = I e s := propext ⟨fun h => by cases h; assumption, .nx e s⟩
@[simp] theorem stepOK_ct (I : Env → Sto → Prop) (P : RS → Prop) (e : Env) (s : Sto) : stepOK I P (.ct e s) = I e s := propext ⟨fun h => by cases h; assumption, .ct e s⟩
@[simp] theorem stepOK_bk (I : Env → Sto → Prop) (P : RS → Prop) (e : Env) (s : Sto) : stepOK I P (.bk e s) = P (.nx e s) := propext ⟨fun h => by cases h; assumption, .bk e s⟩
@[simp] theorem stepOK_rt (I : Env → Sto → Prop) (P : RS → Prop) (d : D) (s : Sto) : stepOK I P (.rt d s) = P (.rt d s) := propext ⟨fun h => by cases h; assumption, .rt d s⟩
@[simp] theorem stepOK_exn (I : Env → Sto → Prop) (P : RS → Prop) (c : Str) (d : D) (e : Env) (s : Sto) : stepOK I P (.exn c d e s) = P (.exn c d e s) := propext ⟨fun h => by cases h; assumption, .exn c d e s⟩
theorem forD_rule {tg : Tg} {b : Env → Sto → RS} {xs : List D} {env : Env} {st : Sto} (I : List D → Env → Sto → Prop) {P : RS → Prop} (h0 : I [] env st)
    (hs : ∀ pre x post env st, xs = pre ++ x :: post → I pre env st → ∃ env1, bindTg tg x env = some env1 ∧ stepOK (I (pre ++ [x])) P (b env1 st))
    (he : ∀ env st, I xs env st → P (.nx env st)) : P (forD tg b xs env st) := by
  have key : ∀ (post pre : List D) (env : Env) (st : Sto), xs = pre ++ post → I pre env st → P (forD tg b post env st) := by
    intro post
    induction post with
    | nil => intro pre env st e i; rw [List.append_nil] at e; subst e; exact he _ _ i
    | cons x post ih =>
      intro pre env st e i
      obtain ⟨env1, h1, h2⟩ := hs pre x post env st e i
      have e' : xs = (pre ++ [x]) ++ post := by rw [e]; simp
      have u : forD tg b (x :: post) env st = match b env1 st with
        | .nx env' st' => forD tg b post env' st'
        | .ct env' st' => forD tg b post env' st'
        | .bk env' st' => .nx env' st'
        | r => r := by rw [forD, h1] <;> rfl
      rw [u]
      generalize b env1 st = r at h2
      cases h2 with
      | nx e s h2 => exact ih _ _ _ e' h2
      | ct e s h2 => exact ih _ _ _ e' h2
      | bk e s h2 => exact h2
      | rt d s h2 => exact h2
      | exn c d e s h2 => exact h2
  exact key xs [] env st rfl h0
theorem whD_rule {c : Env → Sto → R Bool} {b : Env → Sto → RS} {env : Env} {st : Sto} (I : Nat → Env → Sto → Prop) {P : RS → Prop} (n : Nat) (h0 : I n env st)
    (hs : ∀ n env st, I n env st → ∃ k st1, c env st = .ok k st1 ∧ (k = false → P (.nx env st1)) ∧ (k = true → stepOK (fun e s => ∃ m, m < n ∧ I m e s) P (b env st1))) : P (whD c b env st) := by
  induction n using Nat.strongRecOn generalizing env st with
  | ind n ih =>
    obtain ⟨k, st1, h1, h2, h3⟩ := hs n env st h0
    rw [whD_eq, h1]
    cases k with
    | false => exact h2 rfl
    | true =>
      have h3 := h3 rfl
      simp only [R.toS_ok]
      generalize b env st1 = r at h3
      cases h3 with
      | nx e s h3 => obtain ⟨m, hm, i⟩ := h3; exact ih m hm i
      | ct e s h3 => obtain ⟨m, hm, i⟩ := h3; exact ih m hm i
      | bk e s h3 => exact h3
      | rt d s h3 => exact h3
      | exn c d e s h3 => exact h3
theorem compLoop_map {f : D → Sto → R (Option D)} (h : D → Option D) {st : Sto} : ∀ {xs : List D}, (∀ x ∈ xs, f x st = .ok (h x) st) → compLoop f xs st = .ok (xs.filterMap h) st
  | [], _ => rfl
  | x :: xs, hx => by
    unfold compLoop
    rw [hx x (by simp), R.bind_ok, compLoop_map h fun y hy => hx y (by simp [hy]), R.bind_ok]
    cases e : h x <;> simp [e]
end WT
end

section
set_option Elab.async false
set_option linter.all false
set_option maxRecDepth 100000
set_option autoImplicit false
/-! written by wip/gen.py for k57_errors_of_games_and_sources: terms and what they mean. -/
namespace Lk57
open PySem WT
def consL : List (Str × D) := []
def clsL : List Str := [("TossError" : Str), ("InvalidNumber" : Str), ("InvalidShares" : Str), ("InvalidFigures" : Str), ("InvalidLeaves" : Str), ("InvalidMachine" : Str), ("InvalidRow" : Str), ("InvalidThing" : Str), ("InvalidPair" : Str), ("NeverEnds" : Str), ("NotDrawn" : Str), ("InvalidDice" : Str), ("InvalidTable" : Str), ("InvalidReader" : Str), ("NoTable" : Str), ("InvalidName" : Str), ("UnknownName" : Str), ("NothingToUndo" : Str), ("Unreadable" : Str), ("Unorderly" : Str), ("InvalidGame" : Str), ("InvalidRule" : Str), ("InvalidLot" : Str), ("InvalidPays" : Str), ("InvalidPrizes" : Str), ("InvalidSource" : Str), ("InvalidWord" : Str), ("NotEnding" : Str), ("NotSolo" : Str)]
/-- _law_raised_named -/
def N_law_raised_named : List Str := [("which" : Str), ("given" : Str)]
def b_law_raised_named : Ss := (.cons (.ite (.cmp .Eq (.var 0) (.int 0)) (.cons (.raise_ ("InvalidGame" : Str) (.var 1)) .nil) .nil) (.cons (.ite (.cmp .Eq (.var 0) (.int 1)) (.cons (.raise_ ("InvalidRule" : Str) (.var 1)) .nil) .nil) (.cons (.ite (.cmp .Eq (.var 0) (.int 2)) (.cons (.raise_ ("InvalidLot" : Str) (.var 1)) .nil) .nil) (.cons (.ite (.cmp .Eq (.var 0) (.int 3)) (.cons (.raise_ ("InvalidPays" : Str) (.var 1)) .nil) .nil) (.cons (.ite (.cmp .Eq (.var 0) (.int 4)) (.cons (.raise_ ("InvalidPrizes" : Str) (.var 1)) .nil) .nil) (.cons (.ite (.cmp .Eq (.var 0) (.int 5)) (.cons (.raise_ ("InvalidSource" : Str) (.var 1)) .nil) .nil) (.cons (.ite (.cmp .Eq (.var 0) (.int 6)) (.cons (.raise_ ("InvalidWord" : Str) (.var 1)) .nil) .nil) (.cons (.ite (.cmp .Eq (.var 0) (.int 7)) (.cons (.raise_ ("NotEnding" : Str) (.var 1)) .nil) .nil) (.cons (.raise_ ("NotSolo" : Str) (.var 1)) .nil)))))))))
def t_law_raised_named1 : S := (.ite (.cmp .Eq (.var 0) (.int 0)) (.cons (.raise_ ("InvalidGame" : Str) (.var 1)) .nil) .nil)
def t_law_raised_named2 : S := (.ite (.cmp .Eq (.var 0) (.int 1)) (.cons (.raise_ ("InvalidRule" : Str) (.var 1)) .nil) .nil)
def t_law_raised_named3 : S := (.ite (.cmp .Eq (.var 0) (.int 2)) (.cons (.raise_ ("InvalidLot" : Str) (.var 1)) .nil) .nil)
def t_law_raised_named4 : S := (.ite (.cmp .Eq (.var 0) (.int 3)) (.cons (.raise_ ("InvalidPays" : Str) (.var 1)) .nil) .nil)
def t_law_raised_named5 : S := (.ite (.cmp .Eq (.var 0) (.int 4)) (.cons (.raise_ ("InvalidPrizes" : Str) (.var 1)) .nil) .nil)
def t_law_raised_named6 : S := (.ite (.cmp .Eq (.var 0) (.int 5)) (.cons (.raise_ ("InvalidSource" : Str) (.var 1)) .nil) .nil)
def t_law_raised_named7 : S := (.ite (.cmp .Eq (.var 0) (.int 6)) (.cons (.raise_ ("InvalidWord" : Str) (.var 1)) .nil) .nil)
def t_law_raised_named8 : S := (.ite (.cmp .Eq (.var 0) (.int 7)) (.cons (.raise_ ("NotEnding" : Str) (.var 1)) .nil) .nil)
def t_law_raised_named9 : S := (.raise_ ("NotSolo" : Str) (.var 1))
theorem bt_law_raised_named : b_law_raised_named = (.cons t_law_raised_named1 (.cons t_law_raised_named2 (.cons t_law_raised_named3 (.cons t_law_raised_named4 (.cons t_law_raised_named5 (.cons t_law_raised_named6 (.cons t_law_raised_named7 (.cons t_law_raised_named8 (.cons t_law_raised_named9 .nil))))))))) := rfl
/-- _law_raised -/
def N_law_raised : List Str := [("which" : Str), ("given" : Str)]
def b_law_raised : Ss := (.cons (.ite (.cmp .Eq (.var 0) (.int 0)) (.cons (.raise_ ("InvalidGame" : Str) (.var 1)) .nil) .nil) (.cons (.ite (.cmp .Eq (.var 0) (.int 1)) (.cons (.raise_ ("InvalidRule" : Str) (.var 1)) .nil) .nil) (.cons (.ite (.cmp .Eq (.var 0) (.int 2)) (.cons (.raise_ ("InvalidLot" : Str) (.var 1)) .nil) .nil) (.cons (.ite (.cmp .Eq (.var 0) (.int 3)) (.cons (.raise_ ("InvalidPays" : Str) (.var 1)) .nil) .nil) (.cons (.ite (.cmp .Eq (.var 0) (.int 4)) (.cons (.raise_ ("InvalidPrizes" : Str) (.var 1)) .nil) .nil) (.cons (.ite (.cmp .Eq (.var 0) (.int 5)) (.cons (.raise_ ("InvalidSource" : Str) (.var 1)) .nil) .nil) (.cons (.ite (.cmp .Eq (.var 0) (.int 6)) (.cons (.raise_ ("InvalidWord" : Str) (.var 1)) .nil) .nil) (.cons (.ite (.cmp .Eq (.var 0) (.int 7)) (.cons (.raise_ ("NotEnding" : Str) (.var 1)) .nil) .nil) (.cons (.raise_ ("NotSolo" : Str) (.var 1)) .nil)))))))))
def t_law_raised1 : S := (.ite (.cmp .Eq (.var 0) (.int 0)) (.cons (.raise_ ("InvalidGame" : Str) (.var 1)) .nil) .nil)
def t_law_raised2 : S := (.ite (.cmp .Eq (.var 0) (.int 1)) (.cons (.raise_ ("InvalidRule" : Str) (.var 1)) .nil) .nil)
def t_law_raised3 : S := (.ite (.cmp .Eq (.var 0) (.int 2)) (.cons (.raise_ ("InvalidLot" : Str) (.var 1)) .nil) .nil)
def t_law_raised4 : S := (.ite (.cmp .Eq (.var 0) (.int 3)) (.cons (.raise_ ("InvalidPays" : Str) (.var 1)) .nil) .nil)
def t_law_raised5 : S := (.ite (.cmp .Eq (.var 0) (.int 4)) (.cons (.raise_ ("InvalidPrizes" : Str) (.var 1)) .nil) .nil)
def t_law_raised6 : S := (.ite (.cmp .Eq (.var 0) (.int 5)) (.cons (.raise_ ("InvalidSource" : Str) (.var 1)) .nil) .nil)
def t_law_raised7 : S := (.ite (.cmp .Eq (.var 0) (.int 6)) (.cons (.raise_ ("InvalidWord" : Str) (.var 1)) .nil) .nil)
def t_law_raised8 : S := (.ite (.cmp .Eq (.var 0) (.int 7)) (.cons (.raise_ ("NotEnding" : Str) (.var 1)) .nil) .nil)
def t_law_raised9 : S := (.raise_ ("NotSolo" : Str) (.var 1))
theorem bt_law_raised : b_law_raised = (.cons t_law_raised1 (.cons t_law_raised2 (.cons t_law_raised3 (.cons t_law_raised4 (.cons t_law_raised5 (.cons t_law_raised6 (.cons t_law_raised7 (.cons t_law_raised8 (.cons t_law_raised9 .nil))))))))) := rfl
/-- _law_caught -/
def N_law_caught : List Str := [("which" : Str), ("given" : Str), ("named" : Str), ("caught" : Str), ("e" : Str)]
def b_law_caught : Ss := (.cons (.set 3 .pln .non) (.cons (.try_ 5 (.cons (.ite (.var 2) (.cons (.drop (.call 0 (.cons (.var 0) (.cons (.var 1) .nil)) .nil [])) .nil) (.cons (.drop (.call 1 (.cons (.var 0) (.cons (.var 1) .nil)) .nil [])) .nil)) .nil) [⟨("TossError" : Str), true, 4, .keep 3⟩]) (.cons (.ret (.var 3)) .nil)))
def t_law_caught1 : S := (.set 3 .pln .non)
def t_law_caught2 : S := (.try_ 5 (.cons (.ite (.var 2) (.cons (.drop (.call 0 (.cons (.var 0) (.cons (.var 1) .nil)) .nil [])) .nil) (.cons (.drop (.call 1 (.cons (.var 0) (.cons (.var 1) .nil)) .nil [])) .nil)) .nil) [⟨("TossError" : Str), true, 4, .keep 3⟩])
def t_law_caught3 : S := (.ret (.var 3))
theorem bt_law_caught : b_law_caught = (.cons t_law_caught1 (.cons t_law_caught2 (.cons t_law_caught3 .nil))) := rfl
/-- _law_take -/
def N_law_take : List Str := [("pot" : Str), ("many" : Str), ("cell" : Str), ("drawn_now" : Str), ("mixed" : Str)]
def b_law_take : Ss := (.cons (.ite (.and (.cmp .Eq (.idx (.var 0) (.int 0)) (.int 0)) (.cmp .Lt (.idx (.var 0) (.int 2)) (.bi .len (.cons (.var 0) .nil)))) (.cons (.set 2 .pln (.idx (.var 0) (.idx (.var 0) (.int 2)))) (.cons (.augIx 0 false .Add (.int 2) (.int 1)) (.cons (.ite (.cmp .GtE (.var 2) (.bin .Pow (.int 10) (.int 18))) (.cons (.setIx 0 false false (.int 0) (.bin .Sub (.var 2) (.bin .Pow (.int 10) (.int 18)))) .nil) (.cons (.set 4 .pln (.bin .Mod (.bi .int (.cons (.var 2) .nil)) (.int 2147483647))) (.cons (.set 4 .pln (.bin .Mod (.bi .int (.cons (.bin .Add (.bin .Add (.bin .Mult (.var 4) (.var 4)) (.bin .Mult (.int 69621) (.var 4))) (.bin .Mult (.int 977) (.idx (.var 0) (.int 2)))) .nil)) (.int 2147483629))) (.cons (.setIx 0 false false (.int 1) (.bin .Mod (.bi .int (.cons (.bin .Add (.idx (.var 0) (.int 1)) (.var 4)) .nil)) (.int 2147483629))) .nil)))) .nil))) .nil) (.cons (.ite (.cmp .Gt (.idx (.var 0) (.int 0)) (.int 0)) (.cons (.set 3 .pln (.bin .Mod (.bi .int (.cons (.idx (.var 0) (.int 0)) .nil)) (.var 1))) (.cons (.setIx 0 false false (.int 0) (.bin .FloorDiv (.idx (.var 0) (.int 0)) (.var 1))) (.cons (.ret (.var 3)) .nil))) .nil) (.cons (.setIx 0 false false (.int 1) (.bin .Mod (.bi .int (.cons (.bin .Add (.bin .Add (.bin .Mult (.idx (.var 0) (.int 1)) (.int 48271)) (.bin .Mult (.int 40692) (.idx (.var 0) (.int 2)))) (.int 11)) .nil)) (.int 2147483647))) (.cons (.setIx 0 false false (.int 1) (.bin .Mod (.bi .int (.cons (.bin .Add (.bin .Mult (.idx (.var 0) (.int 1)) (.idx (.var 0) (.int 1))) (.int 7)) .nil)) (.int 2147483629))) (.cons (.ret (.bin .Mod (.bi .int (.cons (.bin .FloorDiv (.idx (.var 0) (.int 1)) (.int 8)) .nil)) (.var 1))) .nil)))))
def t_law_take1 : S := (.ite (.and (.cmp .Eq (.idx (.var 0) (.int 0)) (.int 0)) (.cmp .Lt (.idx (.var 0) (.int 2)) (.bi .len (.cons (.var 0) .nil)))) (.cons (.set 2 .pln (.idx (.var 0) (.idx (.var 0) (.int 2)))) (.cons (.augIx 0 false .Add (.int 2) (.int 1)) (.cons (.ite (.cmp .GtE (.var 2) (.bin .Pow (.int 10) (.int 18))) (.cons (.setIx 0 false false (.int 0) (.bin .Sub (.var 2) (.bin .Pow (.int 10) (.int 18)))) .nil) (.cons (.set 4 .pln (.bin .Mod (.bi .int (.cons (.var 2) .nil)) (.int 2147483647))) (.cons (.set 4 .pln (.bin .Mod (.bi .int (.cons (.bin .Add (.bin .Add (.bin .Mult (.var 4) (.var 4)) (.bin .Mult (.int 69621) (.var 4))) (.bin .Mult (.int 977) (.idx (.var 0) (.int 2)))) .nil)) (.int 2147483629))) (.cons (.setIx 0 false false (.int 1) (.bin .Mod (.bi .int (.cons (.bin .Add (.idx (.var 0) (.int 1)) (.var 4)) .nil)) (.int 2147483629))) .nil)))) .nil))) .nil)
def t_law_take2 : S := (.ite (.cmp .Gt (.idx (.var 0) (.int 0)) (.int 0)) (.cons (.set 3 .pln (.bin .Mod (.bi .int (.cons (.idx (.var 0) (.int 0)) .nil)) (.var 1))) (.cons (.setIx 0 false false (.int 0) (.bin .FloorDiv (.idx (.var 0) (.int 0)) (.var 1))) (.cons (.ret (.var 3)) .nil))) .nil)
def t_law_take3 : S := (.setIx 0 false false (.int 1) (.bin .Mod (.bi .int (.cons (.bin .Add (.bin .Add (.bin .Mult (.idx (.var 0) (.int 1)) (.int 48271)) (.bin .Mult (.int 40692) (.idx (.var 0) (.int 2)))) (.int 11)) .nil)) (.int 2147483647)))
def t_law_take4 : S := (.setIx 0 false false (.int 1) (.bin .Mod (.bi .int (.cons (.bin .Add (.bin .Mult (.idx (.var 0) (.int 1)) (.idx (.var 0) (.int 1))) (.int 7)) .nil)) (.int 2147483629)))
def t_law_take5 : S := (.ret (.bin .Mod (.bi .int (.cons (.bin .FloorDiv (.idx (.var 0) (.int 1)) (.int 8)) .nil)) (.var 1)))
theorem bt_law_take : b_law_take = (.cons t_law_take1 (.cons t_law_take2 (.cons t_law_take3 (.cons t_law_take4 (.cons t_law_take5 .nil))))) := rfl
/-- _law_given -/
def N_law_given : List Str := [("pot" : Str), ("far" : Str), ("some" : Str)]
def b_law_given : Ss := (.cons (.set 1 .pln (.bin .Sub (.bin .Add (.bin .Mult (.call 3 (.cons (.var 0) (.cons (.bin .Pow (.int 10) (.int 9)) .nil)) .nil []) (.bin .Pow (.int 10) (.int 20))) (.call 3 (.cons (.var 0) (.cons (.bin .Pow (.int 10) (.int 9)) .nil)) .nil [])) (.bin .Pow (.int 10) (.int 28)))) (.cons (.set 2 .pln (.lst (.cons (.var 1) (.cons (.call 3 (.cons (.var 0) (.cons (.int 9) .nil)) .nil []) (.cons (.str ("" : Str)) (.cons (.str ("a b" : Str)) (.cons .non (.cons (.bl true) (.cons (.bl false) (.cons (.tup .nil) (.cons (.tup (.cons (.var 1) (.cons (.int 1) .nil))) (.cons (.lst (.cons (.var 1) (.cons (.str ("x" : Str)) .nil))) (.cons (.tup (.cons (.tup (.cons (.int 1) (.cons (.int 2) .nil))) (.cons (.tup (.cons (.str ("to" : Str)) (.cons (.tup .nil) .nil))) .nil))) (.cons (.lst .nil) .nil)))))))))))))) (.cons (.set 2 .pln (.bin .Add (.var 2) (.lst (.cons (.neg (.int 1)) (.cons (.int 0) (.cons (.tup (.cons (.int 2) (.cons (.tup (.cons (.tup (.cons (.str ("toss" : Str)) (.cons (.tup (.cons (.str ("is" : Str)) (.cons (.int 0) .nil))) (.cons (.tup (.cons (.str ("is" : Str)) (.cons (.int 1) .nil))) .nil)))) .nil)) .nil))) .nil)))))) (.cons (.ret (.idx (.var 2) (.call 3 (.cons (.var 0) (.cons (.int 15) .nil)) .nil []))) .nil))))
def t_law_given1 : S := (.set 1 .pln (.bin .Sub (.bin .Add (.bin .Mult (.call 3 (.cons (.var 0) (.cons (.bin .Pow (.int 10) (.int 9)) .nil)) .nil []) (.bin .Pow (.int 10) (.int 20))) (.call 3 (.cons (.var 0) (.cons (.bin .Pow (.int 10) (.int 9)) .nil)) .nil [])) (.bin .Pow (.int 10) (.int 28))))
def t_law_given2 : S := (.set 2 .pln (.lst (.cons (.var 1) (.cons (.call 3 (.cons (.var 0) (.cons (.int 9) .nil)) .nil []) (.cons (.str ("" : Str)) (.cons (.str ("a b" : Str)) (.cons .non (.cons (.bl true) (.cons (.bl false) (.cons (.tup .nil) (.cons (.tup (.cons (.var 1) (.cons (.int 1) .nil))) (.cons (.lst (.cons (.var 1) (.cons (.str ("x" : Str)) .nil))) (.cons (.tup (.cons (.tup (.cons (.int 1) (.cons (.int 2) .nil))) (.cons (.tup (.cons (.str ("to" : Str)) (.cons (.tup .nil) .nil))) .nil))) (.cons (.lst .nil) .nil))))))))))))))
def t_law_given3 : S := (.set 2 .pln (.bin .Add (.var 2) (.lst (.cons (.neg (.int 1)) (.cons (.int 0) (.cons (.tup (.cons (.int 2) (.cons (.tup (.cons (.tup (.cons (.str ("toss" : Str)) (.cons (.tup (.cons (.str ("is" : Str)) (.cons (.int 0) .nil))) (.cons (.tup (.cons (.str ("is" : Str)) (.cons (.int 1) .nil))) .nil)))) .nil)) .nil))) .nil))))))
def t_law_given4 : S := (.ret (.idx (.var 2) (.call 3 (.cons (.var 0) (.cons (.int 15) .nil)) .nil [])))
theorem bt_law_given : b_law_given = (.cons t_law_given1 (.cons t_law_given2 (.cons t_law_given3 (.cons t_law_given4 .nil)))) := rfl
/-- _law_same -/
def N_law_same : List Str := [("got" : Str), ("due" : Str), ("k" : Str)]
def e_law_same1 : E := (.call 5 (.cons (.idx (.var 0) (.var 2)) (.cons (.idx (.var 1) (.var 2)) .nil)) .nil [])
def b_law_same : Ss := (.cons (.ite (.cmp .Is (.var 1) .non) (.cons (.ret (.cmp .Is (.var 0) .non)) .nil) .nil) (.cons (.ite (.isi (.var 1) [.bool, .str] true) (.cons (.ret (.and (.cmp .Eq (.isi (.var 0) [.bool] false) (.isi (.var 1) [.bool] false)) (.and (.isi (.var 0) [.bool, .str] true) (.cmp .Eq (.var 0) (.var 1))))) .nil) .nil) (.cons (.ite (.isi (.var 1) [.int] false) (.cons (.ret (.and (.isi (.var 0) [.int] false) (.and (.not (.isi (.var 0) [.bool] false)) (.cmp .Eq (.var 0) (.var 1))))) .nil) .nil) (.cons (.ite (.or (.cmp .NotEq (.isi (.var 1) [.list] false) (.isi (.var 0) [.list] false)) (.cmp .NotEq (.isi (.var 1) [.tuple] false) (.isi (.var 0) [.tuple] false))) (.cons (.ret (.bl false)) .nil) .nil) (.cons (.ret (.and (.cmp .Eq (.bi .len (.cons (.var 0) .nil)) (.bi .len (.cons (.var 1) .nil))) (.bi .all (.cons (.comp (.name 2) (.range1 (.bi .len (.cons (.var 1) .nil))) false .non e_law_same1) .nil)))) .nil)))))
def t_law_same1 : S := (.ite (.cmp .Is (.var 1) .non) (.cons (.ret (.cmp .Is (.var 0) .non)) .nil) .nil)
def t_law_same2 : S := (.ite (.isi (.var 1) [.bool, .str] true) (.cons (.ret (.and (.cmp .Eq (.isi (.var 0) [.bool] false) (.isi (.var 1) [.bool] false)) (.and (.isi (.var 0) [.bool, .str] true) (.cmp .Eq (.var 0) (.var 1))))) .nil) .nil)
def t_law_same3 : S := (.ite (.isi (.var 1) [.int] false) (.cons (.ret (.and (.isi (.var 0) [.int] false) (.and (.not (.isi (.var 0) [.bool] false)) (.cmp .Eq (.var 0) (.var 1))))) .nil) .nil)
def t_law_same4 : S := (.ite (.or (.cmp .NotEq (.isi (.var 1) [.list] false) (.isi (.var 0) [.list] false)) (.cmp .NotEq (.isi (.var 1) [.tuple] false) (.isi (.var 0) [.tuple] false))) (.cons (.ret (.bl false)) .nil) .nil)
def t_law_same5 : S := (.ret (.and (.cmp .Eq (.bi .len (.cons (.var 0) .nil)) (.bi .len (.cons (.var 1) .nil))) (.bi .all (.cons (.comp (.name 2) (.range1 (.bi .len (.cons (.var 1) .nil))) false .non e_law_same1) .nil))))
theorem bt_law_same : b_law_same = (.cons t_law_same1 (.cons t_law_same2 (.cons t_law_same3 (.cons t_law_same4 (.cons t_law_same5 .nil))))) := rfl
/-- _law_kinds -/
def N_law_kinds : List Str := [("e" : Str), ("found" : Str)]
def b_law_kinds : Ss := (.cons (.set 1 .pln (.lst (.cons (.isx (.var 0) clsL false ("InvalidGame" : Str)) (.cons (.isx (.var 0) clsL false ("InvalidRule" : Str)) (.cons (.isx (.var 0) clsL false ("InvalidLot" : Str)) .nil))))) (.cons (.set 1 .pln (.bin .Add (.var 1) (.lst (.cons (.isx (.var 0) clsL false ("InvalidPays" : Str)) (.cons (.isx (.var 0) clsL false ("InvalidPrizes" : Str)) (.cons (.isx (.var 0) clsL false ("InvalidSource" : Str)) .nil)))))) (.cons (.set 1 .pln (.bin .Add (.var 1) (.lst (.cons (.isx (.var 0) clsL false ("InvalidWord" : Str)) (.cons (.isx (.var 0) clsL false ("NotEnding" : Str)) (.cons (.isx (.var 0) clsL false ("NotSolo" : Str)) .nil)))))) (.cons (.set 1 .pln (.bin .Add (.var 1) (.lst (.cons (.isx (.var 0) clsL false ("InvalidNumber" : Str)) (.cons (.isx (.var 0) clsL false ("InvalidShares" : Str)) (.cons (.isx (.var 0) clsL false ("InvalidFigures" : Str)) .nil)))))) (.cons (.set 1 .pln (.bin .Add (.var 1) (.lst (.cons (.isx (.var 0) clsL false ("InvalidLeaves" : Str)) (.cons (.isx (.var 0) clsL false ("InvalidMachine" : Str)) (.cons (.isx (.var 0) clsL false ("InvalidRow" : Str)) .nil)))))) (.cons (.set 1 .pln (.bin .Add (.var 1) (.lst (.cons (.isx (.var 0) clsL false ("InvalidThing" : Str)) (.cons (.isx (.var 0) clsL false ("InvalidPair" : Str)) (.cons (.isx (.var 0) clsL false ("NeverEnds" : Str)) .nil)))))) (.cons (.set 1 .pln (.bin .Add (.var 1) (.lst (.cons (.isx (.var 0) clsL false ("NotDrawn" : Str)) (.cons (.isx (.var 0) clsL false ("InvalidDice" : Str)) (.cons (.isx (.var 0) clsL false ("InvalidTable" : Str)) .nil)))))) (.cons (.set 1 .pln (.bin .Add (.var 1) (.lst (.cons (.isx (.var 0) clsL false ("InvalidReader" : Str)) (.cons (.isx (.var 0) clsL false ("NoTable" : Str)) (.cons (.isx (.var 0) clsL false ("InvalidName" : Str)) .nil)))))) (.cons (.set 1 .pln (.bin .Add (.var 1) (.lst (.cons (.isx (.var 0) clsL false ("UnknownName" : Str)) (.cons (.isx (.var 0) clsL false ("NothingToUndo" : Str)) (.cons (.isx (.var 0) clsL false ("Unreadable" : Str)) .nil)))))) (.cons (.ret (.bin .Add (.var 1) (.lst (.cons (.isx (.var 0) clsL false ("Unorderly" : Str)) .nil)))) .nil))))))))))
def t_law_kinds1 : S := (.set 1 .pln (.lst (.cons (.isx (.var 0) clsL false ("InvalidGame" : Str)) (.cons (.isx (.var 0) clsL false ("InvalidRule" : Str)) (.cons (.isx (.var 0) clsL false ("InvalidLot" : Str)) .nil)))))
def t_law_kinds2 : S := (.set 1 .pln (.bin .Add (.var 1) (.lst (.cons (.isx (.var 0) clsL false ("InvalidPays" : Str)) (.cons (.isx (.var 0) clsL false ("InvalidPrizes" : Str)) (.cons (.isx (.var 0) clsL false ("InvalidSource" : Str)) .nil))))))
def t_law_kinds3 : S := (.set 1 .pln (.bin .Add (.var 1) (.lst (.cons (.isx (.var 0) clsL false ("InvalidWord" : Str)) (.cons (.isx (.var 0) clsL false ("NotEnding" : Str)) (.cons (.isx (.var 0) clsL false ("NotSolo" : Str)) .nil))))))
def t_law_kinds4 : S := (.set 1 .pln (.bin .Add (.var 1) (.lst (.cons (.isx (.var 0) clsL false ("InvalidNumber" : Str)) (.cons (.isx (.var 0) clsL false ("InvalidShares" : Str)) (.cons (.isx (.var 0) clsL false ("InvalidFigures" : Str)) .nil))))))
def t_law_kinds5 : S := (.set 1 .pln (.bin .Add (.var 1) (.lst (.cons (.isx (.var 0) clsL false ("InvalidLeaves" : Str)) (.cons (.isx (.var 0) clsL false ("InvalidMachine" : Str)) (.cons (.isx (.var 0) clsL false ("InvalidRow" : Str)) .nil))))))
def t_law_kinds6 : S := (.set 1 .pln (.bin .Add (.var 1) (.lst (.cons (.isx (.var 0) clsL false ("InvalidThing" : Str)) (.cons (.isx (.var 0) clsL false ("InvalidPair" : Str)) (.cons (.isx (.var 0) clsL false ("NeverEnds" : Str)) .nil))))))
def t_law_kinds7 : S := (.set 1 .pln (.bin .Add (.var 1) (.lst (.cons (.isx (.var 0) clsL false ("NotDrawn" : Str)) (.cons (.isx (.var 0) clsL false ("InvalidDice" : Str)) (.cons (.isx (.var 0) clsL false ("InvalidTable" : Str)) .nil))))))
def t_law_kinds8 : S := (.set 1 .pln (.bin .Add (.var 1) (.lst (.cons (.isx (.var 0) clsL false ("InvalidReader" : Str)) (.cons (.isx (.var 0) clsL false ("NoTable" : Str)) (.cons (.isx (.var 0) clsL false ("InvalidName" : Str)) .nil))))))
def t_law_kinds9 : S := (.set 1 .pln (.bin .Add (.var 1) (.lst (.cons (.isx (.var 0) clsL false ("UnknownName" : Str)) (.cons (.isx (.var 0) clsL false ("NothingToUndo" : Str)) (.cons (.isx (.var 0) clsL false ("Unreadable" : Str)) .nil))))))
def t_law_kinds10 : S := (.ret (.bin .Add (.var 1) (.lst (.cons (.isx (.var 0) clsL false ("Unorderly" : Str)) .nil))))
theorem bt_law_kinds : b_law_kinds = (.cons t_law_kinds1 (.cons t_law_kinds2 (.cons t_law_kinds3 (.cons t_law_kinds4 (.cons t_law_kinds5 (.cons t_law_kinds6 (.cons t_law_kinds7 (.cons t_law_kinds8 (.cons t_law_kinds9 (.cons t_law_kinds10 .nil)))))))))) := rfl
/-- _law_right -/
def N_law_right : List Str := [("caught" : Str), ("which" : Str), ("given" : Str), ("k" : Str)]
def e_law_right1 : E := (.cmp .Eq (.var 3) (.var 1))
def b_law_right : Ss := (.cons (.ite (.or (.cmp .Is (.var 0) .non) (.not (.isx (.var 0) clsL true ("ValueError" : Str)))) (.cons (.ret (.bl false)) .nil) .nil) (.cons (.ret (.and (.call 5 (.cons (.call 6 (.cons (.var 0) .nil) .nil []) (.cons (.comp (.name 3) (.range1 (.int 28)) false .non e_law_right1) .nil)) .nil []) (.call 5 (.cons (.xval (.var 0) clsL) (.cons (.var 2) .nil)) .nil []))) .nil))
def t_law_right1 : S := (.ite (.or (.cmp .Is (.var 0) .non) (.not (.isx (.var 0) clsL true ("ValueError" : Str)))) (.cons (.ret (.bl false)) .nil) .nil)
def t_law_right2 : S := (.ret (.and (.call 5 (.cons (.call 6 (.cons (.var 0) .nil) .nil []) (.cons (.comp (.name 3) (.range1 (.int 28)) false .non e_law_right1) .nil)) .nil []) (.call 5 (.cons (.xval (.var 0) clsL) (.cons (.var 2) .nil)) .nil [])))
theorem bt_law_right : b_law_right = (.cons t_law_right1 (.cons t_law_right2 .nil)) := rfl
/-- law -/
def N_law : List Str := [("script" : Str), ("pot" : Str), ("turn" : Str), ("which" : Str), ("first" : Str), ("second" : Str), ("given" : Str), ("other" : Str), ("named" : Str)]
def l_law1 : Ss := (.cons (.par3 6 7 8 .pln .pln .pln (.call 4 (.cons (.var 1) .nil) .nil []) (.call 4 (.cons (.var 1) .nil) .nil []) (.cmp .Eq (.call 3 (.cons (.var 1) (.cons (.int 2) .nil)) .nil []) (.int 0))) (.cons (.set 4 .pln (.call 2 (.cons (.var 3) (.cons (.var 6) (.cons (.var 8) .nil))) .nil [])) (.cons (.set 5 .pln (.call 2 (.cons (.var 3) (.cons (.var 7) (.cons (.not (.var 8)) .nil))) .nil [])) (.cons (.ite (.or (.not (.call 7 (.cons (.var 4) (.cons (.var 3) (.cons (.var 6) .nil))) .nil [])) (.not (.call 7 (.cons (.var 5) (.cons (.var 3) (.cons (.var 7) .nil))) .nil []))) (.cons (.ret (.bl false)) .nil) .nil) .nil))))
def tl_law1_1 : S := (.par3 6 7 8 .pln .pln .pln (.call 4 (.cons (.var 1) .nil) .nil []) (.call 4 (.cons (.var 1) .nil) .nil []) (.cmp .Eq (.call 3 (.cons (.var 1) (.cons (.int 2) .nil)) .nil []) (.int 0)))
def tl_law1_2 : S := (.set 4 .pln (.call 2 (.cons (.var 3) (.cons (.var 6) (.cons (.var 8) .nil))) .nil []))
def tl_law1_3 : S := (.set 5 .pln (.call 2 (.cons (.var 3) (.cons (.var 7) (.cons (.not (.var 8)) .nil))) .nil []))
def tl_law1_4 : S := (.ite (.or (.not (.call 7 (.cons (.var 4) (.cons (.var 3) (.cons (.var 6) .nil))) .nil [])) (.not (.call 7 (.cons (.var 5) (.cons (.var 3) (.cons (.var 7) .nil))) .nil []))) (.cons (.ret (.bl false)) .nil) .nil)
theorem btl_law1 : l_law1 = (.cons tl_law1_1 (.cons tl_law1_2 (.cons tl_law1_3 (.cons tl_law1_4 .nil)))) := rfl
def l_law2 : Ss := (.cons (.for_ (.name 3) (.range1 (.int 9)) l_law1) .nil)
def b_law : Ss := (.cons (.set 1 .pln (.box (.bin .Add (.lst (.cons (.int 0) (.cons (.int 7) (.cons (.int 3) .nil)))) (.bi .list (.cons (.var 0) .nil))))) (.cons (.for_ (.name 2) (.range1 (.bi .max2 (.cons (.int 1) (.cons (.bi .min2 (.cons (.int 12) (.cons (.bi .len (.cons (.var 0) .nil)) .nil))) .nil)))) l_law2) (.cons (.ret (.bl true)) .nil)))
def t_law1 : S := (.set 1 .pln (.box (.bin .Add (.lst (.cons (.int 0) (.cons (.int 7) (.cons (.int 3) .nil)))) (.bi .list (.cons (.var 0) .nil)))))
def t_law2 : S := (.for_ (.name 2) (.range1 (.bi .max2 (.cons (.int 1) (.cons (.bi .min2 (.cons (.int 12) (.cons (.bi .len (.cons (.var 0) .nil)) .nil))) .nil)))) l_law2)
def t_law3 : S := (.ret (.bl true))
theorem bt_law : b_law = (.cons t_law1 (.cons t_law2 (.cons t_law3 .nil))) := rfl
noncomputable def g_law_raised_named : GE := ⟨[], consL⟩
noncomputable def F_law_raised_named : FnI := ⟨("_law_raised_named" : Str), [("which" : Str), ("given" : Str)], evF g_law_raised_named N_law_raised_named.length b_law_raised_named⟩
theorem ev_law_raised_named (as : List D) (st : Sto) : F_law_raised_named.sem as st = (evSs g_law_raised_named b_law_raised_named (as.map some ++ List.replicate (2 - as.length) none) st).fin := rfl
noncomputable def g_law_raised : GE := ⟨[F_law_raised_named], consL⟩
noncomputable def F_law_raised : FnI := ⟨("_law_raised" : Str), [("which" : Str), ("given" : Str)], evF g_law_raised N_law_raised.length b_law_raised⟩
theorem ev_law_raised (as : List D) (st : Sto) : F_law_raised.sem as st = (evSs g_law_raised b_law_raised (as.map some ++ List.replicate (2 - as.length) none) st).fin := rfl
noncomputable def g_law_caught : GE := ⟨[F_law_raised_named, F_law_raised], consL⟩
noncomputable def F_law_caught : FnI := ⟨("_law_caught" : Str), [("which" : Str), ("given" : Str), ("named" : Str)], evF g_law_caught N_law_caught.length b_law_caught⟩
theorem ev_law_caught (as : List D) (st : Sto) : F_law_caught.sem as st = (evSs g_law_caught b_law_caught (as.map some ++ List.replicate (5 - as.length) none) st).fin := rfl
@[simp] theorem call_law_caught__law_raised_named (xs zs : List D) (ord : List Nat) (st : Sto) : callK g_law_caught 0 ord xs zs st = (if xs.length + (permL ord zs).length = 2 then F_law_raised_named.sem (xs ++ permL ord zs) st else .bad) := (rfl)
@[simp] theorem call_law_caught__law_raised (xs zs : List D) (ord : List Nat) (st : Sto) : callK g_law_caught 1 ord xs zs st = (if xs.length + (permL ord zs).length = 2 then F_law_raised.sem (xs ++ permL ord zs) st else .bad) := (rfl)
noncomputable def g_law_take : GE := ⟨[F_law_raised_named, F_law_raised, F_law_caught], consL⟩
noncomputable def F_law_take : FnI := ⟨("_law_take" : Str), [("pot" : Str), ("many" : Str)], evF g_law_take N_law_take.length b_law_take⟩
theorem ev_law_take (as : List D) (st : Sto) : F_law_take.sem as st = (evSs g_law_take b_law_take (as.map some ++ List.replicate (5 - as.length) none) st).fin := rfl
noncomputable def g_law_given : GE := ⟨[F_law_raised_named, F_law_raised, F_law_caught, F_law_take], consL⟩
noncomputable def F_law_given : FnI := ⟨("_law_given" : Str), [("pot" : Str)], evF g_law_given N_law_given.length b_law_given⟩
theorem ev_law_given (as : List D) (st : Sto) : F_law_given.sem as st = (evSs g_law_given b_law_given (as.map some ++ List.replicate (3 - as.length) none) st).fin := rfl
@[simp] theorem call_law_given__law_take (xs zs : List D) (ord : List Nat) (st : Sto) : callK g_law_given 3 ord xs zs st = (if xs.length + (permL ord zs).length = 2 then F_law_take.sem (xs ++ permL ord zs) st else .bad) := (rfl)
noncomputable def s_law_same : Nat → List D → Sto → R D
  | 0 => fun _ _ => .bad
  | k + 1 => evF ⟨[F_law_raised_named, F_law_raised, F_law_caught, F_law_take, F_law_given] ++ [⟨("_law_same" : Str), [("got" : Str), ("due" : Str)], s_law_same k⟩], consL⟩ N_law_same.length b_law_same
noncomputable def F_law_same : FnI := ⟨("_law_same" : Str), [("got" : Str), ("due" : Str)], s_law_same 12⟩
noncomputable def g_law_same (k : Nat) : GE := ⟨[F_law_raised_named, F_law_raised, F_law_caught, F_law_take, F_law_given] ++ [⟨("_law_same" : Str), [("got" : Str), ("due" : Str)], s_law_same k⟩], consL⟩
theorem ev_law_same (k : Nat) (as : List D) (st : Sto) : s_law_same (k + 1) as st = (evSs (g_law_same k) b_law_same (as.map some ++ List.replicate (3 - as.length) none) st).fin := rfl
@[simp] theorem call_law_same__law_same (k : Nat) (xs zs : List D) (ord : List Nat) (st : Sto) : callK (g_law_same k) 5 ord xs zs st = (if xs.length + (permL ord zs).length = 2 then s_law_same k (xs ++ permL ord zs) st else .bad) := (rfl)
noncomputable def g_law_kinds : GE := ⟨[F_law_raised_named, F_law_raised, F_law_caught, F_law_take, F_law_given, F_law_same], consL⟩
noncomputable def F_law_kinds : FnI := ⟨("_law_kinds" : Str), [("e" : Str)], evF g_law_kinds N_law_kinds.length b_law_kinds⟩
theorem ev_law_kinds (as : List D) (st : Sto) : F_law_kinds.sem as st = (evSs g_law_kinds b_law_kinds (as.map some ++ List.replicate (2 - as.length) none) st).fin := rfl
noncomputable def g_law_right : GE := ⟨[F_law_raised_named, F_law_raised, F_law_caught, F_law_take, F_law_given, F_law_same, F_law_kinds], consL⟩
noncomputable def F_law_right : FnI := ⟨("_law_right" : Str), [("caught" : Str), ("which" : Str), ("given" : Str)], evF g_law_right N_law_right.length b_law_right⟩
theorem ev_law_right (as : List D) (st : Sto) : F_law_right.sem as st = (evSs g_law_right b_law_right (as.map some ++ List.replicate (4 - as.length) none) st).fin := rfl
@[simp] theorem call_law_right__law_kinds (xs zs : List D) (ord : List Nat) (st : Sto) : callK g_law_right 6 ord xs zs st = (if xs.length + (permL ord zs).length = 1 then F_law_kinds.sem (xs ++ permL ord zs) st else .bad) := (rfl)
@[simp] theorem call_law_right__law_same (xs zs : List D) (ord : List Nat) (st : Sto) : callK g_law_right 5 ord xs zs st = (if xs.length + (permL ord zs).length = 2 then F_law_same.sem (xs ++ permL ord zs) st else .bad) := (rfl)
noncomputable def g_law : GE := ⟨[F_law_raised_named, F_law_raised, F_law_caught, F_law_take, F_law_given, F_law_same, F_law_kinds, F_law_right], consL⟩
noncomputable def F_law : FnI := ⟨("law" : Str), [("script" : Str)], evF g_law N_law.length b_law⟩
theorem ev_law (as : List D) (st : Sto) : F_law.sem as st = (evSs g_law b_law (as.map some ++ List.replicate (9 - as.length) none) st).fin := rfl
@[simp] theorem call_law__law_given (xs zs : List D) (ord : List Nat) (st : Sto) : callK g_law 4 ord xs zs st = (if xs.length + (permL ord zs).length = 1 then F_law_given.sem (xs ++ permL ord zs) st else .bad) := (rfl)
@[simp] theorem call_law__law_take (xs zs : List D) (ord : List Nat) (st : Sto) : callK g_law 3 ord xs zs st = (if xs.length + (permL ord zs).length = 2 then F_law_take.sem (xs ++ permL ord zs) st else .bad) := (rfl)
@[simp] theorem call_law__law_caught (xs zs : List D) (ord : List Nat) (st : Sto) : callK g_law 2 ord xs zs st = (if xs.length + (permL ord zs).length = 3 then F_law_caught.sem (xs ++ permL ord zs) st else .bad) := (rfl)
@[simp] theorem call_law__law_right (xs zs : List D) (ord : List Nat) (st : Sto) : callK g_law 7 ord xs zs st = (if xs.length + (permL ord zs).length = 3 then F_law_right.sem (xs ++ permL ord zs) st else .bad) := (rfl)
end Lk57
end

section
set_option Elab.async false
set_option linter.all false
set_option maxRecDepth 100000
set_option autoImplicit false
/-! written by wip/gen.py for k57_errors_of_games_and_sources. -/
namespace Lk57
open PySem PySem.Spec PyProof.Rows L2 WT
def top (i : Nat) : Stmt := PySem.Challenge.pw_wholetosses_k57_errors_of_games_and_sour.main.body.getD i (.Pass ⟨0, 0, 0, 0⟩)
def mthL : List Bi := []
def fnsL : List (Str × List Str) := [(("_law_raised_named" : Str), [("which" : Str), ("given" : Str)]), (("_law_raised" : Str), [("which" : Str), ("given" : Str)]), (("_law_caught" : Str), [("which" : Str), ("given" : Str), ("named" : Str)]), (("_law_take" : Str), [("pot" : Str), ("many" : Str)]), (("_law_given" : Str), [("pot" : Str)]), (("_law_same" : Str), [("got" : Str), ("due" : Str)]), (("_law_kinds" : Str), [("e" : Str)]), (("_law_right" : Str), [("caught" : Str), ("which" : Str), ("given" : Str)]), (("law" : Str), [("script" : Str)])]
def rnL : List Bool := [true, true, false, false, false, true, true, true, true]
def kwL : List (List (Nat × List Str × List Nat)) := [[], [], [], [], [], [], [], [], []]
def mc (j : Nat) (N : List Str) (ow : List Nat) : MC := { N := N, fns := fnsL.take j, cons := consL.map (·.1), kw := fun i => kwL.getD i [], rn := fun i => rnL.getD i false, ow := fun i => decide (i ∈ ow), mth := mthL, cls := clsL, base := "TossError" }
def m_law_raised_named : MC := mc 0 N_law_raised_named []
theorem c_law_raised_named : cSs m_law_raised_named (defScope (top 34)) (rnL.getD 0 false) b_law_raised_named (defBody (top 34)) = true := by kernel_rfl
def m_law_raised : MC := mc 1 N_law_raised []
theorem c_law_raised : cSs m_law_raised (defScope (top 33)) (rnL.getD 1 false) b_law_raised (defBody (top 33)) = true := by kernel_rfl
def m_law_caught : MC := mc 2 N_law_caught []
theorem c_law_caught : cSs m_law_caught (defScope (top 37)) (rnL.getD 2 false) b_law_caught (defBody (top 37)) = true := by kernel_rfl
def m_law_take : MC := mc 3 N_law_take []
theorem c_law_take : cSs m_law_take (defScope (top 31)) (rnL.getD 3 false) b_law_take (defBody (top 31)) = true := by kernel_rfl
def m_law_given : MC := mc 4 N_law_given []
theorem c_law_given : cSs m_law_given (defScope (top 36)) (rnL.getD 4 false) b_law_given (defBody (top 36)) = true := by kernel_rfl
def m_law_same : MC := mc 6 N_law_same []
theorem c_law_same : cSs m_law_same (defScope (top 32)) (rnL.getD 5 false) b_law_same (defBody (top 32)) = true := by kernel_rfl
def m_law_kinds : MC := mc 6 N_law_kinds []
theorem c_law_kinds : cSs m_law_kinds (defScope (top 35)) (rnL.getD 6 false) b_law_kinds (defBody (top 35)) = true := by kernel_rfl
def m_law_right : MC := mc 7 N_law_right []
theorem c_law_right : cSs m_law_right (defScope (top 38)) (rnL.getD 7 false) b_law_right (defBody (top 38)) = true := by kernel_rfl
def m_law : MC := mc 8 N_law []
theorem c_law : cSs m_law (defScope (top 39)) (rnL.getD 8 false) b_law (defBody (top 39)) = true := by kernel_rfl
theorem sc_law_raised_named : FnScope N_law_raised_named [("which" : Str), ("given" : Str)] (defScope (top 34)) := fnScope_by (by kernel_rfl)
theorem kb_law_raised_named {K : PySem.W.Frag} {f : Addr} {fd : FuncData} (F : FunD K ("_law_raised_named" : Str) ("_law_raised_named" : Str) (defArgs (top 34)) (defBody (top 34)) (defScope (top 34)) [] [] f fd) : KBd K fd [("which" : Str), ("given" : Str)] (kwL.getD 0 []) := by
  refine kbd_of F (fun _ _ _ _ _ _ us hl => match us, hl with | [a0, a1], _ => rfl) (fun q hq => ?_)
  have hq : q ∈ ([] : List (Nat × List Str × List Nat)) := hq
  exact absurd hq (by simp)
theorem sc_law_raised : FnScope N_law_raised [("which" : Str), ("given" : Str)] (defScope (top 33)) := fnScope_by (by kernel_rfl)
theorem kb_law_raised {K : PySem.W.Frag} {f : Addr} {fd : FuncData} (F : FunD K ("_law_raised" : Str) ("_law_raised" : Str) (defArgs (top 33)) (defBody (top 33)) (defScope (top 33)) [] [] f fd) : KBd K fd [("which" : Str), ("given" : Str)] (kwL.getD 1 []) := by
  refine kbd_of F (fun _ _ _ _ _ _ us hl => match us, hl with | [a0, a1], _ => rfl) (fun q hq => ?_)
  have hq : q ∈ ([] : List (Nat × List Str × List Nat)) := hq
  exact absurd hq (by simp)
theorem sc_law_caught : FnScope N_law_caught [("which" : Str), ("given" : Str), ("named" : Str)] (defScope (top 37)) := fnScope_by (by kernel_rfl)
theorem kb_law_caught {K : PySem.W.Frag} {f : Addr} {fd : FuncData} (F : FunD K ("_law_caught" : Str) ("_law_caught" : Str) (defArgs (top 37)) (defBody (top 37)) (defScope (top 37)) [] [] f fd) : KBd K fd [("which" : Str), ("given" : Str), ("named" : Str)] (kwL.getD 2 []) := by
  refine kbd_of F (fun _ _ _ _ _ _ us hl => match us, hl with | [a0, a1, a2], _ => rfl) (fun q hq => ?_)
  have hq : q ∈ ([] : List (Nat × List Str × List Nat)) := hq
  exact absurd hq (by simp)
theorem sc_law_take : FnScope N_law_take [("pot" : Str), ("many" : Str)] (defScope (top 31)) := fnScope_by (by kernel_rfl)
theorem kb_law_take {K : PySem.W.Frag} {f : Addr} {fd : FuncData} (F : FunD K ("_law_take" : Str) ("_law_take" : Str) (defArgs (top 31)) (defBody (top 31)) (defScope (top 31)) [] [] f fd) : KBd K fd [("pot" : Str), ("many" : Str)] (kwL.getD 3 []) := by
  refine kbd_of F (fun _ _ _ _ _ _ us hl => match us, hl with | [a0, a1], _ => rfl) (fun q hq => ?_)
  have hq : q ∈ ([] : List (Nat × List Str × List Nat)) := hq
  exact absurd hq (by simp)
theorem sc_law_given : FnScope N_law_given [("pot" : Str)] (defScope (top 36)) := fnScope_by (by kernel_rfl)
theorem kb_law_given {K : PySem.W.Frag} {f : Addr} {fd : FuncData} (F : FunD K ("_law_given" : Str) ("_law_given" : Str) (defArgs (top 36)) (defBody (top 36)) (defScope (top 36)) [] [] f fd) : KBd K fd [("pot" : Str)] (kwL.getD 4 []) := by
  refine kbd_of F (fun _ _ _ _ _ _ us hl => match us, hl with | [a0], _ => rfl) (fun q hq => ?_)
  have hq : q ∈ ([] : List (Nat × List Str × List Nat)) := hq
  exact absurd hq (by simp)
theorem sc_law_same : FnScope N_law_same [("got" : Str), ("due" : Str)] (defScope (top 32)) := fnScope_by (by kernel_rfl)
theorem kb_law_same {K : PySem.W.Frag} {f : Addr} {fd : FuncData} (F : FunD K ("_law_same" : Str) ("_law_same" : Str) (defArgs (top 32)) (defBody (top 32)) (defScope (top 32)) [] [] f fd) : KBd K fd [("got" : Str), ("due" : Str)] (kwL.getD 5 []) := by
  refine kbd_of F (fun _ _ _ _ _ _ us hl => match us, hl with | [a0, a1], _ => rfl) (fun q hq => ?_)
  have hq : q ∈ ([] : List (Nat × List Str × List Nat)) := hq
  exact absurd hq (by simp)
theorem sc_law_kinds : FnScope N_law_kinds [("e" : Str)] (defScope (top 35)) := fnScope_by (by kernel_rfl)
theorem kb_law_kinds {K : PySem.W.Frag} {f : Addr} {fd : FuncData} (F : FunD K ("_law_kinds" : Str) ("_law_kinds" : Str) (defArgs (top 35)) (defBody (top 35)) (defScope (top 35)) [] [] f fd) : KBd K fd [("e" : Str)] (kwL.getD 6 []) := by
  refine kbd_of F (fun _ _ _ _ _ _ us hl => match us, hl with | [a0], _ => rfl) (fun q hq => ?_)
  have hq : q ∈ ([] : List (Nat × List Str × List Nat)) := hq
  exact absurd hq (by simp)
theorem sc_law_right : FnScope N_law_right [("caught" : Str), ("which" : Str), ("given" : Str)] (defScope (top 38)) := fnScope_by (by kernel_rfl)
theorem kb_law_right {K : PySem.W.Frag} {f : Addr} {fd : FuncData} (F : FunD K ("_law_right" : Str) ("_law_right" : Str) (defArgs (top 38)) (defBody (top 38)) (defScope (top 38)) [] [] f fd) : KBd K fd [("caught" : Str), ("which" : Str), ("given" : Str)] (kwL.getD 7 []) := by
  refine kbd_of F (fun _ _ _ _ _ _ us hl => match us, hl with | [a0, a1, a2], _ => rfl) (fun q hq => ?_)
  have hq : q ∈ ([] : List (Nat × List Str × List Nat)) := hq
  exact absurd hq (by simp)
theorem sc_law : FnScope N_law [("script" : Str)] (defScope (top 39)) := fnScope_by (by kernel_rfl)
theorem kb_law {K : PySem.W.Frag} {f : Addr} {fd : FuncData} (F : FunD K ("law" : Str) ("law" : Str) (defArgs (top 39)) (defBody (top 39)) (defScope (top 39)) [] [] f fd) : KBd K fd [("script" : Str)] (kwL.getD 8 []) := by
  refine kbd_of F (fun _ _ _ _ _ _ us hl => match us, hl with | [a0], _ => rfl) (fun q hq => ?_)
  have hq : q ∈ ([] : List (Nat × List Str × List Nat)) := hq
  exact absurd hq (by simp)
def rootC : Stmt := clsInit (top 1)
theorem scRoot : FnScope ["self", "value"] ["self", "value"] (defScope rootC) := fnScope_by (by kernel_rfl)
def fnD : List He.DefD := [⟨(("TossError" : Str), some "__init__"), "__init__", ("TossError.__init__" : Str), defArgs rootC, defBody rootC, defScope rootC, [], []⟩, ⟨(("_law_raised_named" : Str), none), ("_law_raised_named" : Str), ("_law_raised_named" : Str), defArgs (top 34), defBody (top 34), defScope (top 34), [], []⟩, ⟨(("_law_raised" : Str), none), ("_law_raised" : Str), ("_law_raised" : Str), defArgs (top 33), defBody (top 33), defScope (top 33), [], []⟩, ⟨(("_law_caught" : Str), none), ("_law_caught" : Str), ("_law_caught" : Str), defArgs (top 37), defBody (top 37), defScope (top 37), [], []⟩, ⟨(("_law_take" : Str), none), ("_law_take" : Str), ("_law_take" : Str), defArgs (top 31), defBody (top 31), defScope (top 31), [], []⟩, ⟨(("_law_given" : Str), none), ("_law_given" : Str), ("_law_given" : Str), defArgs (top 36), defBody (top 36), defScope (top 36), [], []⟩, ⟨(("_law_same" : Str), none), ("_law_same" : Str), ("_law_same" : Str), defArgs (top 32), defBody (top 32), defScope (top 32), [], []⟩, ⟨(("_law_kinds" : Str), none), ("_law_kinds" : Str), ("_law_kinds" : Str), defArgs (top 35), defBody (top 35), defScope (top 35), [], []⟩, ⟨(("_law_right" : Str), none), ("_law_right" : Str), ("_law_right" : Str), defArgs (top 38), defBody (top 38), defScope (top 38), [], []⟩, ⟨(("law" : Str), none), ("law" : Str), ("law" : Str), defArgs (top 39), defBody (top 39), defScope (top 39), [], []⟩]
def namesL : List Str := [("_law_raised_named" : Str), ("_law_raised" : Str), ("_law_caught" : Str), ("_law_take" : Str), ("_law_given" : Str), ("_law_same" : Str), ("_law_kinds" : Str), ("_law_right" : Str), ("law" : Str)]
def chkL : PySem.W.Frag → Bool := facts namesL consL mthL clsL "TossError"
theorem all_ok {P : Program} {w : World} {K : PySem.W.Frag} {mg : Str → Option Value} {h : Heap} (X : K.In h) (G : h.Ns mainGlobals mg) (c : SaysW chkL fnD K) :
    ∃ fd, (∀ base : Heap, FnG P w K mg base (L2.CX P w) 22 (He.ga K ("law" : Str)) fd [("script" : Str)] (spF (kw K w) (caOf K clsL) (rnL.getD 8 false) F_law.sem 1)) ∧ ∀ (s : Shared) (u : Value), BindsTo s fd ⟨[u], []⟩ [(("script" : Str), u)] := by
  have hf := c.look
  obtain ⟨fdI, DI⟩ := c.def_ 0 (d := fnD.getD 0 ⟨("", none), "", "", defArgs (top 0), [], defScope (top 0), [], []⟩) rfl
  obtain ⟨fd_law_raised_named, D_law_raised_named⟩ := c.def_ 1 (d := fnD.getD 1 ⟨("", none), "", "", defArgs (top 0), [], defScope (top 0), [], []⟩) rfl
  have h_law_raised_named : mg ("_law_raised_named" : Str) = some (.ref (He.ga K ("_law_raised_named" : Str))) := facts_glo hf X G (by decide)
  obtain ⟨fd_law_raised, D_law_raised⟩ := c.def_ 2 (d := fnD.getD 2 ⟨("", none), "", "", defArgs (top 0), [], defScope (top 0), [], []⟩) rfl
  have h_law_raised : mg ("_law_raised" : Str) = some (.ref (He.ga K ("_law_raised" : Str))) := facts_glo hf X G (by decide)
  obtain ⟨fd_law_caught, D_law_caught⟩ := c.def_ 3 (d := fnD.getD 3 ⟨("", none), "", "", defArgs (top 0), [], defScope (top 0), [], []⟩) rfl
  have h_law_caught : mg ("_law_caught" : Str) = some (.ref (He.ga K ("_law_caught" : Str))) := facts_glo hf X G (by decide)
  obtain ⟨fd_law_take, D_law_take⟩ := c.def_ 4 (d := fnD.getD 4 ⟨("", none), "", "", defArgs (top 0), [], defScope (top 0), [], []⟩) rfl
  have h_law_take : mg ("_law_take" : Str) = some (.ref (He.ga K ("_law_take" : Str))) := facts_glo hf X G (by decide)
  obtain ⟨fd_law_given, D_law_given⟩ := c.def_ 5 (d := fnD.getD 5 ⟨("", none), "", "", defArgs (top 0), [], defScope (top 0), [], []⟩) rfl
  have h_law_given : mg ("_law_given" : Str) = some (.ref (He.ga K ("_law_given" : Str))) := facts_glo hf X G (by decide)
  obtain ⟨fd_law_same, D_law_same⟩ := c.def_ 6 (d := fnD.getD 6 ⟨("", none), "", "", defArgs (top 0), [], defScope (top 0), [], []⟩) rfl
  have h_law_same : mg ("_law_same" : Str) = some (.ref (He.ga K ("_law_same" : Str))) := facts_glo hf X G (by decide)
  obtain ⟨fd_law_kinds, D_law_kinds⟩ := c.def_ 7 (d := fnD.getD 7 ⟨("", none), "", "", defArgs (top 0), [], defScope (top 0), [], []⟩) rfl
  have h_law_kinds : mg ("_law_kinds" : Str) = some (.ref (He.ga K ("_law_kinds" : Str))) := facts_glo hf X G (by decide)
  obtain ⟨fd_law_right, D_law_right⟩ := c.def_ 8 (d := fnD.getD 8 ⟨("", none), "", "", defArgs (top 0), [], defScope (top 0), [], []⟩) rfl
  have h_law_right : mg ("_law_right" : Str) = some (.ref (He.ga K ("_law_right" : Str))) := facts_glo hf X G (by decide)
  obtain ⟨fd_law, D_law⟩ := c.def_ 9 (d := fnD.getD 9 ⟨("", none), "", "", defArgs (top 0), [], defScope (top 0), [], []⟩) rfl
  have h_law : mg ("law" : Str) = some (.ref (He.ga K ("law" : Str))) := facts_glo hf X G (by decide)
  refine ⟨fd_law, fun base => ?_, fun s u => FunD.bindsA (ps := [("script" : Str)]) D_law (fun _ _ _ _ _ _ us hl => match us, hl with | [_], _ => rfl) s [u] rfl⟩
  have hI : ∀ y ∈ clsL, ClsOk P w K mg base (caOf K clsL) y := by
    refine factsC_cls X G (facts_parts hf).2.2.2.2 (fun hv => init_ok DI scRoot (by kernel_rfl) (by kernel_rfl) (He.free_ok X G hv)) (DI.bindsN (ps := ["self", "value"]) (fun _ _ _ _ _ _ us hl => match us, hl with | [_, _], _ => rfl)) (kbd_of DI (fun _ _ _ _ _ _ us hl => match us, hl with | [_, _], _ => rfl) (fun q hq => ?_))
    rcases List.mem_cons.mp hq with rfl | hq
    · exact fun _ _ _ _ _ _ us ws h1 h2 => match us, ws, h1, h2 with | [_], [_], _, _ => rfl
    · simp at hq
  have k0 : FnsOk P w K mg base (caOf K clsL) (mc 0 [] []) ⟨[], consL⟩ 2 := FnsOk.zero hf X G rfl rfl rfl rfl hI
  have f_law_raised_named := fn_ok (m := m_law_raised_named) (g := ⟨[], consL⟩) (ps := [("which" : Str), ("given" : Str)]) (body := b_law_raised_named) (rn := rnL.getD 0 false) (k0.cong rfl rfl rfl rfl rfl rfl rfl) D_law_raised_named sc_law_raised_named (fun i hi => by revert i; decide) c_law_raised_named
  have k1 : FnsOk P w K mg base (caOf K clsL) (mc 1 [] []) ⟨[F_law_raised_named], consL⟩ 3 := k0.snoc (fi := F_law_raised_named) (by omega) rfl rfl rfl rfl rfl rfl rfl rfl rfl rfl rfl h_law_raised_named D_law_raised_named.kp f_law_raised_named (kb_law_raised_named D_law_raised_named)
  have f_law_raised := fn_ok (m := m_law_raised) (g := ⟨[F_law_raised_named], consL⟩) (ps := [("which" : Str), ("given" : Str)]) (body := b_law_raised) (rn := rnL.getD 1 false) (k1.cong rfl rfl rfl rfl rfl rfl rfl) D_law_raised sc_law_raised (fun i hi => by revert i; decide) c_law_raised
  have k2 : FnsOk P w K mg base (caOf K clsL) (mc 2 [] []) ⟨[F_law_raised_named, F_law_raised], consL⟩ 4 := k1.snoc (fi := F_law_raised) (by omega) rfl rfl rfl rfl rfl rfl rfl rfl rfl rfl rfl h_law_raised D_law_raised.kp f_law_raised (kb_law_raised D_law_raised)
  have f_law_caught := fn_ok (m := m_law_caught) (g := ⟨[F_law_raised_named, F_law_raised], consL⟩) (ps := [("which" : Str), ("given" : Str), ("named" : Str)]) (body := b_law_caught) (rn := rnL.getD 2 false) (k2.cong rfl rfl rfl rfl rfl rfl rfl) D_law_caught sc_law_caught (fun i hi => by revert i; decide) c_law_caught
  have k3 : FnsOk P w K mg base (caOf K clsL) (mc 3 [] []) ⟨[F_law_raised_named, F_law_raised, F_law_caught], consL⟩ 5 := k2.snoc (fi := F_law_caught) (by omega) rfl rfl rfl rfl rfl rfl rfl rfl rfl rfl rfl h_law_caught D_law_caught.kp f_law_caught (kb_law_caught D_law_caught)
  have f_law_take := fn_ok (m := m_law_take) (g := ⟨[F_law_raised_named, F_law_raised, F_law_caught], consL⟩) (ps := [("pot" : Str), ("many" : Str)]) (body := b_law_take) (rn := rnL.getD 3 false) (k3.cong rfl rfl rfl rfl rfl rfl rfl) D_law_take sc_law_take (fun i hi => by revert i; decide) c_law_take
  have k4 : FnsOk P w K mg base (caOf K clsL) (mc 4 [] []) ⟨[F_law_raised_named, F_law_raised, F_law_caught, F_law_take], consL⟩ 6 := k3.snoc (fi := F_law_take) (by omega) rfl rfl rfl rfl rfl rfl rfl rfl rfl rfl rfl h_law_take D_law_take.kp f_law_take (kb_law_take D_law_take)
  have f_law_given := fn_ok (m := m_law_given) (g := ⟨[F_law_raised_named, F_law_raised, F_law_caught, F_law_take], consL⟩) (ps := [("pot" : Str)]) (body := b_law_given) (rn := rnL.getD 4 false) (k4.cong rfl rfl rfl rfl rfl rfl rfl) D_law_given sc_law_given (fun i hi => by revert i; decide) c_law_given
  have k5 : FnsOk P w K mg base (caOf K clsL) (mc 5 [] []) ⟨[F_law_raised_named, F_law_raised, F_law_caught, F_law_take, F_law_given], consL⟩ 7 := k4.snoc (fi := F_law_given) (by omega) rfl rfl rfl rfl rfl rfl rfl rfl rfl rfl rfl h_law_given D_law_given.kp f_law_given (kb_law_given D_law_given)
  have f_law_same := rec_ok (m' := m_law_same) (sem := s_law_same) (n := ("_law_same" : Str)) (ps := [("got" : Str), ("due" : Str)]) (g := ⟨[F_law_raised_named, F_law_raised, F_law_caught, F_law_take, F_law_given], consL⟩) k5 D_law_same sc_law_same (fun i hi => by revert i; decide) c_law_same rfl (fun _ => rfl) rfl rfl rfl rfl rfl rfl rfl rfl h_law_same D_law_same.kp (kb_law_same D_law_same) 12
  have k6 : FnsOk P w K mg base (caOf K clsL) (mc 6 [] []) ⟨[F_law_raised_named, F_law_raised, F_law_caught, F_law_take, F_law_given, F_law_same], consL⟩ 19 := k5.snoc (fi := F_law_same) (by omega) rfl rfl rfl rfl rfl rfl rfl rfl rfl rfl rfl h_law_same D_law_same.kp f_law_same (kb_law_same D_law_same)
  have f_law_kinds := fn_ok (m := m_law_kinds) (g := ⟨[F_law_raised_named, F_law_raised, F_law_caught, F_law_take, F_law_given, F_law_same], consL⟩) (ps := [("e" : Str)]) (body := b_law_kinds) (rn := rnL.getD 6 false) (k6.cong rfl rfl rfl rfl rfl rfl rfl) D_law_kinds sc_law_kinds (fun i hi => by revert i; decide) c_law_kinds
  have k7 : FnsOk P w K mg base (caOf K clsL) (mc 7 [] []) ⟨[F_law_raised_named, F_law_raised, F_law_caught, F_law_take, F_law_given, F_law_same, F_law_kinds], consL⟩ 20 := k6.snoc (fi := F_law_kinds) (by omega) rfl rfl rfl rfl rfl rfl rfl rfl rfl rfl rfl h_law_kinds D_law_kinds.kp f_law_kinds (kb_law_kinds D_law_kinds)
  have f_law_right := fn_ok (m := m_law_right) (g := ⟨[F_law_raised_named, F_law_raised, F_law_caught, F_law_take, F_law_given, F_law_same, F_law_kinds], consL⟩) (ps := [("caught" : Str), ("which" : Str), ("given" : Str)]) (body := b_law_right) (rn := rnL.getD 7 false) (k7.cong rfl rfl rfl rfl rfl rfl rfl) D_law_right sc_law_right (fun i hi => by revert i; decide) c_law_right
  have k8 : FnsOk P w K mg base (caOf K clsL) (mc 8 [] []) ⟨[F_law_raised_named, F_law_raised, F_law_caught, F_law_take, F_law_given, F_law_same, F_law_kinds, F_law_right], consL⟩ 21 := k7.snoc (fi := F_law_right) (by omega) rfl rfl rfl rfl rfl rfl rfl rfl rfl rfl rfl h_law_right D_law_right.kp f_law_right (kb_law_right D_law_right)
  have f_law := fn_ok (m := m_law) (g := ⟨[F_law_raised_named, F_law_raised, F_law_caught, F_law_take, F_law_given, F_law_same, F_law_kinds, F_law_right], consL⟩) (ps := [("script" : Str)]) (body := b_law) (rn := rnL.getD 8 false) (k8.cong rfl rfl rfl rfl rfl rfl rfl) D_law sc_law (fun i hi => by revert i; decide) c_law
  exact f_law
def lvl : Nat := 22
end Lk57
end

section
set_option Elab.async false
set_option linter.all false
set_option maxRecDepth 100000
set_option maxHeartbeats 0
namespace Lk57
open PySem PySem.Spec PyProof.Rows L2 WT
abbrev rowR : PySem.W.OpenRow := PySem.W.OpenLaw.row PySem.Challenge.rw_wholetosses_k57_errors_of_games_and_sour
abbrev hk : PySem.W.Hook := hookW 6 chkL fnD
def ob (s : PySem.W.SharedT) : AlW := obsWG 6 chkL fnD (HandSHeadRun.getT s)
theorem ob_eq (s : PySem.W.SharedT) : ob s = hk.obs s.abs := obsWG_eq (HandSHeadRun.getT_eq s)
def loose : List Str := ([("TossError" : Str), ("InvalidNumber" : Str), ("InvalidShares" : Str), ("InvalidFigures" : Str), ("InvalidLeaves" : Str), ("InvalidMachine" : Str), ("InvalidRow" : Str), ("InvalidThing" : Str), ("InvalidPair" : Str), ("NeverEnds" : Str), ("NotDrawn" : Str), ("InvalidDice" : Str), ("InvalidTable" : Str), ("InvalidReader" : Str), ("NoTable" : Str), ("InvalidName" : Str), ("UnknownName" : Str), ("NothingToUndo" : Str), ("Unreadable" : Str), ("Unorderly" : Str), ("InvalidGame" : Str), ("InvalidRule" : Str), ("InvalidLot" : Str), ("InvalidPays" : Str), ("InvalidPrizes" : Str), ("InvalidSource" : Str), ("InvalidWord" : Str), ("NotEnding" : Str), ("NotSolo" : Str)] : List Str) ++ namesL.dropLast
theorem run (w : World) : HandSHeadRun.RunEqI rowR (PySem.W.view rowR.prog [39]) hk ob 16000 loose w := by
  unfold HandSHeadRun.RunEqI
  kernel_rfl
end Lk57
namespace Lk57
open HandSHeadRun PySem PySem.W PySem.Calls PyProof.Rows
abbrev prgQ : Program := view rowR.prog [39]
abbrev defD := HandSHeadRun.topDef rowR.prog 39
theorem asm1 : defOf prgQ rowR.name = some (defD, []) := by kernel_rfl
theorem asm2 : rowR.prog.theDef rowR.name = some (defD.params, defD.body, defD.scope) := by kernel_rfl
theorem asm3 : kwWritten? defD.params.kwonlyargs defD.params.kw_defaults = some [] := by rfl
theorem asm4 : (!rowR.writes || rowR.records.isEmpty) = true := by first | assumption | decide +kernel
theorem asm5 : rowR.wellSaid = true := by kernel_rfl
theorem asm6 : (chainsOk prgQ && opensWell rowR.prog && (frees rowR.toRowW && rowR.within.isEmpty)) = true := by kernel_rfl
theorem asm7 : rowR.prog.bare := ⟨rfl, rfl, rfl, rfl, rfl, by decide +kernel⟩
theorem asm8 : rowR.toRowW.promised := by w_witness2
theorem asm9 : defD.name = "law" := by kernel_rfl
theorem asm10 : defD.params.defaults = [] := by kernel_rfl
end Lk57
end

section
set_option Elab.async false
set_option linter.all false
set_option maxRecDepth 100000
set_option autoImplicit false
/-! P0: operations of data as rewriting rules. Own work. -/
namespace WT
open PySem
variable {α : Type}
def ilst (ns : List Int) : List D := ns.map D.int
@[simp] theorem ilst_nil : ilst [] = [] := (rfl)
@[simp] theorem ilst_cons (n : Int) (ns : List Int) : ilst (n :: ns) = .int n :: ilst ns := (rfl)
@[simp] theorem ilst_length (ns : List Int) : (ilst ns).length = ns.length := by simp [ilst]
@[simp] theorem ilst_append (a b : List Int) : ilst (a ++ b) = ilst a ++ ilst b := by simp [ilst]
def fr (p : Int × Int) : D := .tup [.int p.1, .int p.2]
@[simp] theorem fr_mk (a b : Int) : D.tup [.int a, .int b] = fr (a, b) := (rfl)

@[simp] theorem binD_add (a b : Int) : binD .Add (.int a) (.int b) = some (.int (a + b)) := (rfl)
@[simp] theorem binD_sub (a b : Int) : binD .Sub (.int a) (.int b) = some (.int (a - b)) := (rfl)
@[simp] theorem binD_mul (a b : Int) : binD .Mult (.int a) (.int b) = guardO (mulOK a b) (.int (a * b)) := (rfl)
@[simp] theorem binD_div (a b : Int) : binD .FloorDiv (.int a) (.int b) = (guardO (divOK b) (.int (a.fdiv b))).or (guardO (dv2OK a b) (.int (a.fdiv b))) := (rfl)
@[simp] theorem binD_mod (a b : Int) : binD .Mod (.int a) (.int b) = guardO (b ≠ 0) (.int (a.fmod b)) := (rfl)
@[simp] theorem binD_pow (a b : Int) : binD .Pow (.int a) (.int b) = guardO (pwOK a b) (.int (a ^ b.toNat)) := (rfl)
@[simp] theorem binD_addt (a b : List D) : binD .Add (.tup a) (.tup b) = guardO (a.length + b.length ≤ sizeLine) (.tup (a ++ b)) := (rfl)
@[simp] theorem binD_addl (a b : List D) : binD .Add (.lst a) (.lst b) = guardO (a.length + b.length ≤ sizeLine) (.lst (a ++ b)) := (rfl)
@[simp] theorem cmpD_lt (a b : Int) : cmpD .Lt (.int a) (.int b) = some (decide (a < b)) := (rfl)
@[simp] theorem cmpD_le (a b : Int) : cmpD .LtE (.int a) (.int b) = some (decide (a ≤ b)) := (rfl)
@[simp] theorem cmpD_gt (a b : Int) : cmpD .Gt (.int a) (.int b) = some (decide (b < a)) := (rfl)
@[simp] theorem cmpD_ge (a b : Int) : cmpD .GtE (.int a) (.int b) = some (decide (b ≤ a)) := (rfl)
@[simp] theorem cmpD_eq_non (b : D) : cmpD .Eq .non b = eqD .non b := (rfl)
@[simp] theorem cmpD_eq_bl (a : Bool) (b : D) : cmpD .Eq (.bl a) b = eqD (.bl a) b := (rfl)
@[simp] theorem cmpD_eq_int (a : Int) (b : D) : cmpD .Eq (.int a) b = eqD (.int a) b := (rfl)
@[simp] theorem cmpD_eq_str (a : Str) (b : D) : cmpD .Eq (.str a) b = eqD (.str a) b := (rfl)
@[simp] theorem cmpD_eq_tup (a : List D) (b : D) : cmpD .Eq (.tup a) b = eqD (.tup a) b := (rfl)
@[simp] theorem cmpD_eq_lst (a : List D) (b : D) : cmpD .Eq (.lst a) b = eqD (.lst a) b := (rfl)
@[simp] theorem cmpD_eq_fr (p : Int × Int) (b : D) : cmpD .Eq (fr p) b = eqD (fr p) b := (rfl)
@[simp] theorem cmpD_ne (a b : D) : cmpD .NotEq a b = (eqD a b).map (!·) := (rfl)
@[simp] theorem cmpD_is_non : cmpD .Is .non .non = some true := (rfl)
@[simp] theorem cmpD_is_bl (b : Bool) : cmpD .Is (.bl b) .non = some false := (rfl)
@[simp] theorem cmpD_is_int (b : Int) : cmpD .Is (.int b) .non = some false := (rfl)
@[simp] theorem cmpD_is_str (b : Str) : cmpD .Is (.str b) .non = some false := (rfl)
@[simp] theorem cmpD_is_tup (b : List D) : cmpD .Is (.tup b) .non = some false := (rfl)
@[simp] theorem cmpD_is_lst (b : List D) : cmpD .Is (.lst b) .non = some false := (rfl)
@[simp] theorem cmpD_isn_non : cmpD .IsNot .non .non = some false := (rfl)
@[simp] theorem cmpD_isn_tup (b : List D) : cmpD .IsNot (.tup b) .non = some true := (rfl)
@[simp] theorem cmpD_is_bb (a b : Bool) : cmpD .Is (.bl a) (.bl b) = some (decide (a = b)) := (rfl)
@[simp] theorem cmpD_isn_bb (a b : Bool) : cmpD .IsNot (.bl a) (.bl b) = some (!decide (a = b)) := (rfl)
@[simp] theorem cmpD_in_dK (a : D) (ks : List L2.Key) (vs : List D) : cmpD .In a (.dK ks vs) = (keyOf a).map fun k => (valP ks vs k).isSome := by cases a <;> rfl
@[simp] theorem cmpD_notin_dK (a : D) (ks : List L2.Key) (vs : List D) : cmpD .NotIn a (.dK ks vs) = (keyOf a).map fun k => !(valP ks vs k).isSome := by cases a <;> rfl
@[simp] theorem keyOf_int (i : Int) : keyOf (.int i) = some (.inl i) := (rfl)
@[simp] theorem keyOf_str (i : Str) : keyOf (.str i) = some (.inr i) := (rfl)
@[simp] theorem idxD_dK (st : Sto) (ks : List L2.Key) (vs : List D) (y : D) : idxD st (.dK ks vs) y = (keyOf y).bind fun k => valP ks vs k := by cases y <;> rfl
@[simp] theorem dputD_dK (ks : List L2.Key) (vs : List D) (y v : D) : dputD (.dK ks vs) y v = if noL v && decide (ks.length < sizeLine) then (keyOf y).map fun k => if (valP ks vs k).isSome then .dK ks (repP k v ks vs) else .dK (ks ++ [k]) (vs ++ [v]) else none := (rfl)
@[simp] theorem dgetoD_dK (ks : List L2.Key) (vs : List D) (y z : D) : dgetoD (.dK ks vs) y z = if noL z then (keyOf y).map fun k => (valP ks vs k).getD z else none := (rfl)
@[simp] theorem cmpD_in_dT (a : D) (ks : List NestedKey) (vs : List D) : cmpD .In a (.dT ks vs) = (keyTO a).map fun k => (valP ks vs k).isSome := by cases a <;> rfl
@[simp] theorem cmpD_notin_dT (a : D) (ks : List NestedKey) (vs : List D) : cmpD .NotIn a (.dT ks vs) = (keyTO a).map fun k => !(valP ks vs k).isSome := by cases a <;> rfl
@[simp] theorem idxD_dT (st : Sto) (ks : List NestedKey) (vs : List D) (y : D) : idxD st (.dT ks vs) y = (keyTO y).bind fun k => valP ks vs k := by cases y <;> rfl
@[simp] theorem dputD_dT (ks : List NestedKey) (vs : List D) (y v : D) : dputD (.dT ks vs) y v = if noL v && decide (ks.length < sizeLine) then (keyTO y).map fun k => if (valP ks vs k).isSome then .dT ks (repP k v ks vs) else .dT (ks ++ [k]) (vs ++ [v]) else none := (rfl)
/-- a pair's key -/
def kPr (a b : Int) : NestedKey := .tup [.num a, .num b]
@[simp] theorem keyTO_pair (a b : Int) : keyTO (.tup [.int a, .int b]) = some (kPr a b) := (rfl)
theorem kPr_inj {a b c d : Int} : kPr a b = kPr c d ↔ a = c ∧ b = d := by
  unfold kPr
  constructor
  · intro h; injection h with h; injection h with h1 h2; injection h2 with h2 h3; injection h1 with h1; injection h2 with h2; exact ⟨h1, h2⟩
  · rintro ⟨rfl, rfl⟩; rfl
@[simp] theorem biD_lend (st : Sto) (ks : List L2.Key) (vs : List D) : biD st .len [.dK ks vs] = some (.int ks.length) := (rfl)
@[simp] theorem truD_bl (st : Sto) (b : Bool) : truD st (.bl b) = some b := (rfl)
@[simp] theorem truD_non (st : Sto) : truD st .non = some false := (rfl)
@[simp] theorem truD_int (st : Sto) (i : Int) : truD st (.int i) = some (i != 0) := (rfl)
@[simp] theorem truD_lst (st : Sto) (xs : List D) : truD st (.lst xs) = some (!xs.isEmpty) := (rfl)
@[simp] theorem truD_tup (st : Sto) (xs : List D) : truD st (.tup xs) = some (!xs.isEmpty) := (rfl)
@[simp] theorem idxD_lst (st : Sto) (xs : List D) (i : Int) : idxD st (.lst xs) (.int i) = ixD xs i := (rfl)
@[simp] theorem idxD_tup (st : Sto) (xs : List D) (i : Int) : idxD st (.tup xs) (.int i) = ixD xs i := (rfl)
@[simp] theorem idxD_frz (st : Sto) (xs : List Int) (i : Int) : idxD st (.frz xs) (.int i) = ixD (xs.map D.int) i := (rfl)
@[simp] theorem idxD_ref (st : Sto) (k : Nat) (i : Int) : idxD st (.ref k) (.int i) = (st[k]?).bind fun xs => ixD xs i := (rfl)
theorem ixD_nat {xs : List α} {k : Nat} {x : α} (h : xs[k]? = some x) : ixD xs (k : Int) = some x := by
  unfold ixD L2.atI
  have hk : k < xs.length := (List.getElem?_eq_some_iff.mp h).1
  simp only [L2.ixN]
  rw [if_pos (by omega), if_pos (by omega)]
  simpa using h
@[simp] theorem ixD_0 (x : α) (xs : List α) : ixD (x :: xs) 0 = some x := ixD_nat (k := 0) rfl
@[simp] theorem ixD_1 (x y : α) (xs : List α) : ixD (x :: y :: xs) 1 = some y := ixD_nat (k := 1) rfl
@[simp] theorem ixD_2 (x y z : α) (xs : List α) : ixD (x :: y :: z :: xs) 2 = some z := ixD_nat (k := 2) rfl
@[simp] theorem ixD_last (x : α) (xs : List α) : ixD (xs ++ [x]) (-1) = some x := by
  unfold ixD L2.atI
  simp only [L2.ixN, List.length_append, List.length_singleton]
  rw [if_neg (by omega), if_pos (by omega)]
  have : (-1 + ((xs.length + 1 : Nat) : Int)).toNat = xs.length := by omega
  show (xs ++ [x])[(-1 + ((xs.length + 1 : Nat) : Int)).toNat]? = some x
  rw [this]
  simp
@[simp] theorem sliceD_lst (xs : List D) (a b : Option Int) : sliceD (.lst xs) a b = some (.lst (cutL xs a b)) := (rfl)
@[simp] theorem sliceD_tup (xs : List D) (a b : Option Int) : sliceD (.tup xs) a b = some (.tup (cutL xs a b)) := (rfl)
@[simp] theorem revD_tup (xs : List D) : revD (.tup xs) = some (.tup xs.reverse) := (rfl)
@[simp] theorem revD_lst (xs : List D) : revD (.lst xs) = some (.lst xs.reverse) := (rfl)
@[simp] theorem isiD_non (ts : List Ty) : isiD .non ts = some (ts.any fun t => ([] : List Ty).contains t) := (rfl)
@[simp] theorem isiD_bl (b : Bool) (ts : List Ty) : isiD (.bl b) ts = some (ts.any fun t => ([.bool, .int] : List Ty).contains t) := (rfl)
@[simp] theorem isiD_int (i : Int) (ts : List Ty) : isiD (.int i) ts = some (ts.any fun t => ([.int] : List Ty).contains t) := (rfl)
@[simp] theorem isiD_str (i : Str) (ts : List Ty) : isiD (.str i) ts = some (ts.any fun t => ([.str] : List Ty).contains t) := (rfl)
@[simp] theorem isiD_tup (i : List D) (ts : List Ty) : isiD (.tup i) ts = some (ts.any fun t => ([.tuple] : List Ty).contains t) := (rfl)
@[simp] theorem isiD_lst (i : List D) (ts : List Ty) : isiD (.lst i) ts = some (ts.any fun t => ([.list] : List Ty).contains t) := (rfl)
@[simp] theorem isiD_dK (ks : List L2.Key) (vs : List D) (ts : List Ty) : isiD (.dK ks vs) ts = some (ts.any fun t => ([.dict] : List Ty).contains t) := (rfl)
@[simp] theorem seqOf_lst (xs : List D) : seqOf (.lst xs) = some xs := (rfl)
@[simp] theorem seqOf_tup (xs : List D) : seqOf (.tup xs) = some xs := (rfl)
@[simp] theorem biD_lenl (st : Sto) (xs : List D) : biD st .len [.lst xs] = some (.int xs.length) := (rfl)
@[simp] theorem biD_lent (st : Sto) (xs : List D) : biD st .len [.tup xs] = some (.int xs.length) := (rfl)
@[simp] theorem biD_lenf (st : Sto) (xs : List Int) : biD st .len [.frz xs] = some (.int xs.length) := (rfl)
@[simp] theorem biD_int (st : Sto) (i : Int) : biD st .int [.int i] = some (.int i) := (rfl)
@[simp] theorem biD_intb (st : Sto) (b : Bool) : biD st .int [.bl b] = some (.int (if b then 1 else 0)) := (rfl)
@[simp] theorem biD_abs (st : Sto) (i : Int) : biD st .abs [.int i] = some (.int (if i < 0 then -i else i)) := (rfl)
@[simp] theorem biD_gcd (st : Sto) (i j : Int) : biD st .gcd [.int i, .int j] = some (.int (Nat.gcd i.natAbs j.natAbs : Nat)) := (rfl)
@[simp] theorem biD_max2 (st : Sto) (i j : Int) : biD st .max2 [.int i, .int j] = some (.int (if j > i then j else i)) := (rfl)
@[simp] theorem biD_min2 (st : Sto) (i j : Int) : biD st .min2 [.int i, .int j] = some (.int (if j < i then j else i)) := (rfl)
@[simp] theorem biD_tuplel (st : Sto) (xs : List D) : biD st .tuple [.lst xs] = some (.tup xs) := (rfl)
@[simp] theorem biD_tuplet (st : Sto) (xs : List D) : biD st .tuple [.tup xs] = some (.tup xs) := (rfl)
@[simp] theorem biD_listl (st : Sto) (xs : List D) : biD st .list [.lst xs] = some (.lst xs) := (rfl)
@[simp] theorem biD_listf (st : Sto) (ns : List Int) : biD st .list [.frz ns] = some (.lst (ilst ns)) := (rfl)
@[simp] theorem biD_listt (st : Sto) (xs : List D) : biD st .list [.tup xs] = some (.lst xs) := (rfl)
@[simp] theorem biD_sortd (st : Sto) (xs : List D) : biD st .sorted [.lst xs] = (intsD xs).bind fun ns => guardO (ns.length < 64) (.lst ((sortI ns).map D.int)) := (rfl)
@[simp] theorem intsD_ints (ns : List Int) : intsD (ilst ns) = some ns := by
  induction ns with
  | nil => rfl
  | cons n ns ih => rw [ilst_cons, intsD, ih]; rfl
theorem blsD_map (bs : List Bool) : blsD (bs.map D.bl) = some bs := by
  induction bs with
  | nil => rfl
  | cons n ns ih => rw [List.map_cons, blsD, ih]; rfl
theorem biD_all (st : Sto) (bs : List Bool) : biD st .all [.lst (bs.map D.bl)] = some (.bl (bs.all id)) := by
  show (blsD _).map _ = _
  rw [blsD_map]; rfl
@[simp] theorem op1D_bits (i : Int) : op1D .bits (.int i) = some (.int ((Builtin.Int.intBits i : Nat) : Int)) := (rfl)
@[simp] theorem op1D_lenSet (xs : List D) : op1D .lenSet (.lst xs) = (intsD xs).bind fun ns => guardO (ns.length ≤ 4000) (.int ((nubI ns).length : Nat)) := (rfl)
@[simp] theorem biD_sortdK (st : Sto) (ks : List L2.Key) (vs : List D) : biD st .sorted [.dK ks vs] = (keysI ks).bind fun ns => guardO (ns.length < 64) (.lst ((sortI ns).map D.int)) := (rfl)
@[simp] theorem op1D_sortD (ks : List L2.Key) (vs : List D) : op1D .sortD (.dK ks vs) = (keysI ks).bind fun ns => guardO (ns.length < 64) (.lst ((sortI ns).map D.int)) := (rfl)
@[simp] theorem op1D_sortSetT (xs : List D) : op1D .sortSet (.tup xs) = (prsD xs).bind fun ps => guardO ((nubL ps).length ≤ 62) (.lst ((sortL (nubL ps)).map fun l => .tup (l.map D.int))) := (rfl)
@[simp] theorem op1D_sortSet (xs : List D) : op1D .sortSet (.lst xs) = (intsD xs).bind fun ns => guardO (ns.length < 64) (.lst ((sortI (nubI ns)).map D.int)) := (rfl)
@[simp] theorem biD_comb (st : Sto) (n k : Int) : biD st .comb [.int n, .int k] = guardO (combOK n k) (.int (combI n k)) := (rfl)
@[simp] theorem biD_fact (st : Sto) (n : Int) : biD st .fact [.int n] = guardO (factOK n) (.int (factI n)) := (rfl)
theorem mulOK_r {i j : Int} (h1 : -(2 ^ 64) < j) (h2 : j < 2 ^ 64) : mulOK i j := .inl (.inr ⟨h1, h2⟩)
theorem mulOK_l {i j : Int} (h1 : -(2 ^ 64) < i) (h2 : i < 2 ^ 64) : mulOK i j := .inl (.inl ⟨h1, h2⟩)
theorem divOK_of {j : Int} (h : 0 < j) (h2 : j < 2 ^ 8999) : divOK j := by
  refine ⟨by omega, ?_⟩
  show j.natAbs.log2 < 9000
  have hj : j.natAbs < 2 ^ 9000 := by
    have : (j.natAbs : Int) < ((2 ^ 8999 : Nat) : Int) := by
      rw [Int.natCast_pow]
      have : (j.natAbs : Int) = j := by omega
      rw [this]; exact h2
    have h3 := Int.ofNat_lt.mp this
    exact Nat.lt_of_lt_of_le h3 (Nat.pow_le_pow_right (by omega) (by omega))
  exact (Nat.log2_lt (by omega)).mpr hj
theorem divOK_small {j : Int} (h : 0 < j) (h2 : j < 2 ^ 64) : divOK j := by
  refine ⟨by omega, ?_⟩
  show j.natAbs.log2 < 9000
  have hj : j.natAbs.log2 < 64 := (Nat.log2_lt (by omega)).mpr (by omega)
  omega
theorem fdiv_nn {a b : Int} (h : 0 ≤ b) : a.fdiv b = a / b := Int.fdiv_eq_ediv_of_nonneg a h
theorem fmod_nn {a b : Int} (h : 0 ≤ b) : a.fmod b = a % b := Int.fmod_eq_emod_of_nonneg a h

/-! data that == can look at -/
mutual
def okD : Nat → D → Bool
  | _, .non => true
  | _, .bl _ => true
  | _, .int _ => true
  | _, .str x => PyData.strOk x
  | 0, .tup _ => false
  | n + 1, .tup xs => okDs n xs
  | 0, .lst _ => false
  | n + 1, .lst xs => okDs n xs
  | _, .frz _ => false
  | _, .dK _ _ => false
  | _, .dT _ _ => false
  | _, .ref _ => false
  | _, .exc _ _ => false
def okDs : Nat → List D → Bool
  | _, [] => true
  | n, x :: xs => okD n x && okDs n xs
end
mutual
theorem okD_py : ∀ (d : D) (n : Nat), okD n d = true → ∃ p, toPy d = some p ∧ p.canLay0 = true ∧ p.depth ≤ n
  | .non, n, _ => ⟨_, rfl, rfl, Nat.zero_le _⟩
  | .bl _, n, _ => ⟨_, rfl, rfl, Nat.zero_le _⟩
  | .int _, n, _ => ⟨_, rfl, rfl, Nat.zero_le _⟩
  | .str x, n, h => ⟨_, rfl, by simpa [okD, PyData.canLay0] using h, Nat.zero_le _⟩
  | .tup xs, 0, h => by simp [okD] at h
  | .tup xs, n + 1, h => by
    obtain ⟨ps, h1, h2, h3⟩ := okDs_py xs n (by simpa [okD] using h)
    exact ⟨.tuple ps, by rw [toPy, h1]; rfl, by simpa [PyData.canLay0] using h2, by simp only [PyData.depth]; omega⟩
  | .lst xs, 0, h => by simp [okD] at h
  | .lst xs, n + 1, h => by
    obtain ⟨ps, h1, h2, h3⟩ := okDs_py xs n (by simpa [okD] using h)
    exact ⟨.list ps, by rw [toPy, h1]; rfl, by simpa [PyData.canLay0] using h2, by simp only [PyData.depth]; omega⟩
  | .frz _, n, h => by simp [okD] at h
  | .dK _ _, n, h => by simp [okD] at h
  | .dT _ _, n, h => by simp [okD] at h
  | .ref _, n, h => by simp [okD] at h
  | .exc _ _, n, h => by simp [okD] at h
theorem okDs_py : ∀ (xs : List D) (n : Nat), okDs n xs = true → ∃ ps, toPys xs = some ps ∧ PyData.canLayAll0 ps = true ∧ PyData.depthAll ps ≤ n
  | [], n, _ => ⟨[], rfl, rfl, Nat.zero_le _⟩
  | x :: xs, n, h => by
    have h' : okD n x = true ∧ okDs n xs = true := by simpa [okDs] using h
    obtain ⟨p, h1, h2, h3⟩ := okD_py x n h'.1
    obtain ⟨ps, k1, k2, k3⟩ := okDs_py xs n h'.2
    exact ⟨p :: ps, by rw [toPys, h1, k1], by simp [PyData.canLayAll0, h2, k2], by simp only [PyData.depthAll]; omega⟩
end
theorem okDs_all : ∀ (xs : List D) (n : Nat), okDs n xs = xs.all (okD n)
  | [], n => rfl
  | x :: xs, n => by rw [okDs, List.all_cons, okDs_all xs n]
theorem shaped_of {p : PyData} (h : p.canLay0 = true) (h2 : p.depth ≤ 64) : SeqAt.shaped p = true := by
  unfold SeqAt.shaped; rw [h]; simpa using h2
theorem eqD_of {a b : D} {p q : PyData} (h1 : toPy a = some p) (h2 : toPy b = some q) (h3 : p.canLay0 = true) (h4 : q.canLay0 = true) (h5 : p.depth ≤ 64) (h6 : q.depth ≤ 64) : eqD a b = some (PyData.eqv p q) := by
  unfold eqD eqD0
  rw [h1, h2]
  show (if SeqAt.shaped p = true ∧ SeqAt.shaped q = true then some (PyData.eqv p q) else none).or _ = _
  rw [if_pos ⟨shaped_of h3 h5, shaped_of h4 h6⟩]
  rfl
theorem eqD_refl {d : D} (h : okD 64 d = true) : eqD d d = some true := by
  obtain ⟨p, h1, h2, h3⟩ := okD_py d 64 h
  rw [eqD_of h1 h1 h2 h2 h3 h3, SeqAt.eqv_refl p h2]
@[simp] theorem eqD_int (a b : Int) : eqD (.int a) (.int b) = some (decide (a = b)) := by
  rw [eqD_of (p := .int a) (q := .int b) rfl rfl rfl rfl (Nat.zero_le _) (Nat.zero_le _)]
  rfl
@[simp] theorem eqD_bl (a b : Bool) : eqD (.bl a) (.bl b) = some (decide (a = b)) := by
  rw [eqD_of (p := .bool a) (q := .bool b) rfl rfl rfl rfl (Nat.zero_le _) (Nat.zero_le _)]
  rfl
theorem toPys_ints (ns : List Int) : toPys (ilst ns) = some (ns.map .int) := by
  induction ns with
  | nil => rfl
  | cons n ns ih => rw [ilst_cons, toPys, ih]; rfl
theorem canLay_ints (ns : List Int) : PyData.canLayAll0 (ns.map .int) = true := by
  induction ns with
  | nil => rfl
  | cons n ns ih => simp [PyData.canLayAll0, PyData.canLay0, ih]
theorem depth_ints (ns : List Int) : PyData.depthAll (ns.map .int) = 0 := by
  induction ns with
  | nil => rfl
  | cons n ns ih => simp [PyData.depthAll, PyData.depth, ih]
theorem eqv_ints : ∀ (a b : List Int), PyData.eqvAll (a.map .int) (b.map .int) = decide (a = b)
  | [], [] => rfl
  | [], _ :: _ => by simp [PyData.eqvAll]
  | _ :: _, [] => by simp [PyData.eqvAll]
  | x :: xs, y :: ys => by
    have h : (x == y) = decide (x = y) := rfl
    simp [PyData.eqvAll, PyData.eqv, eqv_ints xs ys, h]
theorem eqD_ints (a b : List Int) : eqD (.tup (ilst a)) (.tup (ilst b)) = some (decide (a = b)) := by
  rw [eqD_of (p := .tuple (a.map .int)) (q := .tuple (b.map .int)) (by rw [toPy, toPys_ints]; rfl) (by rw [toPy, toPys_ints]; rfl) (by simpa [PyData.canLay0] using canLay_ints a) (by simpa [PyData.canLay0] using canLay_ints b)
    (by simp [PyData.depth, depth_ints]) (by simp [PyData.depth, depth_ints])]
  rw [PyData.eqv, eqv_ints]
@[simp] theorem eqD_fr (p q : Int × Int) : eqD (fr p) (fr q) = some (decide (p = q)) := by
  have := eqD_ints [p.1, p.2] [q.1, q.2]
  rw [show D.tup (ilst [p.1, p.2]) = fr p from rfl, show D.tup (ilst [q.1, q.2]) = fr q from rfl] at this
  rw [this]
  congr 1
  obtain ⟨a, b⟩ := p; obtain ⟨c, d⟩ := q
  simp
theorem eqD0_is {a b : D} {r : Bool} (h : eqD0 a b = some r) : ∃ x y, toPy a = some x ∧ toPy b = some y ∧ r = PyData.eqv x y := by
  unfold eqD0 at h
  split at h
  · rename_i x y e1 e2
    split at h
    · cases h
      exact ⟨x, y, e1, e2, rfl⟩
    · cases h
  · cases h
theorem eqD0_tE {xs : List D} {b : Bool} (h : eqD0 (.tup xs) (.tup []) = some b) : b = xs.isEmpty := by
  obtain ⟨x, y, e1, e2, rfl⟩ := eqD0_is h
  cases e2
  unfold toPy at e1
  obtain ⟨ps, h1, rfl⟩ := Option.map_eq_some_iff.mp e1
  cases xs with
  | nil => cases h1; rfl
  | cons x xs => cases ps with
    | nil => unfold toPys at h1; split at h1 <;> simp at h1
    | cons p ps => rw [PyData.eqv, PyData.eqvAll]; rfl
theorem eqD0_lE {xs : List D} {b : Bool} (h : eqD0 (.lst xs) (.lst []) = some b) : b = xs.isEmpty := by
  obtain ⟨x, y, e1, e2, rfl⟩ := eqD0_is h
  cases e2
  unfold toPy at e1
  obtain ⟨ps, h1, rfl⟩ := Option.map_eq_some_iff.mp e1
  cases xs with
  | nil => cases h1; rfl
  | cons x xs => cases ps with
    | nil => unfold toPys at h1; split at h1 <;> simp at h1
    | cons p ps => rw [PyData.eqv, PyData.eqvAll]; rfl
/-- of anything -/
theorem eqD_tAny (xs : List D) : eqD (.tup xs) (.tup []) = some xs.isEmpty := by
  unfold eqD
  cases h : eqD0 (.tup xs) (.tup []) with
  | none => rfl
  | some b => rw [eqD0_tE h]; rfl
theorem eqD_lAny (xs : List D) : eqD (.lst xs) (.lst []) = some xs.isEmpty := by
  unfold eqD
  cases h : eqD0 (.lst xs) (.lst []) with
  | none => rfl
  | some b => rw [eqD0_lE h]; rfl
theorem eqD_tupE (ns : List Int) : eqD (.tup (ilst ns)) (.tup []) = some (decide (ns = [])) := eqD_ints ns []
theorem eqD_lstE {xs : List D} (h : okDs 63 xs = true) : eqD (.lst xs) (.lst []) = some xs.isEmpty := by
  obtain ⟨ps, h1, h2, h3⟩ := okDs_py xs 63 h
  rw [eqD_of (p := .list ps) (q := .list []) (by rw [toPy, h1]; rfl) rfl (by simpa [PyData.canLay0] using h2) rfl (by simp only [PyData.depth]; omega) (by decide)]
  congr 1
  cases xs with
  | nil => cases ps with
    | nil => rfl
    | cons p ps => simp [toPys] at h1
  | cons x xs => cases ps with
    | nil => unfold toPys at h1; split at h1 <;> simp at h1
    | cons p ps => rw [PyData.eqv, PyData.eqvAll]; rfl
@[simp] theorem okDs_ints (n : Nat) (ns : List Int) : okDs n (ilst ns) = true := by
  rw [okDs_all]; simp [ilst, okD]
theorem eqD_lstI (ns : List Int) : eqD (.lst (ilst ns)) (.lst []) = some (decide (ns = [])) := by
  rw [eqD_lstE (okDs_ints _ _)]; cases ns <;> rfl
/-! data that the law's look at likeness can go through -/
mutual
def alD : Nat → D → Bool
  | _, .non => true
  | _, .bl _ => true
  | _, .int _ => true
  | _, .str x => PyData.strOk x
  | 0, .tup _ => false
  | n + 1, .tup xs => decide (xs.length ≤ sizeLine) && alDs n xs
  | 0, .lst _ => false
  | n + 1, .lst xs => decide (xs.length ≤ sizeLine) && alDs n xs
  | _, .frz _ => false
  | _, .dK _ _ => false
  | _, .dT _ _ => false
  | _, .ref _ => false
  | _, .exc _ _ => false
def alDs : Nat → List D → Bool
  | _, [] => true
  | n, x :: xs => alD n x && alDs n xs
end
theorem alDs_all : ∀ (xs : List D) (n : Nat), alDs n xs = xs.all (alD n)
  | [], n => rfl
  | x :: xs, n => by rw [alDs, List.all_cons, alDs_all xs n]
@[simp] theorem alD_non (n : Nat) : alD n .non = true := by cases n <;> rfl
@[simp] theorem alD_bl (n : Nat) (b : Bool) : alD n (.bl b) = true := by cases n <;> rfl
@[simp] theorem alD_int (n : Nat) (b : Int) : alD n (.int b) = true := by cases n <;> rfl
@[simp] theorem alD_tup (n : Nat) (xs : List D) : alD (n + 1) (.tup xs) = (decide (xs.length ≤ sizeLine) && alDs n xs) := rfl
@[simp] theorem alD_lst (n : Nat) (xs : List D) : alD (n + 1) (.lst xs) = (decide (xs.length ≤ sizeLine) && alDs n xs) := rfl
@[simp] theorem alDs_nil (n : Nat) : alDs n [] = true := rfl
@[simp] theorem alDs_cons (n : Nat) (x : D) (xs : List D) : alDs n (x :: xs) = (alD n x && alDs n xs) := rfl
end WT
end

section
set_option Elab.async false
set_option linter.all false
set_option autoImplicit false
/-! Q1: fractions. Own work. -/
namespace WT
/-- in lowest terms, for b > 0 -/
def low (a b : Int) : Int × Int := (a / (Nat.gcd a.natAbs b.natAbs : Nat), b / (Nat.gcd a.natAbs b.natAbs : Nat))
/-- a fraction in lowest terms -/
def Lw (p : Int × Int) : Prop := 0 < p.2 ∧ Nat.gcd p.1.natAbs p.2.natAbs = 1
theorem gcd_pos_r {a b : Int} (h : 0 < b) : 0 < Nat.gcd a.natAbs b.natAbs := Nat.gcd_pos_of_pos_right _ (by omega)
theorem low_mul {a b : Int} (h : 0 < b) : (low a b).1 * (Nat.gcd a.natAbs b.natAbs : Nat) = a ∧ (low a b).2 * (Nat.gcd a.natAbs b.natAbs : Nat) = b := by
  have h1 : ((Nat.gcd a.natAbs b.natAbs : Nat) : Int) ∣ a := Int.ofNat_dvd_left.mpr (Nat.gcd_dvd_left _ _)
  have h2 : ((Nat.gcd a.natAbs b.natAbs : Nat) : Int) ∣ b := Int.ofNat_dvd_left.mpr (Nat.gcd_dvd_right _ _)
  exact ⟨Int.ediv_mul_cancel h1, Int.ediv_mul_cancel h2⟩
theorem low_lw {a b : Int} (h : 0 < b) : Lw (low a b) := by
  obtain ⟨h1, h2⟩ := low_mul (a := a) h
  have hg := gcd_pos_r (a := a) h
  generalize hgg : Nat.gcd a.natAbs b.natAbs = g at *
  have hp : 0 < (low a b).2 := by
    rcases Int.lt_or_le 0 (low a b).2 with hh | hh
    · exact hh
    · exfalso
      have : (low a b).2 * (g : Int) ≤ 0 * g := Int.mul_le_mul_of_nonneg_right hh (by omega)
      omega
  refine ⟨hp, ?_⟩
  have e1 : a.natAbs = (low a b).1.natAbs * g := by
    have := congrArg Int.natAbs h1
    rw [Int.natAbs_mul, Int.natAbs_natCast] at this
    exact this.symm
  have e2 : b.natAbs = (low a b).2.natAbs * g := by
    have := congrArg Int.natAbs h2
    rw [Int.natAbs_mul, Int.natAbs_natCast] at this
    exact this.symm
  have e3 : Nat.gcd ((low a b).1.natAbs * g) ((low a b).2.natAbs * g) = g := by rw [← e1, ← e2, hgg]
  rw [Nat.gcd_mul_right] at e3
  exact Nat.eq_of_mul_eq_mul_right hg (by omega)
theorem low_self {p : Int × Int} (h : Lw p) : low p.1 p.2 = p := by
  unfold low; rw [h.2]; simp
/-- two fractions in lowest terms with one value are one -/
theorem lw_ext {p q : Int × Int} (hp : Lw p) (hq : Lw q) (h : p.1 * q.2 = q.1 * p.2) : p = q := by
  obtain ⟨a, b⟩ := p; obtain ⟨c, d⟩ := q
  obtain ⟨hb, h1⟩ := hp
  obtain ⟨hd, h2⟩ := hq
  simp only at *
  have d1 : b.natAbs ∣ d.natAbs := by
    have : b.natAbs ∣ a.natAbs * d.natAbs := by
      rw [← Int.natAbs_mul, h, Int.natAbs_mul]; exact Nat.dvd_mul_left _ _
    exact (Nat.Coprime.symm h1).dvd_of_dvd_mul_left this
  have d2 : d.natAbs ∣ b.natAbs := by
    have : d.natAbs ∣ c.natAbs * b.natAbs := by
      rw [← Int.natAbs_mul, ← h, Int.natAbs_mul]; exact Nat.dvd_mul_left _ _
    exact (Nat.Coprime.symm h2).dvd_of_dvd_mul_left this
  have e : b = d := by have := Nat.dvd_antisymm d1 d2; omega
  subst e
  have : a = c := Int.eq_of_mul_eq_mul_right (by omega) h
  rw [this]
/-- the value -/
def val (p : Int × Int) : Rat := (p.1 : Rat) / (p.2 : Rat)
theorem cast_pos {b : Int} (h : 0 < b) : (0 : Rat) < (b : Rat) := Rat.intCast_pos.mpr h
theorem cast_ne {b : Int} (h : 0 < b) : (b : Rat) ≠ 0 := fun e => by have := Rat.intCast_inj.mp (e.trans rfl : (b : Rat) = ((0 : Int) : Rat)); omega
theorem val_eq {p q : Int × Int} (hp : 0 < p.2) (hq : 0 < q.2) : val p = val q ↔ p.1 * q.2 = q.1 * p.2 := by
  have h1 := cast_ne hp
  have h2 := cast_ne hq
  unfold val
  constructor
  · intro h
    have : (p.1 : Rat) * (q.2 : Rat) = (q.1 : Rat) * (p.2 : Rat) := by grind
    rw [← Rat.intCast_mul, ← Rat.intCast_mul] at this
    exact Rat.intCast_inj.mp this
  · intro h
    have : (p.1 : Rat) * (q.2 : Rat) = (q.1 : Rat) * (p.2 : Rat) := by
      rw [← Rat.intCast_mul, ← Rat.intCast_mul, h]
    grind
theorem val_inj {p q : Int × Int} (hp : Lw p) (hq : Lw q) (h : val p = val q) : p = q := lw_ext hp hq ((val_eq hp.1 hq.1).mp h)
theorem val_low {a b : Int} (h : 0 < b) : val (low a b) = (a : Rat) / (b : Rat) := by
  refine (val_eq (q := (a, b)) (low_lw h).1 h).mpr ?_
  obtain ⟨h1, h2⟩ := low_mul (a := a) h
  generalize ((Nat.gcd a.natAbs b.natAbs : Nat) : Int) = g at *
  show (low a b).1 * b = a * (low a b).2
  generalize low a b = q at *
  grind
def plusF (p q : Int × Int) : Int × Int := low (p.1 * q.2 + q.1 * p.2) (p.2 * q.2)
def timesF (p q : Int × Int) : Int × Int := low (p.1 * q.1) (p.2 * q.2)
theorem plusF_lw {p q : Int × Int} (hp : 0 < p.2) (hq : 0 < q.2) : Lw (plusF p q) := low_lw (Int.mul_pos hp hq)
theorem timesF_lw {p q : Int × Int} (hp : 0 < p.2) (hq : 0 < q.2) : Lw (timesF p q) := low_lw (Int.mul_pos hp hq)
theorem val_plusF {p q : Int × Int} (hp : 0 < p.2) (hq : 0 < q.2) : val (plusF p q) = val p + val q := by
  unfold plusF
  rw [val_low (Int.mul_pos hp hq)]
  have h1 := cast_ne hp
  have h2 := cast_ne hq
  unfold val
  rw [Rat.intCast_add, Rat.intCast_mul, Rat.intCast_mul, Rat.intCast_mul]
  grind
theorem val_timesF {p q : Int × Int} (hp : 0 < p.2) (hq : 0 < q.2) : val (timesF p q) = val p * val q := by
  unfold timesF
  rw [val_low (Int.mul_pos hp hq)]
  have h1 := cast_ne hp
  have h2 := cast_ne hq
  unfold val
  rw [Rat.intCast_mul, Rat.intCast_mul]
  grind
/-- the sum of all -/
def vsum : List (Int × Int) → Rat
  | [] => 0
  | p :: ps => val p + vsum ps
theorem vsum_append (a b : List (Int × Int)) : vsum (a ++ b) = vsum a + vsum b := by
  induction a with
  | nil => simp [vsum, Rat.zero_add]
  | cons p a ih => simp only [List.cons_append, vsum, ih]; rw [Rat.add_assoc]
def sumF (ps : List (Int × Int)) : Int × Int := ps.foldl plusF (0, 1)
theorem foldl_plusF : ∀ (ps : List (Int × Int)) (t : Int × Int), Lw t → (∀ p ∈ ps, 0 < p.2) → Lw (ps.foldl plusF t) ∧ val (ps.foldl plusF t) = val t + vsum ps
  | [], t, h, _ => ⟨h, by simp [vsum, Rat.add_zero]⟩
  | p :: ps, t, h, hp => by
    have h1 := hp p (by simp)
    obtain ⟨k1, k2⟩ := foldl_plusF ps (plusF t p) (plusF_lw h.1 h1) fun q hq => hp q (by simp [hq])
    refine ⟨k1, ?_⟩
    rw [List.foldl_cons, k2, val_plusF h.1 h1, vsum, Rat.add_assoc]
theorem sumF_spec {ps : List (Int × Int)} (h : ∀ p ∈ ps, 0 < p.2) : Lw (sumF ps) ∧ val (sumF ps) = vsum ps := by
  have := foldl_plusF ps (0, 1) ⟨by decide, by decide⟩ h
  refine ⟨this.1, this.2.trans ?_⟩
  have : val (0, 1) = 0 := by unfold val; grind
  rw [this, Rat.zero_add]
theorem val_one : val (1, 1) = 1 := by unfold val; grind
theorem sumF_one {ps : List (Int × Int)} (h : ∀ p ∈ ps, 0 < p.2) : sumF ps = (1, 1) ↔ vsum ps = 1 := by
  obtain ⟨h1, h2⟩ := sumF_spec h
  constructor
  · intro e; rw [← h2, e, val_one]
  · intro e; exact val_inj h1 ⟨by decide, by decide⟩ (by rw [h2, e, val_one])
end WT
end

section
set_option Elab.async false
set_option linter.all false
set_option maxRecDepth 100000
set_option autoImplicit false
/-! M2: loops over typed lists. Own work. -/
namespace WT
open PySem
variable {α β : Type}
theorem forD_map {tg : Tg} {b : Env → Sto → RS} {f : α → D} {ps : List α} {env : Env} {st : Sto} (I : List α → Env → Sto → Prop) {P : RS → Prop} (h0 : I [] env st)
    (hs : ∀ pre x post env st, ps = pre ++ x :: post → I pre env st → ∃ env1, bindTg tg (f x) env = some env1 ∧ stepOK (I (pre ++ [x])) P (b env1 st))
    (he : ∀ env st, I ps env st → P (.nx env st)) : P (forD tg b (ps.map f) env st) := by
  have key : ∀ (post pre : List α) (env : Env) (st : Sto), ps = pre ++ post → I pre env st → P (forD tg b (post.map f) env st) := by
    intro post
    induction post with
    | nil => intro pre env st e i; rw [List.append_nil] at e; subst e; exact he _ _ i
    | cons x post ih =>
      intro pre env st e i
      obtain ⟨env1, h1, h2⟩ := hs pre x post env st e i
      have e' : ps = (pre ++ [x]) ++ post := by rw [e]; simp
      have u : forD tg b ((x :: post).map f) env st = match b env1 st with
        | .nx env' st' => forD tg b (post.map f) env' st'
        | .ct env' st' => forD tg b (post.map f) env' st'
        | .bk env' st' => .nx env' st'
        | r => r := by rw [List.map_cons, forD, h1] <;> rfl
      rw [u]
      generalize b env1 st = r at h2
      cases h2 with
      | nx e s h2 => exact ih _ _ _ e' h2
      | ct e s h2 => exact ih _ _ _ e' h2
      | bk e s h2 => exact h2
      | rt d s h2 => exact h2
      | exn c d e s h2 => exact h2
  exact key ps [] env st rfl h0
theorem stepNx {I : Env → Sto → Prop} {P : RS → Prop} {r : RS} {e : Env} {s : Sto} (h : r = .nx e s) (hi : I e s) : stepOK I P r := by rw [h]; exact .nx _ _ hi
theorem stepRt {I : Env → Sto → Prop} {P : RS → Prop} {r : RS} {d : D} {s : Sto} (h : r = .rt d s) (hi : P (.rt d s)) : stepOK I P r := by rw [h]; exact .rt _ _ hi
theorem stepN {I : Env → Sto → Prop} {P : RS → Prop} {g : GE} {l : Ss} {env1 e : Env} {st s : Sto} (env0 : Env) (he : env1 = env0) (h : evSs g l env0 st = .nx e s) (hi : I e s) : stepOK I P (evSs g l env1 st) := by rw [he, h]; exact .nx _ _ hi
theorem stepR {I : Env → Sto → Prop} {P : RS → Prop} {g : GE} {l : Ss} {env1 : Env} {d : D} {st s : Sto} (env0 : Env) (he : env1 = env0) (h : evSs g l env0 st = .rt d s) (hi : P (.rt d s)) : stepOK I P (evSs g l env1 st) := by rw [he, h]; exact .rt _ _ hi
theorem bindTg_fr (i j : Nat) (p : Int × Int) (env : Env) : bindTg (.tup (.cons (.name i) (.cons (.name j) .nil))) (fr p) env = some ((env.set i (some (.int p.1))).set j (some (.int p.2))) := rfl
theorem gmul_r {i j : Int} {z : D} (h1 : -(2 ^ 64) < j) (h2 : j < 2 ^ 64) : guardO (mulOK i j) z = some z := guardO_true (mulOK_r h1 h2)
theorem gdiv {j : Int} {z : D} (h1 : 0 < j) (h2 : j < 2 ^ 64) : guardO (divOK j) z = some z := guardO_true (divOK_small h1 h2)
theorem compLoop_tm {f : D → Sto → R (Option D)} {st : Sto} (q : α → D) (h : α → Option D) : ∀ {ps : List α}, (∀ p ∈ ps, f (q p) st = .ok (h p) st) → compLoop f (ps.map q) st = .ok (ps.filterMap h) st
  | [], _ => rfl
  | x :: xs, hx => by
    rw [List.map_cons]
    unfold compLoop
    rw [hx x (by simp), R.bind_ok, compLoop_tm q h fun y hy => hx y (by simp [hy]), R.bind_ok]
    cases e : h x <;> simp [e]
theorem compLoop_mm {f : D → Sto → R (Option D)} {st : Sto} (q : α → D) (k : α → D) {ps : List α} (h : ∀ p ∈ ps, f (q p) st = .ok (some (k p)) st) : compLoop f (ps.map q) st = .ok (ps.map k) st := by
  rw [compLoop_tm q (fun p => some (k p)) h]
  congr 1
  exact List.filterMap_eq_map (f := k) ▸ rfl
theorem compLoop_mf {f : D → Sto → R (Option D)} {st : Sto} (q : α → D) (k : α → D) (c : α → Bool) {ps : List α} (h : ∀ p ∈ ps, f (q p) st = .ok (if c p then some (k p) else none) st) : compLoop f (ps.map q) st = .ok ((ps.filter c).map k) st := by
  rw [compLoop_tm q (fun p => if c p then some (k p) else none) h]
  congr 1
  clear h
  induction ps with
  | nil => rfl
  | cons p ps ih => by_cases e : c p = true <;> simp [e, ih]
def frs (ps : List (Int × Int)) : List D := ps.map fr
@[simp] theorem frs_length (ps : List (Int × Int)) : (frs ps).length = ps.length := by simp [frs]
def isInt : D → Bool
  | .int _ => true
  | _ => false
def plainD : D → Bool
  | .non | .bl _ | .int _ | .str _ | .tup _ | .lst _ => true
  | _ => false
@[simp] theorem plainD_non : plainD .non = true := (rfl)
@[simp] theorem plainD_bl (b : Bool) : plainD (.bl b) = true := (rfl)
@[simp] theorem plainD_int (b : Int) : plainD (.int b) = true := (rfl)
@[simp] theorem plainD_str (b : Str) : plainD (.str b) = true := (rfl)
@[simp] theorem plainD_tup (b : List D) : plainD (.tup b) = true := (rfl)
@[simp] theorem plainD_lst (b : List D) : plainD (.lst b) = true := (rfl)
@[simp] theorem isInt_int (b : Int) : isInt (.int b) = true := (rfl)
theorem pow60 {a b : Nat} (h : a ≤ b) : (60 : Int) ^ a ≤ 60 ^ b := by
  have : (60 ^ a : Nat) ≤ 60 ^ b := Nat.pow_le_pow_right (by omega) h
  have h2 := Int.ofNat_le.mpr this
  rwa [Int.natCast_pow, Int.natCast_pow] at h2
@[simp] theorem biD_all_map (st : Sto) (c : α → Bool) (ps : List α) : biD st .all [.lst (ps.map fun p => D.bl (c p))] = some (.bl (ps.all c)) := by
  have := biD_all st (ps.map c)
  rw [List.map_map] at this
  rw [show (ps.map fun p => D.bl (c p)) = ps.map (D.bl ∘ c) from rfl, this]
  simp [List.all_map]
@[simp] theorem fr_idx0 (st : Sto) (p : Int × Int) : idxD st (fr p) (.int 0) = some (.int p.1) := ixD_0 _ _
@[simp] theorem fr_idx1 (st : Sto) (p : Int × Int) : idxD st (fr p) (.int 1) = some (.int p.2) := ixD_1 _ _ _
theorem low_le {a b : Int} (h : 0 < b) : (low a b).2 ≤ b := by
  have h1 := low_mul (a := a) h
  have h2 := (low_lw (a := a) h).1
  have hg := gcd_pos_r (a := a) h
  generalize ((Nat.gcd a.natAbs b.natAbs : Nat)) = g at *
  have : (low a b).2 * 1 ≤ (low a b).2 * (g : Int) := Int.mul_le_mul_of_nonneg_left (by omega) (by omega)
  omega
/-! cuts, ranges -/
theorem cutL_from (xs : List α) (k : Nat) : cutL xs (some (k : Int)) none = xs.drop k := by
  unfold cutL
  rw [HT.sIx_nat, HT.sIx_none]
  by_cases h : k ≤ xs.length
  · rw [Nat.min_eq_left h]
    exact List.take_of_length_le (by simp)
  · rw [Nat.min_eq_right (by omega)]
    have e : xs.drop k = [] := List.drop_eq_nil_of_le (by omega)
    rw [e]
    simp
theorem cutL_to (xs : List α) (k : Nat) : cutL xs none (some (k : Int)) = xs.take k := by
  unfold cutL
  rw [HT.sIx_nat, HT.sIx_none]
  simp
theorem cutL_last (xs : List α) : cutL xs (some (-1)) none = xs.drop (xs.length - 1) := by
  unfold cutL
  have h : HT.sIx xs.length 0 (some (-1)) = xs.length - 1 := by
    show (if (-1 : Int) < 0 then ((-1 : Int) + (xs.length : Int)).toNat else min (-1 : Int).toNat xs.length) = _
    rw [if_pos (by decide)]
    omega
  rw [h, HT.sIx_none]
  exact List.take_of_length_le (by simp)
theorem rangeD_n (n : Nat) (h : n < 2 ^ 62) : rangeD 0 n 1 = some ((List.range n).map fun (k : Nat) => D.int (k : Int)) := by
  unfold rangeD
  rw [if_pos (by omega), if_pos rfl]
  congr 1
  rw [show ((n : Int) - 0).toNat = n by omega]
  refine List.map_congr_left fun k _ => ?_
  congr 1
  omega
theorem rangeD_2 (n : Nat) (h : n < 2 ^ 61) : rangeD 2 ((n + 2 : Nat) : Int) 1 = some ((List.range n).map fun (k : Nat) => D.int ((k + 2 : Nat) : Int)) := by
  unfold rangeD
  rw [if_pos (by omega), if_pos rfl]
  congr 1
  rw [show (((n + 2 : Nat) : Int) - 2).toNat = n by omega]
  refine List.map_congr_left fun k _ => ?_
  congr 1
  omega
theorem rangeD_0 (n : Int) (h : n ≤ 0) (h2 : -(2 ^ 62) ≤ n) : rangeD 0 n 1 = some [] := by
  unfold rangeD
  rw [if_pos (by omega), if_pos rfl]
  rw [show (n - 0).toNat = 0 by omega]
  rfl
/-! ascending -/
def ascI : List Int → Bool
  | [] => true
  | [_] => true
  | a :: b :: r => decide (a < b) && ascI (b :: r)
theorem ascI_zip : ∀ ns : List Int, (ns.zip (ns.drop 1)).all (fun p => decide (p.1 < p.2)) = ascI ns
  | [] => rfl
  | [_] => rfl
  | a :: b :: r => by
    have := ascI_zip (b :: r)
    simp only [List.drop_one, List.tail_cons, ascI] at this ⊢
    rw [← this]
    cases r <;> simp
theorem ascI_range : ∀ ns : List Int, ((List.range (ns.length - 1)).filter fun i => decide (ns.getD i 0 ≥ ns.getD (i + 1) 0)).isEmpty = ascI ns
  | [] => rfl
  | [_] => rfl
  | a :: b :: r => by
    have := ascI_range (b :: r)
    rw [show (a :: b :: r).length - 1 = (b :: r).length - 1 + 1 by simp, List.range_succ_eq_map, List.filter_cons]
    simp only [ascI]
    rw [← this, List.filter_map]
    by_cases h : a < b
    · simp [show ¬ b ≤ a by omega, h, Function.comp_def]
    · have : b ≤ a := by omega
      simp [this, h]
def big : D → Bool
  | .int i => decide (1 < i)
  | _ => false
def isDice : D → Bool
  | .tup xs => match intsD xs with
    | some ns => ns.all (fun n => decide (1 < n)) && ascI ns
    | none => false
  | _ => false
theorem big_all : ∀ xs : List D, xs.all big = match intsD xs with
    | some ns => ns.all fun n => decide (1 < n)
    | none => false
  | [] => rfl
  | .int i :: xs => by
    rw [List.all_cons, big_all xs, intsD]
    cases intsD xs <;> simp [big]
  | .non :: _ => by simp [big, intsD]
  | .bl _ :: _ => by simp [big, intsD]
  | .str _ :: _ => by simp [big, intsD]
  | .tup _ :: _ => by simp [big, intsD]
  | .lst _ :: _ => by simp [big, intsD]
  | .frz _ :: _ => by simp [big, intsD]
  | .dK _ _ :: _ => by simp [big, intsD]
  | .dT _ _ :: _ => by simp [big, intsD]
  | .ref _ :: _ => by simp [big, intsD]
  | .exc _ _ :: _ => by simp [big, intsD]
theorem intsD_eq : ∀ {xs : List D} {ns : List Int}, intsD xs = some ns → xs = ilst ns
  | [], ns, h => by cases h; rfl
  | .int i :: xs, ns, h => by
    rw [intsD] at h
    cases e : intsD xs with
    | none => rw [e] at h; cases h
    | some ms => rw [e] at h; cases h; rw [ilst_cons, ← intsD_eq e]
  | .non :: _, _, h => by simp [intsD] at h
  | .bl _ :: _, _, h => by simp [intsD] at h
  | .str _ :: _, _, h => by simp [intsD] at h
  | .tup _ :: _, _, h => by simp [intsD] at h
  | .lst _ :: _, _, h => by simp [intsD] at h
  | .frz _ :: _, _, h => by simp [intsD] at h
  | .dK _ _ :: _, _, h => by simp [intsD] at h
  | .dT _ _ :: _, _, h => by simp [intsD] at h
  | .ref _ :: _, _, h => by simp [intsD] at h
  | .exc _ _ :: _, _, h => by simp [intsD] at h
theorem plainD_of {n : Nat} {d : D} (h : okD n d = true) : plainD d = true := by cases d <;> simp [okD, plainD] at h ⊢
end WT
end

section
set_option Elab.async false
set_option linter.all false
set_option maxRecDepth 100000
set_option autoImplicit false
/-! M3: sorting, places in lists. Own work. -/
namespace WT
open PySem
variable {α : Type}
theorem insI_mem {x y : Int} : ∀ {l : List Int}, y ∈ insI x l ↔ y = x ∨ y ∈ l
  | [] => by simp [insI]
  | z :: l => by
    unfold insI
    split
    · simp
    · rw [List.mem_cons, insI_mem, List.mem_cons]
      constructor
      · rintro (h | h | h)
        · exact .inr (.inl h)
        · exact .inl h
        · exact .inr (.inr h)
      · rintro (h | h | h)
        · exact .inr (.inl h)
        · exact .inl h
        · exact .inr (.inr h)
theorem insI_len {x : Int} : ∀ {l : List Int}, (insI x l).length = l.length + 1
  | [] => rfl
  | z :: l => by
    unfold insI
    split
    · simp
    · simp [insI_len]
theorem insI_asc {x : Int} : ∀ {l : List Int}, l.Pairwise (· < ·) → x ∉ l → (insI x l).Pairwise (· < ·)
  | [], _, _ => by simp [insI]
  | z :: l, h, hx => by
    rw [List.pairwise_cons] at h
    have hz : x ≠ z := fun e => hx (by simp [e])
    have hl : x ∉ l := fun e => hx (by simp [e])
    unfold insI
    split
    · rename_i hle
      rw [List.pairwise_cons, List.pairwise_cons]
      refine ⟨fun y hy => ?_, h⟩
      rcases List.mem_cons.mp hy with rfl | hy
      · omega
      · have := h.1 y hy; omega
    · rename_i hle
      rw [List.pairwise_cons]
      refine ⟨fun y hy => ?_, insI_asc h.2 hl⟩
      rcases insI_mem.mp hy with rfl | hy
      · omega
      · exact h.1 y hy
theorem sortI_mem {y : Int} : ∀ {l : List Int}, y ∈ sortI l ↔ y ∈ l
  | [] => by simp [sortI]
  | x :: l => by
    show y ∈ insI x (sortI l) ↔ _
    rw [insI_mem, sortI_mem, List.mem_cons]
theorem sortI_len : ∀ {l : List Int}, (sortI l).length = l.length
  | [] => rfl
  | x :: l => by
    show (insI x (sortI l)).length = _
    rw [insI_len, sortI_len]; rfl
theorem sortI_asc : ∀ {l : List Int}, l.Nodup → (sortI l).Pairwise (· < ·)
  | [], _ => List.Pairwise.nil
  | x :: l, h => by
    rw [List.nodup_cons] at h
    show (insI x (sortI l)).Pairwise _
    exact insI_asc (sortI_asc h.2) fun e => h.1 (sortI_mem.mp e)
theorem ixD_some {xs : List α} {i : Int} (h : 0 ≤ i) (h2 : i < xs.length) : ∃ x ∈ xs, ixD xs i = some x := by
  obtain ⟨k, rfl⟩ : ∃ k : Nat, i = k := ⟨i.toNat, by omega⟩
  have hk : k < xs.length := by omega
  exact ⟨xs[k], List.getElem_mem hk, ixD_nat (List.getElem?_eq_getElem hk)⟩
theorem cutL_mem {xs : List α} {a b : Option Int} {x : α} (h : x ∈ cutL xs a b) : x ∈ xs := List.mem_of_mem_drop (List.mem_of_mem_take h)
theorem cutL_len (xs : List α) (a b : Option Int) : (cutL xs a b).length ≤ xs.length := by
  unfold cutL
  rw [List.length_take, List.length_drop]
  omega
theorem cutL_to_len (xs : List α) (k : Nat) : (cutL xs none (some (k : Int))).length ≤ xs.length := cutL_len _ _ _
theorem inD_ilst (x : Int) (ns : List Int) : inD (.int x) (ilst ns) = decide (x ∈ ns) := by
  unfold inD ilst
  rw [List.any_map]
  induction ns with
  | nil => rfl
  | cons n ns ih =>
    rw [List.any_cons, ih]
    by_cases h : n = x
    · subst h; simp [eqF]
    · have h2 : ¬ x = n := fun e => h e.symm
      have e1 : ((fun y => eqF y (D.int x)) ∘ D.int) n = false := by
        show (n == x) = false
        simpa using h
      rw [e1]
      simp [h2]
theorem flat_ilst (ns : List Int) : (ilst ns).all flatD = true := by
  unfold ilst; rw [List.all_map, List.all_eq_true]; intro x _; rfl
theorem cmpD_notin (x : Int) (ns : List Int) : cmpD .NotIn (.int x) (.lst (ilst ns)) = some (decide (x ∉ ns)) := by
  show guardO _ _ = _
  rw [guardO_true ⟨rfl, flat_ilst ns⟩, inD_ilst]
  by_cases h : x ∈ ns <;> simp [h]
/-- data for a look at likeness -/
structure NearOK (d : D) : Prop where
  o : okD 64 d = true
  z : ∀ xs, d = .tup xs → xs.length ≤ 1000
theorem okD_up : ∀ (n m : Nat), n ≤ m → ∀ d, okD n d = true → okD m d = true := by
  intro n
  induction n with
  | zero => intro m hm d h; cases d <;> first | (simp [okD] at h; done) | (cases m <;> first | rfl | (simpa [okD] using h))
  | succ n ih =>
    intro m hm d h
    obtain ⟨m, rfl⟩ : ∃ m', m = m' + 1 := ⟨m - 1, by omega⟩
    cases d with
    | tup xs =>
      rw [okD, okDs_all, List.all_eq_true] at h ⊢
      exact fun x hx => ih m (by omega) x (h x hx)
    | lst xs =>
      rw [okD, okDs_all, List.all_eq_true] at h ⊢
      exact fun x hx => ih m (by omega) x (h x hx)
    | str x => simpa [okD] using h
    | _ => first | (simp [okD] at h; done) | rfl
theorem NearOK.tup {xs : List D} (h : ∀ x ∈ xs, okD 63 x = true) (hl : xs.length ≤ 1000) : NearOK (.tup xs) :=
  ⟨by rw [okD, okDs_all, List.all_eq_true]; exact h, fun ys e => by cases e; exact hl⟩
theorem NearOK.lst {xs : List D} (h : ∀ x ∈ xs, okD 63 x = true) : NearOK (.lst xs) :=
  ⟨by rw [okD, okDs_all, List.all_eq_true]; exact h, fun ys e => by cases e⟩
end WT
end

section
set_option Elab.async false
set_option linter.all false
set_option maxRecDepth 100000
set_option autoImplicit false
/-! M4: comprehensions that change the store; sorting with twins; statements one behind another. Own work. -/
namespace WT
open PySem
variable {α : Type}
theorem compLoop_inv {f : D → Sto → R (Option D)} (I : Nat → Sto → Prop) (P : D → Prop) (N : Nat) : ∀ (xs : List D) (n : Nat) (st : Sto), n + xs.length ≤ N → I n st → (∀ x ∈ xs, ∀ j s, j < N → I j s → ∃ y s', f x s = .ok (some y) s' ∧ P y ∧ I (j + 1) s') →
    ∃ ys st', compLoop f xs st = .ok ys st' ∧ (∀ y ∈ ys, P y) ∧ ys.length = xs.length ∧ I (n + xs.length) st'
  | [], n, st, _, i, _ => ⟨[], st, rfl, fun _ h => by simp at h, rfl, i⟩
  | x :: xs, n, st, hN, i, h => by
    rw [List.length_cons] at hN
    obtain ⟨y, s1, e1, p1, i1⟩ := h x (by simp) n st (by omega) i
    obtain ⟨ys, s2, e2, p2, l2, i2⟩ := compLoop_inv I P N xs (n + 1) s1 (by omega) i1 fun z hz => h z (by simp [hz])
    refine ⟨y :: ys, s2, ?_, fun z hz => ?_, by rw [List.length_cons, List.length_cons, l2], by rw [List.length_cons]; exact (show n + 1 + xs.length = n + (xs.length + 1) by omega) ▸ i2⟩
    · unfold compLoop
      rw [e1, R.bind_ok, e2]
      rfl
    · rcases List.mem_cons.mp hz with rfl | hz
      · exact p1
      · exact p2 z hz
theorem insI_le {x : Int} : ∀ {l : List Int}, l.Pairwise (· ≤ ·) → (insI x l).Pairwise (· ≤ ·)
  | [], _ => by simp [insI]
  | z :: l, h => by
    rw [List.pairwise_cons] at h
    unfold insI
    split
    · rw [List.pairwise_cons, List.pairwise_cons]
      refine ⟨fun y hy => ?_, h⟩
      rcases List.mem_cons.mp hy with rfl | hy
      · assumption
      · have := h.1 y hy; omega
    · rw [List.pairwise_cons]
      refine ⟨fun y hy => ?_, insI_le h.2⟩
      rcases insI_mem.mp hy with rfl | hy
      · omega
      · exact h.1 y hy
theorem sortI_le : ∀ l : List Int, (sortI l).Pairwise (· ≤ ·)
  | [] => List.Pairwise.nil
  | x :: l => insI_le (sortI_le l)
/-- integers from 0 on, as integers -/
def nN (ns : List Nat) : List Int := ns.map fun (n : Nat) => (n : Int)
theorem nN_of {ns : List Int} (h : ∀ x ∈ ns, 0 ≤ x) : ∃ ms : List Nat, ns = nN ms := by
  refine ⟨ns.map Int.toNat, ?_⟩
  unfold nN
  rw [List.map_map]
  refine (List.map_id ns).symm.trans (List.map_congr_left fun x hx => ?_)
  have := h x hx
  simp only [id, Function.comp]
  omega
theorem nN_pair {ms : List Nat} {r : Int → Int → Prop} {s : Nat → Nat → Prop} (h : ∀ a b : Nat, r a b → s a b) (p : (nN ms).Pairwise r) : ms.Pairwise s := by
  unfold nN at p
  rw [List.pairwise_map] at p
  exact p.imp fun {a b} z => h a b z
/-- one statement, then the rest -/
theorem sq {g : GE} {s : S} {ss : Ss} {env env' : Env} {st st' : Sto} {r : RS} (h : evS g s env st = .nx env' st') (h2 : evSs g ss env' st' = r) : evSs g (.cons s ss) env st = r := by
  rw [evSs_cons, h]
  exact h2
/-- a statement that ends the suite -/
theorem sqR {g : GE} {s : S} {ss : Ss} {env : Env} {st st' : Sto} {d : D} (h : evS g s env st = .rt d st') : evSs g (.cons s ss) env st = .rt d st' := by
  rw [evSs_cons, h]
  rfl
theorem sqX {g : GE} {s : S} {ss : Ss} {env env' : Env} {st st' : Sto} {c : Str} {d : D} (h : evS g s env st = .exn c d env' st') : evSs g (.cons s ss) env st = .exn c d env' st' := by
  rw [evSs_cons, h]
  rfl
end WT
end

section
set_option Elab.async false
set_option linter.all false
set_option maxRecDepth 100000
set_option autoImplicit false
/-! M5: sums kept by keys; evaluation step by step. Own work. -/
namespace WT
open PySem
/-! ### sums kept by keys -/
section
variable {α κ : Type} [DecidableEq α] [DecidableEq κ]
def addQ : List (α × Nat) → α → Nat → List (α × Nat)
  | [], k, v => [(k, v)]
  | p :: q, k, v => if p.1 = k then (p.1, p.2 + v) :: q else p :: addQ q k v
def lookQ : List (α × Nat) → α → Option Nat
  | [], _ => none
  | p :: q, k => if p.1 = k then some p.2 else lookQ q k
def keyQ (f : α → κ) (q : List (α × Nat)) : List κ := q.map fun p => f p.1
def valQ (q : List (α × Nat)) : List D := q.map fun p => D.int (p.2 : Int)
theorem valP_Q {f : α → κ} (hf : ∀ a b, f a = f b → a = b) (k : α) : ∀ q : List (α × Nat), valP (keyQ f q) (valQ q) (f k) = (lookQ q k).map fun (n : Nat) => D.int (n : Int)
  | [] => rfl
  | p :: q => by
    show (if f p.1 = f k then some (D.int (p.2 : Int)) else valP (keyQ f q) (valQ q) (f k)) = _
    unfold lookQ
    by_cases h : p.1 = k
    · rw [if_pos (by rw [h]), if_pos h]; rfl
    · rw [if_neg fun e => h (hf _ _ e), if_neg h]
      exact valP_Q hf k q
theorem look_none {k : α} : ∀ {q : List (α × Nat)}, k ∉ q.map (·.1) → lookQ q k = none
  | [], _ => rfl
  | p :: q, h => by
    unfold lookQ
    rw [if_neg fun e => h (by simp [e])]
    exact look_none fun hq => h (by simp [hq])
theorem look_some {k : α} {n : Nat} : ∀ {q : List (α × Nat)}, lookQ q k = some n → k ∈ q.map (·.1)
  | [], h => by cases h
  | p :: q, h => by
    unfold lookQ at h
    by_cases e : p.1 = k
    · simp [e]
    · rw [if_neg e] at h
      simp [look_some h]
theorem rep_id {f : α → κ} (hf : ∀ a b, f a = f b → a = b) {k : α} (v : D) : ∀ {q : List (α × Nat)}, k ∉ q.map (·.1) → repP (f k) v (keyQ f q) (valQ q) = valQ q
  | [], _ => rfl
  | p :: q, h => by
    show (if f p.1 = f k then v else D.int (p.2 : Int)) :: repP (f k) v (keyQ f q) (valQ q) = D.int (p.2 : Int) :: valQ q
    rw [if_neg fun e => h (by simp [hf _ _ e]), rep_id hf v fun hq => h (by simp [hq])]
theorem rep_Q {f : α → κ} (hf : ∀ a b, f a = f b → a = b) {k : α} {n v : Nat} : ∀ {q : List (α × Nat)}, lookQ q k = some n → (q.map (·.1)).Nodup → keyQ f (addQ q k v) = keyQ f q ∧ repP (f k) (.int ((n : Int) + (v : Int))) (keyQ f q) (valQ q) = valQ (addQ q k v)
  | [], h, _ => by cases h
  | p :: q, h, hn => by
    rw [List.map_cons, List.nodup_cons] at hn
    unfold lookQ at h
    unfold addQ
    by_cases e : p.1 = k
    · rw [if_pos e] at h ⊢
      cases h
      refine ⟨rfl, ?_⟩
      show (if f p.1 = f k then D.int ((p.2 : Int) + (v : Int)) else D.int (p.2 : Int)) :: repP (f k) _ (keyQ f q) (valQ q) = D.int ((p.2 + v : Nat) : Int) :: valQ q
      rw [if_pos (by rw [e]), rep_id hf _ (by rw [← e]; exact hn.1)]
      rfl
    · rw [if_neg e] at h ⊢
      obtain ⟨h1, h2⟩ := rep_Q hf (v := v) h hn.2
      refine ⟨?_, ?_⟩
      · show f p.1 :: keyQ f (addQ q k v) = _
        rw [h1]; rfl
      · show (if f p.1 = f k then _ else D.int (p.2 : Int)) :: repP (f k) _ (keyQ f q) (valQ q) = D.int (p.2 : Int) :: valQ (addQ q k v)
        rw [if_neg fun z => e (hf _ _ z), h2]
theorem add_new {k : α} {v : Nat} : ∀ {q : List (α × Nat)}, lookQ q k = none → addQ q k v = q ++ [(k, v)]
  | [], _ => rfl
  | p :: q, h => by
    unfold lookQ at h
    unfold addQ
    by_cases e : p.1 = k
    · rw [if_pos e] at h; cases h
    · rw [if_neg e] at h ⊢
      rw [add_new h]; rfl
theorem add_mem {k a : α} {v : Nat} : ∀ {q : List (α × Nat)}, a ∈ (addQ q k v).map (·.1) ↔ a = k ∨ a ∈ q.map (·.1)
  | [] => by simp [addQ]
  | p :: q => by
    unfold addQ
    by_cases e : p.1 = k
    · rw [if_pos e]
      simp only [List.map_cons, List.mem_cons]
      rw [e]
      constructor
      · intro h; exact .inr h
      · rintro (h | h)
        · exact .inl h
        · exact h
    · rw [if_neg e, List.map_cons, List.mem_cons, add_mem, List.map_cons, List.mem_cons]
      constructor
      · rintro (h | h | h) <;> simp [h]
      · rintro (h | h | h) <;> simp [h]
theorem add_nodup {k : α} {v : Nat} : ∀ {q : List (α × Nat)}, (q.map (·.1)).Nodup → ((addQ q k v).map (·.1)).Nodup
  | [], _ => by simp [addQ]
  | p :: q, h => by
    rw [List.map_cons, List.nodup_cons] at h
    unfold addQ
    by_cases e : p.1 = k
    · rw [if_pos e, List.map_cons, List.nodup_cons]
      exact h
    · rw [if_neg e, List.map_cons, List.nodup_cons]
      refine ⟨fun hm => ?_, add_nodup h.2⟩
      rcases add_mem.mp hm with h1 | h1
      · exact e h1
      · exact h.1 h1
theorem add_len {k : α} {v : Nat} : ∀ {q : List (α × Nat)}, (addQ q k v).length ≤ q.length + 1
  | [] => by simp [addQ]
  | p :: q => by
    unfold addQ
    split
    · simp
    · have := add_len (k := k) (v := v) (q := q)
      simp only [List.length_cons]
      omega
/-- every item holds, when what is added does -/
theorem add_all {P : α → Nat → Prop} {k : α} {v : Nat} : ∀ {q : List (α × Nat)}, (∀ p ∈ q, P p.1 p.2) → (lookQ q k = none → P k v) → (∀ n, lookQ q k = some n → P k (n + v)) → ∀ p ∈ addQ q k v, P p.1 p.2
  | [], _, h, _, p, hp => by
    rw [List.mem_singleton.mp hp]
    exact h rfl
  | r :: q, hq, h1, h2, p, hp => by
    unfold addQ at hp
    unfold lookQ at h1 h2
    by_cases e : r.1 = k
    · rw [if_pos e] at hp
      rcases List.mem_cons.mp hp with rfl | hp
      · have := h2 r.2 (by rw [if_pos e])
        rw [← e] at this
        exact this
      · exact hq p (by simp [hp])
    · rw [if_neg e] at hp h1 h2
      rcases List.mem_cons.mp hp with rfl | hp
      · exact hq p (by simp)
      · exact add_all (fun z hz => hq z (by simp [hz])) h1 h2 p hp
end

/-! d[k] = d.get(k, 0) + v -/
section
variable {α : Type} [DecidableEq α]
theorem put_addQ {f : α → NestedKey} (hf : ∀ a b, f a = f b → a = b) {k : α} {v : Nat} {y : D} {q : List (α × Nat)} (hy : keyTO y = some (f k)) (hn : (q.map (·.1)).Nodup) (hl : q.length < sizeLine) {n : Nat} (h : (lookQ q k).getD 0 = n) :
    dputD (.dT (keyQ f q) (valQ q)) y (.int ((n : Int) + (v : Int))) = some (.dT (keyQ f (addQ q k v)) (valQ (addQ q k v))) := by
  have hl2 : (keyQ f q).length < sizeLine := by unfold keyQ; rw [List.length_map]; exact hl
  rw [dputD_dT, if_pos (by rw [show noL (D.int ((n : Int) + (v : Int))) = true from rfl, Bool.true_and]; exact decide_eq_true hl2), hy, Option.map_some, valP_Q hf]
  cases e : lookQ q k with
  | none =>
    rw [e] at h
    cases h
    rw [Option.map_none, Option.isSome_none, if_neg (by simp), add_new e]
    unfold keyQ valQ
    rw [List.map_append, List.map_append, List.map_singleton, List.map_singleton]
    congr 4
    show D.int (((0 : Nat) : Int) + (v : Int)) = D.int (v : Int)
    rw [show ((0 : Nat) : Int) + (v : Int) = (v : Int) by omega]
  | some a =>
    rw [e] at h
    cases h
    obtain ⟨h1, h2⟩ := rep_Q hf (v := v) e hn
    rw [Option.map_some, Option.isSome_some, if_pos rfl, h1]
    show some (D.dT (keyQ f q) (repP (f k) (D.int ((a : Int) + (v : Int))) (keyQ f q) (valQ q))) = _
    rw [h2]
theorem get_Q {f : α → NestedKey} (hf : ∀ a b, f a = f b → a = b) {k : α} {y : D} {q : List (α × Nat)} (hy : keyTO y = some (f k)) : dgetoD (.dT (keyQ f q) (valQ q)) y (.int 0) = some (.int (((lookQ q k).getD 0 : Nat) : Int)) := by
  show (if noL (D.int 0) then (keyTO y).map fun k => (valP (keyQ f q) (valQ q) k).getD (D.int 0) else none) = _
  rw [if_pos (show noL (D.int 0) = true from rfl), hy, Option.map_some, valP_Q hf]
  cases lookQ q k <;> rfl
theorem idx_Q {f : α → NestedKey} (hf : ∀ a b, f a = f b → a = b) {k : α} {y : D} {q : List (α × Nat)} (st : Sto) (hy : keyTO y = some (f k)) {n : Nat} (h : lookQ q k = some n) : idxD st (.dT (keyQ f q) (valQ q)) y = some (.int (n : Int)) := by
  rw [idxD_dT, hy, Option.bind_some, valP_Q hf, h]
  rfl
theorem look_mem {k : α} {n : Nat} : ∀ {q : List (α × Nat)}, (q.map (·.1)).Nodup → (k, n) ∈ q → lookQ q k = some n
  | [], _, h => by simp at h
  | p :: q, hn, h => by
    rw [List.map_cons, List.nodup_cons] at hn
    unfold lookQ
    rcases List.mem_cons.mp h with rfl | h
    · rw [if_pos rfl]
    · rw [if_neg fun e => hn.1 (by rw [e]; exact List.mem_map.mpr ⟨_, h, rfl⟩)]
      exact look_mem hn.2 h
def sumN (f : α → Nat) (q : List (α × Nat)) : Nat := (q.map fun x => x.2 * f x.1).sum
theorem sumN_add (f : α → Nat) {k : α} {v : Nat} : ∀ {q : List (α × Nat)}, sumN f (addQ q k v) = sumN f q + v * f k
  | [] => by simp [sumN, addQ]
  | p :: q => by
    have ih := sumN_add f (k := k) (v := v) (q := q)
    unfold sumN at ih ⊢
    unfold addQ
    by_cases e : p.1 = k
    · rw [if_pos e, List.map_cons, List.map_cons, List.sum_cons, List.sum_cons, e, Nat.add_mul]
      omega
    · rw [if_neg e, List.map_cons, List.map_cons, List.sum_cons, List.sum_cons, ih]
      omega
theorem sumN_look {k : α} : ∀ {q : List (α × Nat)}, (q.map (·.1)).Nodup → sumN (fun x => if x = k then 1 else 0) q = (lookQ q k).getD 0
  | [], _ => rfl
  | p :: q, hn => by
    rw [List.map_cons, List.nodup_cons] at hn
    have ih := sumN_look (k := k) hn.2
    unfold sumN at ih ⊢
    unfold lookQ
    rw [List.map_cons, List.sum_cons, ih]
    show p.2 * (if p.1 = k then 1 else 0) + _ = _
    by_cases e : p.1 = k
    · rw [if_pos e, if_pos e, look_none (by rw [← e]; exact hn.1)]
      simp
    · rw [if_neg e, if_neg e]
      simp
end
theorem pre_range {n : Nat} {pre post : List Nat} {i : Nat} (e : List.range n = pre ++ i :: post) : i = pre.length ∧ pre.length < n := by
  have h1 := congrArg (fun l => l[pre.length]?) e
  have h2 := congrArg List.length e
  rw [List.length_range, List.length_append, List.length_cons] at h2
  simp only [List.getElem?_append_right (Nat.le_refl _), Nat.sub_self, List.getElem?_cons_zero] at h1
  rw [List.getElem?_range (by omega)] at h1
  exact ⟨(Option.some.inj h1).symm, by omega⟩
/-! ### evaluation, step by step -/
section
variable {g : GE} {env env' : WT.Env} {st st1 st2 st3 : Sto}
theorem ev_var {i : Nat} {d : D} (h : slot env i = some d) : evE g (.var i) env st = .ok d st := by rw [evE_var, h]; rfl
theorem es_nil' : evEs g .nil env st = .ok [] st := rfl
theorem es_c {e : E} {es : Es} {x : D} {xs : List D} (h : evE g e env st = .ok x st1) (h2 : evEs g es env st1 = .ok xs st2) : evEs g (.cons e es) env st = .ok (x :: xs) st2 := by
  rw [evEs_cons, h, R.bind_ok, kEs_ap, h2]; rfl
theorem ev_lst' {es : Es} {xs : List D} (h : evEs g es env st = .ok xs st1) (hz : xs.length ≤ sizeLine) : evE g (.lst es) env st = .ok (.lst xs) st1 := by
  show (evEs g es env st).bind (fun xs st1 => R.ofO st1 (guardO (xs.length ≤ sizeLine) (D.lst xs))) = _
  rw [h, R.bind_ok, guardO_true hz]; rfl
theorem ev_tup' {es : Es} {xs : List D} (h : evEs g es env st = .ok xs st1) (hz : xs.length ≤ sizeLine) : evE g (.tup es) env st = .ok (.tup xs) st1 := by
  show (evEs g es env st).bind (fun xs st1 => R.ofO st1 (guardO (xs.length ≤ sizeLine) (D.tup xs))) = _
  rw [h, R.bind_ok, guardO_true hz]; rfl
theorem ev_iT {c a b : E} {x d : D} (h : evE g c env st = .ok x st1) (hx : truD st1 x = some true) (h2 : evE g a env st1 = .ok d st2) : evE g (.ife c a b) env st = .ok d st2 := by
  show (evE g c env st).bind _ = _
  rw [h, R.bind_ok, hx]; exact h2
theorem ev_iF {c a b : E} {x d : D} (h : evE g c env st = .ok x st1) (hx : truD st1 x = some false) (h2 : evE g b env st1 = .ok d st2) : evE g (.ife c a b) env st = .ok d st2 := by
  show (evE g c env st).bind _ = _
  rw [h, R.bind_ok, hx]; exact h2
theorem ev_aT {a b : E} {x d : D} (h : evE g a env st = .ok x st1) (hx : truD st1 x = some true) (h2 : evE g b env st1 = .ok d st2) : evE g (.and a b) env st = .ok d st2 := by
  show (evE g a env st).bind _ = _
  rw [h, R.bind_ok, hx]; exact h2
theorem ev_aF {a b : E} {x : D} (h : evE g a env st = .ok x st1) (hx : truD st1 x = some false) : evE g (.and a b) env st = .ok x st1 := by
  show (evE g a env st).bind _ = _
  rw [h, R.bind_ok, hx]
theorem ev_oT {a b : E} {x : D} (h : evE g a env st = .ok x st1) (hx : truD st1 x = some true) : evE g (.or a b) env st = .ok x st1 := by
  show (evE g a env st).bind _ = _
  rw [h, R.bind_ok, hx]
theorem ev_oF {a b : E} {x d : D} (h : evE g a env st = .ok x st1) (hx : truD st1 x = some false) (h2 : evE g b env st1 = .ok d st2) : evE g (.or a b) env st = .ok d st2 := by
  show (evE g a env st).bind _ = _
  rw [h, R.bind_ok, hx]; exact h2
theorem ev_nt {a : E} {x : D} {b : Bool} (h : evE g a env st = .ok x st1) (hx : truD st1 x = some b) : evE g (.not a) env st = .ok (.bl (!b)) st1 := by
  show (evE g a env st).bind _ = _
  rw [h, R.bind_ok, hx]; rfl
theorem ev_b {op : Operator} {a b : E} {x y z : D} (h : evE g a env st = .ok x st1) (h2 : evE g b env st1 = .ok y st2) (hz : binD op x y = some z) : evE g (.bin op a b) env st = .ok z st2 := by
  rw [evE_bin, h, R.bind_ok, kBin_ap, h2, R.bind_ok, kBin2_ap, hz]; rfl
theorem ev_c {op : CmpOp} {a b : E} {x y : D} {z : Bool} (h : evE g a env st = .ok x st1) (h2 : evE g b env st1 = .ok y st2) (hz : cmpD op x y = some z) : evE g (.cmp op a b) env st = .ok (.bl z) st2 := by
  show (evE g a env st).bind _ = _
  rw [h, R.bind_ok]
  show (evE g b env st1).bind _ = _
  rw [h2, R.bind_ok, hz]; rfl
theorem ev_x {a b : E} {x y z : D} (h : evE g a env st = .ok x st1) (h2 : evE g b env st1 = .ok y st2) (hz : idxD st2 x y = some z) : evE g (.idx a b) env st = .ok z st2 := by
  show (evE g a env st).bind _ = _
  rw [h, R.bind_ok]
  show (evE g b env st1).bind _ = _
  rw [h2, R.bind_ok, hz]; rfl
theorem ev_bi {f : Bi} {es : Es} {xs : List D} {z : D} (h : evEs g es env st = .ok xs st1) (hz : biD st1 f xs = some z) : evE g (.bi f es) env st = .ok z st1 := by
  show (evEs g es env st).bind _ = _
  rw [h, R.bind_ok, hz]; rfl
theorem ev_bi1 {f : Bi} {a : E} {x z : D} (h : evE g a env st = .ok x st1) (hz : biD st1 f [x] = some z) : evE g (.bi f (.cons a .nil)) env st = .ok z st1 := ev_bi (es_c h es_nil') hz
theorem ev_o1 {o : Op1} {a : E} {x z : D} (h : evE g a env st = .ok x st1) (hz : op1D o x = some z) : evE g (.op1 o a) env st = .ok z st1 := by
  rw [evE_op1, h, R.bind_ok, kOp1_ap, hz]; rfl
theorem ev_o2 {o : Op2} {a b : E} {x y z : D} (h : evE g a env st = .ok x st1) (ha : op2A o x = true) (h2 : evE g b env st1 = .ok y st2) (hz : op2D o x y = some z) : evE g (.op2 o a b) env st = .ok z st2 := by
  rw [evE_op2, h, R.bind_ok]
  show (if op2A o x then _ else _) = _
  rw [if_pos ha, h2, R.bind_ok, kOp22_ap, hz]; rfl
theorem ev_gt {d k e : E} {x y z w : D} (h : evE g d env st = .ok x st1) (hx : isDK x = true) (h2 : evE g k env st1 = .ok y st2) (h3 : evE g e env st2 = .ok z st3) (hw : dgetoD x y z = some w) : evE g (.dgeto d k e) env st = .ok w st3 := by
  rw [evE_dgeto, h, R.bind_ok]
  show (if isDK x then _ else _) = _
  rw [if_pos hx, h2, R.bind_ok, kDg2_ap, h3, R.bind_ok, kDg3_ap, hw]; rfl
theorem ev_is {a : E} {ts : List Ty} {t : Bool} {x : D} {z : Bool} (h : evE g a env st = .ok x st1) (hz : isiD x ts = some z) : evE g (.isi a ts t) env st = .ok (.bl z) st1 := by
  show (evE g a env st).bind _ = _
  rw [h, R.bind_ok, hz]; rfl
theorem ev_cl {f : Nat} {es kes : Es} {ord : List Nat} {xs zs : List D} {fi : FnI} {r : R D} (h : evEs g es env st = .ok xs st1) (h2 : evEs g kes env st1 = .ok zs st2) (hf : g.fns[f]? = some fi) (hl : xs.length + (permL ord zs).length = fi.ps.length) (hr : fi.sem (xs ++ permL ord zs) st2 = r) : evE g (.call f es kes ord) env st = r := by
  show (evEs g es env st).bind _ = _
  rw [h, R.bind_ok]
  show (evEs g kes env st1).bind _ = _
  rw [h2, R.bind_ok, hf]
  show (if xs.length + (permL ord zs).length = fi.ps.length then _ else _) = _
  rw [if_pos hl]
  exact hr
theorem s_pln {i : Nat} {b : E} {d : D} (h : evE g b env st = .ok d st2) : evS g (.set i .pln b) env st = .nx (env.set i (some d)) st2 := by
  rw [evS_set, h]; rfl
theorem s_own {i : Nat} {b : E} {d : D} (h : evE g b env st = .ok d st2) : evS g (.set i .own b) env st = .nx (env.set i (some d)) st2 := by
  rw [evS_set, h]; rfl
theorem s_ret {a : E} {d : D} (h : evE g a env st = .ok d st1) : evS g (.ret a) env st = .rt d st1 := by
  rw [evS_ret, h]; rfl
theorem s_drop {a : E} {d : D} (h : evE g a env st = .ok d st1) : evS g (.drop a) env st = .nx env st1 := by
  show (evE g a env st).toS env _ = _
  rw [h]; rfl
theorem s_iT {c : E} {a b : Ss} {x : D} {r : RS} (h : evE g c env st = .ok x st1) (hx : truD st1 x = some true) (h2 : evSs g a env st1 = r) : evS g (.ite c a b) env st = r := by
  show (evC g c env st).toS env _ = _
  unfold evC
  rw [h, R.bind_ok, hx]
  exact h2
theorem s_iF {c : E} {a b : Ss} {x : D} {r : RS} (h : evE g c env st = .ok x st1) (hx : truD st1 x = some false) (h2 : evSs g b env st1 = r) : evS g (.ite c a b) env st = r := by
  show (evC g c env st).toS env _ = _
  unfold evC
  rw [h, R.bind_ok, hx]
  exact h2
theorem s_for {tg : Tg} {it : It} {b : Ss} {xs : List D} {r : RS} (h : evIt g it env st = .ok xs st1) (h2 : forD tg (evSs g b) xs env st1 = r) : evS g (.for_ tg it b) env st = r := by
  rw [evS_for, h, R.toS_ok, kFor_ap]; exact h2
theorem s_setT {tg : Tg} {e : E} {d : D} (h : evE g e env st = .ok d st1) (hb : bindTg tg d env = some env') : evS g (.setT tg e) env st = .nx env' st1 := by
  show (evE g e env st).toS env _ = _
  rw [h, R.toS_ok, hb]
theorem s_dput {i : Nat} {k e : E} {d d' x y : D} (hd : slot env i = some d) (h : evE g e env st = .ok x st1) (h2 : evE g k env st1 = .ok y st2) (hp : dputD d y x = some d') : evS g (.dput i k e) env st = .nx (env.set i (some d')) st2 := by
  show (if (slot env i).isNone then _ else _) = _
  rw [hd, Option.isNone_some, if_neg (by simp), h, R.toS_ok, h2, R.toS_ok, Option.bind_some, hp]
theorem s_move {i j : Nat} {d : D} (h : slot env j = some d) : evS g (.move i j) env st = .nx ((env.set i (some d)).set j none) st := by
  show (match slot env j with | some d => RS.nx ((env.set i (some d)).set j none) st | none => .bad) = _
  rw [h]
theorem s_rai {c : Str} {e : E} {d : D} (h : evE g e env st = .ok d st1) : evS g (.raise_ c e) env st = .exn c d env st1 := by
  show (evE g e env st).toS env _ = _
  rw [h]; rfl
theorem s_app {i : Nat} {nl : Bool} {e : E} {d : D} {xs : List D} (hs : slot env i = some (.lst xs)) (h : evE g e env st = .ok d st1) (hn : nl = true → noL d = true) (hl : xs.length < sizeLine) : evS g (.app i true nl e) env st = .nx (env.set i (some (.lst (xs ++ [d])))) st1 := by
  have h1 : isLs env st i = true := by unfold isLs; rw [hs]
  show (if !isLs env st i then _ else _) = _
  rw [h1, Bool.not_true, if_neg (by simp), h, R.toS_ok]
  have h2 : (nl && !noL d) = false := by
    cases nl with
    | false => rfl
    | true => rw [hn rfl]; rfl
  rw [h2, if_neg (by simp)]
  unfold chg
  rw [hs]
  show (if true then match guardO (xs.length < sizeLine) (xs ++ [d]) with | some ys => RS.nx (env.set i (some (.lst ys))) st1 | none => .bad else .bad) = _
  rw [if_pos rfl, guardO_true hl]
theorem s_setIx {i : Nat} {nl : Bool} {ix e : E} {d k : D} {xs ys : List D} (hs : slot env i = some (.lst xs)) (h : evE g e env st = .ok d st1) (h2 : evE g ix env st1 = .ok k st2) (hn : nl = true → noL d = true) (hx : setIxL xs k d = some ys) : evS g (.setIx i true nl ix e) env st = .nx (env.set i (some (.lst ys))) st2 := by
  show (if (slot env i).isNone then _ else _) = _
  rw [hs, Option.isNone_some, if_neg (by simp), h, R.toS_ok, h2, R.toS_ok]
  have h3 : (nl && !noL d) = false := by
    cases nl with
    | false => rfl
    | true => rw [hn rfl]; rfl
  rw [h3, if_neg (by simp)]
  unfold chg
  rw [hs]
  show (if true then match setIxL xs k d with | some ys => RS.nx (env.set i (some (.lst ys))) st2 | none => .bad else .bad) = _
  rw [if_pos rfl, hx]
theorem s_par {i j : Nat} {ki kj : Ak} {a b : E} {x y : D} (h : evE g a env st = .ok x st1) (hi : akOk ki x = true) (h2 : evE g b env st1 = .ok y st2) (hj : akOk kj y = true) : evS g (.par i j ki kj a b) env st = .nx ((env.set i (some x)).set j (some y)) st2 := by
  show (evE g a env st).toS env _ = _
  rw [h, R.toS_ok, if_pos hi, h2, R.toS_ok, if_pos hj]
theorem s_par3 {i j l : Nat} {ki kj kl : Ak} {a b c : E} {x y z : D} (h : evE g a env st = .ok x st1) (hi : akOk ki x = true) (h2 : evE g b env st1 = .ok y st2) (hj : akOk kj y = true) (h3 : evE g c env st2 = .ok z st3) (hl : akOk kl z = true) : evS g (.par3 i j l ki kj kl a b c) env st = .nx (((env.set i (some x)).set j (some y)).set l (some z)) st3 := by
  show (evE g a env st).toS env _ = _
  rw [h, R.toS_ok, if_pos hi, h2, R.toS_ok, if_pos hj, h3, R.toS_ok, if_pos hl]
theorem s_tryN {n : Nat} {b : Ss} {cs : List Cls} (hl : env.length = n) (h : evSs g b env st = .nx env' st1) : evS g (.try_ n b cs) env st = .nx env' st1 := by
  show (if env.length = n then (match evSs g b env st with | .exn x d env' st' => catchD n x d env' st' cs | r => r) else .bad) = _
  rw [if_pos hl, h]
theorem s_tryX {n : Nat} {b : Ss} {cs : List Cls} {x : Str} {d : D} {r : RS} (hl : env.length = n) (h : evSs g b env st = .exn x d env' st1) (hc : catchD n x d env' st1 cs = r) : evS g (.try_ n b cs) env st = r := by
  show (if env.length = n then (match evSs g b env st with | .exn x d env' st' => catchD n x d env' st' cs | r => r) else .bad) = _
  rw [if_pos hl, h]
  exact hc
theorem catch_hit {n : Nat} {x : Str} {d : D} {c : Cls} {cs : List Cls} {j : Nat} {e : Xs} (h : (c.all || c.cls == x) = true) (hl : env.length = n ∧ c.nm < n) (hb : c.body = .set j e) : catchD n x d env st (c :: cs) = .nx ((env.set j (some (evXs d e))).set c.nm none) st := by
  unfold catchD
  rw [if_pos h, if_pos hl, hb]
theorem s_pX {k : Ak} {i : Nat} {b : E} {x : Str} {d : D} (h : evE g b env st = .exn x d st2) : evS g (.set i k b) env st = .exn x d env st2 := by
  show (evE g b env st).toS env _ = _
  rw [h]; rfl
theorem es_X {e : E} {es : Es} {x : Str} {d : D} (h : evE g e env st = .exn x d st1) : evEs g (.cons e es) env st = .exn x d st1 := by
  rw [evEs_cons, h]; rfl
theorem es_cX {e : E} {es : Es} {y : D} {x : Str} {d : D} (h : evE g e env st = .ok y st1) (h2 : evEs g es env st1 = .exn x d st2) : evEs g (.cons e es) env st = .exn x d st2 := by
  rw [evEs_cons, h, R.bind_ok, kEs_ap, h2]; rfl
theorem ev_tX {es : Es} {x : Str} {d : D} (h : evEs g es env st = .exn x d st1) : evE g (.tup es) env st = .exn x d st1 := by
  show (evEs g es env st).bind (fun xs st1 => R.ofO st1 (guardO (xs.length ≤ sizeLine) (D.tup xs))) = _
  rw [h]; rfl
theorem ev_iTX {c a b : E} {x : D} {r : R D} (h : evE g c env st = .ok x st1) (hx : truD st1 x = some true) (h2 : evE g a env st1 = r) : evE g (.ife c a b) env st = r := by
  show (evE g c env st).bind _ = _
  rw [h, R.bind_ok, hx]; exact h2
theorem ev_iFX {c a b : E} {x : D} {r : R D} (h : evE g c env st = .ok x st1) (hx : truD st1 x = some false) (h2 : evE g b env st1 = r) : evE g (.ife c a b) env st = r := by
  show (evE g c env st).bind _ = _
  rw [h, R.bind_ok, hx]; exact h2
theorem it_seq {e : E} {x : D} {xs : List D} (h : evE g e env st = .ok x st1) (hx : seqOf x = some xs) : evIt g (.seq e) env st = .ok xs st1 := by
  rw [evIt_seq, h, R.bind_ok, kSeq_ap, hx]; rfl
theorem it_keys {e : E} {ks : List NestedKey} {vs : List D} (h : evE g e env st = .ok (.dT ks vs) st1) : evIt g (.keys e) env st = .ok (ks.map nkD) st1 := by
  rw [evIt_keys, h, R.bind_ok, kKeys_ap]
theorem it_r1 {a : E} {n : Nat} (h : evE g a env st = .ok (.int (n : Int)) st1) (hn : n < 2 ^ 62) : evIt g (.range1 a) env st = .ok ((List.range n).map fun (k : Nat) => D.int (k : Int)) st1 := by
  rw [evIt_r1, h, R.bind_ok, kR1_ap, rangeD_n n hn]; rfl
theorem ev_comp {tg : Tg} {it : It} {elt : E} {xs ys : List D} (h : evIt g it env st = .ok xs st1) (h2 : compLoop (kCb g tg false .non elt env) xs st1 = .ok ys st2) (hy : ys.length ≤ sizeLine) : evE g (.comp tg it false .non elt) env st = .ok (.lst ys) st2 := by
  show (evIt g it env st).bind (kComp g tg false .non elt env) = _
  rw [h, R.bind_ok]
  show (compLoop (kCb g tg false .non elt env) xs st1).bind kLst = _
  rw [h2, R.bind_ok]
  show R.ofO st2 (guardO (ys.length ≤ sizeLine) (D.lst ys)) = _
  rw [guardO_true hy]; rfl
theorem cb_ok {tg : Tg} {elt : E} {x y : D} {env1 : WT.Env} (hb : bindTg tg x env = some env1) (h : evE g elt env1 st = .ok y st1) : kCb g tg false .non elt env x st = .ok (some y) st1 := by
  show kCb' g false .non elt st (bindTg tg x env) = _
  rw [hb]
  show (if false then _ else (evE g elt env1 st).bind kSome).nox = _
  rw [if_neg (by simp), h]
  rfl
theorem forD_c {tg : Tg} {b : WT.Env → Sto → RS} {x : D} {xs : List D} {env1 env2 : WT.Env} {r : RS} (hb : bindTg tg x env = some env1) (h : b env1 st = .nx env2 st1) (h2 : forD tg b xs env2 st1 = r) : forD tg b (x :: xs) env st = r := by
  unfold forD
  rw [hb]
  show (match b env1 st with | .nx env' st' => forD tg b xs env' st' | .ct env' st' => forD tg b xs env' st' | .bk env' st' => .nx env' st' | r => r) = r
  rw [h]
  exact h2
theorem forD_r {tg : Tg} {b : WT.Env → Sto → RS} {x : D} {xs : List D} {env1 : WT.Env} {d : D} (hb : bindTg tg x env = some env1) (h : b env1 st = .rt d st1) : forD tg b (x :: xs) env st = .rt d st1 := by
  unfold forD
  rw [hb]
  show (match b env1 st with | .nx env' st' => forD tg b xs env' st' | .ct env' st' => forD tg b xs env' st' | .bk env' st' => .nx env' st' | r => r) = _
  rw [h]
/-- integers from 0 on, as data -/
def iN (ts : List Nat) : List D := ts.map fun (t : Nat) => D.int (t : Int)
theorem iN_len (ts : List Nat) : (iN ts).length = ts.length := by unfold iN; rw [List.length_map]
theorem iN_snoc (ts : List Nat) (t : Nat) : iN (ts ++ [t]) = iN ts ++ [.int (t : Int)] := by unfold iN; rw [List.map_append]; rfl
theorem noL_iN : ∀ ts : List Nat, noLs (iN ts) = true
  | [] => rfl
  | t :: ts => by
    show (noL (D.int (t : Int)) && noLs (iN ts)) = true
    rw [noL_iN ts]; rfl
end
end WT
end

section
set_option Elab.async false
set_option linter.all false
set_option maxRecDepth 100000
set_option autoImplicit false
/-! Q2: primes, bottoms, what is left of a number, rows of dice. Own work. -/
namespace WT
open PySem
def Pr (q : Nat) : Prop := 2 ≤ q ∧ ∀ m, 2 ≤ m → m < q → ¬ m ∣ q
theorem Pr.dvd_mul {q a b : Nat} (h : Pr q) (hd : q ∣ a * b) : q ∣ a ∨ q ∣ b := by
  have hg : Nat.gcd q a ∣ q := Nat.gcd_dvd_left _ _
  have hp : 0 < Nat.gcd q a := Nat.gcd_pos_of_pos_left _ (by have := h.1; omega)
  by_cases h1 : Nat.gcd q a = 1
  · exact .inr (Nat.Coprime.dvd_of_dvd_mul_left h1 hd)
  · by_cases h2 : Nat.gcd q a < q
    · exact absurd hg (h.2 _ (by omega) h2)
    · have : Nat.gcd q a = q := Nat.le_antisymm (Nat.le_of_dvd (by have := h.1; omega) hg) (by omega)
      exact .inl (this ▸ Nat.gcd_dvd_right _ _)
theorem exists_Pr : ∀ n : Nat, 2 ≤ n → ∃ q, Pr q ∧ q ∣ n := by
  intro n
  induction n using Nat.strongRecOn with
  | ind n ih =>
    intro hn
    by_cases h : Pr n
    · exact ⟨n, h, Nat.dvd_refl _⟩
    · have : ∃ m, 2 ≤ m ∧ m < n ∧ m ∣ n := by
        refine Classical.byContradiction fun hc => h ⟨hn, fun m h1 h2 h3 => hc ⟨m, h1, h2, h3⟩⟩
      obtain ⟨m, h1, h2, h3⟩ := this
      obtain ⟨q, hq, hd⟩ := ih m h2 h1
      exact ⟨q, hq, Nat.dvd_trans hd h3⟩
/-- the least number that all bottoms divide -/
def bot (ps : List (Int × Int)) : Nat := ps.foldl (fun n p => Nat.lcm n p.2.toNat) 1
theorem bot_snoc (ps : List (Int × Int)) (p : Int × Int) : bot (ps ++ [p]) = Nat.lcm (bot ps) p.2.toNat := by simp [bot, List.foldl_append]
theorem lcm_div1 (n b : Nat) : n / Nat.gcd n b * b = Nat.lcm n b := by
  unfold Nat.lcm
  rw [Nat.mul_comm n b, Nat.mul_div_assoc b (Nat.gcd_dvd_left n b), Nat.mul_comm]
theorem lcm_div2 (n b : Nat) : n * (b / Nat.gcd n b) = Nat.lcm n b := by
  unfold Nat.lcm
  rw [Nat.mul_div_assoc n (Nat.gcd_dvd_right n b)]
theorem lcm_le (n b : Nat) (hn : 0 < n) (hb : 0 < b) : Nat.lcm n b ≤ n * b := Nat.le_of_dvd (Nat.mul_pos hn hb) (Nat.lcm_dvd_mul n b)
theorem snoc_cases {α : Type} (P : List α → Prop) (h0 : P []) (hs : ∀ l x, P l → P (l ++ [x])) (l : List α) : P l := by
  have key : ∀ (b a : List α), P a → P (a ++ b) := by
    intro b
    induction b with
    | nil => intro a h; simpa using h
    | cons x b ih => intro a h; have := ih (a ++ [x]) (hs a x h); simpa using this
  exact key l [] h0
theorem bot_bd (ps : List (Int × Int)) : (∀ p ∈ ps, 0 < p.2 ∧ p.2 ≤ 60) → 0 < bot ps ∧ bot ps ≤ 60 ^ ps.length := by
  refine snoc_cases (P := fun ps => (∀ p ∈ ps, 0 < p.2 ∧ p.2 ≤ 60) → 0 < bot ps ∧ bot ps ≤ 60 ^ ps.length) (fun _ => ⟨by decide, by decide⟩) ?_ ps
  intro l x ih h
  obtain ⟨a1, a2⟩ := ih fun p hp => h p (by simp [hp])
  obtain ⟨x1, x2⟩ := h x (by simp)
  rw [bot_snoc]
  have hx : 0 < x.2.toNat := by omega
  refine ⟨Nat.lcm_pos a1 hx, Nat.le_trans (lcm_le _ _ a1 hx) ?_⟩
  rw [List.length_append, List.length_singleton, Nat.pow_succ]
  exact Nat.mul_le_mul a2 (by omega)
theorem bot_pr {q : Nat} (hq : Pr q) (ps : List (Int × Int)) : (∀ p ∈ ps, 0 < p.2 ∧ p.2 ≤ 60) → q ∣ bot ps → q < 60 := by
  refine snoc_cases (P := fun ps => (∀ p ∈ ps, 0 < p.2 ∧ p.2 ≤ 60) → q ∣ bot ps → q < 60) (fun _ h => ?_) ?_ ps
  · have := Nat.le_of_dvd (by decide) h
    have h2 := hq.1
    have : bot [] = 1 := rfl
    omega
  · intro l x ih h hd
    rw [bot_snoc] at hd
    obtain ⟨x1, x2⟩ := h x (by simp)
    rcases hq.dvd_mul (Nat.dvd_trans hd (Nat.lcm_dvd_mul _ _)) with h1 | h1
    · exact ih (fun p hp => h p (by simp [hp])) h1
    · have h2 := Nat.le_of_dvd (by omega) h1
      have h3 : q ≤ 60 := by omega
      have h4 : q ≠ 60 := by
        rintro rfl
        exact hq.2 2 (by decide) (by decide) (by decide)
      omega

/-! ### what is left -/
def lfN : Nat → Nat → Nat → Nat
  | 0, n, _ => n
  | k + 1, n, s => if 1 < Nat.gcd n s then lfN k (n / Nat.gcd n s) s else n
def lf (n s : Nat) : Nat := lfN n n s
theorem div_gcd_lt {n s : Nat} (hn : 0 < n) (h : 1 < Nat.gcd n s) : n / Nat.gcd n s < n := Nat.div_lt_self hn h
theorem div_gcd_pos {n s : Nat} (hn : 0 < n) : 0 < n / Nat.gcd n s := Nat.div_pos (Nat.gcd_le_left _ hn) (Nat.gcd_pos_of_pos_left _ hn)
theorem lfN_fix {s : Nat} : ∀ (k n : Nat), 0 < n → n ≤ k → lfN (k + 1) n s = lfN k n s
  | 0, n, h, h2 => by omega
  | k + 1, n, h, h2 => by
    rw [lfN]
    conv => rhs; rw [lfN]
    split
    · rename_i hg
      have := div_gcd_lt h hg
      exact lfN_fix k _ (div_gcd_pos h) (by omega)
    · rfl
theorem lfN_le {s : Nat} : ∀ (j n k : Nat), 0 < n → n ≤ k → lfN (k + j) n s = lfN k n s
  | 0, _, _, _, _ => rfl
  | j + 1, n, k, h, h2 => by rw [show k + (j + 1) = (k + j) + 1 by omega, lfN_fix _ _ h (by omega), lfN_le j n k h h2]
theorem lf_eq {n s : Nat} (hn : 0 < n) : lf n s = if 1 < Nat.gcd n s then lf (n / Nat.gcd n s) s else n := by
  unfold lf
  obtain ⟨k, rfl⟩ : ∃ k, n = k + 1 := ⟨n - 1, by omega⟩
  conv => lhs; rw [lfN]
  split
  · rename_i hg
    have h1 := div_gcd_lt hn hg
    have h2 := div_gcd_pos (s := s) hn
    generalize (k + 1) / Nat.gcd (k + 1) s = m at *
    obtain ⟨j, rfl⟩ : ∃ j, k = m + j := ⟨k - m, by omega⟩
    exact lfN_le j _ _ h2 (Nat.le_refl _)
  · rfl
theorem lf_ind {s : Nat} (Q : Nat → Nat → Prop) (h1 : ∀ n, 0 < n → ¬ 1 < Nat.gcd n s → Q n n) (h2 : ∀ n r, 0 < n → 1 < Nat.gcd n s → Q (n / Nat.gcd n s) r → Q n r) : ∀ n, 0 < n → Q n (lf n s) := by
  intro n
  induction n using Nat.strongRecOn with
  | ind n ih =>
    intro hn
    rw [lf_eq hn]
    split
    · rename_i hg
      exact h2 n _ hn hg (ih _ (div_gcd_lt hn hg) (div_gcd_pos hn))
    · rename_i hg
      exact h1 n hn hg
theorem lf_pos {n s : Nat} (hn : 0 < n) : 0 < lf n s := lf_ind (fun _ r => 0 < r) (fun _ h _ => h) (fun _ _ _ _ h => h) n hn
theorem lf_dvd {n s : Nat} (hn : 0 < n) : lf n s ∣ n :=
  lf_ind (fun n r => r ∣ n) (fun n _ _ => Nat.dvd_refl n) (fun n r h hg hr => Nat.dvd_trans hr (Nat.div_dvd_of_dvd (Nat.gcd_dvd_left _ _))) n hn
theorem lf_cop {n s : Nat} (hn : 0 < n) : Nat.gcd (lf n s) s = 1 :=
  lf_ind (fun n r => Nat.gcd r s = 1) (fun n h hg => by have := Nat.gcd_pos_of_pos_left s h; omega) (fun n r h hg hr => hr) n hn
theorem lf_pr {q n s : Nat} (hq : Pr q) (hs : ¬ q ∣ s) (hn : 0 < n) (hd : q ∣ n) : q ∣ lf n s := by
  refine lf_ind (s := s) (fun n r => q ∣ n → q ∣ r) (fun n _ _ h => h) (fun n r h hg hr hd => hr ?_) n hn hd
  have e : n / Nat.gcd n s * Nat.gcd n s = n := Nat.div_mul_cancel (Nat.gcd_dvd_left _ _)
  rw [← e] at hd
  rcases hq.dvd_mul hd with h1 | h1
  · exact h1
  · exact absurd (Nat.dvd_trans h1 (Nat.gcd_dvd_right _ _)) hs
def LF (n : Nat) (ds : List Nat) : Nat := ds.foldl lf n
theorem LF_pos : ∀ (ds : List Nat) (n : Nat), 0 < n → 0 < LF n ds
  | [], n, h => h
  | s :: ds, n, h => LF_pos ds (lf n s) (lf_pos h)
theorem LF_dvd : ∀ (ds : List Nat) (n : Nat), 0 < n → LF n ds ∣ n
  | [], n, h => Nat.dvd_refl n
  | s :: ds, n, h => Nat.dvd_trans (LF_dvd ds (lf n s) (lf_pos h)) (lf_dvd h)
theorem LF_cop : ∀ (ds : List Nat) (n : Nat), 0 < n → ∀ s ∈ ds, Nat.gcd (LF n ds) s = 1
  | [], n, h, s, hs => by simp at hs
  | s :: ds, n, h, t, ht => by
    rcases List.mem_cons.mp ht with rfl | ht
    · exact Nat.Coprime.coprime_dvd_left (LF_dvd ds (lf n t) (lf_pos h)) (lf_cop h)
    · exact LF_cop ds (lf n s) (lf_pos h) t ht
theorem LF_pr {q : Nat} (hq : Pr q) : ∀ (ds : List Nat) (n : Nat), 0 < n → (∀ s ∈ ds, ¬ q ∣ s) → q ∣ n → q ∣ LF n ds
  | [], n, h, _, hd => hd
  | s :: ds, n, h, hs, hd => LF_pr hq ds (lf n s) (lf_pos h) (fun t ht => hs t (by simp [ht])) (lf_pr hq (hs s (by simp)) h hd)
/-- every prime of n divides a die, as the law asks it -/
def bdB (n : Nat) (ds : List Nat) : Bool := (List.range 58).all fun i =>
  !(((List.range i).filter fun j => decide ((i + 2) % (j + 2) = 0)).isEmpty && decide (n % (i + 2) = 0)) || !(ds.filter fun s => decide (s % (i + 2) = 0)).isEmpty
theorem Pr_iff (i : Nat) : Pr (i + 2) ↔ ((List.range i).filter fun j => decide ((i + 2) % (j + 2) = 0)) = [] := by
  rw [List.filter_eq_nil_iff]
  constructor
  · intro h j hj
    have hj := List.mem_range.mp hj
    have := h.2 (j + 2) (by omega) (by omega)
    simpa [Nat.dvd_iff_mod_eq_zero] using this
  · intro h
    refine ⟨by omega, fun m h1 h2 hd => ?_⟩
    obtain ⟨j, rfl⟩ : ∃ j, m = j + 2 := ⟨m - 2, by omega⟩
    have := h j (List.mem_range.mpr (by omega))
    exact this (by simpa using Nat.mod_eq_zero_of_dvd hd)
theorem bdB_iff (n : Nat) (ds : List Nat) : bdB n ds = true ↔ ∀ q, q < 60 → Pr q → q ∣ n → ∃ s ∈ ds, q ∣ s := by
  unfold bdB
  rw [List.all_eq_true]
  constructor
  · intro h q hq hp hd
    obtain ⟨i, rfl⟩ : ∃ i, q = i + 2 := ⟨q - 2, by have := hp.1; omega⟩
    have := h i (List.mem_range.mpr (by omega))
    rw [(Pr_iff i).mp hp] at this
    simp [Nat.mod_eq_zero_of_dvd hd] at this
    obtain ⟨s, hs, h2⟩ := this
    exact ⟨s, hs, Nat.dvd_of_mod_eq_zero h2⟩
  · intro h i hi
    have hi := List.mem_range.mp hi
    by_cases hp : Pr (i + 2)
    · by_cases hd : (i + 2) ∣ n
      · obtain ⟨s, hs, h2⟩ := h (i + 2) (by omega) hp hd
        have : (ds.filter fun s => decide (s % (i + 2) = 0)) ≠ [] := by
          intro e
          rw [List.filter_eq_nil_iff] at e
          exact e s hs (by simpa using Nat.mod_eq_zero_of_dvd h2)
        simp [this]
      · have : ¬ n % (i + 2) = 0 := fun e => hd (Nat.dvd_of_mod_eq_zero e)
        simp [this]
    · have : ((List.range i).filter fun j => decide ((i + 2) % (j + 2) = 0)) ≠ [] := fun e => hp ((Pr_iff i).mpr e)
      have h2 : ((List.range i).filter fun j => decide ((i + 2) % (j + 2) = 0)).isEmpty = false := by
        cases e : ((List.range i).filter fun j => decide ((i + 2) % (j + 2) = 0)) with
        | nil => exact absurd e this
        | cons _ _ => rfl
      rw [h2]; rfl
theorem LF_one_iff {n : Nat} (hn : 0 < n) (hb : ∀ q, Pr q → q ∣ n → q < 60) (ds : List Nat) : LF n ds = 1 ↔ bdB n ds = true := by
  rw [bdB_iff]
  constructor
  · intro h q _ hq hd
    refine Classical.byContradiction fun hc => ?_
    have := LF_pr hq ds n hn (fun s hs hd => hc ⟨s, hs, hd⟩) hd
    rw [h] at this
    have := Nat.le_of_dvd (by decide) this
    have := hq.1
    omega
  · intro h
    refine Classical.byContradiction fun hc => ?_
    have h0 := LF_pos ds n hn
    obtain ⟨q, hq, hd⟩ := exists_Pr (LF n ds) (by omega)
    have hqn := Nat.dvd_trans hd (LF_dvd ds n hn)
    obtain ⟨s, hs, hs2⟩ := h q (hb q hq hqn) hq hqn
    have := Nat.dvd_gcd hd hs2
    rw [LF_cop ds n hn s hs] at this
    have := Nat.le_of_dvd (by decide) this
    have := hq.1
    omega
end WT
end

section
set_option Elab.async false
set_option linter.all false
set_option maxRecDepth 100000
set_option autoImplicit false
namespace Lk57
open PySem WT
/-! ### the pot -/
def potL (a b c : Int) (ns : List Int) : List D := .int a :: .int b :: .int c :: ilst ns
structure Pot (ns : List Int) (st : Sto) (k : Nat) : Prop where
  e : ∃ a b c : Int, st[k]? = some (potL a b c ns) ∧ 0 ≤ a ∧ 0 ≤ b ∧ b < 2 ^ 31 ∧ 3 ≤ c ∧ c ≤ 3 + ns.length
theorem setIxL_nat {xs : List D} {k : Nat} (h : k < xs.length) (d : D) : setIxL xs (.int (k : Int)) d = some (xs.set k d) := by
  unfold setIxL
  simp only [L2.ixN]
  rw [if_pos (by omega), if_pos (by omega)]
  simp
theorem pot_len (a b c : Int) (ns : List Int) : (potL a b c ns).length = ns.length + 3 := by unfold potL ilst; simp
theorem pot_s0 (a b c x : Int) (ns : List Int) : setIxL (potL a b c ns) (.int 0) (.int x) = some (potL x b c ns) := setIxL_nat (k := 0) (by rw [pot_len]; omega) _
theorem pot_s1 (a b c x : Int) (ns : List Int) : setIxL (potL a b c ns) (.int 1) (.int x) = some (potL a x c ns) := setIxL_nat (k := 1) (by rw [pot_len]; omega) _
theorem pot_s2 (a b c x : Int) (ns : List Int) : setIxL (potL a b c ns) (.int 2) (.int x) = some (potL a b x ns) := setIxL_nat (k := 2) (by rw [pot_len]; omega) _
theorem pot_0 (a b c : Int) (ns : List Int) : ixD (potL a b c ns) 0 = some (.int a) := ixD_nat (k := 0) rfl
theorem pot_1 (a b c : Int) (ns : List Int) : ixD (potL a b c ns) 1 = some (.int b) := ixD_nat (k := 1) rfl
theorem pot_2 (a b c : Int) (ns : List Int) : ixD (potL a b c ns) 2 = some (.int c) := ixD_nat (k := 2) rfl
theorem pot_c (a b c : Int) (ns : List Int) (h : 3 ≤ c) (h2 : c < 3 + ns.length) : ∃ x : Int, ixD (potL a b c ns) c = some (.int x) := by
  obtain ⟨m, rfl⟩ : ∃ m : Nat, c = ((m + 3 : Nat) : Int) := ⟨(c - 3).toNat, by omega⟩
  have hm : m < ns.length := by omega
  refine ⟨ns[m], ixD_nat (k := m + 3) ?_⟩
  show (ilst ns)[m]? = _
  unfold ilst
  rw [List.getElem?_map, List.getElem?_eq_getElem hm]
  rfl
theorem pl_len (st : Sto) (k : Nat) (L : List D) (n : Int) (h : st[k]? = some L) (hn : (L.length : Int) = n) : biD st .len [.ref k] = some (.int n) := by
  show (st[k]?).map (fun xs => D.int xs.length) = _
  rw [h, ← hn]
  rfl
/-- the parts of the first statement -/
def tkC : E := .and (.cmp .Eq (.idx (.var 0) (.int 0)) (.int 0)) (.cmp .Lt (.idx (.var 0) (.int 2)) (.bi .len (.cons (.var 0) .nil)))
def tk1 : S := .set 2 .pln (.idx (.var 0) (.idx (.var 0) (.int 2)))
def tk2 : S := .augIx 0 false .Add (.int 2) (.int 1)
def tkD : E := .cmp .GtE (.var 2) (.bin .Pow (.int 10) (.int 18))
def tk3 : S := .setIx 0 false false (.int 0) (.bin .Sub (.var 2) (.bin .Pow (.int 10) (.int 18)))
def tk4 : S := .set 4 .pln (.bin .Mod (.bi .int (.cons (.var 2) .nil)) (.int 2147483647))
def tk5 : S := .set 4 .pln (.bin .Mod (.bi .int (.cons (.bin .Add (.bin .Add (.bin .Mult (.var 4) (.var 4)) (.bin .Mult (.int 69621) (.var 4))) (.bin .Mult (.int 977) (.idx (.var 0) (.int 2)))) .nil)) (.int 2147483629))
def tk6 : S := .setIx 0 false false (.int 1) (.bin .Mod (.bi .int (.cons (.bin .Add (.idx (.var 0) (.int 1)) (.var 4)) .nil)) (.int 2147483629))
theorem t_law_take1_eq : t_law_take1 = .ite tkC (.cons tk1 (.cons tk2 (.cons (.ite tkD (.cons tk3 .nil) (.cons tk4 (.cons tk5 (.cons tk6 .nil)))) .nil))) .nil := rfl
theorem e_c (st : Sto) (k : Nat) (a b c n : Int) (ns : List Int) (x1 x2 x3 x4 : Option D) (h : st[k]? = some (potL a b c ns)) (hn : biD st .len [.ref k] = some (.int n)) : evC g_law_take tkC [some (.ref k), x1, x2, x3, x4] st = .ok (decide (a = 0 ∧ c < n)) st := by
  by_cases ha : a = 0
  · subst ha
    simp [evC_eq, tkC, h, pot_0, pot_2, hn]
  · simp [evC_eq, tkC, h, pot_0, ha]
theorem e_1 (st : Sto) (k : Nat) (a b c x : Int) (ns : List Int) (x1 x2 x3 x4 : Option D) (h : st[k]? = some (potL a b c ns)) (hx : ixD (potL a b c ns) c = some (.int x)) : evS g_law_take tk1 [some (.ref k), x1, x2, x3, x4] st = .nx [some (.ref k), x1, some (.int x), x3, x4] st := by
  simp [tk1, h, pot_2, hx]
theorem e_2 (st : Sto) (k : Nat) (a b c : Int) (ns : List Int) (x1 x2 x3 x4 : Option D) (h : st[k]? = some (potL a b c ns)) : evS g_law_take tk2 [some (.ref k), x1, x2, x3, x4] st = .nx [some (.ref k), x1, x2, x3, x4] (st.set k (potL a b (c + 1) ns)) := by
  have hk : k < st.length := (List.getElem?_eq_some_iff.mp h).1
  have hl : isLs [some (.ref k), x1, x2, x3, x4] st 0 = true := decide_eq_true hk
  clear hk
  simp [tk2, hl, h, pot_2, chg, pot_s2]
theorem e_d (st : Sto) (x : Int) (x0 x1 x3 x4 : Option D) : evC g_law_take tkD [x0, x1, some (.int x), x3, x4] st = .ok (decide (1000000000000000000 ≤ x)) st := by
  have g5 : ∀ z : D, guardO (pwOK 10 18) z = some z := fun z => guardO_true (.inl (by decide))
  simp [evC_eq, tkD, g5]
theorem e_3 (st : Sto) (k : Nat) (a b c x y : Int) (ns : List Int) (x1 x3 x4 : Option D) (h : st[k]? = some (potL a b c ns)) (hy : x - 1000000000000000000 = y) : evS g_law_take tk3 [some (.ref k), x1, some (.int x), x3, x4] st = .nx [some (.ref k), x1, some (.int x), x3, x4] (st.set k (potL y b c ns)) := by
  have g5 : ∀ z : D, guardO (pwOK 10 18) z = some z := fun z => guardO_true (.inl (by decide))
  simp [tk3, h, chg, pot_s0, g5, hy, noL]
theorem e_4 (st : Sto) (x y : Int) (x0 x1 x3 x4 : Option D) (hy : x.fmod 2147483647 = y) : evS g_law_take tk4 [x0, x1, some (.int x), x3, x4] st = .nx [x0, x1, some (.int x), x3, some (.int y)] st := by
  simp [tk4, hy]
theorem e_5 (st : Sto) (k : Nat) (a b c y p q r z : Int) (ns : List Int) (x1 x2 x3 : Option D) (h : st[k]? = some (potL a b c ns)) (g1 : guardO (mulOK y y) (D.int (y * y)) = some (.int p)) (g2 : guardO (mulOK 69621 y) (D.int (69621 * y)) = some (.int q)) (g3 : guardO (mulOK 977 c) (D.int (977 * c)) = some (.int r)) (hz : (p + q + r).fmod 2147483629 = z) : evS g_law_take tk5 [some (.ref k), x1, x2, x3, some (.int y)] st = .nx [some (.ref k), x1, x2, x3, some (.int z)] st := by
  simp [tk5, h, pot_2, g1, g2, g3, hz]
theorem e_6 (st : Sto) (k : Nat) (a b c y z : Int) (ns : List Int) (x1 x2 x3 : Option D) (h : st[k]? = some (potL a b c ns)) (hz : (b + y).fmod 2147483629 = z) : evS g_law_take tk6 [some (.ref k), x1, x2, x3, some (.int y)] st = .nx [some (.ref k), x1, x2, x3, some (.int y)] (st.set k (potL a z c ns)) := by
  simp [tk6, h, pot_1, chg, pot_s1, hz, noL]
theorem t_2y (st : Sto) (k : Nat) (a b c m r q : Int) (ns : List Int) (x2 x3 x4 : Option D) (h : st[k]? = some (potL a b c ns)) (ha : 0 < a) (hm : m ≠ 0) (hr : a.fmod m = r) (hq : a.fdiv m = q) (g : guardO (divOK m) (D.int q) = some (.int q)) : evS g_law_take t_law_take2 [some (.ref k), some (.int m), x2, x3, x4] st = .rt (.int r) (st.set k (potL q b c ns)) := by
  simp [t_law_take2, h, pot_0, ha, hm, hr, hq, g, chg, pot_s0, noL]
theorem t_2n (st : Sto) (k : Nat) (a b c : Int) (ns : List Int) (x1 x2 x3 x4 : Option D) (h : st[k]? = some (potL a b c ns)) (ha : ¬ 0 < a) : evS g_law_take t_law_take2 [some (.ref k), x1, x2, x3, x4] st = .nx [some (.ref k), x1, x2, x3, x4] st := by
  simp [t_law_take2, h, pot_0, ha]
theorem t_3 (st : Sto) (k : Nat) (a b c p q z : Int) (ns : List Int) (x1 x2 x3 x4 : Option D) (h : st[k]? = some (potL a b c ns)) (g1 : guardO (mulOK b 48271) (D.int (b * 48271)) = some (.int p)) (g2 : guardO (mulOK 40692 c) (D.int (40692 * c)) = some (.int q)) (hz : (p + q + 11).fmod 2147483647 = z) : evS g_law_take t_law_take3 [some (.ref k), x1, x2, x3, x4] st = .nx [some (.ref k), x1, x2, x3, x4] (st.set k (potL a z c ns)) := by
  simp [t_law_take3, h, pot_1, pot_2, g1, g2, hz, chg, pot_s1, noL]
theorem t_4 (st : Sto) (k : Nat) (a b c p z : Int) (ns : List Int) (x1 x2 x3 x4 : Option D) (h : st[k]? = some (potL a b c ns)) (g1 : guardO (mulOK b b) (D.int (b * b)) = some (.int p)) (hz : (p + 7).fmod 2147483629 = z) : evS g_law_take t_law_take4 [some (.ref k), x1, x2, x3, x4] st = .nx [some (.ref k), x1, x2, x3, x4] (st.set k (potL a z c ns)) := by
  simp [t_law_take4, h, pot_1, g1, hz, chg, pot_s1, noL]
theorem t_5 (st : Sto) (k : Nat) (a b c m q r : Int) (ns : List Int) (x2 x3 x4 : Option D) (h : st[k]? = some (potL a b c ns)) (hm : m ≠ 0) (hq : b.fdiv 8 = q) (g : guardO (divOK 8) (D.int q) = some (.int q)) (hr : q.fmod m = r) : evS g_law_take t_law_take5 [some (.ref k), some (.int m), x2, x3, x4] st = .rt (.int r) st := by
  simp [t_law_take5, h, pot_1, hq, g, hm, hr]
/-- only this box changed -/
def Only (st st' : Sto) (k : Nat) : Prop := st'.length = st.length ∧ ∀ j, j ≠ k → st'[j]? = st[j]?
theorem Only.set (st : Sto) (k : Nat) (L : List D) : Only st (st.set k L) k := ⟨by simp, fun j h => List.getElem?_set_ne (Ne.symm h)⟩
theorem Only.refl (st : Sto) (k : Nat) : Only st st k := ⟨rfl, fun _ _ => rfl⟩
theorem Only.trans {a b c : Sto} {k : Nat} (h : Only a b k) (g : Only b c k) : Only a c k := ⟨g.1.trans h.1, fun j hj => (g.2 j hj).trans (h.2 j hj)⟩
theorem fm_b (x : Int) {m : Int} (h : 0 < m) : 0 ≤ x.fmod m ∧ x.fmod m < m := by
  rw [fmod_nn (by omega)]
  exact ⟨Int.emod_nonneg _ (by omega), Int.emod_lt_of_pos _ h⟩
theorem take_1 (st : Sto) (k : Nat) (ns : List Int) (hn : ns.length ≤ 1000) (hp : Pot ns st k) (x1 x2 x3 x4 : Option D) :
    ∃ y2 y4 st', Pot ns st' k ∧ Only st st' k ∧ evS g_law_take t_law_take1 [some (.ref k), x1, x2, x3, x4] st = .nx [some (.ref k), x1, y2, x3, y4] st' := by
  obtain ⟨a, b, c, h, a0, b0, b1, c0, c1⟩ := hp.e
  have hk : k < st.length := (List.getElem?_eq_some_iff.mp h).1
  have ec := e_c st k a b c ((ns.length + 3 : Nat) : Int) ns x1 x2 x3 x4 h (pl_len st k _ _ h (by rw [pot_len]))
  unfold evC at ec
  rw [t_law_take1_eq, evS_ite]
  have ec' : (evE g_law_take tkC [some (.ref k), x1, x2, x3, x4] st).bind kTru = .ok (decide (a = 0 ∧ c < ((ns.length + 3 : Nat) : Int))) st := ec
  rw [ec']
  by_cases hc : a = 0 ∧ c < ((ns.length + 3 : Nat) : Int)
  · rw [decide_eq_true hc]
    obtain ⟨ha, hc⟩ := hc
    obtain ⟨x, hx⟩ := pot_c a b c ns c0 (by omega)
    have q1 := e_1 st k a b c x ns x1 x2 x3 x4 h hx
    have q2 := e_2 st k a b c ns x1 (some (.int x)) x3 x4 h
    have h2 : (st.set k (potL a b (c + 1) ns))[k]? = some (potL a b (c + 1) ns) := List.getElem?_set_self hk
    have O2 := Only.set st k (potL a b (c + 1) ns)
    have hk2 : k < (st.set k (potL a b (c + 1) ns)).length := by rw [List.length_set]; exact hk
    generalize st.set k (potL a b (c + 1) ns) = st2 at *
    have ed := e_d st2 x (some (.ref k)) x1 x3 x4
    unfold evC at ed
    have ed' : (evE g_law_take tkD [some (.ref k), x1, some (.int x), x3, x4] st2).bind kTru = .ok (decide (1000000000000000000 ≤ x)) st2 := ed
    by_cases hd : 1000000000000000000 ≤ x
    · have q3 := e_3 st2 k a b (c + 1) x (x - 1000000000000000000) ns x1 x3 x4 h2 rfl
      refine ⟨some (.int x), x4, st2.set k (potL (x - 1000000000000000000) b (c + 1) ns), ⟨_, _, _, List.getElem?_set_self hk2, by omega, b0, b1, by omega, by omega⟩, O2.trans (Only.set _ _ _), ?_⟩
      show evSs g_law_take _ _ _ = _
      refine sq q1 (sq q2 (sq ?_ rfl))
      rw [evS_ite, ed', decide_eq_true hd]
      exact sq q3 rfl
    · obtain ⟨y0, y1⟩ := fm_b x (m := 2147483647) (by decide)
      have q4 := e_4 st2 x _ (some (.ref k)) x1 x3 x4 rfl
      generalize x.fmod 2147483647 = y at *
      have q5 := e_5 st2 k a b (c + 1) y (y * y) (69621 * y) (977 * (c + 1)) _ ns x1 (some (.int x)) x3 h2 (guardO_true (mulOK_r (by omega) (by omega))) (guardO_true (mulOK_l (by decide) (by decide))) (guardO_true (mulOK_l (by decide) (by decide))) rfl
      generalize (y * y + 69621 * y + 977 * (c + 1)).fmod 2147483629 = w at *
      obtain ⟨z0, z1⟩ := fm_b (b + w) (m := 2147483629) (by decide)
      have q6 := e_6 st2 k a b (c + 1) w _ ns x1 (some (.int x)) x3 h2 rfl
      generalize (b + w).fmod 2147483629 = z at *
      refine ⟨some (.int x), some (.int w), st2.set k (potL a z (c + 1) ns), ⟨_, _, _, List.getElem?_set_self hk2, a0, z0, by omega, by omega, by omega⟩, O2.trans (Only.set _ _ _), ?_⟩
      show evSs g_law_take _ _ _ = _
      refine sq q1 (sq q2 (sq ?_ rfl))
      rw [evS_ite, ed', decide_eq_false hd, R.toS_ok, kIte_f]
      exact sq q4 (sq q5 (sq q6 rfl))
  · rw [decide_eq_false hc]
    exact ⟨x2, x4, st, hp, Only.refl st k, rfl⟩
theorem sem_take (st : Sto) (k : Nat) (ns : List Int) (hn : ns.length ≤ 1000) (hp : Pot ns st k) (m : Int) (hm : 0 < m) (hm2 : m < 2 ^ 64) :
    ∃ r st', F_law_take.sem [.ref k, .int m] st = .ok (.int r) st' ∧ 0 ≤ r ∧ r < m ∧ Pot ns st' k ∧ Only st st' k := by
  obtain ⟨y2, y4, st1, P1, O1, q1⟩ := take_1 st k ns hn hp (some (.int m)) none none none
  obtain ⟨a, b, c, h, a0, b0, b1, c0, c1⟩ := P1.e
  have hk : k < st1.length := (List.getElem?_eq_some_iff.mp h).1
  by_cases ha : 0 < a
  · obtain ⟨r0, r1⟩ := fm_b a hm
    have q2 := t_2y st1 k a b c m _ _ ns y2 none y4 h ha (by omega) rfl rfl (gdiv hm hm2)
    refine ⟨a.fmod m, st1.set k (potL (a.fdiv m) b c ns), ?_, r0, r1, ⟨_, _, _, List.getElem?_set_self hk, ?_, b0, b1, c0, c1⟩, O1.trans (Only.set _ _ _)⟩
    · rw [ev_law_take, bt_law_take]
      exact congrArg RS.fin (sq q1 (sqR q2))
    · rw [fdiv_nn (by omega)]
      exact Int.ediv_nonneg a0 (by omega)
  · have q2 := t_2n st1 k a b c ns (some (.int m)) y2 none y4 h ha
    obtain ⟨p0, p1⟩ := fm_b (b * 48271 + 40692 * c + 11) (m := 2147483647) (by decide)
    have q3 := t_3 st1 k a b c _ _ _ ns (some (.int m)) y2 none y4 h (guardO_true (mulOK_r (by decide) (by decide))) (guardO_true (mulOK_l (by decide) (by decide))) rfl
    generalize (b * 48271 + 40692 * c + 11).fmod 2147483647 = p at *
    have h2 : (st1.set k (potL a p c ns))[k]? = some (potL a p c ns) := List.getElem?_set_self hk
    have O2 := Only.set st1 k (potL a p c ns)
    have hk2 : k < (st1.set k (potL a p c ns)).length := by rw [List.length_set]; exact hk
    generalize st1.set k (potL a p c ns) = st2 at *
    obtain ⟨w0, w1⟩ := fm_b (p * p + 7) (m := 2147483629) (by decide)
    have q4 := t_4 st2 k a p c _ _ ns (some (.int m)) y2 none y4 h2 (guardO_true (mulOK_r (by omega) (by omega))) rfl
    generalize (p * p + 7).fmod 2147483629 = w at *
    have h3 : (st2.set k (potL a w c ns))[k]? = some (potL a w c ns) := List.getElem?_set_self hk2
    have O3 := Only.set st2 k (potL a w c ns)
    generalize st2.set k (potL a w c ns) = st3 at *
    obtain ⟨r0, r1⟩ := fm_b (w.fdiv 8) hm
    have q5 := t_5 st3 k a w c m _ _ ns y2 none y4 h3 (by omega) rfl (gdiv (by decide) (by decide)) rfl
    refine ⟨(w.fdiv 8).fmod m, st3, ?_, r0, r1, ⟨_, _, _, h3, a0, w0, by omega, c0, c1⟩, (O1.trans O2).trans O3⟩
    rw [ev_law_take, bt_law_take]
    exact congrArg RS.fin (sq q1 (sq q2 (sq q3 (sq q4 (sqR q5)))))
end Lk57
end

section
set_option Elab.async false
set_option linter.all false
set_option maxRecDepth 100000
set_option autoImplicit false
namespace Lk57
open PySem WT
/-! ### the same -/
theorem same_ct (k : Nat) (xs : List D) (x : D) (i : Int) (y : Option D) (st : Sto) (hx : ixD xs i = some x) (h : s_law_same k [x, x] st = .ok (.bl true) st) :
    kCb (g_law_same k) (.name 2) false .non e_law_same1 [some (.tup xs), some (.tup xs), y] (.int i) st = .ok (some (.bl true)) st := by
  simp [e_law_same1, hx, h]
theorem same_cl (k : Nat) (xs : List D) (x : D) (i : Int) (y : Option D) (st : Sto) (hx : ixD xs i = some x) (h : s_law_same k [x, x] st = .ok (.bl true) st) :
    kCb (g_law_same k) (.name 2) false .non e_law_same1 [some (.lst xs), some (.lst xs), y] (.int i) st = .ok (some (.bl true)) st := by
  simp [e_law_same1, hx, h]
theorem same_len (k : Nat) (d : D) (n : Int) (x2 : Option D) (st : Sto) (hn : biD st .len [d] = some (.int n)) : evE (g_law_same k) (.cmp .Eq (.bi .len (.cons (.var 0) .nil)) (.bi .len (.cons (.var 1) .nil))) [some d, some d, x2] st = .ok (.bl true) st := by
  simp [hn]
theorem same_comp (k : Nat) (d : D) (n : Int) (R C : List D) (st : Sto) (hn : biD st .len [d] = some (.int n)) (hr : rangeD 0 n 1 = some R) (c : compLoop (kCb (g_law_same k) (.name 2) false .non e_law_same1 [some d, some d, none]) R st = .ok C st) (hz : C.length ≤ sizeLine) : evE (g_law_same k) (.comp (.name 2) (.range1 (.bi .len (.cons (.var 1) .nil))) false .non e_law_same1) [some d, some d, none] st = .ok (.lst C) st := by
  simp [hn, hr, c, hz]
theorem ev_all {g : GE} {e : WT.Env} {a : E} {st st1 : Sto} {d r : D} (h : evE g a e st = .ok d st1) (hr : biD st1 .all [d] = some r) : evE g (.bi .all (.cons a .nil)) e st = .ok r st1 := by
  simp [h, hr]
theorem ev_andT {g : GE} {e : WT.Env} {a b : E} {st st1 : Sto} (h : evE g a e st = .ok (.bl true) st1) : evE g (.and a b) e st = evE g b e st1 := by
  simp [h]
theorem ret_ok {g : GE} {e : WT.Env} {a : E} {st st1 : Sto} {d : D} (h : evE g a e st = .ok d st1) : evS g (.ret a) e st = .rt d st1 := by
  rw [evS_ret, h]; rfl
theorem same_5 (k : Nat) (d : D) (R C : List D) (n : Int) (st : Sto) (hn : biD st .len [d] = some (.int n)) (hr : rangeD 0 n 1 = some R) (c : compLoop (kCb (g_law_same k) (.name 2) false .non e_law_same1 [some d, some d, none]) R st = .ok C st) (hz : C.length ≤ sizeLine) (ha : biD st .all [.lst C] = some (.bl true)) :
    evS (g_law_same k) t_law_same5 [some d, some d, none] st = .rt (.bl true) st :=
  ret_ok ((ev_andT (same_len k d n none st hn)).trans (ev_all (same_comp k d n R C st hn hr c hz) ha))
theorem all_bl (st : Sto) (n : Nat) : biD st .all [.lst ((List.range n).map fun (_ : Nat) => D.bl true)] = some (.bl true) := by
  rw [biD_all_map st (fun _ => true)]
  simp
theorem sem_same : ∀ (n : Nat) (d : D), n ≤ 60 → alD n d = true → ∀ st, s_law_same (n + 1) [d, d] st = .ok (.bl true) st := by
  intro n
  induction n with
  | zero =>
    intro d _ h st
    have h64 : ∀ x, d = .str x → eqD (.str x) (.str x) = some true := fun x e => eqD_refl (by subst e; simpa [alD, okD] using h)
    rw [ev_law_same]
    cases d with
    | str x => simp [b_law_same, h64 x rfl]
    | _ => first | (simp [alD] at h; done) | simp [b_law_same]
  | succ n ih =>
    intro d hn h st
    have h64 : ∀ x, d = .str x → eqD (.str x) (.str x) = some true := fun x e => eqD_refl (by subst e; simpa [alD, okD] using h)
    have key : ∀ xs, alDs n xs = true → ∀ x ∈ xs, ∀ st, s_law_same (n + 1) [x, x] st = .ok (.bl true) st := by
      intro xs hx x hxm st
      rw [alDs_all, List.all_eq_true] at hx
      exact ih x (by omega) (hx x hxm) st
    cases d with
    | tup xs =>
      simp at h
      have hl : xs.length < 2 ^ 60 := Nat.lt_of_le_of_lt h.1 (by decide)
      have c : compLoop (kCb (g_law_same (n + 1)) (.name 2) false .non e_law_same1 [some (.tup xs), some (.tup xs), none]) ((List.range xs.length).map fun (i : Nat) => D.int (i : Int)) st = .ok ((List.range xs.length).map fun (_ : Nat) => D.bl true) st :=
        compLoop_mm (fun (i : Nat) => D.int (i : Int)) (fun _ => D.bl true) fun i hi => by
          have hi := List.mem_range.mp hi
          exact same_ct (n + 1) xs xs[i] i none st (ixD_nat (List.getElem?_eq_getElem hi)) (key xs h.2 _ (List.getElem_mem hi) st)
      have e1 : evS (g_law_same (n + 1)) t_law_same1 [some (.tup xs), some (.tup xs), none] st = .nx [some (.tup xs), some (.tup xs), none] st := by simp [t_law_same1]
      have e2 : evS (g_law_same (n + 1)) t_law_same2 [some (.tup xs), some (.tup xs), none] st = .nx [some (.tup xs), some (.tup xs), none] st := by simp [t_law_same2]
      have e3 : evS (g_law_same (n + 1)) t_law_same3 [some (.tup xs), some (.tup xs), none] st = .nx [some (.tup xs), some (.tup xs), none] st := by simp [t_law_same3]
      have e4 : evS (g_law_same (n + 1)) t_law_same4 [some (.tup xs), some (.tup xs), none] st = .nx [some (.tup xs), some (.tup xs), none] st := by simp [t_law_same4]
      rw [ev_law_same, bt_law_same]
      exact congrArg RS.fin (sq e1 (sq e2 (sq e3 (sq e4 (sqR (same_5 (n + 1) (.tup xs) _ _ _ st (biD_lent _ _) (rangeD_n _ (by omega)) c (by rw [List.length_map, List.length_range]; exact h.1) (all_bl st _)))))))
    | lst xs =>
      simp at h
      have hl : xs.length < 2 ^ 60 := Nat.lt_of_le_of_lt h.1 (by decide)
      have c : compLoop (kCb (g_law_same (n + 1)) (.name 2) false .non e_law_same1 [some (.lst xs), some (.lst xs), none]) ((List.range xs.length).map fun (i : Nat) => D.int (i : Int)) st = .ok ((List.range xs.length).map fun (_ : Nat) => D.bl true) st :=
        compLoop_mm (fun (i : Nat) => D.int (i : Int)) (fun _ => D.bl true) fun i hi => by
          have hi := List.mem_range.mp hi
          exact same_cl (n + 1) xs xs[i] i none st (ixD_nat (List.getElem?_eq_getElem hi)) (key xs h.2 _ (List.getElem_mem hi) st)
      have e1 : evS (g_law_same (n + 1)) t_law_same1 [some (.lst xs), some (.lst xs), none] st = .nx [some (.lst xs), some (.lst xs), none] st := by simp [t_law_same1]
      have e2 : evS (g_law_same (n + 1)) t_law_same2 [some (.lst xs), some (.lst xs), none] st = .nx [some (.lst xs), some (.lst xs), none] st := by simp [t_law_same2]
      have e3 : evS (g_law_same (n + 1)) t_law_same3 [some (.lst xs), some (.lst xs), none] st = .nx [some (.lst xs), some (.lst xs), none] st := by simp [t_law_same3]
      have e4 : evS (g_law_same (n + 1)) t_law_same4 [some (.lst xs), some (.lst xs), none] st = .nx [some (.lst xs), some (.lst xs), none] st := by simp [t_law_same4]
      rw [ev_law_same, bt_law_same]
      exact congrArg RS.fin (sq e1 (sq e2 (sq e3 (sq e4 (sqR (same_5 (n + 1) (.lst xs) _ _ _ st (biD_lenl _ _) (rangeD_n _ (by omega)) c (by rw [List.length_map, List.length_range]; exact h.1) (all_bl st _)))))))
    | str x => rw [ev_law_same]; simp [b_law_same, h64 x rfl]
    | _ => first | (simp [alD] at h; done) | (rw [ev_law_same]; simp [b_law_same])
theorem sem_law_same {d : D} (h : alD 11 d = true) (st : Sto) : F_law_same.sem [d, d] st = .ok (.bl true) st := sem_same 11 d (by decide) h st
/-! ### sums -/
end Lk57
end

section
set_option Elab.async false
set_option linter.all false
set_option maxRecDepth 100000
set_option autoImplicit false
namespace Lk57
open PySem WT
/-! ### the errors -/
def nms : List Str := [("InvalidGame" : Str), ("InvalidRule" : Str), ("InvalidLot" : Str), ("InvalidPays" : Str), ("InvalidPrizes" : Str), ("InvalidSource" : Str), ("InvalidWord" : Str), ("NotEnding" : Str), ("NotSolo" : Str),
  ("InvalidNumber" : Str), ("InvalidShares" : Str), ("InvalidFigures" : Str), ("InvalidLeaves" : Str), ("InvalidMachine" : Str), ("InvalidRow" : Str), ("InvalidThing" : Str), ("InvalidPair" : Str), ("NeverEnds" : Str), ("NotDrawn" : Str), ("InvalidDice" : Str), ("InvalidTable" : Str),
  ("InvalidReader" : Str), ("NoTable" : Str), ("InvalidName" : Str), ("UnknownName" : Str), ("NothingToUndo" : Str), ("Unreadable" : Str), ("Unorderly" : Str)]
def nmE (w : Nat) : Str := nms.getD w ""
theorem cases9 {P : Nat → Prop} (h : P 0 ∧ P 1 ∧ P 2 ∧ P 3 ∧ P 4 ∧ P 5 ∧ P 6 ∧ P 7 ∧ P 8) (w : Nat) (hw : w < 9) : P w := by
  obtain ⟨h0, h1, h2, h3, h4, h5, h6, h7, h8⟩ := h
  match w, hw with
  | 0, _ => exact h0
  | 1, _ => exact h1
  | 2, _ => exact h2
  | 3, _ => exact h3
  | 4, _ => exact h4
  | 5, _ => exact h5
  | 6, _ => exact h6
  | 7, _ => exact h7
  | 8, _ => exact h8
theorem sem_raised (d : D) (st : Sto) : ∀ w : Nat, w < 9 → F_law_raised.sem [.int (w : Int), d] st = .exn (nmE w) d st := by
  refine cases9 ⟨?_, ?_, ?_, ?_, ?_, ?_, ?_, ?_, ?_⟩ <;> (rw [ev_law_raised]; simp [b_law_raised, nmE, nms, RS.fin])
theorem sem_raisedN (d : D) (st : Sto) : ∀ w : Nat, w < 9 → F_law_raised_named.sem [.int (w : Int), d] st = .exn (nmE w) d st := by
  refine cases9 ⟨?_, ?_, ?_, ?_, ?_, ?_, ?_, ?_, ?_⟩ <;> (rw [ev_law_raised_named]; simp [b_law_raised_named, nmE, nms, RS.fin])
theorem s_dX {g : GE} {env : WT.Env} {st st1 : Sto} {a : E} {x : Str} {d : D} (h : evE g a env st = .exn x d st1) : evS g (.drop a) env st = .exn x d env st1 := by
  rw [evS_drop, h]; rfl
theorem sX {g : GE} {env env1 : WT.Env} {st st1 : Sto} {s : S} {ss : Ss} {x : Str} {d : D} (h : evS g s env st = .exn x d env1 st1) : evSs g (.cons s ss) env st = .exn x d env1 st1 := by
  rw [evSs_cons, h]; rfl
theorem sem_caught (d : D) (st : Sto) (w : Nat) (hw : w < 9) (b : Bool) : F_law_caught.sem [.int (w : Int), d, .bl b] st = .ok (.exc (nmE w) d) st := by
  rw [ev_law_caught, bt_law_caught]
  have s1 : evS g_law_caught t_law_caught1 [some (.int (w : Int)), some d, some (.bl b), none, none] st = .nx [some (.int (w : Int)), some d, some (.bl b), some .non, none] st := s_pln rfl
  have s2 : evS g_law_caught t_law_caught2 [some (.int (w : Int)), some d, some (.bl b), some .non, none] st = .nx [some (.int (w : Int)), some d, some (.bl b), some (.exc (nmE w) d), none] st := by
    refine s_tryX (env' := [some (.int (w : Int)), some d, some (.bl b), some .non, none]) (st1 := st) (x := nmE w) (d := d) rfl ?_ rfl
    cases b with
    | true => exact sX (s_iT (ev_var rfl) rfl (sX (s_dX (ev_cl (es_c (ev_var rfl) (es_c (ev_var rfl) es_nil')) es_nil' rfl rfl (sem_raisedN d st w hw)))))
    | false => exact sX (s_iF (ev_var rfl) rfl (sX (s_dX (ev_cl (es_c (ev_var rfl) (es_c (ev_var rfl) es_nil')) es_nil' rfl rfl (sem_raised d st w hw)))))
  exact congrArg RS.fin (sq s1 (sq s2 (sqR (s_ret (ev_var rfl)))))
theorem ev_isx {g : GE} {env : WT.Env} {st st1 : Sto} {a : E} {cs : List Str} {all : Bool} {y c : Str} {d : D} (h : evE g a env st = .ok (.exc c d) st1) (hc : c ∈ cs) : evE g (.isx a cs all y) env st = .ok (.bl (all || y == c)) st1 := by
  rw [evE_isx, h, WT.R.bind_ok, isxD, if_pos hc]; rfl
theorem ev_xval {g : GE} {env : WT.Env} {st st1 : Sto} {a : E} {cs : List Str} {c : Str} {d : D} (h : evE g a env st = .ok (.exc c d) st1) (hc : c ∈ cs) : evE g (.xval a cs) env st = .ok d st1 := by
  rw [evE_xval, h, WT.R.bind_ok, xvalD, if_pos hc]; rfl
theorem nm_mem : ∀ w : Nat, w < 9 → nmE w ∈ clsL := by decide +kernel
def kL (w : Nat) : List D := nms.map fun y => .bl (y == nmE w)
theorem kL_eq : ∀ w : Nat, w < 9 → (nms.map fun y => (y == nmE w)) = (List.range 28).map fun k => decide (k = w) := by decide +kernel
theorem kL_D (w : Nat) (hw : w < 9) : kL w = (List.range 28).map fun (k : Nat) => D.bl (decide ((k : Int) = (w : Int))) := by
  have z := congrArg (List.map D.bl) (kL_eq w hw)
  unfold kL
  rw [List.map_map, List.map_map] at z
  rw [show (fun (k : Nat) => D.bl (decide ((k : Int) = (w : Int)))) = D.bl ∘ (fun (k : Nat) => decide (k = w)) from funext fun k => congrArg D.bl (decide_eq_decide.mpr ⟨fun h => by omega, fun h => by omega⟩)]
  exact z
theorem sem_kinds (d : D) (st : Sto) (w : Nat) (hw : w < 9) : F_law_kinds.sem [.exc (nmE w) d] st = .ok (.lst (kL w)) st := by
  have hc := nm_mem w hw
  have q : ∀ (y : Str) (z : Option D), evE g_law_kinds (.isx (.var 0) clsL false y) [some (.exc (nmE w) d), z] st = .ok (.bl (y == nmE w)) st := fun y z => ev_isx (ev_var rfl) hc
  have l3 : ∀ (a b c : Str) (z : Option D), evE g_law_kinds (.lst (.cons (.isx (.var 0) clsL false a) (.cons (.isx (.var 0) clsL false b) (.cons (.isx (.var 0) clsL false c) .nil)))) [some (.exc (nmE w) d), z] st = .ok (.lst [.bl (a == nmE w), .bl (b == nmE w), .bl (c == nmE w)]) st := fun a b c z =>
    ev_lst' (es_c (q a z) (es_c (q b z) (es_c (q c z) es_nil'))) (by simp [sizeLine])
  have step : ∀ (L : List D) (a b c : Str), L.length ≤ 30 → evS g_law_kinds (.set 1 .pln (.bin .Add (.var 1) (.lst (.cons (.isx (.var 0) clsL false a) (.cons (.isx (.var 0) clsL false b) (.cons (.isx (.var 0) clsL false c) .nil)))))) [some (.exc (nmE w) d), some (.lst L)] st =
      .nx [some (.exc (nmE w) d), some (.lst (L ++ [.bl (a == nmE w), .bl (b == nmE w), .bl (c == nmE w)]))] st := fun L a b c hL =>
    s_pln (ev_b (ev_var rfl) (l3 a b c _) (by rw [binD_addl, guardO_true (by unfold sizeLine; simp; omega)]))
  rw [ev_law_kinds, bt_law_kinds]
  have s1 : evS g_law_kinds t_law_kinds1 [some (.exc (nmE w) d), none] st = .nx [some (.exc (nmE w) d), some (.lst [.bl (("InvalidGame" : Str) == nmE w), .bl (("InvalidRule" : Str) == nmE w), .bl (("InvalidLot" : Str) == nmE w)])] st := s_pln (l3 _ _ _ _)
  refine congrArg RS.fin (sq s1 (sq (step _ _ _ _ (by simp)) (sq (step _ _ _ _ (by simp)) (sq (step _ _ _ _ (by simp)) (sq (step _ _ _ _ (by simp)) (sq (step _ _ _ _ (by simp)) (sq (step _ _ _ _ (by simp)) (sq (step _ _ _ _ (by simp)) (sq (step _ _ _ _ (by simp)) (sqR (s_ret (d := .lst (kL w)) ?_)))))))))))
  refine ev_b (ev_var rfl) (ev_lst' (es_c (q _ _) es_nil') (by simp [sizeLine])) ?_
  rw [binD_addl, guardO_true (by unfold sizeLine; simp)]
  rfl
theorem sem_right {d : D} (hd : alD 11 d = true) (st : Sto) (w : Nat) (hw : w < 9) : F_law_right.sem [.exc (nmE w) d, .int (w : Int), d] st = .ok (.bl true) st := by
  have hc := nm_mem w hw
  rw [ev_law_right, bt_law_right]
  have s1 : evS g_law_right t_law_right1 [some (.exc (nmE w) d), some (.int (w : Int)), some d, none] st = .nx [some (.exc (nmE w) d), some (.int (w : Int)), some d, none] st :=
    s_iF (ev_oF (ev_c (ev_var rfl) rfl rfl) rfl (ev_nt (x := .bl true) (b := true) (ev_isx (ev_var rfl) hc) rfl)) rfl rfl
  have hk : alD 11 (.lst (kL w)) = true := by
    rw [kL_D w hw]
    have : ∀ w : Nat, w < 9 → alD 11 (.lst ((List.range 28).map fun (k : Nat) => D.bl (decide ((k : Int) = (w : Int))))) = true := by decide +kernel
    exact this w hw
  have hcomp : evE g_law_right (.comp (.name 3) (.range1 (.int 28)) false .non e_law_right1) [some (.exc (nmE w) d), some (.int (w : Int)), some d, none] st = .ok (.lst (kL w)) st := by
    rw [kL_D w hw]
    refine ev_comp (it_r1 (n := 28) rfl (by omega)) (compLoop_mm (fun (i : Nat) => D.int (i : Int)) (fun k => D.bl (decide ((k : Int) = (w : Int)))) fun i hi => cb_ok rfl (ev_c (ev_var rfl) (ev_var rfl) (eqD_int _ _))) (by rw [List.length_map, List.length_range]; unfold sizeLine; omega)
  refine congrArg RS.fin (sq s1 (sqR (s_ret ?_)))
  have hkk : evE g_law_right (.call 6 (.cons (.var 0) .nil) .nil []) [some (.exc (nmE w) d), some (.int (w : Int)), some d, none] st = .ok (.lst (kL w)) st := ev_cl (fi := F_law_kinds) (es_c (ev_var rfl) es_nil') es_nil' rfl rfl (sem_kinds d st w hw)
  have hks : evE g_law_right (.call 5 (.cons (.call 6 (.cons (.var 0) .nil) .nil []) (.cons (.comp (.name 3) (.range1 (.int 28)) false .non e_law_right1) .nil)) .nil []) [some (.exc (nmE w) d), some (.int (w : Int)), some d, none] st = .ok (.bl true) st := ev_cl (fi := F_law_same) (es_c hkk (es_c hcomp es_nil')) es_nil' rfl rfl (sem_law_same hk st)
  refine (ev_andT hks).trans ?_
  exact ev_cl (fi := F_law_same) (es_c (ev_xval (ev_var rfl) hc) (es_c (ev_var rfl) es_nil')) es_nil' rfl rfl (sem_law_same hd st)
end Lk57
end

section
set_option Elab.async false
set_option linter.all false
set_option maxRecDepth 100000
set_option autoImplicit false
namespace Lk57
open PySem WT
/-! ### what is given -/
theorem tk {g : GE} (hf : g.fns[3]? = some F_law_take) {env : WT.Env} {st : Sto} {ns : List Int} (hn : ns.length ≤ 1000) (hP : Pot ns st 0) {v : Nat} {e : E} {m : Nat} (hv : slot env v = some (.ref 0)) (he : evE g e env st = .ok (.int (m : Int)) st) (h0 : 0 < m) (h1 : m < 2 ^ 60) :
    ∃ (r : Nat) (st' : Sto), evE g (.call 3 (.cons (.var v) (.cons e .nil)) .nil []) env st = .ok (.int (r : Int)) st' ∧ r < m ∧ Pot ns st' 0 := by
  obtain ⟨r, st', h2, h3, h4, P, _⟩ := sem_take st 0 ns hn hP (m : Int) (by omega) (by omega)
  obtain ⟨r, rfl⟩ : ∃ k : Nat, r = k := ⟨r.toNat, by omega⟩
  exact ⟨r, st', ev_cl (es_c (ev_var hv) (es_c he es_nil')) es_nil' hf rfl h2, by omega, P⟩
/-- the values that are drawn -/
def gvL (far : Int) (c : Nat) : List D := [.int far, .int c, .str ("" : Str), .str ("a b" : Str), .non, .bl true, .bl false, .tup [], .tup [.int far, .int 1], .lst [.int far, .str ("x" : Str)], .tup [.tup [.int 1, .int 2], .tup [.str ("to" : Str), .tup []]], .lst [],
  .int (-1), .int 0, .tup [.int 2, .tup [.tup [.str ("toss" : Str), .tup [.str ("is" : Str), .int 0], .tup [.str ("is" : Str), .int 1]]]]]
theorem gv_al (far : Int) (c i : Nat) (h : i < 15) : ∃ d, (gvL far c)[i]? = some d ∧ alD 11 d = true := by
  have hl : i < (gvL far c).length := h
  refine ⟨(gvL far c)[i], List.getElem?_eq_getElem hl, ?_⟩
  match i, h with
  | 0, _ => rfl
  | 1, _ => rfl
  | 2, _ => exact (by decide +kernel : alD 11 (.str ("" : Str)) = true)
  | 3, _ => exact (by decide +kernel : alD 11 (.str ("a b" : Str)) = true)
  | 4, _ => rfl
  | 5, _ => rfl
  | 6, _ => rfl
  | 7, _ => rfl
  | 8, _ => rfl
  | 9, _ => show alD 11 (.lst [.int far, .str ("x" : Str)]) = true
            have : alD 10 (.str ("x" : Str)) = true := by decide +kernel
            simp [alD, alDs] at this ⊢
            exact ⟨by unfold sizeLine; omega, this⟩
  | 10, _ => exact (by decide +kernel : alD 11 (.tup [.tup [.int 1, .int 2], .tup [.str ("to" : Str), .tup []]]) = true)
  | 11, _ => rfl
  | 12, _ => rfl
  | 13, _ => rfl
  | 14, _ => exact (by decide +kernel : alD 11 (.tup [.int 2, .tup [.tup [.str ("toss" : Str), .tup [.str ("is" : Str), .int 0], .tup [.str ("is" : Str), .int 1]]]]) = true)
theorem sem_given {st : Sto} {ns : List Int} (hn : ns.length ≤ 1000) (hP : Pot ns st 0) : ∃ d st', F_law_given.sem [.ref 0] st = .ok d st' ∧ alD 11 d = true ∧ Pot ns st' 0 := by
  rw [ev_law_given, bt_law_given]
  have e9 : ∀ (y z : Option D) (st : Sto), evE g_law_given (.bin .Pow (.int 10) (.int 9)) [some (.ref 0), y, z] st = .ok (.int ((10 ^ 9 : Nat) : Int)) st := fun y z st => ev_b rfl rfl (by rw [binD_pow, guardO_true (by decide)]; rfl)
  obtain ⟨a, st1, q1, _, P1⟩ := tk (g := g_law_given) rfl hn hP (v := 0) (e := .bin .Pow (.int 10) (.int 9)) (m := 10 ^ 9) (env := [some (.ref 0), none, none]) rfl (e9 _ _ _) (by decide) (by decide)
  obtain ⟨b, st2, q2, _, P2⟩ := tk (g := g_law_given) rfl hn P1 (v := 0) (e := .bin .Pow (.int 10) (.int 9)) (m := 10 ^ 9) (env := [some (.ref 0), none, none]) rfl (e9 _ _ _) (by decide) (by decide)
  have s1 : ∃ far, evS g_law_given t_law_given1 [some (.ref 0), none, none] st = .nx [some (.ref 0), some (.int far), none] st2 := by
    refine ⟨(a : Int) * 10 ^ 20 + b - 10 ^ 28, s_pln ?_⟩
    refine ev_b (x := .int ((a : Int) * 10 ^ 20 + b)) (ev_b (ev_b (z := .int ((a : Int) * 10 ^ 20)) q1 (ev_b (z := .int (10 ^ 20)) rfl rfl (by rw [binD_pow, guardO_true (by decide)]; rfl)) ?_) q2 ?_) (ev_b (z := .int (10 ^ 28)) rfl rfl (by rw [binD_pow, guardO_true (by decide)]; rfl)) ?_
    · rw [binD_mul, guardO_true (mulOK_l (by omega) (by omega))]
    · rw [binD_add]
    · rw [binD_sub]
  obtain ⟨far, s1⟩ := s1
  obtain ⟨c, st3, q3, _, P3⟩ := tk (g := g_law_given) rfl hn P2 (v := 0) (e := .int 9) (m := 9) (env := [some (.ref 0), some (.int far), none]) rfl rfl (by decide) (by decide)
  obtain ⟨i, st4, q4, hi, P4⟩ := tk (g := g_law_given) rfl hn P3 (v := 0) (e := .int 15) (m := 15) (env := [some (.ref 0), some (.int far), some (.lst (gvL far c))]) rfl rfl (by decide) (by decide)
  obtain ⟨d, hd, hal⟩ := gv_al far c i hi
  have hz : ∀ n : Nat, n ≤ 100 → n ≤ sizeLine := fun n h => by unfold sizeLine; omega
  have es : ∀ {e : E} {x : D} {s s' : Sto}, evE g_law_given e [some (.ref 0), some (.int far), none] s = .ok x s' → evE g_law_given e [some (.ref 0), some (.int far), none] s = .ok x s' := fun h => h
  have s2 : evS g_law_given t_law_given2 [some (.ref 0), some (.int far), none] st2 = .nx [some (.ref 0), some (.int far), some (.lst ((gvL far c).take 12))] st3 :=
    s_pln (ev_lst' (es_c (ev_var rfl) (es_c q3 (es_c rfl (es_c rfl (es_c rfl (es_c rfl (es_c rfl (es_c (ev_tup' es_nil' (hz _ (by simp))) (es_c (ev_tup' (es_c (ev_var rfl) (es_c rfl es_nil')) (hz _ (by simp))) (es_c (ev_lst' (es_c (ev_var rfl) (es_c rfl es_nil')) (hz _ (by simp)))
      (es_c (ev_tup' (es_c (ev_tup' (es_c rfl (es_c rfl es_nil')) (hz _ (by simp))) (es_c (ev_tup' (es_c rfl (es_c (ev_tup' es_nil' (hz _ (by simp))) es_nil')) (hz _ (by simp))) es_nil')) (hz _ (by simp))) (es_c (ev_lst' es_nil' (hz _ (by simp))) es_nil')))))))))))) (hz _ (by simp [gvL])))
  have s3 : evS g_law_given t_law_given3 [some (.ref 0), some (.int far), some (.lst ((gvL far c).take 12))] st3 = .nx [some (.ref 0), some (.int far), some (.lst (gvL far c))] st3 := by
    refine s_pln (ev_b (ev_var rfl) (y := .lst ((gvL far c).drop 12)) ?_ ?_)
    · refine ev_lst' (es_c (x := .int (-1)) rfl (es_c rfl (es_c ?_ es_nil'))) (hz _ (by simp [gvL]))
      exact ev_tup' (es_c rfl (es_c (ev_tup' (es_c (ev_tup' (es_c rfl (es_c (ev_tup' (es_c rfl (es_c rfl es_nil')) (hz _ (by simp))) (es_c (ev_tup' (es_c rfl (es_c rfl es_nil')) (hz _ (by simp))) es_nil'))) (hz _ (by simp))) es_nil') (hz _ (by simp))) es_nil')) (hz _ (by simp))
    · rw [binD_addl, guardO_true (hz _ (by simp [gvL]))]
      rfl
  exact ⟨d, st4, congrArg RS.fin (sq s1 (sq s2 (sq s3 (sqR (s_ret (ev_x (x := .lst (gvL far c)) (ev_var rfl) q4 (ixD_nat hd))))))), hal, P4⟩
/-! ### the law -/
theorem inner {ns : List Int} (hn : ns.length ≤ 1000) {st : Sto} (hP : Pot ns st 0) (w : Nat) (hw : w < 9) (x0 x2 x4 x5 x6 x7 x8 : Option D) :
    ∃ st' y4 y5 y6 y7 y8, Pot ns st' 0 ∧ evSs g_law l_law1 [x0, some (.ref 0), x2, some (.int (w : Int)), x4, x5, x6, x7, x8] st = .nx [x0, some (.ref 0), x2, some (.int (w : Int)), y4, y5, y6, y7, y8] st' := by
  rw [btl_law1]
  obtain ⟨d1, st1, q1, h1, P1⟩ := sem_given hn hP
  obtain ⟨d2, st2, q2, h2, P2⟩ := sem_given hn P1
  obtain ⟨r, st3, q3, _, P3⟩ := tk (g := g_law) rfl hn P2 (v := 1) (e := .int 2) (m := 2) (env := [x0, some (.ref 0), x2, some (.int (w : Int)), x4, x5, x6, x7, x8]) rfl rfl (by decide) (by decide)
  have s1 : evS g_law tl_law1_1 [x0, some (.ref 0), x2, some (.int (w : Int)), x4, x5, x6, x7, x8] st = .nx [x0, some (.ref 0), x2, some (.int (w : Int)), x4, x5, some d1, some d2, some (.bl (decide ((r : Int) = 0)))] st3 :=
    s_par3 (ev_cl (es_c (ev_var rfl) es_nil') es_nil' rfl rfl q1) rfl (ev_cl (es_c (ev_var rfl) es_nil') es_nil' rfl rfl q2) rfl (ev_c q3 rfl (eqD_int _ _)) rfl
  generalize decide ((r : Int) = 0) = b at s1
  have s2 : evS g_law tl_law1_2 [x0, some (.ref 0), x2, some (.int (w : Int)), x4, x5, some d1, some d2, some (.bl b)] st3 = .nx [x0, some (.ref 0), x2, some (.int (w : Int)), some (.exc (nmE w) d1), x5, some d1, some d2, some (.bl b)] st3 :=
    s_pln (ev_cl (es_c (ev_var rfl) (es_c (ev_var rfl) (es_c (ev_var rfl) es_nil'))) es_nil' rfl rfl (sem_caught d1 st3 w hw b))
  have s3 : evS g_law tl_law1_3 [x0, some (.ref 0), x2, some (.int (w : Int)), some (.exc (nmE w) d1), x5, some d1, some d2, some (.bl b)] st3 = .nx [x0, some (.ref 0), x2, some (.int (w : Int)), some (.exc (nmE w) d1), some (.exc (nmE w) d2), some d1, some d2, some (.bl b)] st3 :=
    s_pln (ev_cl (es_c (ev_var rfl) (es_c (ev_var rfl) (es_c (ev_nt (x := .bl b) (b := b) (ev_var rfl) rfl) es_nil'))) es_nil' rfl rfl (sem_caught d2 st3 w hw (!b)))
  have s4 : evS g_law tl_law1_4 [x0, some (.ref 0), x2, some (.int (w : Int)), some (.exc (nmE w) d1), some (.exc (nmE w) d2), some d1, some d2, some (.bl b)] st3 = .nx [x0, some (.ref 0), x2, some (.int (w : Int)), some (.exc (nmE w) d1), some (.exc (nmE w) d2), some d1, some d2, some (.bl b)] st3 :=
    s_iF (ev_oF (ev_nt (x := .bl true) (b := true) (ev_cl (es_c (ev_var rfl) (es_c (ev_var rfl) (es_c (ev_var rfl) es_nil'))) es_nil' rfl rfl (sem_right h1 st3 w hw)) rfl) rfl
      (ev_nt (x := .bl true) (b := true) (ev_cl (es_c (ev_var rfl) (es_c (ev_var rfl) (es_c (ev_var rfl) es_nil'))) es_nil' rfl rfl (sem_right h2 st3 w hw)) rfl)) rfl rfl
  exact ⟨st3, _, _, _, _, _, P3, sq s1 (sq s2 (sq s3 (sq s4 rfl)))⟩
theorem turn {ns : List Int} (hn : ns.length ≤ 1000) {st : Sto} (hP : Pot ns st 0) (x0 x2 x3 x4 x5 x6 x7 x8 : Option D) :
    ∃ st' y3 y4 y5 y6 y7 y8, Pot ns st' 0 ∧ evSs g_law l_law2 [x0, some (.ref 0), x2, x3, x4, x5, x6, x7, x8] st = .nx [x0, some (.ref 0), x2, y3, y4, y5, y6, y7, y8] st' := by
  have hl : ∃ st' y3 y4 y5 y6 y7 y8, Pot ns st' 0 ∧ forD (.name 3) (evSs g_law l_law1) ((List.range 9).map fun (i : Nat) => D.int (i : Int)) [x0, some (.ref 0), x2, x3, x4, x5, x6, x7, x8] st = .nx [x0, some (.ref 0), x2, y3, y4, y5, y6, y7, y8] st' := by
    refine forD_map (P := fun z => ∃ st' y3 y4 y5 y6 y7 y8, Pot ns st' 0 ∧ z = .nx [x0, some (.ref 0), x2, y3, y4, y5, y6, y7, y8] st')
      (fun pre env st' => Pot ns st' 0 ∧ ∃ y3 y4 y5 y6 y7 y8, env = [x0, some (.ref 0), x2, y3, y4, y5, y6, y7, y8]) ⟨hP, _, _, _, _, _, _, rfl⟩ ?_ ?_
    · rintro pre i post env st' e ⟨P, y3, y4, y5, y6, y7, y8, rfl⟩
      have hi : i < 9 := List.mem_range.mp (by rw [e]; simp)
      obtain ⟨st2, z4, z5, z6, z7, z8, P2, w⟩ := inner hn P i hi x0 x2 y4 y5 y6 y7 y8
      exact ⟨_, bindTg_name _ _ _, stepN _ rfl w ⟨P2, _, _, _, _, _, _, rfl⟩⟩
    · rintro env st' ⟨P, y3, y4, y5, y6, y7, y8, rfl⟩
      exact ⟨st', _, _, _, _, _, _, P, rfl⟩
  obtain ⟨st', y3, y4, y5, y6, y7, y8, P, w⟩ := hl
  exact ⟨st', _, _, _, _, _, _, P, sq (s_for (it_r1 (n := 9) rfl (by omega)) w) rfl⟩
theorem noLs_ilst (xs : List Int) : noLs (ilst xs) = true := by
  induction xs with
  | nil => rfl
  | cons x xs ih => rw [ilst_cons, noLs, ih]; rfl
theorem plain (ns : List Int) (h : ns.length ≤ 63) : ∃ st, F_law.sem [.frz ns] [] = .ok (.bl true) st := by
  have s1 : evS g_law t_law1 [some (.frz ns), none, none, none, none, none, none, none, none] [] = .nx [some (.frz ns), some (.ref 0), none, none, none, none, none, none, none] ([] ++ [potL 0 7 3 ns]) := by
    have hz : 3 + ns.length ≤ sizeLine := by unfold sizeLine; omega
    have e3 : evE g_law (.bin .Add (.lst (.cons (.int 0) (.cons (.int 7) (.cons (.int 3) .nil)))) (.bi .list (.cons (.var 0) .nil))) [some (.frz ns), none, none, none, none, none, none, none, none] [] = .ok (.lst (potL 0 7 3 ns)) [] :=
      ev_b (ev_lst' (es_c rfl (es_c rfl (es_c rfl es_nil'))) (by simp [sizeLine])) (ev_bi1 (ev_var rfl) (biD_listf _ _)) (by rw [binD_addl, guardO_true (by rw [ilst_length]; exact hz)]; rfl)
    have hnl : noLs (potL 0 7 3 ns) = true := by
      unfold potL
      have := noLs_ilst ns
      simp [noLs, noL, this]
    refine s_pln ?_
    rw [evE_box, e3, WT.R.bind_ok, kBox_ap, if_pos hnl]
    rfl
  have hP : Pot ns ([] ++ [potL 0 7 3 ns]) 0 := ⟨0, 7, 3, rfl, by decide, by decide, by decide, by decide, by omega⟩
  generalize ([] : Sto) ++ [potL 0 7 3 ns] = st0 at *
  have hm : ∃ n : Nat, n < 2 ^ 62 ∧ evIt g_law (.range1 (.bi .max2 (.cons (.int 1) (.cons (.bi .min2 (.cons (.int 12) (.cons (.bi .len (.cons (.var 0) .nil)) .nil))) .nil)))) [some (.frz ns), some (.ref 0), none, none, none, none, none, none, none] st0 = .ok ((List.range n).map fun (k : Nat) => D.int (k : Int)) st0 := by
    refine ⟨max 1 (min 12 ns.length), by omega, it_r1 ?_ (by omega)⟩
    refine ev_bi (es_c rfl (es_c (ev_bi (xs := [.int 12, .int (ns.length : Nat)]) (es_c rfl (es_c (ev_bi1 (ev_var rfl) (biD_lenf _ _)) es_nil')) (biD_min2 _ _ _)) es_nil')) ?_
    rw [biD_max2]
    congr 2
    omega
  obtain ⟨n, hn, hm⟩ := hm
  have s2 : ∃ st' y2 y3 y4 y5 y6 y7 y8, evS g_law t_law2 [some (.frz ns), some (.ref 0), none, none, none, none, none, none, none] st0 = .nx [some (.frz ns), some (.ref 0), y2, y3, y4, y5, y6, y7, y8] st' := by
    have hl : ∃ st' y2 y3 y4 y5 y6 y7 y8, forD (.name 2) (evSs g_law l_law2) ((List.range n).map fun (i : Nat) => D.int (i : Int)) [some (.frz ns), some (.ref 0), none, none, none, none, none, none, none] st0 = .nx [some (.frz ns), some (.ref 0), y2, y3, y4, y5, y6, y7, y8] st' := by
      refine forD_map (P := fun z => ∃ st' y2 y3 y4 y5 y6 y7 y8, z = .nx [some (.frz ns), some (.ref 0), y2, y3, y4, y5, y6, y7, y8] st')
        (fun pre env st' => Pot ns st' 0 ∧ ∃ y2 y3 y4 y5 y6 y7 y8, env = [some (.frz ns), some (.ref 0), y2, y3, y4, y5, y6, y7, y8]) ⟨hP, _, _, _, _, _, _, _, rfl⟩ ?_ ?_
      · rintro pre t post env st' e ⟨P, y2, y3, y4, y5, y6, y7, y8, rfl⟩
        obtain ⟨st2, z3, z4, z5, z6, z7, z8, P2, w⟩ := turn (by omega) P (some (.frz ns)) (some (.int (t : Int))) y3 y4 y5 y6 y7 y8
        exact ⟨_, bindTg_name _ _ _, stepN _ rfl w ⟨P2, _, _, _, _, _, _, _, rfl⟩⟩
      · rintro env st' ⟨P, y2, y3, y4, y5, y6, y7, y8, rfl⟩
        exact ⟨_, _, _, _, _, _, _, _, rfl⟩
    obtain ⟨st', y2, y3, y4, y5, y6, y7, y8, w⟩ := hl
    exact ⟨st', _, _, _, _, _, _, _, s_for hm w⟩
  obtain ⟨st', y2, y3, y4, y5, y6, y7, y8, s2⟩ := s2
  refine ⟨st', ?_⟩
  rw [ev_law, bt_law]
  exact congrArg RS.fin (sq s1 (sq s2 (sqR (s_ret rfl))))
end Lk57
end

set_option Elab.async false
set_option linter.all false
set_option maxRecDepth 100000
set_option maxHeartbeats 0
open PySem PySem.W PySem.Calls PyProof.Rows
namespace Lk57
open HandSHeadRun
theorem walk : WalkO prgQ loose (XL prgQ []) hk.says rowR.toRowW defD [] (fun f vs => PySem.call f vs) := by
  refine WT.walk_ofW (l := PySem.Challenge.rw_wholetosses_k57_errors_of_games_and_sour) (n := 63) (k := Lk57.lvl) (x := "script") rfl (by decide) asm10 ⟨rfl, by decide, by decide⟩ ?F
  intro w mg fa h Y G hmg0
  obtain ⟨K, KX, c⟩ := Y
  have hmg : mg "law" = some (.ref fa) := asm9 ▸ hmg0
  have e := hmg.symm.trans (WT.facts_glo c.look KX G (x := "law") (by decide))
  cases e
  obtain ⟨fd, F, hb⟩ := Lk57.all_ok (P := PySem.Challenge.rw_wholetosses_k57_errors_of_games_and_sour.prog) (w := w) KX G c
  refine ⟨K, fd, _, KX, hb, ?_, fun base _ _ => F base⟩
  intro H a ns hl hO hS
  obtain ⟨st, hst⟩ := Lk57.plain ns hl
  exact WT.law_sp hst hO hS
end Lk57
theorem PySem.Challenge.cw_wholetosses_k57_errors_of_games_and_sour_holds : PySem.Challenge.rw_wholetosses_k57_errors_of_games_and_sour.Holds := by
  w_on; o_law
  exact HandSHeadRun.head_imp (r := Lk57.rowR) (q := Lk57.prgQ) (H := Lk57.hk) (ob := Lk57.ob) (M := 16000) (loose := Lk57.loose) (d := Lk57.defD) (kwd := []) Lk57.ob_eq
    Lk57.run Lk57.asm1 Lk57.asm2 Lk57.asm3 Lk57.asm4 Lk57.asm5 Lk57.asm6 Lk57.asm7 Lk57.asm8 Lk57.walk

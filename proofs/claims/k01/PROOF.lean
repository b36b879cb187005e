import PyProof.Rows.All
import Wide.All
import OpenK.AllK
import Wide.FinOn
import HandS.ForExc
import HandS.Comp
import HandS.Iter
import HandS.Zip
import HandS.IsInst
import HandS.Wide
import HandS.Deep
import HandS.TupAny
import HandS.ExcCtx
import HandS.Hot
import HandS.HotCalls
import HandS.ExcIs
import HandS.More
import HandS.TupLe
import HandS.Base
import HandS.Call
import HandS.Exc
import HandS.CallSlots
import HandS.RevRange
import HandS.Conv
import HandS.RevTup
import HandS.Rev
import HandS.Style
import PyProof.ListRange
import HandS.Dict
import KE.KDictDisplayH
import HandS.Sort
import HandS.Defaults
import HandS.Head0
import HandS.Head1
import HandS.Head2
import HandS.HeadEnd
import HandS.HeadHook1
import HandS.HeadHook2
import PySem.Challenge.RW_signsmooth_k01_fractions_made
set_option Elab.async false
set_option linter.all false
set_option maxRecDepth 100000
set_option maxHeartbeats 4000000
set_option exponentiation.threshold 30000
/-! SgCore: an evaluator of a part of Python over values as trees, with a small heap of the lists that are still written to. -/
namespace Sg
open PySem PySem.Spec PyProof.Rows L2
noncomputable section

/-- a value: what is never written to again is a tree; what may still be written to is a place in the small heap -/
inductive D where
  | non | bl (b : Bool) | int (i : Int) | str (x : Str)
  | tup (xs : List D) | ktp (xs : List D) | lst (xs : List D) | fro (xs : List D) | dct (t : Bool) (ks : List D) (vs : List D) | ref (i : Nat) | exo (a : Nat)
  deriving Inhabited

structure Cell where
  m : Bool
  d : D
  deriving Inhabited

inductive R (α : Type) where
  | ok (a : α) (M : List Cell)
  | exc (c : Nat) (M : List Cell)
  | bad

def R.bind {α β : Type} (r : R α) (f : α → List Cell → R β) : R β := match r with
  | .ok a M => f a M
  | .exc c M => .exc c M
  | .bad => .bad
@[simp] theorem R.bind_ok {α β : Type} (a : α) (M : List Cell) (f : α → List Cell → R β) : (R.ok a M).bind f = f a M := rfl
@[simp] theorem R.bind_exc {α β : Type} (c : Nat) (M : List Cell) (f : α → List Cell → R β) : (R.exc c M : R α).bind f = .exc c M := rfl
@[simp] theorem R.bind_bad {α β : Type} (f : α → List Cell → R β) : (R.bad : R α).bind f = .bad := rfl

def LIM : Nat := 16000000

/-! ### trees without places -/
mutual
def isImm : D → Bool
  | .tup xs => isImms xs
  | .ktp xs => isImms xs
  | .lst xs => isImms xs
  | .fro xs => isImms xs
  | .dct _ ks vs => isImms ks && isImms vs
  | .exo _ => false
  | .ref _ => false
  | _ => true
def isImms : List D → Bool
  | [] => true
  | x :: xs => isImm x && isImms xs
end
/-! no list, no dict, no place within -/
mutual
def isFlat : D → Bool
  | .tup xs => isFlats xs
  | .ktp xs => isFlats xs
  | .lst _ => false
  | .fro _ => false
  | .dct _ _ _ => false
  | .exo _ => false
  | .ref _ => false
  | _ => true
def isFlats : List D → Bool
  | [] => true
  | x :: xs => isFlat x && isFlats xs
end
/-! the places exchanged for what f tells -/
mutual
def mapRef (f : Nat → Option D) : D → Option D
  | .tup xs => (mapRefs f xs).map .tup
  | .ktp xs => (mapRefs f xs).map .ktp
  | .lst xs => (mapRefs f xs).map .lst
  | .fro xs => (mapRefs f xs).map .fro
  | .dct t ks vs => (mapRefs f ks).bind fun a => (mapRefs f vs).map fun b => .dct t a b
  | .exo _ => none
  | .ref i => f i
  | .non => some .non
  | .bl b => some (.bl b)
  | .int i => some (.int i)
  | .str x => some (.str x)
def mapRefs (f : Nat → Option D) : List D → Option (List D)
  | [] => some []
  | x :: xs => (mapRef f x).bind fun a => (mapRefs f xs).map fun b => a :: b
end
/-- the tree that a value is by now -/
def immF : Nat → List Cell → D → Option D
  | 0, _, d => if isImm d then some d else none
  | n + 1, M, d => mapRef (fun i => match M[i]? with
      | some ⟨_, .non⟩ => none
      | some c => immF n M c.d
      | none => none) d
def imm (M : List Cell) (d : D) : Option D := immF M.length M d
def imms (M : List Cell) : List D → Option (List D)
  | [] => some []
  | x :: xs => (imm M x).bind fun a => (imms M xs).map fun b => a :: b
mutual
def isImm_mapRef (f : Nat → Option D) : (d : D) → isImm d = true → mapRef f d = some d
  | .tup xs, h => by
    rw [isImm] at h
    rw [mapRef, isImm_mapRefs f xs h]; rfl
  | .ktp xs, h => by
    rw [isImm] at h
    rw [mapRef, isImm_mapRefs f xs h]; rfl
  | .lst xs, h => by
    rw [isImm] at h
    rw [mapRef, isImm_mapRefs f xs h]; rfl
  | .fro xs, h => by
    rw [isImm] at h
    rw [mapRef, isImm_mapRefs f xs h]; rfl
  | .dct t ks vs, h => by
    rw [isImm, Bool.and_eq_true] at h
    rw [mapRef, isImm_mapRefs f ks h.1, isImm_mapRefs f vs h.2]; rfl
  | .ref i, h => by rw [isImm] at h; cases h
  | .non, _ => rfl
  | .bl _, _ => rfl
  | .int _, _ => rfl
  | .str _, _ => rfl
def isImm_mapRefs (f : Nat → Option D) : (ds : List D) → isImms ds = true → mapRefs f ds = some ds
  | [], _ => rfl
  | x :: xs, h => by
    rw [isImms, Bool.and_eq_true] at h
    rw [mapRefs, isImm_mapRef f x h.1, isImm_mapRefs f xs h.2]; rfl
end
theorem immF_of {n : Nat} {M : List Cell} {d : D} (h : isImm d = true) : immF n M d = some d := by
  cases n with
  | zero => unfold immF; rw [if_pos h]
  | succ n => exact isImm_mapRef _ d h
@[simp] theorem imm_of {M : List Cell} {d : D} (h : isImm d = true) : imm M d = some d := immF_of h
theorem imms_of {M : List Cell} : ∀ {ds : List D}, isImms ds = true → imms M ds = some ds
  | [], _ => rfl
  | x :: xs, h => by
    rw [isImms, Bool.and_eq_true] at h
    rw [imms, imm_of h.1, imms_of h.2]; rfl

/-! ### the syntax -/
/-- built-in functions -/
inductive Bi where
  | len | abs | max2 | min2 | max1 | min1 | sum | all | any | int | str | list (m : Bool) | tuple | ktuple | sorted (m : Bool)
  deriving DecidableEq
/-- methods -/
inductive Mt where
  | append | extend | pop | popAt | clear | reverse | insert
  deriving DecidableEq
/-- classes that isinstance is asked of -/
inductive Ty where
  | int | bool | str | list | tuple
  deriving DecidableEq

mutual
inductive E where
  | var (i : Nat)
  | c (d : D)
  | glob (x : Str) (d : D)
  | bin (m : Bool) (op : Operator) (a b : E)
  | un (op : UnaryOp) (a : E)
  | cmp (op : CmpOp) (a b : E)
  | chain (o1 o2 : CmpOp) (a b c : E)
  | bop (op : BoolOp) (es : Es)
  | ite (c a b : E)
  | tup (es : Es)
  | ktup (es : Es)
  | lst (m : Bool) (es : Es)
  | idx (a b : E)
  | slc (m : Bool) (a : E) (lo hi : O)
  | call (f : Nat) (mode : Nat) (es : Es)
  | bi (f : Bi) (es : Es)
  | isi (a : E) (t : Ty)
  | meth (f : Mt) (a : E) (es : Es)
  | comp (m : Bool) (own : List Nat) (t : T) (it : It) (c : O) (e : E)
  | snap (e : E)
  | rep (m : Bool) (a b : E)
  | xis (i k : Nat)
  | hole
  | lrng (m : Bool) (a : E)
  | lrng2 (m : Bool) (a b : E)
  | rvl (m sl : Bool) (a : E)
  | dnew (t : Bool)
  | dlit (ks : List D) (vs : List D)
  | dun (e : E)
  | dget (a b : E)
  | dgetd (a b c : E)
  | din (ng : Bool) (a b : E)
  | dlst (m : Bool) (a : E)
  | dmax (a : E)
  | dsum (a : E)
inductive O where
  | no
  | so (e : E)
inductive Es where
  | nil
  | cons (e : E) (es : Es)
inductive It where
  | val (e : E)
  | rng1 (a : E)
  | rng2 (a b : E)
  | rng3 (a b c : E)
  | zip (a b : E)
  | enum (a : E)
  | rev (a : E)
  | revR (a : E)
  | revR2 (a b : E)
  | keys (a : E)
  | vals (a : E)
inductive T where
  | var (i : Nat)
  | tup (ts : Ts)
  | idx (o i : E)
inductive Ts where
  | nil
  | cons (t : T) (ts : Ts)
end
/-- what an except suite returns: the error's word, a list of it, whether it is x -/
inductive Tw where
  | word
  | lword
  | weq (x : Str)
mutual
inductive S where
  | expr (e : E)
  | asg (t : T) (e : E)
  | par (i j : Nat) (a b : E)
  | aug (i : Nat) (op : Operator) (e : E)
  | ite (c : E) (a b : Ss)
  | whl (c : E) (b : Ss)
  | for (t : T) (it : It) (b : Ss)
  | forL (t : T) (e : E) (b : Ss)
  | ret (e : O)
  | pass
  | brk
  | cont
  | raise (c : Nat)
  | tryW (i : Nat) (b : Ss) (w : Tw)
  | tryN (k : Nat) (b : Ss) (d : D)
  | hole
  | dset (o i v : E)
inductive Ss where
  | nil
  | cons (s : S) (ss : Ss)
end

/-! ### the values' operations -/
def content (M : List Cell) : D → Option (List D)
  | .lst xs => some xs
  | .ref i => match M[i]? with
    | some ⟨_, .lst xs⟩ => some xs
    | _ => none
  | _ => none
def listOf (M : List Cell) : D → Option (List D)
  | .fro xs => some xs
  | d => content M d
def seqOf (M : List Cell) : D → Option (List D)
  | .tup xs => some xs
  | .ktp xs => some xs
  | d => listOf M d
/-- a new list -/
def new (m : Bool) (xs : List D) (M : List Cell) : R D :=
  if xs.length ≤ LIM then (if m then .ok (.ref M.length) (M ++ [⟨true, .lst xs⟩]) else .ok (.lst xs) M) else .bad
/-! what is asked of sizes: decided by no reckoning (a checker must not count up to them) -/
def B62 (i : Int) : Prop := -(2 ^ 62) ≤ i ∧ i < 2 ^ 62
noncomputable instance (i : Int) : Decidable (B62 i) := Classical.propDecidable _
def Lt62 (i : Int) : Prop := i < 2 ^ 62
noncomputable instance (i : Int) : Decidable (Lt62 i) := Classical.propDecidable _
def Le6 (i : Int) : Prop := i ≤ 1000000
noncomputable instance (i : Int) : Decidable (Le6 i) := Classical.propDecidable _
def mulOk (i j : Int) : Bool := decide (i.natAbs.log2 + j.natAbs.log2 < 1000000)
def bopI : Operator → D → D → List Cell → R D
  | .Add, .int i, .int j, M => .ok (.int (i + j)) M
  | .Add, .str x, .str y, M => if x.length + y.length ≤ LIM then .ok (.str (x ++ y)) M else .bad
  | .Add, .tup xs, .tup ys, M => if xs.length + ys.length ≤ LIM then .ok (.tup (xs ++ ys)) M else .bad
  | .Sub, .int i, .int j, M => .ok (.int (i - j)) M
  | .Mult, .int i, .int j, M => if mulOk i j then .ok (.int (i * j)) M else .bad
  | .FloorDiv, .int i, .int j, M => if 0 < j ∧ j.natAbs.log2 < 9000 then .ok (.int (i / j)) M else
      if j ≠ 0 ∧ j.natAbs.log2 < 9000 then .ok (.int (i.fdiv j)) M else .bad
  | .Mod, .int i, .int j, M => if 0 < j then .ok (.int (i % j)) M else if j ≠ 0 then .ok (.int (i.fmod j)) M else .bad
  | .Pow, .int i, .int j, M => if 0 ≤ j ∧ Le6 j ∧ i.natAbs < 2 ^ 64 then .ok (.int (i ^ j.toNat)) M else .bad
  | .LShift, .int i, .int j, M => if 0 ≤ j ∧ Le6 j ∧ i.natAbs < 2 ^ 64 then .ok (.int (i * 2 ^ j.toNat)) M else .bad
  | .RShift, .int i, .int j, M => if 0 ≤ j then .ok (.int (i / 2 ^ j.toNat)) M else .bad
  | .BitAnd, .int i, .int j, M => .ok (.int (Builtin.bitAnd i j)) M
  | .BitOr, .int i, .int j, M => .ok (.int (Builtin.bitOr i j)) M
  | .BitXor, .int i, .int j, M => .ok (.int (Builtin.bitXor i j)) M
  | _, _, _, _ => .bad
def tupK : D → Option (List D)
  | .ktp xs => some xs
  | _ => none
/-- a op b; m: a list that comes of it may be written to, a tuple that comes of it may be a key -/
def bop (m : Bool) (op : Operator) (a b : D) (M : List Cell) : R D := match op, content M a, content M b with
  | .Add, some xs, some ys => new m (xs ++ ys) M
  | _, _, _ => match tupK a, tupK b, op, m with
    | some xs, some ys, .Add, true => if xs.length + ys.length ≤ LIM then .ok (.ktp (xs ++ ys)) M else .bad
    | _, _, _, _ => bopI op a b M
/-- xs * k -/
def repD (m : Bool) (a b : D) (M : List Cell) : R D := match content M a, b with
  | some xs, .int k => if 0 ≤ k ∧ Lt62 k ∧ xs.length * k.toNat ≤ LIM then new m (List.replicate k.toNat xs).flatten M else .bad
  | _, _ => .bad
def uop : UnaryOp → D → List Cell → R D
  | .USub, .int i, M => .ok (.int (-i)) M
  | .Invert, .int i, M => .ok (.int (Builtin.bitNot i)) M
  | .Not, .bl b, M => .ok (.bl (!b)) M
  | _, _, _ => .bad
/-! data without places, for == -/
mutual
def toPy : D → Option PyData
  | .non => some .none
  | .bl b => some (.bool b)
  | .int i => some (.int i)
  | .str x => some (.str x)
  | .tup xs => (toPys xs).map .tuple
  | .ktp xs => (toPys xs).map .tuple
  | .lst xs => (toPys xs).map .list
  | .fro _ => none
  | .dct _ _ _ => none
  | .exo _ => none
  | .ref _ => none
def toPys : List D → Option (List PyData)
  | [] => some []
  | x :: xs => (toPy x).bind fun a => (toPys xs).map fun b => a :: b
end
/-- ==, of what two values are by now -/
def eqD (M : List Cell) (a b : D) : Option Bool :=
  (imm M a).bind fun a' => (imm M b).bind fun b' => (toPy a').bind fun x => (toPy b').bind fun y =>
    if SeqAt.shaped x = true ∧ SeqAt.shaped y = true then some (PyData.eqv x y) else none
def isNon : D → Bool
  | .non => true
  | _ => false
/-- x in xs -/
def inD (M : List Cell) (a : D) : List D → Option Bool
  | [] => some false
  | x :: xs => (eqD M x a).bind fun k => (inD M a xs).map fun r => k || r
/-- flat values -/
def flatD : D → Bool
  | .non => true
  | .bl _ => true
  | .int _ => true
  | .str _ => true
  | _ => false
def flV : D → V
  | .bl b => .bl b
  | .int i => .int i
  | .str x => .str x
  | _ => .non
/-- a in xs, all flat -/
def inF (a : D) (xs : List D) : Bool := xs.any fun y => eqV (flV y) (flV a)
def cop : CmpOp → D → D → List Cell → R D
  | .Lt, .int i, .int j, M => .ok (.bl (decide (i < j))) M
  | .LtE, .int i, .int j, M => .ok (.bl (decide (i ≤ j))) M
  | .Gt, .int i, .int j, M => .ok (.bl (decide (j < i))) M
  | .GtE, .int i, .int j, M => .ok (.bl (decide (j ≤ i))) M
  | .Is, a, .non, M => .ok (.bl (isNon a)) M
  | .IsNot, a, .non, M => .ok (.bl (!isNon a)) M
  | .Is, .bl a, .bl b, M => .ok (.bl (decide (a = b))) M
  | .IsNot, .bl a, .bl b, M => .ok (.bl (!decide (a = b))) M
  | .Eq, a, b, M => match eqD M a b with
    | some k => .ok (.bl k) M
    | none => .bad
  | .NotEq, a, b, M => match eqD M a b with
    | some k => .ok (.bl (!k)) M
    | none => .bad
  | .In, a, b, M => match seqOf M b with
    | some xs => if flatD a = true ∧ xs.all flatD = true then .ok (.bl (inF a xs)) M else .bad
    | none => .bad
  | .NotIn, a, b, M => match seqOf M b with
    | some xs => if flatD a = true ∧ xs.all flatD = true then .ok (.bl (!inF a xs)) M else .bad
    | none => .bad
  | _, _, _, _ => .bad
def intsOf : List D → Option (List Int)
  | [] => some []
  | .int i :: xs => (intsOf xs).map fun r => i :: r
  | _ => none
def blsOf : List D → Option (List Bool)
  | [] => some []
  | .bl i :: xs => (blsOf xs).map fun r => i :: r
  | _ => none
def maxI : List Int → Int
  | [] => 0
  | [x] => x
  | x :: xs => if maxI xs > x then maxI xs else x
def minI : List Int → Int
  | [] => 0
  | [x] => x
  | x :: xs => if minI xs < x then minI xs else x
def bi : Bi → List D → List Cell → R D
  | .len, [d], M => match seqOf M d with
    | some xs => .ok (.int xs.length) M
    | none => match d with
      | .str x => if x.length ≤ LIM then .ok (.int x.length) M else .bad
      | _ => .bad
  | .abs, [.int i], M => .ok (.int (if i < 0 then -i else i)) M
  | .max2, [.int i, .int j], M => .ok (.int (if j > i then j else i)) M
  | .min2, [.int i, .int j], M => .ok (.int (if j < i then j else i)) M
  | .max1, [d], M => match (content M d).bind intsOf with
    | some (i :: r) => .ok (.int (maxI (i :: r))) M
    | _ => .bad
  | .min1, [d], M => match (content M d).bind intsOf with
    | some (i :: r) => .ok (.int (minI (i :: r))) M
    | _ => .bad
  | .sum, [d], M => match (content M d).bind intsOf with
    | some r => .ok (.int r.sum) M
    | none => .bad
  | .all, [d], M => match (content M d).bind blsOf with
    | some r => .ok (.bl (r.all id)) M
    | none => .bad
  | .any, [d], M => match (content M d).bind blsOf with
    | some r => .ok (.bl (r.any id)) M
    | none => .bad
  | .int, [.int i], M => .ok (.int i) M
  | .int, [.bl b], M => .ok (.int (if b then 1 else 0)) M
  | .str, [.int i], M => if i.natAbs.log2 < 1920 then .ok (.str (toString i)) M else .bad
  | .list m, [d], M => match seqOf M d with
    | some xs => new m xs M
    | none => .bad
  | .ktuple, [d], M => match d with
    | .ktp xs => .ok (.ktp xs) M
    | _ => match content M d with
      | some xs => if xs.length ≤ LIM then .ok (.ktp xs) M else .bad
      | none => .bad
  | .tuple, [d], M => match d with
    | .tup xs => .ok (.tup xs) M
    | _ => match content M d with
      | some xs => if xs.length ≤ LIM then .ok (.tup xs) M else .bad
      | none => .bad
  | _, _, _ => .bad
def isi (t : Ty) (d : D) (M : List Cell) : Option Bool := match d with
  | .non => some false
  | .bl _ => some (t == .bool || t == .int)
  | .int _ => some (t == .int)
  | .str _ => some (t == .str)
  | .tup _ => some (t == .tuple)
  | .ktp _ => some (t == .tuple)
  | .lst _ => some (t == .list)
  | .fro _ => none
  | .dct _ _ _ => none
  | .exo _ => none
  | .ref i => match M[i]? with
    | some ⟨_, .lst _⟩ => some (t == .list)
    | _ => none
def meth : Mt → D → List D → List Cell → R D
  | .append, .ref i, [d], M => match M[i]? with
    | some ⟨true, .lst xs⟩ => if xs.length < LIM then .ok .non (M.set i ⟨true, .lst (xs ++ [d])⟩) else .bad
    | _ => .bad
  | .extend, .ref i, [d], M => match M[i]?, content M d with
    | some ⟨true, .lst xs⟩, some zs => if xs.length + zs.length ≤ LIM then .ok .non (M.set i ⟨true, .lst (xs ++ zs)⟩) else .bad
    | _, _ => .bad
  | .pop, .ref i, [], M => match M[i]? with
    | some ⟨true, .lst xs⟩ => match xs[xs.length - 1]? with
      | some y => .ok y (M.set i ⟨true, .lst xs.dropLast⟩)
      | none => .bad
    | _ => .bad
  | .clear, .ref i, [], M => match M[i]? with
    | some ⟨true, .lst _⟩ => .ok .non (M.set i ⟨true, .lst []⟩)
    | _ => .bad
  | .popAt, .ref i, [.int j], M => match M[i]? with
    | some ⟨true, .lst xs⟩ => if 0 ≤ j ∧ Lt62 j then (match xs[j.toNat]? with
      | some y => .ok y (M.set i ⟨true, .lst (xs.eraseIdx j.toNat)⟩)
      | none => .bad) else .bad
    | _ => .bad
  | .insert, .ref i, [.int j, d], M => match M[i]? with
    | some ⟨true, .lst xs⟩ => if xs.length < LIM ∧ 0 ≤ j ∧ Lt62 j then .ok .non (M.set i ⟨true, .lst (xs.take j.toNat ++ [d] ++ xs.drop j.toNat)⟩) else .bad
    | _ => .bad
  | .reverse, .ref i, [], M => match M[i]? with
    | some ⟨true, .lst xs⟩ => .ok .non (M.set i ⟨true, .lst xs.reverse⟩)
    | _ => .bad
  | _, _, _, _ => .bad
def idxD (a b : D) (M : List Cell) : R D := match b with
  | .int i => match seqOf M a with
    | some xs => match atI xs i with
      | some d => .ok d M
      | none => .bad
    | none => match a with
      | .str z => if z.length ≤ LIM then (match atI z.cps.toList i with
        | some c => .ok (.str ⟨#[c]⟩) M
        | none => .bad) else .bad
      | _ => .bad
  | _ => .bad
def setD (o i d : D) (M : List Cell) : Option (List Cell) := match o, i with
  | .ref p, .int k => match M[p]? with
    | some ⟨true, .lst xs⟩ => match ixN xs.length k with
      | some j => some (M.set p ⟨true, .lst (xs.set j d)⟩)
      | none => none
    | _ => none
  | _, _ => none
/-- xs[lo:hi] -/
def cutL {α : Type} (xs : List α) (lo hi : Option Int) : List α := (xs.drop (HT.sIx xs.length 0 lo)).take (HT.sIx xs.length xs.length hi - HT.sIx xs.length 0 lo)
def slcD (m : Bool) (a : D) (lo hi : Option Int) (M : List Cell) : R D := match listOf M a with
  | some xs => new m (cutL xs lo hi) M
  | none => match a with
    | .tup xs => .ok (.tup (cutL xs lo hi)) M
    | .ktp xs => .ok (.ktp (cutL xs lo hi)) M
    | _ => .bad
/-- a list that is walked is written to no more -/
def stop1 (d : D) (M : List Cell) : List Cell := match d with
  | .ref i => match M[i]? with
    | some ⟨_, .lst xs⟩ => M.set i ⟨false, .lst xs⟩
    | _ => M
  | _ => M
def upTo (lo : Int) (n : Nat) : List D := (List.range n).map fun i => .int (lo + (i : Nat))
def upBy (lo c : Int) (n : Nat) : List D := (List.range n).map fun i => .int (lo + (i : Nat) * c)
def enumD : Nat → List D → List D
  | _, [] => []
  | n, x :: xs => .tup [.int n, x] :: enumD (n + 1) xs
def zipD : List D → List D → List D
  | x :: xs, y :: ys => .tup [x, y] :: zipD xs ys
  | _, _ => []

abbrev St := List (Option D)
abbrev Phi := Nat → List D → List Cell → R D
/-- the slots of a block's own names forgotten -/
def wipeD (σ : St) : List Nat → St
  | [] => σ
  | v :: vs => (wipeD σ vs).set v none
def R.nox {α : Type} : R α → R α
  | .ok a M => .ok a M
  | _ => .bad
@[simp] theorem R.nox_ok {α : Type} (a : α) (M : List Cell) : (R.ok a M).nox = .ok a M := rfl
@[simp] theorem R.nox_exc {α : Type} (c : Nat) (M : List Cell) : (R.exc c M : R α).nox = .bad := rfl
@[simp] theorem R.nox_bad {α : Type} : (R.bad : R α).nox = .bad := rfl
/-- a comprehension's turns; no exception leaves them -/
def compL (step : D → List Cell → R (Option D)) : List D → List Cell → R (List D)
  | [], M => .ok [] M
  | x :: xs, M => (step x M).nox.bind fun y M1 => (compL step xs M1).bind fun ys M2 => match y with
    | some y => .ok (y :: ys) M2
    | none => .ok ys M2
/-! a call's own places, taken over -/
mutual
/-- no tree with a list within: flat, or a place, or a tuple of these -/
def isFr : D → Bool
  | .ref _ => true
  | .tup xs => isFrs xs
  | .ktp xs => isFrs xs
  | .lst _ => false
  | .fro _ => false
  | .dct _ _ _ => false
  | .exo _ => false
  | _ => true
def isFrs : List D → Bool
  | [] => true
  | x :: xs => isFr x && isFrs xs
end
/-- of places of lists of such alone -/
def freshF : Nat → List Cell → D → Bool
  | n + 1, M, .ref i => match M[i]? with
    | some ⟨_, .lst xs⟩ => xs.all (freshF n M)
    | _ => false
  | n + 1, M, .tup xs => xs.all (freshF n M)
  | _, _, d => isFlat d
mutual
def shD (k : Nat) : D → D
  | .ref i => .ref (k + i)
  | .tup xs => .tup (shDs k xs)
  | .ktp xs => .ktp (shDs k xs)
  | d => d
def shDs (k : Nat) : List D → List D
  | [] => []
  | x :: xs => shD k x :: shDs k xs
end
/-- a place taken over: what holds trees is dead -/
def shC (k : Nat) : Cell → Cell
  | ⟨m, .lst xs⟩ => if isFrs xs then ⟨m, .lst (shDs k xs)⟩ else ⟨false, .non⟩
  | ⟨m, .dct t ks xs⟩ => if isFlats ks && isFrs xs then ⟨m, .dct t ks (shDs k xs)⟩ else ⟨false, .non⟩
  | _ => ⟨false, .non⟩
/-- a call: 0: trees alone go in and come out; 1: what they are by now goes in, what comes out holds no list but new ones; 2: the same, the new lists' places are taken over; else the small heap goes along -/
def callD (Φ : Phi) (f mode : Nat) (ds : List D) (M : List Cell) : R D := match mode with
  | 0 => if isImms ds then (match Φ f ds [] with
    | .ok d M1 => (match imm M1 d with
      | some d' => .ok d' M
      | none => .bad)
    | .exc c _ => .exc c M
    | .bad => .bad) else .bad
  | 1 => match imms M ds with
    | some es => (match Φ f es [] with
      | .ok d M1 => (match imm M1 d with
        | some d' => if isFlat d' || freshF 8 M1 d then .ok d' M else .bad
        | none => .bad)
      | .exc c _ => .exc c M
      | .bad => .bad)
    | none => .bad
  | 2 => match imms M ds with
    | some es => (match Φ f es [] with
      | .ok d M1 => if isFr d then .ok (shD M.length d) (M ++ M1.map (shC M.length)) else .bad
      | .exc c _ => .exc c M
      | .bad => .bad)
    | none => .bad
  | _ => Φ f ds M

/-! the same, by their shapes -/
mutual
def beqX : D → D → Bool
  | .ref i, .ref j => i == j
  | .non, .non => true
  | .bl a, .bl b => a == b
  | .int a, .int b => a == b
  | .str a, .str b => decide (a = b)
  | .tup xs, .tup ys => beqXs xs ys
  | .ktp xs, .ktp ys => beqXs xs ys
  | .lst xs, .lst ys => beqXs xs ys
  | _, _ => false
def beqXs : List D → List D → Bool
  | [], [] => true
  | x :: xs, y :: ys => beqX x y && beqXs xs ys
  | _, _ => false
end
/-! ### dicts: keys that are ints and texts, or tuples of these that may be keys -/
def key1 : D → Bool
  | .int _ => true
  | .str _ => true
  | _ => false
def isKey (t : Bool) (k : D) : Bool := match t, k with
  | false, k => key1 k
  | true, .ktp xs => xs.all key1
  | _, _ => false
def dLook (k : D) : List D → List D → Option D
  | x :: xs, v :: vs => if beqX x k then some v else dLook k xs vs
  | _, _ => none
def dHas (k : D) (ks : List D) : Bool := ks.any fun x => beqX x k
def dRepl (k v : D) : List D → List D → List D
  | x :: xs, w :: ws => (if beqX x k then v else w) :: dRepl k v xs ws
  | _, ws => ws
def dPutK (k : D) (ks : List D) : List D := if dHas k ks then ks else ks ++ [k]
def dPutV (k v : D) (ks vs : List D) : List D := if dHas k ks then dRepl k v ks vs else vs ++ [v]
def dctOf (M : List Cell) : D → Option (Bool × List D × List D)
  | .dct t ks vs => some (t, ks, vs)
  | .ref i => match M[i]? with
    | some ⟨_, .dct t ks vs⟩ => some (t, ks, vs)
    | _ => none
  | _ => none
/-- d[k] -/
def dgetD (a b : D) (M : List Cell) : R D := match dctOf M a with
  | some (t, ks, vs) => if isKey t b then (match dLook b ks vs with
    | some v => .ok v M
    | none => .bad) else .bad
  | none => .bad
/-- d.get(k, x) -/
def dgetdD (a b x : D) (M : List Cell) : R D := match dctOf M a with
  | some (t, ks, vs) => if isKey t b then .ok ((dLook b ks vs).getD x) M else .bad
  | none => .bad
/-- k in d -/
def dinD (ng : Bool) (a b : D) (M : List Cell) : R D := match dctOf M b with
  | some (t, ks, vs) => if isKey t a then .ok (.bl (if ng then !(dLook a ks vs).isSome else (dLook a ks vs).isSome)) M else .bad
  | none => .bad
/-- list(d) -/
def dlstD (m : Bool) (a : D) (M : List Cell) : R D := match a with
  | .ref i => match M[i]? with
    | some ⟨true, .dct _ ks _⟩ => new m ks M
    | _ => .bad
  | _ => .bad
/-- max(d.values()), sum(d.values()) -/
def dvalsD (M : List Cell) (a : D) : Option (List Int) := match dctOf M a with
  | some (false, _, vs) => intsOf vs
  | _ => none
/-- d[k] = v -/
def dsetD (o i v : D) (M : List Cell) : Option (List Cell) := match o with
  | .ref p => match M[p]? with
    | some ⟨true, .dct t ks vs⟩ => if isKey t i = true ∧ ks.length < LIM then some (M.set p ⟨true, .dct t (dPutK i ks) (dPutV i v ks vs)⟩) else none
    | _ => none
  | _ => none
/-- a dict is walked: it is written to no more -/
def lockD (a : D) (M : List Cell) : Option (Bool × List D × List D × List Cell) := match a with
  | .ref p => match M[p]? with
    | some ⟨_, .dct t ks vs⟩ => some (t, ks, vs, M.set p ⟨false, .dct t ks vs⟩)
    | _ => none
  | _ => none
/-- list(range(i, j)) -/
def lrngD (m : Bool) (a b : D) (M : List Cell) : R D := match a, b with
  | .int i, .int j => if B62 i ∧ B62 j then new m (upTo i (j - i).toNat) M else .bad
  | _, _ => .bad
/-- a list made of another one, backwards -/
def rvlD (m : Bool) (d : D) (M : List Cell) : R D := match listOf M d with
  | some xs => new m xs.reverse M
  | none => .bad
def toBl (d : D) (M : List Cell) : R Bool := match d with
  | .bl k => .ok k M
  | _ => .bad
mutual
def evE (Φ : Phi) : E → St → List Cell → R D
  | .var i, σ, M => match σ[i]? with
    | some (some d) => .ok d M
    | _ => .bad
  | .c d, _, M => .ok d M
  | .glob _ d, _, M => .ok d M
  | .bin m op a b, σ, M => (evE Φ a σ M).bind fun x M1 => (evE Φ b σ M1).bind fun y M2 => bop m op x y M2
  | .un op a, σ, M => (evE Φ a σ M).bind fun x M1 => uop op x M1
  | .cmp op a b, σ, M => (evE Φ a σ M).bind fun x M1 => (evE Φ b σ M1).bind fun y M2 => cop op x y M2
  | .chain o1 o2 a b c, σ, M => (evE Φ a σ M).bind fun x M1 => (evE Φ b σ M1).bind fun y M2 => ((cop o1 x y M2).bind toBl).bind fun k M3 => if k = true then (evE Φ c σ M3).bind fun z M4 => cop o2 y z M4 else .ok (.bl false) M3
  | .bop op es, σ, M => evB Φ op es σ M
  | .ite c a b, σ, M => ((evE Φ c σ M).bind toBl).bind fun k M1 => if k = true then evE Φ a σ M1 else evE Φ b σ M1
  | .tup es, σ, M => (evEs Φ es σ M).bind fun ds M1 => if ds.length ≤ LIM then .ok (.tup ds) M1 else .bad
  | .ktup es, σ, M => (evEs Φ es σ M).bind fun ds M1 => if ds.length ≤ LIM then .ok (.ktp ds) M1 else .bad
  | .lst m es, σ, M => (evEs Φ es σ M).bind fun ds M1 => new m ds M1
  | .idx a b, σ, M => (evE Φ a σ M).bind fun x M1 => (evE Φ b σ M1).bind fun y M2 => idxD x y M2
  | .slc m a lo hi, σ, M => (evE Φ a σ M).bind fun x M1 => (evO Φ lo σ M1).bind fun l M2 => (evO Φ hi σ M2).bind fun h M3 => slcD m x l h M3
  | .call f mode es, σ, M => (evEs Φ es σ M).bind fun ds M1 => callD Φ f mode ds M1
  | .bi f es, σ, M => (evEs Φ es σ M).bind fun ds M1 => bi f ds M1
  | .isi a t, σ, M => (evE Φ a σ M).bind fun x M1 => match isi t x M1 with
    | some k => .ok (.bl k) M1
    | none => .bad
  | .meth f a es, σ, M => (evE Φ a σ M).bind fun x M1 => match content M1 x with
    | some _ => (evEs Φ es σ M1).bind fun ds M2 => meth f x ds M2
    | none => .bad
  | .comp m own t it c e, σ, M => (evIt Φ it σ M).bind fun xs M1 => (compL (fun x M2 => (evT Φ t x (wipeD σ own) M2).bind fun σ1 M3 =>
      (evC Φ c σ1 M3).bind fun k M4 => if k then (evE Φ e σ1 M4).bind fun y M5 => .ok (some y) M5 else .ok none M4) xs M1).bind fun ys M2 => new m ys M2
  | .rep m a b, σ, M => (evE Φ a σ M).bind fun x M1 => (evE Φ b σ M1).bind fun y M2 => repD m x y M2
  | .xis i k, σ, M => match σ[i]? with
    | some (some (.exo a)) => Φ 0 [.exo a, .int k] M
    | _ => .bad
  | .snap e, σ, M => match evE Φ e (σ.map fun o => o.bind (imm M)) [] with
    | .ok d _ => if isFlat d = true then .ok d M else .bad
    | .exc c _ => .exc c M
    | .bad => .bad
  | .hole, _, _ => .bad
  | .lrng m a, σ, M => (evE Φ a σ M).bind fun d M1 => lrngD m (.int 0) d M1
  | .lrng2 m a b, σ, M => (evE Φ a σ M).bind fun d M1 => (evE Φ b σ M1).bind fun e M2 => lrngD m d e M2
  | .rvl m _ a, σ, M => (evE Φ a σ M).bind fun d M1 => rvlD m d M1
  | .dnew t, _, M => .ok (.ref M.length) (M ++ [⟨true, .dct t [] []⟩])
  | .dlit ks vs, _, M => .ok (.ref M.length) (M ++ [⟨true, .dct false ks vs⟩])
  | .dun e, σ, M => (evE Φ e σ M).bind fun d M1 => .ok (.ref M1.length) (M1 ++ [⟨true, .dct true [.ktp []] [d]⟩])
  | .dget a b, σ, M => (evE Φ a σ M).bind fun x M1 => (evE Φ b σ M1).bind fun y M2 => dgetD x y M2
  | .dgetd a b c, σ, M => (evE Φ a σ M).bind fun x M1 => match dctOf M1 x with
    | some _ => (evE Φ b σ M1).bind fun y M2 => (evE Φ c σ M2).bind fun z M3 => dgetdD x y z M3
    | none => .bad
  | .din ng a b, σ, M => (evE Φ a σ M).bind fun x M1 => (evE Φ b σ M1).bind fun y M2 => dinD ng x y M2
  | .dlst m a, σ, M => (evE Φ a σ M).bind fun x M1 => dlstD m x M1
  | .dmax a, σ, M => (evE Φ a σ M).bind fun x M1 => match dvalsD M1 x with
    | some (i :: r) => .ok (.int (maxI (i :: r))) M1
    | _ => .bad
  | .dsum a, σ, M => (evE Φ a σ M).bind fun x M1 => match dvalsD M1 x with
    | some r => .ok (.int r.sum) M1
    | none => .bad
def evB (Φ : Phi) (op : BoolOp) : Es → St → List Cell → R D
  | .nil, _, _ => .bad
  | .cons a .nil, σ, M => evE Φ a σ M
  | .cons a (.cons b r), σ, M => ((evE Φ a σ M).bind toBl).bind fun k M1 => match op with
    | .And => if k = true then evB Φ op (.cons b r) σ M1 else .ok (.bl false) M1
    | .Or => if k = true then .ok (.bl true) M1 else evB Φ op (.cons b r) σ M1
def evO (Φ : Phi) : O → St → List Cell → R (Option Int)
  | .no, _, M => .ok none M
  | .so e, σ, M => (evE Φ e σ M).bind fun d M1 => match d with
    | .int i => .ok (some i) M1
    | _ => .bad
def evC (Φ : Phi) : O → St → List Cell → R Bool
  | .no, _, M => .ok true M
  | .so e, σ, M => (evE Φ e σ M).bind toBl
def evEs (Φ : Phi) : Es → St → List Cell → R (List D)
  | .nil, _, M => .ok [] M
  | .cons e es, σ, M => (evE Φ e σ M).bind fun d M1 => (evEs Φ es σ M1).bind fun ds M2 => .ok (d :: ds) M2
def evIt (Φ : Phi) : It → St → List Cell → R (List D)
  | .val e, σ, M => (evE Φ e σ M).bind fun d M1 => match seqOf M1 d with
    | some xs => .ok xs (stop1 d M1)
    | none => .bad
  | .rng1 a, σ, M => (evE Φ a σ M).bind fun d M1 => match d with
    | .int j => if B62 j then .ok (upTo 0 j.toNat) M1 else .bad
    | _ => .bad
  | .rng2 a b, σ, M => (evE Φ a σ M).bind fun d M1 => (evE Φ b σ M1).bind fun e M2 => match d, e with
    | .int i, .int j => if B62 i ∧ B62 j then .ok (upTo i (j - i).toNat) M2 else .bad
    | _, _ => .bad
  | .rng3 a b c, σ, M => (evE Φ a σ M).bind fun d M1 => (evE Φ b σ M1).bind fun e M2 => (evE Φ c σ M2).bind fun g M3 => match d, e, g with
    | .int i, .int j, .int k => if k = -1 ∧ B62 i ∧ B62 j then .ok (upBy i (-1) (i - j).toNat) M3 else .bad
    | _, _, _ => .bad
  | .zip a b, σ, M => (evE Φ a σ M).bind fun d M1 => (evE Φ b σ M1).bind fun e M2 => match listOf M2 d, listOf M2 e with
    | some xs, some ys => .ok (zipD xs ys) (stop1 e (stop1 d M2))
    | _, _ => .bad
  | .enum a, σ, M => (evE Φ a σ M).bind fun d M1 => match listOf M1 d with
    | some xs => .ok (enumD 0 xs) (stop1 d M1)
    | none => .bad
  | .rev a, σ, M => (evE Φ a σ M).bind fun d M1 => match listOf M1 d with
    | some xs => .ok xs.reverse (stop1 d M1)
    | none => .bad
  | .revR a, σ, M => (evE Φ a σ M).bind fun d M1 => match d with
    | .int j => if B62 j then .ok (upBy (0 + ((j - 0).toNat : Nat) - 1) (-1) (j - 0).toNat) M1 else .bad
    | _ => .bad
  | .revR2 a b, σ, M => (evE Φ a σ M).bind fun d M1 => (evE Φ b σ M1).bind fun e M2 => match d, e with
    | .int i, .int j => if B62 i ∧ B62 j then .ok (upBy (i + ((j - i).toNat : Nat) - 1) (-1) (j - i).toNat) M2 else .bad
    | _, _ => .bad
  | .keys a, σ, M => (evE Φ a σ M).bind fun d M1 => match lockD d M1 with
    | some (_, ks, _, M2) => .ok ks M2
    | none => .bad
  | .vals a, σ, M => (evE Φ a σ M).bind fun d M1 => match lockD d M1 with
    | some (false, _, vs, M2) => .ok vs M2
    | _ => .bad
def evT (Φ : Phi) : T → D → St → List Cell → R St
  | .var i, d, σ, M => .ok (σ.set i (some d)) M
  | .tup ts, d, σ, M => match d with
    | .tup xs => evTs Φ ts xs σ M
    | _ => .bad
  | .idx o i, d, σ, M => (evE Φ o σ M).nox.bind fun x M1 => (evE Φ i σ M1).nox.bind fun y M2 => match setD x y d M2 with
    | some M3 => .ok σ M3
    | none => .bad
def evTs (Φ : Phi) : Ts → List D → St → List Cell → R St
  | .nil, [], σ, M => .ok σ M
  | .cons t ts, d :: ds, σ, M => (evT Φ t d σ M).bind fun σ1 M1 => evTs Φ ts ds σ1 M1
  | _, _, _, _ => .bad
end

/-! ### statements -/
inductive Fl where
  | nx | rt (d : D) | bk | ct
inductive Qr where
  | ok (f : Fl) (σ : St) (M : List Cell)
  | exc (c : Nat) (σ : St) (M : List Cell)
  | bad
/-- an error is looked at -/
def Qr.look (q : Qr) (f : Nat → St → List Cell → Qr) : Qr := match q with
  | .exc c σ M => f c σ M
  | .ok a σ M => .ok a σ M
  | .bad => .bad
/-- what is returned of the error's word -/
def twR (w : Tw) (x : Str) (M : List Cell) : R D := match w with
  | .word => .ok (.str x) M
  | .lword => .ok (.lst [.str x]) M
  | .weq y => cop .Eq (.str x) (.str y) M
/-- an expression's end within a statement -/
def R.st {α : Type} (r : R α) (σ : St) (f : α → List Cell → Qr) : Qr := match r with
  | .ok a M => f a M
  | .exc c M => .exc c σ M
  | .bad => .bad
@[simp] theorem R.st_ok {α : Type} (a : α) (M : List Cell) (σ : St) (f : α → List Cell → Qr) : (R.ok a M).st σ f = f a M := rfl
@[simp] theorem R.st_exc {α : Type} (c : Nat) (M : List Cell) (σ : St) (f : α → List Cell → Qr) : (R.exc c M : R α).st σ f = .exc c σ M := rfl
@[simp] theorem R.st_bad {α : Type} (σ : St) (f : α → List Cell → Qr) : (R.bad : R α).st σ f = .bad := rfl
/-- on to the next statement -/
def Qr.seq (q : Qr) (f : St → List Cell → Qr) : Qr := match q with
  | .ok .nx σ M => f σ M
  | q => q
@[simp] theorem Qr.seq_nx (σ : St) (M : List Cell) (f : St → List Cell → Qr) : (Qr.ok .nx σ M).seq f = f σ M := rfl
@[simp] theorem Qr.seq_rt (d : D) (σ : St) (M : List Cell) (f : St → List Cell → Qr) : (Qr.ok (.rt d) σ M).seq f = .ok (.rt d) σ M := rfl
@[simp] theorem Qr.seq_bk (σ : St) (M : List Cell) (f : St → List Cell → Qr) : (Qr.ok .bk σ M).seq f = .ok .bk σ M := rfl
@[simp] theorem Qr.seq_ct (σ : St) (M : List Cell) (f : St → List Cell → Qr) : (Qr.ok .ct σ M).seq f = .ok .ct σ M := rfl
@[simp] theorem Qr.seq_exc (c : Nat) (σ : St) (M : List Cell) (f : St → List Cell → Qr) : (Qr.exc c σ M).seq f = .exc c σ M := rfl
@[simp] theorem Qr.seq_bad (f : St → List Cell → Qr) : Qr.bad.seq f = .bad := rfl
/-- behind a loop's turn -/
def Qr.turn (q : Qr) (f : St → List Cell → Qr) : Qr := match q with
  | .ok .nx σ M => f σ M
  | .ok .ct σ M => f σ M
  | .ok .bk σ M => .ok .nx σ M
  | q => q
@[simp] theorem Qr.turn_nx (σ : St) (M : List Cell) (f : St → List Cell → Qr) : (Qr.ok .nx σ M).turn f = f σ M := rfl
@[simp] theorem Qr.turn_ct (σ : St) (M : List Cell) (f : St → List Cell → Qr) : (Qr.ok .ct σ M).turn f = f σ M := rfl
@[simp] theorem Qr.turn_bk (σ : St) (M : List Cell) (f : St → List Cell → Qr) : (Qr.ok .bk σ M).turn f = .ok .nx σ M := rfl
@[simp] theorem Qr.turn_rt (d : D) (σ : St) (M : List Cell) (f : St → List Cell → Qr) : (Qr.ok (.rt d) σ M).turn f = .ok (.rt d) σ M := rfl
@[simp] theorem Qr.turn_exc (c : Nat) (σ : St) (M : List Cell) (f : St → List Cell → Qr) : (Qr.exc c σ M).turn f = .exc c σ M := rfl
@[simp] theorem Qr.turn_bad (f : St → List Cell → Qr) : Qr.bad.turn f = .bad := rfl
def forL (step : D → St → List Cell → Qr) : List D → St → List Cell → Qr
  | [], σ, M => .ok .nx σ M
  | x :: xs, σ, M => (step x σ M).turn fun σ1 M1 => forL step xs σ1 M1
/-! a list that may be written to, walked: at each turn it holds what it held -/
def holds (i : Nat) (xs : List D) (M : List Cell) : Bool := match M[i]? with
  | some ⟨true, .lst ys⟩ => beqXs ys xs
  | _ => false
def forV (i : Nat) (ys : List D) (step : D → St → List Cell → Qr) : List D → St → List Cell → Qr
  | [], σ, M => if holds i ys M = true then .ok .nx σ M else .bad
  | x :: xs, σ, M => if holds i ys M = true then (step x σ M).turn fun σ1 M1 => forV i ys step xs σ1 M1 else .bad
/-- a while's turns, at most n -/
def whlL (test : St → List Cell → R D) (body : St → List Cell → Qr) : Nat → St → List Cell → Qr
  | 0, _, _ => .bad
  | n + 1, σ, M => ((test σ M).bind toBl).st σ fun k M1 => if k = true then (body σ M1).turn fun σ2 M2 => whlL test body n σ2 M2 else .ok .nx σ M1
@[irreducible] def FUEL : Nat := 2 ^ 20000
mutual
def evS (Φ : Phi) : S → St → List Cell → Qr
  | .expr e, σ, M => (evE Φ e σ M).st σ fun _ M1 => .ok .nx σ M1
  | .asg t e, σ, M => (evE Φ e σ M).st σ fun d M1 => (evT Φ t d σ M1).nox.st σ fun σ1 M2 => .ok .nx σ1 M2
  | .par i j a b, σ, M => (evE Φ a σ M).st σ fun x M1 => (evE Φ b σ M1).st σ fun y M2 => .ok .nx ((σ.set i (some x)).set j (some y)) M2
  | .aug i op e, σ, M => match σ[i]? with
    | some (some x) => (evE Φ e σ M).st σ fun y M1 => (match x, y with
      | .int a, .int b => (bopI op (.int a) (.int b) M1).st σ fun z M2 => .ok .nx (σ.set i (some z)) M2
      | _, _ => .bad)
    | _ => .bad
  | .ite c a b, σ, M => ((evE Φ c σ M).bind toBl).st σ fun k M1 => if k = true then evSs Φ a σ M1 else evSs Φ b σ M1
  | .whl c b, σ, M => whlL (fun σ1 M1 => evE Φ c σ1 M1) (fun σ1 M1 => evSs Φ b σ1 M1) FUEL σ M
  | .for t it b, σ, M => (evIt Φ it σ M).st σ fun xs M1 => forL (fun x σ1 M2 => (evT Φ t x σ1 M2).nox.st σ1 fun σ2 M3 => evSs Φ b σ2 M3) xs σ M1
  | .forL t e b, σ, M => (evE Φ e σ M).st σ fun d M1 => match d with
    | .ref i => match M1[i]? with
      | some ⟨true, .lst xs⟩ => forV i xs (fun x σ1 M2 => (evT Φ t x σ1 M2).nox.st σ1 fun σ2 M3 => evSs Φ b σ2 M3) xs σ M1
      | _ => .bad
    | _ => .bad
  | .ret e, σ, M => match e with
    | .so e => (evE Φ e σ M).st σ fun d M1 => .ok (.rt d) σ M1
    | .no => .ok (.rt .non) σ M
  | .pass, σ, M => .ok .nx σ M
  | .brk, σ, M => .ok .bk σ M
  | .cont, σ, M => .ok .ct σ M
  | .raise c, σ, M => .exc c σ M
  | .tryW i b w, σ, M => (evSs Φ b σ M).look fun c σ1 M1 => match Φ 0 [.int c] [] with
    | .ok (.str x) _ => if i < σ1.length then (match twR w x M1 with
      | .ok d M2 => .ok (.rt d) (σ1.set i none) M2
      | _ => .bad) else .bad
    | _ => .bad
  | .tryN k b d, σ, M => (evSs Φ b σ M).look fun c σ1 M1 => if c = k then .ok (.rt d) σ1 M1 else .bad
  | .hole, _, _ => .bad
  | .dset o i v, σ, M => (evE Φ v σ M).st σ fun z M1 => (evE Φ o σ M1).st σ fun x M2 => (evE Φ i σ M2).st σ fun y M3 => match dsetD x y z M3 with
    | some M4 => .ok .nx σ M4
    | none => .bad
def evSs (Φ : Phi) : Ss → St → List Cell → Qr
  | .nil, σ, M => .ok .nx σ M
  | .cons s ss, σ, M => (evS Φ s σ M).seq fun σ1 M1 => evSs Φ ss σ1 M1
end
/-- a def: its parameters, all its slots, its body -/
structure Df where
  ps : Nat
  n : Nat
  body : Ss
def start (n : Nat) (ds : List D) : St := ds.map some ++ List.replicate (n - ds.length) none
def evD (Φ : Phi) (d : Df) (ds : List D) (M : List Cell) : R D :=
  if ds.length = d.ps then (match evSs Φ d.body (start d.n ds) M with
    | .ok .nx _ M1 => .ok .non M1
    | .ok (.rt x) _ M1 => .ok x M1
    | .exc c _ M1 => .exc c M1
    | _ => .bad) else .bad
end
end Sg

/-! SgRel: how a value and the small heap lie in the abstract heap of the layer. -/
namespace Sg
open PySem PySem.Spec PyProof.Rows L2
abbrev St2 := L2.St

def keyOf : D → Option Key
  | .int i => some (.inl i)
  | .str x => some (.inr x)
  | _ => none
def keysOf : List D → Option (List Key)
  | [] => some []
  | x :: xs => (keyOf x).bind fun a => (keysOf xs).map fun b => a :: b
def keyT : D → Option (List Key)
  | .ktp xs => keysOf xs
  | _ => none
def keysT : List D → Option (List (List Key))
  | [] => some []
  | x :: xs => (keyT x).bind fun a => (keysT xs).map fun b => a :: b

mutual
def beqD : D → D → Bool
  | .non, .non => true
  | .bl a, .bl b => a == b
  | .int a, .int b => a == b
  | .str a, .str b => decide (a = b)
  | .tup xs, .tup ys => beqDs xs ys
  | .ktp xs, .ktp ys => beqDs xs ys
  | .lst xs, .lst ys => beqDs xs ys
  | _, _ => false
def beqDs : List D → List D → Bool
  | [], [] => true
  | x :: xs, y :: ys => beqD x y && beqDs xs ys
  | _, _ => false
end
mutual
theorem beqD_eq : (a b : D) → beqD a b = true → a = b
  | .non, b, h => by cases b <;> first | rfl | cases h
  | .bl a, b, h => by
    cases b <;> first | (rw [beqD] at h; rw [eq_of_beq h]) | cases h
  | .int a, b, h => by
    cases b <;> first | (rw [beqD] at h; rw [eq_of_beq h]) | cases h
  | .str a, b, h => by
    cases b <;> first | (rw [beqD] at h; rw [of_decide_eq_true h]) | cases h
  | .tup xs, b, h => by
    cases b <;> first | (rw [beqD] at h; rw [beqDs_eq xs _ h]) | cases h
  | .ktp xs, b, h => by
    cases b <;> first | (rw [beqD] at h; rw [beqDs_eq xs _ h]) | cases h
  | .lst xs, b, h => by
    cases b <;> first | (rw [beqD] at h; rw [beqDs_eq xs _ h]) | cases h
  | .fro _, b, h => by cases b <;> cases h
  | .dct _ _ _, b, h => by cases b <;> cases h
  | .exo _, b, h => by cases b <;> cases h
  | .ref _, b, h => by cases b <;> cases h
theorem beqDs_eq : (a b : List D) → beqDs a b = true → a = b
  | [], [], _ => rfl
  | [], _ :: _, h => by cases h
  | _ :: _, [], h => by cases h
  | x :: xs, y :: ys, h => by
    rw [beqDs, Bool.and_eq_true] at h
    rw [beqD_eq x y h.1, beqDs_eq xs ys h.2]
end
/-- a list from outside: locked, or of the written part -/
def FroK (K : PySem.W.Frag) (H : Hp) (a : Addr) (xs : List V) : Prop := (∃ o, H a = some (.frz o (.lst xs))) ∨
  ∃ (o : Obj) (its : Array Value) (n : Nat), K.lookup a = some o ∧ o.cls = .type "list" ∧ o.dict = none ∧ o.data = .seq its n ∧ its.size ≤ sizeLine ∧ Vals xs its.toList
theorem FroK.sql {K : PySem.W.Frag} {H : Hp} {a : Addr} {xs : List V} (h : FroK K H a xs) : SqL K H a xs := h.elim (fun ⟨o, e⟩ => .inl (.inr ⟨o, e⟩)) .inr
section
variable (K : PySem.W.Frag) (H : Hp) (B : Addr → Prop) (as : List Addr)
mutual
/-- v is the value d; B: where no tree's list stands; as: where the places stand -/
def Rp : D → V → Prop
  | .non, v => v = .non
  | .bl b, v => v = .bl b
  | .int i, v => v = .int i
  | .str x, v => v = .str x
  | .tup xs, v => ∃ a vs, v = .ref a ∧ SqT K H a vs ∧ Rps xs vs
  | .ktp xs, v => ∃ a vs, v = .ref a ∧ H a = some (.tup vs) ∧ Rps xs vs
  | .lst xs, v => ∃ a vs, v = .ref a ∧ H a = some (.lst vs) ∧ ¬ B a ∧ Rps xs vs
  | .fro xs, v => ∃ a vs, v = .ref a ∧ FroK K H a vs ∧ Rps xs vs
  | .dct false ks ds, v => ∃ a kvs, v = .ref a ∧ Rd H a (.dK kvs) ∧ ¬ B a ∧ keysOf ks = some (kvs.map (·.1)) ∧ Rps ds (kvs.map (·.2))
  | .dct true ks ds, v => ∃ a kvs, v = .ref a ∧ Rd H a (.dT kvs) ∧ ¬ B a ∧ keysT ks = some (kvs.map (·.1)) ∧ Rps ds (kvs.map (·.2))
  | .ref i, v => ∃ a, as[i]? = some a ∧ v = .ref a
  | .exo a, v => v = .ref a
def Rps : List D → List V → Prop
  | [], vs => vs = []
  | x :: xs, vs => ∃ v r, vs = v :: r ∧ Rp x v ∧ Rps xs r
end
/-- a cell lies at a -/
def Cp (a : Addr) : Cell → Prop
  | ⟨true, .lst xs⟩ => ∃ vs, H a = some (.lst vs) ∧ Rps K H B as xs vs
  | ⟨true, .dct false ks ds⟩ => ∃ kvs, H a = some (.dK kvs) ∧ keysOf ks = some (kvs.map (·.1)) ∧ Rps K H B as ds (kvs.map (·.2))
  | ⟨true, .dct true ks ds⟩ => ∃ kvs, H a = some (.dT kvs) ∧ keysT ks = some (kvs.map (·.1)) ∧ Rps K H B as ds (kvs.map (·.2))
  | ⟨true, _⟩ => False
  | ⟨false, .lst xs⟩ => Rp K H B as (.lst xs) (.ref a)
  | ⟨false, .dct false ks ds⟩ => ∃ o kvs, H a = some (.frz o (.dK kvs)) ∧ ¬ B a ∧ keysOf ks = some (kvs.map (·.1)) ∧ Rps K H B as ds (kvs.map (·.2))
  | ⟨false, .dct true ks ds⟩ => ∃ o kvs, H a = some (.frz o (.dT kvs)) ∧ ¬ B a ∧ keysT ks = some (kvs.map (·.1)) ∧ Rps K H B as ds (kvs.map (·.2))
  | ⟨false, .non⟩ => H a ≠ none
  | ⟨false, _⟩ => False
end
/-- a place that may be written to stands at a -/
def Live (as : List Addr) (M : List Cell) (a : Addr) : Prop := ∃ (i : Nat) (d : D), as[i]? = some a ∧ M[i]? = some (Cell.mk true d)
abbrev Av (B : Addr → Prop) (as : List Addr) (M : List Cell) : Addr → Prop := fun a => B a ∨ Live as M a
structure Sim (K : PySem.W.Frag) (H : Hp) (B : Addr → Prop) (as : List Addr) (M : List Cell) : Prop where
  len : as.length = M.length
  nd : as.Nodup
  b0 : ∀ a, B a → H a ≠ none
  dj : ∀ a ∈ as, ¬ B a
  cell : ∀ (i : Nat) (a : Addr) (c : Cell), as[i]? = some a → M[i]? = some c → Cp K H (Av B as M) as a c
/-- from one state to a later one -/
structure Go (as : List Addr) (M : List Cell) (H : Hp) (as' : List Addr) (M' : List Cell) (H' : Hp) : Prop where
  pre : as <+: as'
  keep : ∀ a o, H a = some o → ¬ Live as M a → H' a = some o
  live : ∀ a, H a ≠ none → Live as' M' a → Live as M a
  dom : ∀ a, H a ≠ none → H' a ≠ none
  new : ∀ (i : Nat) (a : Addr), as.length ≤ i → as'[i]? = some a → H a = none

theorem Cp.ne {K H B as a c} (h : Cp K H B as a c) : H a ≠ none := by
  obtain ⟨m, d⟩ := c
  intro e
  cases m <;> cases d <;> try (exact h.elim)
  · exact h e
  · obtain ⟨a', vs, e1, r, _⟩ := h
    cases e1
    rw [e] at r; cases r
  · rename_i t ks ds
    cases t
    · obtain ⟨o, vs, r, _⟩ := h
      rw [e] at r; cases r
    · obtain ⟨o, vs, r, _⟩ := h
      rw [e] at r; cases r
  · obtain ⟨vs, r, _⟩ := h
    rw [e] at r; cases r
  · rename_i t ks ds
    cases t
    · obtain ⟨vs, r, _⟩ := h
      rw [e] at r; cases r
    · obtain ⟨vs, r, _⟩ := h
      rw [e] at r; cases r
/-- what may be written to is a list or a dict -/
theorem Cp.mut {K H B as a d} (h : Cp K H B as a ⟨true, d⟩) : (∃ vs, H a = some (.lst vs)) ∨ (∃ kvs, H a = some (.dK kvs)) ∨ ∃ kvs, H a = some (.dT kvs) := by
  cases d <;> try (exact h.elim)
  · obtain ⟨vs, r, _⟩ := h
    exact .inl ⟨vs, r⟩
  · rename_i t ks ds
    cases t
    · obtain ⟨vs, r, _⟩ := h
      exact .inr (.inl ⟨vs, r⟩)
    · obtain ⟨vs, r, _⟩ := h
      exact .inr (.inr ⟨vs, r⟩)
section
variable {K : PySem.W.Frag} {H H' H'' : Hp} {B B' : Addr → Prop} {as as' as'' : List Addr} {M M' M'' : List Cell}
theorem Sim.lt {i : Nat} {a : Addr} (S : Sim K H B as M) (h : as[i]? = some a) : ∃ c, M[i]? = some c ∧ Cp K H (Av B as M) as a c := by
  have h1 : i < as.length := (List.getElem?_eq_some_iff.mp h).1
  have h2 : i < M.length := by rw [← S.len]; exact h1
  exact ⟨M[i], List.getElem?_eq_getElem h2, S.cell i a _ h (List.getElem?_eq_getElem h2)⟩
theorem Sim.at {i : Nat} {c : Cell} (S : Sim K H B as M) (h : M[i]? = some c) : ∃ a, as[i]? = some a ∧ Cp K H (Av B as M) as a c := by
  have h1 : i < M.length := (List.getElem?_eq_some_iff.mp h).1
  have h2 : i < as.length := by rw [S.len]; exact h1
  exact ⟨as[i], List.getElem?_eq_getElem h2, S.cell i _ c (List.getElem?_eq_getElem h2) h⟩
theorem Sim.dom (S : Sim K H B as M) {a : Addr} (h : a ∈ as) : H a ≠ none := by
  obtain ⟨i, hi⟩ := List.getElem?_of_mem h
  obtain ⟨c, _, q⟩ := S.lt hi
  exact q.ne
theorem Live.mem {a : Addr} (h : Live as M a) : a ∈ as := by
  obtain ⟨i, d, h, _⟩ := h
  exact List.mem_of_getElem? h
theorem Sim.mut (S : Sim K H B as M) {a : Addr} (h : Live as M a) : (∃ vs, H a = some (.lst vs)) ∨ (∃ kvs, H a = some (.dK kvs)) ∨ ∃ kvs, H a = some (.dT kvs) := by
  obtain ⟨i, d, h1, h2⟩ := h
  exact (S.cell i a _ h1 h2).mut
theorem Sim.tupNL (S : Sim K H B as M) {a : Addr} {vs : List V} (h : Rd H a (.tup vs)) : ¬ Live as M a := fun l => by
  rcases S.mut l with ⟨x, e⟩ | ⟨x, e⟩ | ⟨x, e⟩ <;> rcases h with h | ⟨o, h⟩ <;> rw [h] at e <;> cases e
theorem Sim.frzNL (S : Sim K H B as M) {a : Addr} {o : Obj} {u : HO} (h : H a = some (.frz o u)) : ¬ Live as M a := fun l => by
  rcases S.mut l with ⟨x, e⟩ | ⟨x, e⟩ | ⟨x, e⟩ <;> rw [h] at e <;> cases e
theorem Go.rd (g : Go as M H as' M' H') {a : Addr} {u : HO} (h : Rd H a u) (n : ¬ Live as M a) : Rd H' a u := by
  rcases h with h | ⟨o, h⟩
  · exact .inl (g.keep _ _ h n)
  · exact .inr ⟨o, g.keep _ _ h n⟩
theorem Rd.ne {a : Addr} {u : HO} (h : Rd H a u) : H a ≠ none := by
  rcases h with h | ⟨o, h⟩ <;> rw [h] <;> simp
theorem Go.sqt (S : Sim K H B as M) (g : Go as M H as' M' H') {a : Addr} {vs : List V} (h : SqT K H a vs) : SqT K H' a vs := by
  rcases h with h | h
  · exact .inl (g.rd h (S.tupNL h))
  · exact .inr h
theorem Go.tpl (S : Sim K H B as M) (g : Go as M H as' M' H') {a : Addr} {vs : List V} (h : H a = some (.tup vs)) : H' a = some (.tup vs) := g.keep _ _ h (S.tupNL (.inl h))
theorem Go.refl : Go as M H as M H := ⟨List.prefix_rfl, fun _ _ h _ => h, fun _ _ h => h, fun _ h => h, fun i a h1 h2 => by
  rw [List.getElem?_eq_none h1] at h2; cases h2⟩
theorem Go.trans (g : Go as M H as' M' H') (g' : Go as' M' H' as'' M'' H'') : Go as M H as'' M'' H'' := by
  have fwd : ∀ a, H a ≠ none → Live as'' M'' a → Live as M a := fun a h l => g.live a h (g'.live a (g.dom a h) l)
  refine ⟨g.pre.trans g'.pre, fun a o h n => ?_, fwd, fun a h => g'.dom a (g.dom a h), fun i a h1 h2 => ?_⟩
  · refine g'.keep a o (g.keep a o h n) fun l => n (g.live a (by rw [h]; simp) l)
  · by_cases hi : as'.length ≤ i
    · have e := g'.new i a hi h2
      cases q : H a with
      | none => rfl
      | some o => exact absurd e (g.dom a (by rw [q]; simp))
    · have hlt : i < as'.length := by omega
      obtain ⟨t, ht⟩ := g'.pre
      have : as'[i]? = some a := by
        rw [← ht, List.getElem?_append_left hlt] at h2
        exact h2
      exact g.new i a h1 this
theorem get_pre {i : Nat} {a : Addr} (p : as <+: as') (h : as[i]? = some a) : as'[i]? = some a := by
  obtain ⟨t, rfl⟩ := p
  rw [List.getElem?_append_left (List.getElem?_eq_some_iff.mp h).1]; exact h

mutual
theorem Rp.mono (hp : as <+: as') (ht : ∀ a vs, SqT K H a vs → SqT K H' a vs) (hk : ∀ a vs, H a = some (.tup vs) → H' a = some (.tup vs)) (hl : ∀ a u, H a = some u → ¬ B a → H' a = some u ∧ ¬ B' a) (hf : ∀ a o u, H a = some (.frz o u) → H' a = some (.frz o u)) : (d : D) → (v : V) → Rp K H B as d v → Rp K H' B' as' d v
  | .non, _, h => h
  | .bl _, _, h => h
  | .int _, _, h => h
  | .str _, _, h => h
  | .exo _, _, h => h
  | .tup xs, _, h => by
    obtain ⟨a, vs, e, s, r⟩ := h
    exact ⟨a, vs, e, ht _ _ s, Rps.mono hp ht hk hl hf xs vs r⟩
  | .ktp xs, _, h => by
    obtain ⟨a, vs, e, s, r⟩ := h
    exact ⟨a, vs, e, hk _ _ s, Rps.mono hp ht hk hl hf xs vs r⟩
  | .lst xs, _, h => by
    obtain ⟨a, vs, e, s, n, r⟩ := h
    obtain ⟨s', n'⟩ := hl _ _ s n
    exact ⟨a, vs, e, s', n', Rps.mono hp ht hk hl hf xs vs r⟩
  | .fro xs, _, h => by
    obtain ⟨a, vs, e, s, r⟩ := h
    exact ⟨a, vs, e, s.imp_left fun ⟨o, z⟩ => ⟨o, hf _ _ _ z⟩, Rps.mono hp ht hk hl hf xs vs r⟩
  | .dct false ks ds, _, h => by
    obtain ⟨a, kvs, e, s, n, k, r⟩ := h
    rcases s with s | ⟨o, s⟩
    · obtain ⟨s', n'⟩ := hl _ _ s n
      exact ⟨a, kvs, e, .inl s', n', k, Rps.mono hp ht hk hl hf ds _ r⟩
    · obtain ⟨s', n'⟩ := hl _ _ s n
      exact ⟨a, kvs, e, .inr ⟨o, s'⟩, n', k, Rps.mono hp ht hk hl hf ds _ r⟩
  | .dct true ks ds, _, h => by
    obtain ⟨a, kvs, e, s, n, k, r⟩ := h
    rcases s with s | ⟨o, s⟩
    · obtain ⟨s', n'⟩ := hl _ _ s n
      exact ⟨a, kvs, e, .inl s', n', k, Rps.mono hp ht hk hl hf ds _ r⟩
    · obtain ⟨s', n'⟩ := hl _ _ s n
      exact ⟨a, kvs, e, .inr ⟨o, s'⟩, n', k, Rps.mono hp ht hk hl hf ds _ r⟩
  | .ref i, _, h => by
    obtain ⟨a, e, q⟩ := h
    exact ⟨a, get_pre hp e, q⟩
theorem Rps.mono (hp : as <+: as') (ht : ∀ a vs, SqT K H a vs → SqT K H' a vs) (hk : ∀ a vs, H a = some (.tup vs) → H' a = some (.tup vs)) (hl : ∀ a u, H a = some u → ¬ B a → H' a = some u ∧ ¬ B' a) (hf : ∀ a o u, H a = some (.frz o u) → H' a = some (.frz o u)) : (ds : List D) → (vs : List V) → Rps K H B as ds vs → Rps K H' B' as' ds vs
  | [], _, h => h
  | x :: xs, _, h => by
    obtain ⟨v, r, e, h1, h2⟩ := h
    exact ⟨v, r, e, Rp.mono hp ht hk hl hf x v h1, Rps.mono hp ht hk hl hf xs r h2⟩
end
theorem Go.hl (g : Go as M H as' M' H') : ∀ a u, H a = some u → ¬ Av B as M a → H' a = some u ∧ ¬ Av B as' M' a := fun a u r n =>
  ⟨g.keep a u r fun l => n (.inr l), fun z => z.elim (fun b => n (.inl b)) fun l => n (.inr (g.live a (by rw [r]; simp) l))⟩
theorem Go.frz (S : Sim K H B as M) (g : Go as M H as' M' H') : ∀ a o u, H a = some (.frz o u) → H' a = some (.frz o u) := fun a o u h => g.keep a _ h (S.frzNL h)
theorem Go.rp (S : Sim K H B as M) (g : Go as M H as' M' H') {d : D} {v : V} (h : Rp K H (Av B as M) as d v) : Rp K H' (Av B as' M') as' d v :=
  Rp.mono g.pre (fun _ _ => g.sqt S) (fun _ _ => g.tpl S) g.hl (g.frz S) d v h
theorem Go.rps (S : Sim K H B as M) (g : Go as M H as' M' H') {d : List D} {v : List V} (h : Rps K H (Av B as M) as d v) : Rps K H' (Av B as' M') as' d v :=
  Rps.mono g.pre (fun _ _ => g.sqt S) (fun _ _ => g.tpl S) g.hl (g.frz S) d v h
theorem Rps.len : ∀ {ds : List D} {vs : List V}, Rps K H B as ds vs → vs.length = ds.length
  | [], _, h => by cases h; rfl
  | x :: xs, _, h => by
    obtain ⟨v, r, rfl, _, h2⟩ := h
    simp only [List.length_cons, h2.len]
theorem Rps.get : ∀ {ds : List D} {vs : List V} {i : Nat} {d : D}, Rps K H B as ds vs → ds[i]? = some d → ∃ v, vs[i]? = some v ∧ Rp K H B as d v
  | [], _, _, _, _, e => by simp at e
  | x :: xs, _, 0, d, h, e => by
    obtain ⟨v, r, rfl, h1, _⟩ := h
    simp at e; subst e
    exact ⟨v, rfl, h1⟩
  | x :: xs, _, i + 1, d, h, e => by
    obtain ⟨v, r, rfl, _, h2⟩ := h
    obtain ⟨w, e1, e2⟩ := Rps.get (i := i) h2 (by simpa using e)
    exact ⟨w, by simpa using e1, e2⟩
theorem Rps.getV : ∀ {ds : List D} {vs : List V} {i : Nat} {v : V}, Rps K H B as ds vs → vs[i]? = some v → ∃ d, ds[i]? = some d ∧ Rp K H B as d v
  | [], _, _, _, h, e => by cases h; simp at e
  | x :: xs, _, 0, d, h, e => by
    obtain ⟨v, r, rfl, h1, _⟩ := h
    simp at e; subst e
    exact ⟨x, rfl, h1⟩
  | x :: xs, _, i + 1, d, h, e => by
    obtain ⟨v, r, rfl, _, h2⟩ := h
    obtain ⟨w, e1, e2⟩ := Rps.getV (i := i) h2 (by simpa using e)
    exact ⟨w, by simpa using e1, e2⟩
theorem Rps.append : ∀ {ds es : List D} {vs ws : List V}, Rps K H B as ds vs → Rps K H B as es ws → Rps K H B as (ds ++ es) (vs ++ ws)
  | [], _, _, _, h, h' => by cases h; exact h'
  | x :: xs, _, _, _, h, h' => by
    obtain ⟨v, r, rfl, h1, h2⟩ := h
    exact ⟨v, r ++ _, rfl, h1, h2.append h'⟩
theorem Rps.one {d : D} {v : V} (h : Rp K H B as d v) : Rps K H B as [d] [v] := ⟨v, [], rfl, h, rfl⟩
theorem Rps.take : ∀ {ds : List D} {vs : List V} (n : Nat), Rps K H B as ds vs → Rps K H B as (ds.take n) (vs.take n)
  | _, _, 0, _ => by simp [Rps]
  | [], _, n + 1, h => by cases h; simp [Rps]
  | x :: xs, _, n + 1, h => by
    obtain ⟨v, r, rfl, h1, h2⟩ := h
    exact ⟨v, r.take n, rfl, h1, h2.take n⟩
theorem Rps.drop : ∀ {ds : List D} {vs : List V} (n : Nat), Rps K H B as ds vs → Rps K H B as (ds.drop n) (vs.drop n)
  | _, _, 0, h => by simpa using h
  | [], _, n + 1, h => by cases h; simp [Rps]
  | x :: xs, _, n + 1, h => by
    obtain ⟨v, r, rfl, h1, h2⟩ := h
    simpa using h2.drop n
theorem Rps.set : ∀ {ds : List D} {vs : List V} {d : D} {v : V} (n : Nat), Rps K H B as ds vs → Rp K H B as d v → Rps K H B as (ds.set n d) (vs.set n v)
  | [], _, _, _, _, h, _ => by cases h; simp [Rps]
  | x :: xs, _, d, w, 0, h, q => by
    obtain ⟨v, r, rfl, h1, h2⟩ := h
    exact ⟨w, r, rfl, q, h2⟩
  | x :: xs, _, d, w, n + 1, h, q => by
    obtain ⟨v, r, rfl, h1, h2⟩ := h
    exact ⟨v, r.set n w, rfl, h1, h2.set n q⟩
theorem Rps.dropLast {ds : List D} {vs : List V} (h : Rps K H B as ds vs) : Rps K H B as ds.dropLast vs.dropLast := by
  rw [List.dropLast_eq_take, List.dropLast_eq_take, h.len]
  exact h.take _
theorem Rps.reverse : ∀ {ds : List D} {vs : List V}, Rps K H B as ds vs → Rps K H B as ds.reverse vs.reverse
  | [], _, h => by cases h; simp [Rps]
  | x :: xs, _, h => by
    obtain ⟨v, r, rfl, h1, h2⟩ := h
    simp only [List.reverse_cons]
    exact h2.reverse.append (Rps.one h1)
theorem Rps.cut {ds : List D} {vs : List V} (lo hi : Option Int) (h : Rps K H B as ds vs) : Rps K H B as (cutL ds lo hi) (cutV vs lo hi) := by
  unfold cutL cutV
  rw [h.len]
  exact (h.drop _).take _

/-! ### steps of the small heap -/
theorem Sim.fresh (S : Sim K H B as M) {p : Addr} (hp : H p = none) : p ∉ as := fun h => S.dom h hp
/-- a thing that is not in the small heap is laid -/
theorem Go.laid {p : Addr} {o : HO} (S : Sim K H B as M) (hp : H p = none) : Go as M H as M (upd H p o) :=
  ⟨List.prefix_rfl, fun a u h _ => by rw [upd_ne (ne_of_none h hp)]; exact h, fun _ _ h => h, fun a h => by
    by_cases e : a = p
    · subst e; rw [upd_same]; simp
    · rw [upd_ne e]; exact h, fun i a h1 h2 => by rw [List.getElem?_eq_none h1] at h2; cases h2⟩
/-- the state stands, if all things do -/
theorem Sim.stay (S : Sim K H B as M) (g : Go as M H as M H') (hm : ∀ a o, H a = some o → H' a = some o) : Sim K H' B as M :=
  ⟨S.len, S.nd, fun a h => g.dom a (S.b0 a h), S.dj, fun i a c h1 h2 => by
    have q := S.cell i a c h1 h2
    obtain ⟨m, d⟩ := c
    cases m <;> cases d <;> try (exact q.elim)
    · exact g.dom a q
    · exact g.rp S q
    · rename_i t ks ds
      cases t
      · obtain ⟨o, vs, e, n, k, r⟩ := q
        obtain ⟨e', n'⟩ := g.hl _ _ e n
        exact ⟨o, vs, e', n', k, g.rps S r⟩
      · obtain ⟨o, vs, e, n, k, r⟩ := q
        obtain ⟨e', n'⟩ := g.hl _ _ e n
        exact ⟨o, vs, e', n', k, g.rps S r⟩
    · obtain ⟨vs, e, r⟩ := q
      exact ⟨vs, hm _ _ e, g.rps S r⟩
    · rename_i t ks ds
      cases t
      · obtain ⟨vs, e, k, r⟩ := q
        exact ⟨vs, hm _ _ e, k, g.rps S r⟩
      · obtain ⟨vs, e, k, r⟩ := q
        exact ⟨vs, hm _ _ e, k, g.rps S r⟩⟩
theorem Sim.laid {p : Addr} {o : HO} (S : Sim K H B as M) (hp : H p = none) : Sim K (upd H p o) B as M :=
  S.stay (Go.laid S hp) fun a u h => by rw [upd_ne (ne_of_none h hp)]; exact h
theorem Live.app {a p : Addr} {c : Cell} (l : as.length = M.length) (h : Live (as ++ [p]) (M ++ [c]) a) : Live as M a ∨ (a = p ∧ c.m = true) := by
  obtain ⟨i, d, h1, h2⟩ := h
  by_cases hi : i < as.length
  · rw [List.getElem?_append_left hi] at h1
    rw [List.getElem?_append_left (by rw [← l]; exact hi)] at h2
    exact .inl ⟨i, d, h1, h2⟩
  · rw [List.getElem?_append_right (by omega)] at h1
    rw [List.getElem?_append_right (by omega)] at h2
    have e1 : i - as.length = 0 := by
      cases q : i - as.length with
      | zero => rfl
      | succ n => rw [q] at h1; simp at h1
    have e2 : i - M.length = 0 := by omega
    rw [e1] at h1; rw [e2] at h2
    simp at h1 h2
    exact .inr ⟨h1.symm, by rw [h2]⟩
/-- a new list becomes a place -/
theorem Go.push {p : Addr} {ob : HO} {c : Cell} (S : Sim K H B as M) (hp : H p = none) : Go as M H (as ++ [p]) (M ++ [c]) (upd H p ob) := by
  refine ⟨List.prefix_append _ _, fun a u h _ => by rw [upd_ne (ne_of_none h hp)]; exact h, fun a h l => ?_, fun a h => by
    by_cases e : a = p
    · subst e; rw [upd_same]; simp
    · rw [upd_ne e]; exact h, fun i a h1 h2 => ?_⟩
  · rcases Live.app S.len l with l | ⟨rfl, _⟩
    · exact l
    · exact absurd hp h
  · have e : i - as.length = 0 := by
      rw [List.getElem?_append_right h1] at h2
      cases q : i - as.length with
      | zero => rfl
      | succ n => rw [q] at h2; simp at h2
    rw [List.getElem?_append_right h1, e] at h2
    simp at h2
    subst h2; exact hp
theorem Cp.go {a : Addr} {c : Cell} (S : Sim K H B as M) (g : Go as M H as' M' H') (q : Cp K H (Av B as M) as a c) (hm : c.m = true → ∀ o, H a = some o → H' a = some o) : Cp K H' (Av B as' M') as' a c := by
  obtain ⟨m, d⟩ := c
  cases m <;> cases d <;> try (exact q.elim)
  · exact g.dom a q
  · exact g.rp S q
  · rename_i t ks ds
    cases t
    · obtain ⟨o, vs, e, n, k, r⟩ := q
      obtain ⟨e', n'⟩ := g.hl _ _ e n
      exact ⟨o, vs, e', n', k, g.rps S r⟩
    · obtain ⟨o, vs, e, n, k, r⟩ := q
      obtain ⟨e', n'⟩ := g.hl _ _ e n
      exact ⟨o, vs, e', n', k, g.rps S r⟩
  · obtain ⟨vs, e, r⟩ := q
    exact ⟨vs, hm rfl _ e, g.rps S r⟩
  · rename_i t ks ds
    cases t
    · obtain ⟨vs, e, k, r⟩ := q
      exact ⟨vs, hm rfl _ e, k, g.rps S r⟩
    · obtain ⟨vs, e, k, r⟩ := q
      exact ⟨vs, hm rfl _ e, k, g.rps S r⟩
theorem Sim.push {p : Addr} {vs : List V} {xs : List D} (S : Sim K H B as M) (hp : H p = none) (r : Rps K H (Av B as M) as xs vs) : Sim K (upd H p (.lst vs)) B (as ++ [p]) (M ++ [⟨true, .lst xs⟩]) := by
  have g : Go as M H (as ++ [p]) (M ++ [⟨true, .lst xs⟩]) (upd H p (.lst vs)) := Go.push S hp
  refine ⟨by simp [S.len], ?_, fun a h => g.dom a (S.b0 a h), fun a h => ?_, fun i a c h1 h2 => ?_⟩
  · rw [List.nodup_append]
    refine ⟨S.nd, by simp, fun a ha b hb => ?_⟩
    simp at hb; subst hb
    exact fun e => S.fresh hp (e ▸ ha)
  · rcases List.mem_append.mp h with h | h
    · exact S.dj a h
    · simp at h; subst h
      exact fun b => S.b0 _ b hp
  · by_cases hi : i < as.length
    · rw [List.getElem?_append_left hi] at h1
      rw [List.getElem?_append_left (by rw [← S.len]; exact hi)] at h2
      exact (S.cell i a c h1 h2).go S g fun _ o e => by rw [upd_ne (ne_of_none e hp)]; exact e
    · rw [List.getElem?_append_right (by omega)] at h1
      rw [List.getElem?_append_right (by have := S.len; omega)] at h2
      have e1 : i - as.length = 0 := by
        cases q : i - as.length with
        | zero => rfl
        | succ n => rw [q] at h1; simp at h1
      have e2 : i - M.length = 0 := by have := S.len; omega
      rw [e1] at h1; rw [e2] at h2
      simp at h1 h2
      subst h1; subst h2
      exact ⟨vs, upd_same, g.rps S r⟩
theorem set_get {i j : Nat} {c c' : Cell} (h : (M.set i c)[j]? = some c') : (j = i ∧ c' = c ∧ i < M.length) ∨ (j ≠ i ∧ M[j]? = some c') := by
  by_cases e : j = i
  · subst e
    by_cases hi : j < M.length
    · rw [List.getElem?_set_self hi] at h
      cases h
      exact .inl ⟨rfl, rfl, hi⟩
    · rw [List.getElem?_eq_none (by simpa using hi)] at h; cases h
  · rw [List.getElem?_set_ne (Ne.symm e)] at h
    exact .inr ⟨e, h⟩
/-- a place is written to -/
theorem Go.put {i : Nat} {a : Addr} {d d' : D} {o : HO} (S : Sim K H B as M) (ha : as[i]? = some a) (hc : M[i]? = some ⟨true, d⟩) : Go as M H as (M.set i ⟨true, d'⟩) (upd H a o) := by
  refine ⟨List.prefix_rfl, fun b u h n => ?_, fun b h l => ?_, fun b h => by
    by_cases e : b = a
    · subst e; rw [upd_same]; simp
    · rw [upd_ne e]; exact h, fun i a h1 h2 => by rw [List.getElem?_eq_none h1] at h2; cases h2⟩
  · have : b ≠ a := fun e => n (e ▸ ⟨i, d, ha, hc⟩)
    rw [upd_ne this]; exact h
  · obtain ⟨j, e, h1, h2⟩ := l
    rcases set_get h2 with ⟨rfl, _, _⟩ | ⟨_, h2⟩
    · rw [ha] at h1; cases h1
      exact ⟨j, d, ha, hc⟩
    · exact ⟨j, e, h1, h2⟩
theorem nd_ix {i j : Nat} {a : Addr} (S : Sim K H B as M) (h : as[i]? = some a) (h' : as[j]? = some a) : i = j := by
  obtain ⟨h1, e1⟩ := List.getElem?_eq_some_iff.mp h
  obtain ⟨h2, e2⟩ := List.getElem?_eq_some_iff.mp h'
  exact (List.getElem_inj S.nd).mp (e1.trans e2.symm)
theorem Sim.put {i : Nat} {a : Addr} {d : D} {xs : List D} {vs : List V} (S : Sim K H B as M) (ha : as[i]? = some a) (hc : M[i]? = some ⟨true, d⟩) (r : Rps K H (Av B as M) as xs vs) : Sim K (upd H a (.lst vs)) B as (M.set i ⟨true, .lst xs⟩) := by
  have g : Go as M H as (M.set i ⟨true, .lst xs⟩) (upd H a (.lst vs)) := Go.put S ha hc
  refine ⟨by simp [S.len], S.nd, fun a h => g.dom a (S.b0 a h), S.dj, fun j b c h1 h2 => ?_⟩
  rcases set_get h2 with ⟨rfl, rfl, _⟩ | ⟨hj, h2⟩
  · rw [ha] at h1; cases h1
    exact ⟨vs, upd_same, g.rps S r⟩
  · refine (S.cell j b c h1 h2).go S g fun _ o e => ?_
    have : b ≠ a := fun e => hj (nd_ix S h1 (e ▸ ha))
    rw [upd_ne this]; exact e
/-- a place is written to no more -/
theorem Go.stop (S : Sim K H B as M) (d : D) : Go as M H as (stop1 d M) H := by
  unfold stop1
  cases d <;> try (exact Go.refl)
  rename_i i
  dsimp only
  split
  · rename_i mm xs hc
    refine ⟨List.prefix_rfl, fun _ _ h _ => h, fun b h l => ?_, fun _ h => h, fun i a h1 h2 => by rw [List.getElem?_eq_none h1] at h2; cases h2⟩
    obtain ⟨j, e, h1, h2⟩ := l
    rcases set_get h2 with ⟨rfl, q, _⟩ | ⟨_, h2⟩
    · cases q
    · exact ⟨j, e, h1, h2⟩
  · exact Go.refl
theorem Sim.stop (S : Sim K H B as M) (d : D) : Sim K H B as (stop1 d M) := by
  have g := Go.stop S d
  refine ⟨?_, S.nd, S.b0, S.dj, ?_⟩
  · rw [S.len]
    unfold stop1
    cases d <;> try rfl
    rename_i i
    dsimp only
    split
    · simp
    · rfl
  · intro j b c h1 h2
    have base : ∀ c, M[j]? = some c → Cp K H (Av B as (stop1 d M)) as b c := fun c h2 => (S.cell j b c h1 h2).go S g fun _ o e => e
    cases d <;> try (exact base c h2)
    rename_i i
    unfold stop1 at h2
    dsimp only at h2
    split at h2
    · rename_i mm xs hc
      rcases set_get h2 with ⟨rfl, rfl, _⟩ | ⟨hj, h2⟩
      · have q := S.cell j b _ h1 hc
        have nl : ¬ Av B as (stop1 (.ref j) M) b := fun z => by
          rcases z with z | ⟨k, e, z1, z2⟩
          · exact S.dj b (List.mem_of_getElem? h1) z
          · have := nd_ix S z1 h1
            subst this
            unfold stop1 at z2
            dsimp only at z2
            rw [hc] at z2
            rcases set_get z2 with ⟨_, q, _⟩ | ⟨z, _⟩
            · cases q
            · exact z rfl
        cases mm
        · exact g.rp S q
        · obtain ⟨vs, e, r⟩ := q
          exact ⟨b, vs, rfl, e, nl, g.rps S r⟩
      · exact base c h2
    · exact base c h2

/-! ### what is read -/
theorem content_ref {i : Nat} {xs : List D} (h : content M (.ref i) = some xs) : ∃ m, M[i]? = some ⟨m, .lst xs⟩ := by
  have h' : (match M[i]? with
    | some ⟨_, .lst xs⟩ => some xs
    | _ => none) = some xs := h
  split at h'
  · rename_i m ys hc
    cases h'
    exact ⟨m, hc⟩
  · cases h'
theorem content_rp {d : D} {v : V} {xs : List D} (S : Sim K H B as M) (r : Rp K H (Av B as M) as d v) (h : content M d = some xs) : ∃ a vs, v = .ref a ∧ H a = some (.lst vs) ∧ Rps K H (Av B as M) as xs vs := by
  cases d with
  | lst ys =>
    cases h
    obtain ⟨a, vs, e, s, _, q⟩ := r
    exact ⟨a, vs, e, s, q⟩
  | ref i =>
    obtain ⟨a, e, rfl⟩ := r
    obtain ⟨m, hc⟩ := content_ref h
    have q := S.cell i a _ e hc
    cases m
    · obtain ⟨b, vs, e1, s, _, q⟩ := q
      cases e1
      exact ⟨a, vs, rfl, s, q⟩
    · obtain ⟨vs, s, q⟩ := q
      exact ⟨a, vs, rfl, s, q⟩
  | _ => cases h
theorem listOf_rp {d : D} {v : V} {xs : List D} (S : Sim K H B as M) (r : Rp K H (Av B as M) as d v) (h : listOf M d = some xs) : ∃ a vs, v = .ref a ∧ SqL K H a vs ∧ Rps K H (Av B as M) as xs vs := by
  by_cases ht : ∃ ys, d = .fro ys
  · obtain ⟨ys, rfl⟩ := ht
    cases h
    obtain ⟨a, vs, e, s, q⟩ := r
    exact ⟨a, vs, e, s.sql, q⟩
  · have h' : content M d = some xs := by
      cases d <;> first | exact h | exact absurd ⟨_, rfl⟩ ht
    obtain ⟨a, vs, e, s, q⟩ := content_rp S r h'
    exact ⟨a, vs, e, .of s, q⟩
theorem seq_rp {d : D} {v : V} {xs : List D} (S : Sim K H B as M) (r : Rp K H (Av B as M) as d v) (h : seqOf M d = some xs) : ∃ a vs, v = .ref a ∧ (SqL K H a vs ∨ SqT K H a vs) ∧ Rps K H (Av B as M) as xs vs := by
  by_cases ht : ∃ ys, d = .tup ys
  · obtain ⟨ys, rfl⟩ := ht
    cases h
    obtain ⟨a, vs, e, s, q⟩ := r
    exact ⟨a, vs, e, .inr s, q⟩
  · by_cases hk : ∃ ys, d = .ktp ys
    · obtain ⟨ys, rfl⟩ := hk
      cases h
      obtain ⟨a, vs, e, s, q⟩ := r
      exact ⟨a, vs, e, .inr (.inl (.inl s)), q⟩
    have h' : listOf M d = some xs := by
      cases d <;> first | exact h | exact absurd ⟨_, rfl⟩ ht | exact absurd ⟨_, rfl⟩ hk
    obtain ⟨a, vs, e, s, q⟩ := listOf_rp S r h'
    exact ⟨a, vs, e, .inl s, q⟩
end
end Sg

/-! SgOps: the values' operations are what the layer's rules say. -/
namespace Sg
open PySem PySem.Spec PyProof.Rows L2

/-- what is wanted behind a step: rel tells how what comes of it lies -/
def PostG {α β : Type} (K : PySem.W.Frag) (H : Hp) (B : Addr → Prop) (as : List Addr) (M : List Cell) (E : Nat → Hp → Prop) (rel : List Addr → List Cell → Hp → α → β → Prop) (r : R α) (Q : β → Hp → Prop) : Prop := match r with
  | .ok d M' => ∀ as' H' v, Go as M H as' M' H' → Sim K H' B as' M' → rel as' M' H' d v → Q v H'
  | .exc c M' => ∀ as' H', Go as M H as' M' H' → Sim K H' B as' M' → E c H'
  | .bad => False
abbrev relD (K : PySem.W.Frag) (B : Addr → Prop) : List Addr → List Cell → Hp → D → V → Prop := fun as' M' H' d v => Rp K H' (Av B as' M') as' d v
abbrev relDs (K : PySem.W.Frag) (B : Addr → Prop) : List Addr → List Cell → Hp → List D → List V → Prop := fun as' M' H' d v => Rps K H' (Av B as' M') as' d v
abbrev relEq {α : Type} : List Addr → List Cell → Hp → α → α → Prop := fun _ _ _ d v => d = v
abbrev PostD (K : PySem.W.Frag) (H : Hp) (B : Addr → Prop) (as : List Addr) (M : List Cell) (E : Nat → Hp → Prop) (r : R D) (Q : VK) : Prop := PostG K H B as M E (relD K B) r Q
theorem PostG.go {α β : Type} {K : PySem.W.Frag} {H H1 : Hp} {B : Addr → Prop} {as as1 : List Addr} {M M1 : List Cell} {E : Nat → Hp → Prop} {rel : List Addr → List Cell → Hp → α → β → Prop} {r : R α} {Q : β → Hp → Prop}
    (h : PostG K H B as M E rel r Q) (g : Go as M H as1 M1 H1) : PostG K H1 B as1 M1 E rel r Q := by
  cases r with
  | ok d M' => exact fun as' H' v g' S q => h as' H' v (g.trans g') S q
  | exc c M' => exact fun as' H' g' S => h as' H' (g.trans g') S
  | bad => exact h
theorem PostG.eq {α β : Type} {K : PySem.W.Frag} {H : Hp} {B : Addr → Prop} {as : List Addr} {M : List Cell} {E : Nat → Hp → Prop} {rel : List Addr → List Cell → Hp → α → β → Prop} {r r' : R α} {Q : β → Hp → Prop}
    (e : r = r') (h : PostG K H B as M E rel r Q) : PostG K H B as M E rel r' Q := e ▸ h
theorem post_bind {α β γ δ : Type} {K : PySem.W.Frag} {H : Hp} {B : Addr → Prop} {as : List Addr} {M : List Cell} {E : Nat → Hp → Prop} {rel1 : List Addr → List Cell → Hp → α → β → Prop} {rel2 : List Addr → List Cell → Hp → γ → δ → Prop}
    {r : R α} {f : α → List Cell → R γ} {Q : δ → Hp → Prop} {Q' : β → Hp → Prop} (h : PostG K H B as M E rel2 (r.bind f) Q)
    (k : ∀ a M1 as1 H1 b, r = .ok a M1 → Go as M H as1 M1 H1 → Sim K H1 B as1 M1 → rel1 as1 M1 H1 a b → PostG K H1 B as1 M1 E rel2 (f a M1) Q → Q' b H1) : PostG K H B as M E rel1 r Q' := by
  cases r with
  | ok a M1 => exact fun as' H' v g S q => k a M1 as' H' v rfl g S q (PostG.go h g)
  | exc c M1 => exact h
  | bad => exact h
theorem LIM_le : LIM ≤ sizeLine := by rw [sizeLine_eq]; decide
theorem LIM_lt : LIM < sizeLine := by rw [sizeLine_eq]; decide
section
variable {K : PySem.W.Frag} {H : Hp} {B : Addr → Prop} {as : List Addr} {M : List Cell} {E : Nat → Hp → Prop} {Q : VK}
theorem PostD.at (S : Sim K H B as M) {d : D} {v : V} (h : PostD K H B as M E (.ok d M) Q) (r : Rp K H (Av B as M) as d v) : Q v H := h as H v Go.refl S r
theorem Sim.notAv (S : Sim K H B as M) {p : Addr} (hp : H p = none) : ¬ Av B as M p := fun z => z.elim (fun b => S.b0 p b hp) fun l => S.fresh hp l.mem
theorem new_post {m : Bool} {xs : List D} {vs : List V} (S : Sim K H B as M) (r : Rps K H (Av B as M) as xs vs) (h : PostD K H B as M E (new m xs M) Q) :
    vs.length ≤ LIM ∧ ∀ p, H p = none → Q (.ref p) (upd H p (.lst vs)) := by
  unfold new at h
  split at h
  · rename_i hl
    refine ⟨by rw [r.len]; exact hl, fun p hp => ?_⟩
    cases m
    · have g : Go as M H as M (upd H p (.lst vs)) := Go.laid S hp
      exact h as _ _ g (Sim.laid S hp) ⟨p, vs, rfl, upd_same, S.notAv hp, g.rps S r⟩
    · refine h (as ++ [p]) _ _ (Go.push S hp) (Sim.push S hp r) ⟨p, ?_, rfl⟩
      rw [← S.len, List.getElem?_append_right (Nat.le_refl _), Nat.sub_self]; rfl
  · exact h.elim
theorem tup_post {xs : List D} {vs : List V} (S : Sim K H B as M) (r : Rps K H (Av B as M) as xs vs) (h : PostD K H B as M E (.ok (.tup xs) M) Q) :
    ∀ p, H p = none → Q (.ref p) (upd H p (.tup vs)) := fun p hp => by
  have g : Go as M H as M (upd H p (.tup vs)) := Go.laid S hp
  exact h as _ _ g (Sim.laid S hp) ⟨p, vs, rfl, .inl (.inl upd_same), g.rps S r⟩
end

theorem ktup_post' {K : PySem.W.Frag} {H : Hp} {B : Addr → Prop} {as : List Addr} {M : List Cell} {E : Nat → Hp → Prop} {Q : VK} {xs : List D} {vs : List V} (S : Sim K H B as M) (r : Rps K H (Av B as M) as xs vs) (h : PostD K H B as M E (.ok (.ktp xs) M) Q) :
    ∀ p, H p = none → Q (.ref p) (upd H p (.tup vs)) := fun p hp => by
  have g : Go as M H as M (upd H p (.tup vs)) := Go.laid S hp
  exact h as _ _ g (Sim.laid S hp) ⟨p, vs, rfl, upd_same, g.rps S r⟩
/-! ### trees for what values are by now -/
theorem mapRef_keyOf {f : Nat → Option D} {x x' : D} {k : Key} (e : mapRef f x = some x') (h : keyOf x = some k) : keyOf x' = some k := by
  cases x <;> first | (cases h; done) | skip
  · cases e; exact h
  · cases e; exact h
theorem mapRefs_keysOf {f : Nat → Option D} : ∀ {xs xs' : List D} {ks : List Key}, mapRefs f xs = some xs' → keysOf xs = some ks → keysOf xs' = some ks
  | [], _, _, e, h => by cases e; exact h
  | x :: xs, _, _, e, h => by
    rw [mapRefs] at e
    rw [keysOf] at h
    cases q1 : mapRef f x with
    | none => rw [q1] at e; cases e
    | some x' =>
      cases q2 : mapRefs f xs with
      | none => rw [q1, q2] at e; cases e
      | some xs' =>
        rw [q1, q2] at e; cases e
        cases k1 : keyOf x with
        | none => rw [k1] at h; cases h
        | some k =>
          cases k2 : keysOf xs with
          | none => rw [k1, k2] at h; cases h
          | some kk =>
            rw [k1, k2] at h; cases h
            rw [keysOf, mapRef_keyOf q1 k1, mapRefs_keysOf q2 k2]; rfl
theorem mapRef_keyT {f : Nat → Option D} {x x' : D} {k : List Key} (e : mapRef f x = some x') (h : keyT x = some k) : keyT x' = some k := by
  cases x <;> first | (cases h; done) | skip
  rename_i xs
  rw [mapRef] at e
  cases q : mapRefs f xs with
  | none => rw [q] at e; cases e
  | some ys =>
    rw [q] at e; cases e
    exact mapRefs_keysOf q h
theorem mapRefs_keysT {f : Nat → Option D} : ∀ {xs xs' : List D} {ks : List (List Key)}, mapRefs f xs = some xs' → keysT xs = some ks → keysT xs' = some ks
  | [], _, _, e, h => by cases e; exact h
  | x :: xs, _, _, e, h => by
    rw [mapRefs] at e
    rw [keysT] at h
    cases q1 : mapRef f x with
    | none => rw [q1] at e; cases e
    | some x' =>
      cases q2 : mapRefs f xs with
      | none => rw [q1, q2] at e; cases e
      | some xs' =>
        rw [q1, q2] at e; cases e
        cases k1 : keyT x with
        | none => rw [k1] at h; cases h
        | some k =>
          cases k2 : keysT xs with
          | none => rw [k1, k2] at h; cases h
          | some kk =>
            rw [k1, k2] at h; cases h
            rw [keysT, mapRef_keyT q1 k1, mapRefs_keysT q2 k2]; rfl
section
variable {K : PySem.W.Frag} {H : Hp} {B : Addr → Prop} {as : List Addr} {M : List Cell}
mutual
theorem mapRef_rp {B' : Addr → Prop} {as' : List Addr} {f : Nat → Option D} (hB : ∀ a, ¬ B a → ¬ B' a) (hf : ∀ i e a, f i = some e → as[i]? = some a → Rp K H B' as' e (.ref a)) : (d : D) → (d' : D) → (v : V) → mapRef f d = some d' → Rp K H B as d v → Rp K H B' as' d' v
  | .non, _, _, e, h => by cases e; exact h
  | .bl _, _, _, e, h => by cases e; exact h
  | .int _, _, _, e, h => by cases e; exact h
  | .str _, _, _, e, h => by cases e; exact h
  | .tup xs, _, _, e, h => by
    rw [mapRef] at e
    cases q : mapRefs f xs with
    | none => rw [q] at e; cases e
    | some ys =>
      rw [q] at e; cases e
      obtain ⟨a, vs, e1, s, r⟩ := h
      exact ⟨a, vs, e1, s, mapRefs_rp hB hf xs ys vs q r⟩
  | .ktp xs, _, _, e, h => by
    rw [mapRef] at e
    cases q : mapRefs f xs with
    | none => rw [q] at e; cases e
    | some ys =>
      rw [q] at e; cases e
      obtain ⟨a, vs, e1, s, r⟩ := h
      exact ⟨a, vs, e1, s, mapRefs_rp hB hf xs ys vs q r⟩
  | .lst xs, _, _, e, h => by
    rw [mapRef] at e
    cases q : mapRefs f xs with
    | none => rw [q] at e; cases e
    | some ys =>
      rw [q] at e; cases e
      obtain ⟨a, vs, e1, s, n, r⟩ := h
      exact ⟨a, vs, e1, s, hB _ n, mapRefs_rp hB hf xs ys vs q r⟩
  | .fro xs, _, _, e, h => by
    rw [mapRef] at e
    cases q : mapRefs f xs with
    | none => rw [q] at e; cases e
    | some ys =>
      rw [q] at e; cases e
      obtain ⟨a, vs, e1, s, r⟩ := h
      exact ⟨a, vs, e1, s, mapRefs_rp hB hf xs ys vs q r⟩
  | .dct t ks ds, _, _, e, h => by
    rw [mapRef] at e
    cases q1 : mapRefs f ks with
    | none => rw [q1] at e; cases e
    | some ks' =>
      cases q2 : mapRefs f ds with
      | none => rw [q1, q2] at e; cases e
      | some ds' =>
        rw [q1, q2] at e; cases e
        cases t
        · obtain ⟨a, kvs, e1, s, n, k, r⟩ := h
          refine ⟨a, kvs, e1, s, hB _ n, ?_, mapRefs_rp hB hf ds ds' _ q2 r⟩
          rw [mapRefs_keysOf q1 k]
        · obtain ⟨a, kvs, e1, s, n, k, r⟩ := h
          refine ⟨a, kvs, e1, s, hB _ n, ?_, mapRefs_rp hB hf ds ds' _ q2 r⟩
          rw [mapRefs_keysT q1 k]
  | .ref i, _, _, e, h => by
    obtain ⟨a, e1, rfl⟩ := h
    exact hf i _ a e e1
theorem mapRefs_rp {B' : Addr → Prop} {as' : List Addr} {f : Nat → Option D} (hB : ∀ a, ¬ B a → ¬ B' a) (hf : ∀ i e a, f i = some e → as[i]? = some a → Rp K H B' as' e (.ref a)) : (ds : List D) → (ds' : List D) → (vs : List V) → mapRefs f ds = some ds' → Rps K H B as ds vs → Rps K H B' as' ds' vs
  | [], _, _, e, h => by cases e; exact h
  | x :: xs, _, _, e, h => by
    rw [mapRefs] at e
    cases q1 : mapRef f x with
    | none => rw [q1] at e; cases e
    | some x' =>
      cases q2 : mapRefs f xs with
      | none => rw [q1, q2] at e; cases e
      | some xs' =>
        rw [q1, q2] at e; cases e
        obtain ⟨v, r, e1, h1, h2⟩ := h
        exact ⟨v, r, e1, mapRef_rp hB hf x x' v q1 h1, mapRefs_rp hB hf xs xs' r q2 h2⟩
end
theorem cell_rp {a : Addr} {c : Cell} (S : Sim K H B as M) {i : Nat} (h1 : as[i]? = some a) (h2 : M[i]? = some c) (hc : c.d ≠ .non) : ∃ w, w = V.ref a ∧ Rp K H B as c.d w := by
  have q := S.cell i a c h1 h2
  have nb : ¬ B a := S.dj a (List.mem_of_getElem? h1)
  have wk : ∀ {d : D} {v : V}, Rp K H (Av B as M) as d v → Rp K H B as d v := fun {d v} h => Rp.mono List.prefix_rfl (fun _ _ z => z) (fun _ _ z => z) (fun a u z n => ⟨z, fun b => n (.inl b)⟩) (fun _ _ _ z => z) d v h
  have wks : ∀ {d : List D} {v : List V}, Rps K H (Av B as M) as d v → Rps K H B as d v := fun {d v} h => Rps.mono List.prefix_rfl (fun _ _ z => z) (fun _ _ z => z) (fun a u z n => ⟨z, fun b => n (.inl b)⟩) (fun _ _ _ z => z) d v h
  obtain ⟨m, d⟩ := c
  cases m <;> cases d <;> try (exact q.elim)
  · exact absurd rfl hc
  · exact ⟨_, rfl, wk q⟩
  · rename_i t ks ds
    cases t
    · obtain ⟨o, vs, e, n, k, r⟩ := q
      exact ⟨_, rfl, a, vs, rfl, .inr ⟨o, e⟩, nb, k, wks r⟩
    · obtain ⟨o, vs, e, n, k, r⟩ := q
      exact ⟨_, rfl, a, vs, rfl, .inr ⟨o, e⟩, nb, k, wks r⟩
  · obtain ⟨vs, e, r⟩ := q
    exact ⟨_, rfl, a, vs, rfl, e, nb, wks r⟩
  · rename_i t ks ds
    cases t
    · obtain ⟨vs, e, k, r⟩ := q
      exact ⟨_, rfl, a, vs, rfl, .inl e, nb, k, wks r⟩
    · obtain ⟨vs, e, k, r⟩ := q
      exact ⟨_, rfl, a, vs, rfl, .inl e, nb, k, wks r⟩
theorem immF_rp (S : Sim K H B as M) : ∀ (n : Nat) (d d' : D) (v : V), immF n M d = some d' → Rp K H B as d v → Rp K H B [] d' v
  | 0, d, d', v, e, h => by
    unfold immF at e
    split at e
    · rename_i hi
      cases e
      have e2 := isImm_mapRef (fun _ => none) d hi
      exact mapRef_rp (fun _ z => z) (fun i e a z _ => by cases z) d d v e2 h
    · cases e
  | n + 1, d, d', v, e, h => by
    unfold immF at e
    refine mapRef_rp (fun _ z => z) (fun i g a z1 z2 => ?_) d d' v e h
    obtain ⟨c, hc, _⟩ := S.lt z2
    rw [hc] at z1
    obtain ⟨m, d⟩ := c
    have hd : d ≠ .non := fun z => by
      subst z
      cases z1
    have z3 : immF n M d = some g := by
      cases d <;> first | exact z1 | exact absurd rfl hd
    obtain ⟨w, rfl, q⟩ := cell_rp S z2 hc hd
    exact immF_rp S n d g _ z3 q
theorem Rp.weak {d : D} {v : V} (h : Rp K H (Av B as M) as d v) : Rp K H B as d v := Rp.mono List.prefix_rfl (fun _ _ z => z) (fun _ _ z => z) (fun a u z n => ⟨z, fun b => n (.inl b)⟩) (fun _ _ _ z => z) d v h
theorem imm_rp {d d' : D} {v : V} (S : Sim K H B as M) (e : imm M d = some d') (h : Rp K H (Av B as M) as d v) : Rp K H B [] d' v := immF_rp S _ d d' v e h.weak
theorem imms_rp (S : Sim K H B as M) : ∀ {ds ds' : List D} {vs : List V}, imms M ds = some ds' → Rps K H (Av B as M) as ds vs → Rps K H B [] ds' vs
  | [], _, _, e, h => by cases e; exact h
  | x :: xs, _, _, e, h => by
    rw [imms] at e
    cases q1 : imm M x with
    | none => rw [q1] at e; cases e
    | some x' =>
      cases q2 : imms M xs with
      | none => rw [q1, q2] at e; cases e
      | some xs' =>
        rw [q1, q2] at e; cases e
        obtain ⟨v, r, e1, h1, h2⟩ := h
        exact ⟨v, r, e1, imm_rp S q1 h1, imms_rp S q2 h2⟩
/-- a tree keeps clear of all places -/
theorem isImm_rp {B' : Addr → Prop} {as' : List Addr} {d : D} {v : V} (hB : ∀ a, ¬ B a → ¬ B' a) (e : isImm d = true) (h : Rp K H B as d v) : Rp K H B' as' d v :=
  mapRef_rp hB (fun i e a z _ => by cases z) d d v (isImm_mapRef (fun _ => none) d e) h
theorem isImms_rp {B' : Addr → Prop} {as' : List Addr} {d : List D} {v : List V} (hB : ∀ a, ¬ B a → ¬ B' a) (e : isImms d = true) (h : Rps K H B as d v) : Rps K H B' as' d v :=
  mapRefs_rp hB (fun i e a z _ => by cases z) d d v (isImm_mapRefs (fun _ => none) d e) h
mutual
theorem isFlat_imm : (d : D) → isFlat d = true → isImm d = true
  | .non, _ => rfl
  | .bl _, _ => rfl
  | .int _, _ => rfl
  | .str _, _ => rfl
  | .tup xs, h => by
    rw [isFlat] at h
    rw [isImm]
    exact isFlats_imm xs h
  | .ktp xs, h => by
    rw [isFlat] at h
    rw [isImm]
    exact isFlats_imm xs h
  | .lst _, h => by rw [isFlat] at h; cases h
  | .fro _, h => by rw [isFlat] at h; cases h
  | .dct _ _ _, h => by rw [isFlat] at h; cases h
  | .exo _, h => by rw [isFlat] at h; cases h
  | .ref _, h => by rw [isFlat] at h; cases h
theorem isFlats_imm : (ds : List D) → isFlats ds = true → isImms ds = true
  | [], _ => rfl
  | x :: xs, h => by
    rw [isFlats, Bool.and_eq_true] at h
    rw [isImms, isFlat_imm x h.1, isFlats_imm xs h.2]
    rfl
end
mutual
theorem isFlat_rp {B' : Addr → Prop} {as' : List Addr} : (d : D) → (v : V) → isFlat d = true → Rp K H B as d v → Rp K H B' as' d v
  | .non, _, _, h => h
  | .bl _, _, _, h => h
  | .int _, _, _, h => h
  | .str _, _, _, h => h
  | .tup xs, _, e, h => by
    rw [isFlat] at e
    obtain ⟨a, vs, e1, s, r⟩ := h
    exact ⟨a, vs, e1, s, isFlats_rp xs vs e r⟩
  | .ktp xs, _, e, h => by
    rw [isFlat] at e
    obtain ⟨a, vs, e1, s, r⟩ := h
    exact ⟨a, vs, e1, s, isFlats_rp xs vs e r⟩
  | .lst _, _, e, _ => by rw [isFlat] at e; cases e
  | .fro _, _, e, _ => by rw [isFlat] at e; cases e
  | .dct _ _ _, _, e, _ => by rw [isFlat] at e; cases e
  | .exo _, _, e, _ => by rw [isFlat] at e; cases e
  | .ref _, _, e, _ => by rw [isFlat] at e; cases e
theorem isFlats_rp {B' : Addr → Prop} {as' : List Addr} : (ds : List D) → (vs : List V) → isFlats ds = true → Rps K H B as ds vs → Rps K H B' as' ds vs
  | [], _, _, h => h
  | x :: xs, _, e, h => by
    rw [isFlats, Bool.and_eq_true] at e
    obtain ⟨v, r, e1, h1, h2⟩ := h
    exact ⟨v, r, e1, isFlat_rp x v e.1 h1, isFlats_rp xs r e.2 h2⟩
end
mutual
theorem toPy_dp : (d : D) → (v : V) → (p : PyData) → toPy d = some p → Rp K H B as d v → Dp K H v p
  | .non, _, _, e, h => by cases e; cases h; exact .non
  | .bl b, _, _, e, h => by cases e; cases h; exact .bl b
  | .int i, _, _, e, h => by cases e; cases h; exact .int i
  | .str x, _, _, e, h => by cases e; cases h; exact .str x
  | .tup xs, _, _, e, h => by
    rw [toPy] at e
    cases q : toPys xs with
    | none => rw [q] at e; cases e
    | some ys =>
      rw [q] at e; cases e
      obtain ⟨a, vs, rfl, s, r⟩ := h
      exact .tup s (toPys_dp xs vs ys q r)
  | .ktp xs, _, _, e, h => by
    rw [toPy] at e
    cases q : toPys xs with
    | none => rw [q] at e; cases e
    | some ys =>
      rw [q] at e; cases e
      obtain ⟨a, vs, rfl, s, r⟩ := h
      exact .tup (.inl (.inl s)) (toPys_dp xs vs ys q r)
  | .lst xs, _, _, e, h => by
    rw [toPy] at e
    cases q : toPys xs with
    | none => rw [q] at e; cases e
    | some ys =>
      rw [q] at e; cases e
      obtain ⟨a, vs, rfl, s, _, r⟩ := h
      exact .lst (.of s) (toPys_dp xs vs ys q r)
  | .fro _, _, _, e, _ => by rw [toPy] at e; cases e
  | .dct _ _ _, _, _, e, _ => by rw [toPy] at e; cases e
  | .exo _, _, _, e, _ => by rw [toPy] at e; cases e
  | .ref _, _, _, e, _ => by rw [toPy] at e; cases e
theorem toPys_dp : (ds : List D) → (vs : List V) → (ps : List PyData) → toPys ds = some ps → Rps K H B as ds vs → DpAll K H vs ps
  | [], _, _, e, h => by cases e; cases h; exact .nil
  | x :: xs, _, _, e, h => by
    rw [toPys] at e
    cases q1 : toPy x with
    | none => rw [q1] at e; cases e
    | some x' =>
      cases q2 : toPys xs with
      | none => rw [q1, q2] at e; cases e
      | some xs' =>
        rw [q1, q2] at e; cases e
        obtain ⟨v, r, rfl, h1, h2⟩ := h
        exact .cons (toPy_dp x v x' q1 h1) (toPys_dp xs r xs' q2 h2)
end
theorem eqD_dp {a b : D} {v w : V} {k : Bool} (S : Sim K H B as M) (ha : Rp K H (Av B as M) as a v) (hb : Rp K H (Av B as M) as b w) (e : eqD M a b = some k) :
    ∃ x y, Dp K H v x ∧ Dp K H w y ∧ SeqAt.shaped x = true ∧ SeqAt.shaped y = true ∧ PyData.eqv x y = k := by
  unfold eqD at e
  cases q1 : imm M a with
  | none => rw [q1] at e; cases e
  | some a' =>
    cases q2 : imm M b with
    | none => rw [q1, q2] at e; cases e
    | some b' =>
      rw [q1, q2] at e
      dsimp only [Option.bind] at e
      cases q3 : toPy a' with
      | none => rw [q3] at e; cases e
      | some x =>
        cases q4 : toPy b' with
        | none => rw [q3, q4] at e; cases e
        | some y =>
          rw [q3, q4] at e
          dsimp only at e
          split at e
          · rename_i hs
            cases e
            exact ⟨x, y, toPy_dp a' v x q3 (imm_rp S q1 ha), toPy_dp b' w y q4 (imm_rp S q2 hb), hs.1, hs.2, rfl⟩
          · cases e
end
end Sg

/-! SgOps2: the rules of the operations, by values. -/
namespace Sg
open PySem PySem.Spec PyProof.Rows L2

theorem mulOk_c {i j : Int} (h : mulOk i j = true) : CMulW i j := by
  unfold mulOk at h
  have h' := of_decide_eq_true h
  exact h'
def rOp2 (K : PySem.W.Frag) (E : Nat → Hp → Prop) (f : D → D → List Cell → R D) : R2 := fun x y H Q =>
  ∃ B as M a b, Sim K H B as M ∧ Rp K H (Av B as M) as a x ∧ Rp K H (Av B as M) as b y ∧ PostD K H B as M E (f a b M) Q
def rOp1 (K : PySem.W.Frag) (E : Nat → Hp → Prop) (f : D → List Cell → R D) : V → Hp → VK → Prop := fun x H Q =>
  ∃ B as M a, Sim K H B as M ∧ Rp K H (Av B as M) as a x ∧ PostD K H B as M E (f a M) Q
def rOpN (K : PySem.W.Frag) (E : Nat → Hp → Prop) (f : List D → List Cell → R D) : List V → Hp → VK → Prop := fun xs H Q =>
  ∃ B as M ds, Sim K H B as M ∧ Rps K H (Av B as M) as ds xs ∧ PostD K H B as M E (f ds M) Q
section
variable {X : Cx} {E : Nat → Hp → Prop}
theorem op_fdivA : OpR X (binaryOp .FloorDiv) (rI (fun _ j => j ≠ 0 ∧ j.natAbs.log2 < 9000) fun i j => .int (i.fdiv j)) := opI fun i j _ _ _ _ _ hc q =>
  floordiv_int hc.1 q (.inl (PyProof.noPylong_of_log2 hc.2))
theorem op_catT0 : OpR X (binaryOp .Add) (rCatT X.K) := op_catT
theorem Rps.rep {K : PySem.W.Frag} {H : Hp} {B : Addr → Prop} {as : List Addr} {ds : List D} {vs : List V} (h : Rps K H B as ds vs) : ∀ n : Nat, Rps K H B as (List.replicate n ds).flatten (List.replicate n vs).flatten
  | 0 => rfl
  | n + 1 => by
    rw [List.replicate_succ, List.replicate_succ, List.flatten_cons, List.flatten_cons]
    exact h.append (Rps.rep h n)
theorem op_repD (m : Bool) : OpR X (binaryOp .Mult) (rOp2 X.K E (repD m)) := by
  intro pins s σ H x y v u Q I rx ry h
  obtain ⟨B, as, M, a, b, S, ra, rb, h⟩ := h
  unfold repD at h
  split at h
  · rename_i xs k c1
    obtain ⟨l, vs, rfl, e1, r1⟩ := content_rp S ra c1
    split at h
    · rename_i hk
      cases rb
      obtain ⟨hl, q⟩ := new_post S (r1.rep k.toNat) h
      exact op_rep pins s σ H _ _ v u Q I rx ry ⟨l, k, vs, rfl, rfl, e1, by have := hk.1; omega, by have := hk.2.1; unfold Lt62 at this; omega, by rw [r1.len]; exact Nat.le_trans hk.2.2 LIM_le, q⟩
    · exact h.elim
  · exact h.elim
theorem op_bop (m : Bool) (op : Operator) : OpR X (binaryOp op) (rOp2 X.K E (bop m op)) := by
  intro pins s σ H x y v u Q I rx ry h
  obtain ⟨B, as, M, a, b, S, ra, rb, h⟩ := h
  unfold bop at h
  split at h
  · rename_i xs ys c1 c2
    obtain ⟨l, vs, rfl, e1, r1⟩ := content_rp S ra c1
    obtain ⟨l2, ws, rfl, e2, r2⟩ := content_rp S rb c2
    obtain ⟨hl, q⟩ := new_post S (r1.append r2) h
    exact op_cat pins s σ H _ _ v u Q I rx ry ⟨l, l2, vs, ws, rfl, rfl, e1, e2, by rw [← List.length_append]; exact Nat.le_trans hl LIM_le, q⟩
  · split at h
    · rename_i xs ys k1 k2 _
      split at h
      · rename_i hl
        have e1 : a = .ktp xs := by
          cases a <;> first | (cases k1; done) | (cases k1; rfl)
        have e2 : b = .ktp ys := by
          cases b <;> first | (cases k2; done) | (cases k2; rfl)
        subst e1 e2
        obtain ⟨l, vs, rfl, e1, r1⟩ := ra
        obtain ⟨l2, ws, rfl, e2, r2⟩ := rb
        have nil : ∀ {ds : List D}, Rps X.K H (Av B as M) as ds [] → ds = [] := fun {ds} r => by
          cases ds with
          | nil => rfl
          | cons d ds =>
            obtain ⟨_, _, e, _⟩ := r
            cases e
        refine op_catA pins s σ H _ _ v u Q I rx ry ⟨l, l2, vs, ws, rfl, rfl, .inl (.inl e1), .inl (.inl e2), ?_, ?_, ?_, ?_⟩
        · rw [r1.len, r2.len]; exact Nat.le_trans hl LIM_le
        · intro e
          subst e
          have e0 := nil r1
          subst e0
          exact PostD.at S h ⟨l2, ws, rfl, e2, r2⟩
        · intro _ e
          subst e
          have e0 := nil r2
          subst e0
          rw [List.append_nil] at h
          exact PostD.at S h ⟨l, vs, rfl, e1, r1⟩
        · intro _ _ p hp
          exact ktup_post' S (r1.append r2) h p hp
      · exact h.elim
    unfold bopI at h
    split at h
    · cases ra; cases rb
      exact op_add pins s σ H _ _ v u Q I rx ry ⟨_, _, rfl, rfl, PostD.at S h rfl⟩
    · split at h
      · rename_i hl
        cases ra; cases rb
        exact op_add_str pins s σ H _ _ v u Q I rx ry ⟨_, _, rfl, rfl, Nat.le_trans hl LIM_le, PostD.at S h rfl⟩
      · exact h.elim
    · rename_i xs ys
      split at h
      · rename_i hl
        obtain ⟨l, vs, rfl, e1, r1⟩ := ra
        obtain ⟨l2, ws, rfl, e2, r2⟩ := rb
        have nil : ∀ {ds : List D}, Rps X.K H (Av B as M) as ds [] → ds = [] := fun {ds} r => by
          cases ds with
          | nil => rfl
          | cons d ds =>
            obtain ⟨_, _, e, _⟩ := r
            cases e
        refine op_catA pins s σ H _ _ v u Q I rx ry ⟨l, l2, vs, ws, rfl, rfl, e1, e2, ?_, ?_, ?_, ?_⟩
        · rw [r1.len, r2.len]; exact Nat.le_trans hl LIM_le
        · intro e
          subst e
          have e0 := nil r1
          subst e0
          exact PostD.at S h ⟨l2, ws, rfl, e2, r2⟩
        · intro _ e
          subst e
          have e0 := nil r2
          subst e0
          rw [List.append_nil] at h
          exact PostD.at S h ⟨l, vs, rfl, e1, r1⟩
        · intro _ _ p hp
          exact tup_post S (r1.append r2) h p hp
      · exact h.elim
    · cases ra; cases rb
      exact op_sub pins s σ H _ _ v u Q I rx ry ⟨_, _, rfl, rfl, PostD.at S h rfl⟩
    · split at h
      · rename_i hm
        cases ra; cases rb
        exact op_mulW pins s σ H _ _ v u Q I rx ry ⟨_, _, rfl, rfl, mulOk_c hm, PostD.at S h rfl⟩
      · exact h.elim
    · split at h
      · rename_i hc
        cases ra; cases rb
        exact op_fdivW pins s σ H _ _ v u Q I rx ry ⟨_, _, rfl, rfl, hc, PostD.at S h rfl⟩
      · split at h
        · rename_i hc
          cases ra; cases rb
          exact op_fdivA pins s σ H _ _ v u Q I rx ry ⟨_, _, rfl, rfl, hc, PostD.at S h rfl⟩
        · exact h.elim
    · split at h
      · rename_i hc
        cases ra; cases rb
        exact op_mod pins s σ H _ _ v u Q I rx ry ⟨_, _, rfl, rfl, hc, PostD.at S h rfl⟩
      · split at h
        · rename_i hc
          cases ra; cases rb
          exact op_modN pins s σ H _ _ v u Q I rx ry ⟨_, _, rfl, rfl, hc, PostD.at S h rfl⟩
        · exact h.elim
    · split at h
      · rename_i hc
        cases ra; cases rb
        exact op_pow pins s σ H _ _ v u Q I rx ry ⟨_, _, rfl, rfl, hc, PostD.at S h rfl⟩
      · exact h.elim
    · split at h
      · rename_i hc
        cases ra; cases rb
        exact op_shl pins s σ H _ _ v u Q I rx ry ⟨_, _, rfl, rfl, hc, PostD.at S h rfl⟩
      · exact h.elim
    · split at h
      · rename_i hc
        cases ra; cases rb
        exact op_shr pins s σ H _ _ v u Q I rx ry ⟨_, _, rfl, rfl, hc, PostD.at S h rfl⟩
      · exact h.elim
    · cases ra; cases rb
      exact op_and pins s σ H _ _ v u Q I rx ry ⟨_, _, rfl, rfl, PostD.at S h rfl⟩
    · cases ra; cases rb
      exact op_or pins s σ H _ _ v u Q I rx ry ⟨_, _, rfl, rfl, PostD.at S h rfl⟩
    · cases ra; cases rb
      exact op_xor pins s σ H _ _ v u Q I rx ry ⟨_, _, rfl, rfl, PostD.at S h rfl⟩
    · exact h.elim
/-- x += y of ints -/
theorem ip_aug (op : Operator) : PIp X op (fun x y H Q => (op = .Add ∨ op = .Sub) ∧ ∃ B as M i j, Sim X.K H B as M ∧ x = .int i ∧ y = .int j ∧ PostD X.K H B as M E (bopI op (.int i) (.int j) M) Q) := by
  intro pins s σ H x y v u Q I rx ry h
  obtain ⟨ho, B, as, M, i, j, S, rfl, rfl, h⟩ := h
  rcases ho with rfl | rfl
  · exact augR iop_add I rx ry ⟨_, _, rfl, rfl, PostD.at S h rfl⟩
  · exact augR iop_sub I rx ry ⟨_, _, rfl, rfl, PostD.at S h rfl⟩
theorem un_not' : UnR X (unaryOp .Not) (fun x H Q => ∃ b, x = .bl b ∧ Q (.bl (!b)) H) := by
  intro pins s σ H x v Q I rx h
  obtain ⟨b, rfl, q⟩ := h
  cases rx
  exact not_of (wpAny_truthy_bool ⟨.bl (!b), H, I, rfl, q⟩)
theorem un_uop (op : UnaryOp) : UnR X (unaryOp op) (rOp1 X.K E (uop op)) := by
  intro pins s σ H x v Q I rx h
  obtain ⟨B, as, M, a, S, ra, h⟩ := h
  unfold uop at h
  split at h
  · cases ra
    exact un_neg pins s σ H _ v Q I rx ⟨_, rfl, PostD.at S h rfl⟩
  · cases ra
    exact un_inv pins s σ H _ v Q I rx ⟨_, rfl, PostD.at S h rfl⟩
  · cases ra
    exact un_not' pins s σ H _ v Q I rx ⟨_, rfl, PostD.at S h rfl⟩
  · exact h.elim
theorem isNon_rp {K : PySem.W.Frag} {H : Hp} {B : Addr → Prop} {as : List Addr} {a : D} {x : V} (ra : Rp K H B as a x) : decide (x = .non) = isNon a := by
  cases a with
  | non => cases ra; rfl
  | bl _ => cases ra; rfl
  | int _ => cases ra; rfl
  | str _ => cases ra; rfl
  | tup _ => obtain ⟨_, _, rfl, _⟩ := ra; rfl
  | ktp _ => obtain ⟨_, _, rfl, _⟩ := ra; rfl
  | lst _ => obtain ⟨_, _, rfl, _⟩ := ra; rfl
  | fro _ => obtain ⟨_, _, rfl, _⟩ := ra; rfl
  | dct t _ _ => cases t <;> (obtain ⟨_, _, rfl, _⟩ := ra; rfl)
  | ref _ => obtain ⟨_, _, rfl⟩ := ra; rfl
  | exo _ => cases ra; rfl
theorem flV_rp {K : PySem.W.Frag} {H : Hp} {B : Addr → Prop} {as : List Addr} {a : D} {x : V} (h : flatD a = true) (ra : Rp K H B as a x) : x = flV a ∧ flatV x = true := by
  cases a <;> first | (cases h; done) | (cases ra; exact ⟨rfl, rfl⟩)
theorem flVs_rp {K : PySem.W.Frag} {H : Hp} {B : Addr → Prop} {as : List Addr} : ∀ {ds : List D} {vs : List V}, ds.all flatD = true → Rps K H B as ds vs → vs = ds.map flV ∧ vs.all flatV = true
  | [], _, _, h => by cases h; exact ⟨rfl, rfl⟩
  | x :: xs, _, h, r => by
    rw [List.all_cons, Bool.and_eq_true] at h
    obtain ⟨v, w, rfl, h1, h2⟩ := r
    obtain ⟨e1, f1⟩ := flV_rp h.1 h1
    obtain ⟨e2, f2⟩ := flVs_rp h.2 h2
    exact ⟨by rw [e1, e2]; rfl, by rw [List.all_cons, f1, f2]; rfl⟩
theorem inF_rp {a : D} {xs : List D} : inV (flV a) (xs.map flV) = inF a xs := by
  unfold inV inF
  rw [List.any_map]
  rfl
theorem op_cop (hu : X.A.units + 64 < cLine) (op : CmpOp) : OpR X (compareOp op) (rOp2 X.K E (cop op)) := by
  intro pins s σ H x y v u Q I rx ry h
  obtain ⟨B, as, M, a, b, S, ra, rb, h⟩ := h
  unfold cop at h
  split at h
  · cases ra; cases rb
    exact op_lt pins s σ H _ _ v u Q I rx ry ⟨_, _, rfl, rfl, PostD.at S h rfl⟩
  · cases ra; cases rb
    exact op_le pins s σ H _ _ v u Q I rx ry ⟨_, _, rfl, rfl, PostD.at S h rfl⟩
  · cases ra; cases rb
    exact op_gt pins s σ H _ _ v u Q I rx ry ⟨_, _, rfl, rfl, PostD.at S h rfl⟩
  · cases ra; cases rb
    exact op_ge pins s σ H _ _ v u Q I rx ry ⟨_, _, rfl, rfl, PostD.at S h rfl⟩
  · cases rb
    exact op_isN pins s σ H _ _ v u Q I rx ry ⟨rfl, by rw [isNon_rp ra]; exact PostD.at S h rfl⟩
  · cases rb
    exact op_notN pins s σ H _ _ v u Q I rx ry ⟨rfl, by rw [isNon_rp ra]; exact PostD.at S h rfl⟩
  · cases ra; cases rb
    exact op_is_bl pins s σ H _ _ v u Q I rx ry ⟨_, _, rfl, rfl, PostD.at S h rfl⟩
  · cases ra; cases rb
    exact op_isnot_bl pins s σ H _ _ v u Q I rx ry ⟨_, _, rfl, rfl, PostD.at S h rfl⟩
  · split at h
    · rename_i k e
      obtain ⟨p, q, d1, d2, s1, s2, rfl⟩ := eqD_dp S ra rb e
      exact op_eqD hu pins s σ H _ _ v u Q I rx ry ⟨p, q, d1, d2, s1, s2, PostD.at S h rfl⟩
    · exact h.elim
  · split at h
    · rename_i k e
      obtain ⟨p, q, d1, d2, s1, s2, rfl⟩ := eqD_dp S ra rb e
      exact op_neD hu pins s σ H _ _ v u Q I rx ry ⟨p, q, d1, d2, s1, s2, PostD.at S h rfl⟩
    · exact h.elim
  · split at h
    · rename_i xs e
      split at h
      · rename_i hf
        obtain ⟨p, vs, rfl, q1, q2⟩ := seq_rp S rb e
        obtain ⟨e1, f1⟩ := flV_rp hf.1 ra
        obtain ⟨e2, f2⟩ := flVs_rp hf.2 q2
        refine op_in_seq pins s σ H _ _ v u Q I rx ry ⟨p, vs, rfl, q1, f1, f2, ?_⟩
        rw [e1, e2, inF_rp]
        exact PostD.at S h rfl
      · exact h.elim
    · exact h.elim
  · split at h
    · rename_i xs e
      split at h
      · rename_i hf
        obtain ⟨p, vs, rfl, q1, q2⟩ := seq_rp S rb e
        obtain ⟨e1, f1⟩ := flV_rp hf.1 ra
        obtain ⟨e2, f2⟩ := flVs_rp hf.2 q2
        refine op_notIn_seq pins s σ H _ _ v u Q I rx ry ⟨p, vs, rfl, q1, f1, f2, ?_⟩
        rw [e1, e2, inF_rp]
        exact PostD.at S h rfl
      · exact h.elim
    · exact h.elim
  · exact h.elim
end
end Sg

/-! SgOps3: built-in functions, methods, subscripts, by values. -/
namespace Sg
open PySem PySem.Spec PyProof.Rows L2
theorem intsOf_rp {K : PySem.W.Frag} {H : Hp} {B : Addr → Prop} {as : List Addr} : ∀ {ds : List D} {vs : List V} {ns : List Int}, intsOf ds = some ns → Rps K H B as ds vs → vs = ns.map V.int
  | [], _, _, e, h => by cases e; exact h
  | .int i :: xs, _, _, e, h => by
    rw [intsOf] at e
    cases q : intsOf xs with
    | none => rw [q] at e; cases e
    | some r =>
      rw [q] at e; cases e
      obtain ⟨v, w, rfl, h1, h2⟩ := h
      cases h1
      rw [intsOf_rp q h2]; rfl
  | .non :: _, _, _, e, _ => by cases e
  | .bl _ :: _, _, _, e, _ => by cases e
  | .str _ :: _, _, _, e, _ => by cases e
  | .tup _ :: _, _, _, e, _ => by cases e
  | .lst _ :: _, _, _, e, _ => by cases e
  | .fro _ :: _, _, _, e, _ => by cases e
  | .dct _ _ _ :: _, _, _, e, _ => by cases e
  | .exo _ :: _, _, _, e, _ => by cases e
  | .ref _ :: _, _, _, e, _ => by cases e
theorem blsOf_rp {K : PySem.W.Frag} {H : Hp} {B : Addr → Prop} {as : List Addr} : ∀ {ds : List D} {vs : List V} {ns : List Bool}, blsOf ds = some ns → Rps K H B as ds vs → vs = ns.map V.bl
  | [], _, _, e, h => by cases e; exact h
  | .bl i :: xs, _, _, e, h => by
    rw [blsOf] at e
    cases q : blsOf xs with
    | none => rw [q] at e; cases e
    | some r =>
      rw [q] at e; cases e
      obtain ⟨v, w, rfl, h1, h2⟩ := h
      cases h1
      rw [blsOf_rp q h2]; rfl
  | .non :: _, _, _, e, _ => by cases e
  | .int _ :: _, _, _, e, _ => by cases e
  | .str _ :: _, _, _, e, _ => by cases e
  | .tup _ :: _, _, _, e, _ => by cases e
  | .lst _ :: _, _, _, e, _ => by cases e
  | .fro _ :: _, _, _, e, _ => by cases e
  | .dct _ _ _ :: _, _, _, e, _ => by cases e
  | .exo _ :: _, _, _, e, _ => by cases e
  | .ref _ :: _, _, _, e, _ => by cases e
theorem maxI_max : ∀ (x : Int) (xs : List Int), maxI (x :: xs) ∈ x :: xs ∧ ∀ y ∈ x :: xs, y ≤ maxI (x :: xs)
  | x, [] => by simp [maxI]
  | x, z :: zs => by
    have ih := maxI_max z zs
    have e : maxI (x :: z :: zs) = if maxI (z :: zs) > x then maxI (z :: zs) else x := rfl
    rw [e]
    split
    · rename_i h
      refine ⟨List.mem_cons_of_mem _ ih.1, fun y hy => ?_⟩
      rcases List.mem_cons.mp hy with rfl | hy
      · omega
      · exact ih.2 y hy
    · rename_i h
      refine ⟨List.mem_cons_self, fun y hy => ?_⟩
      rcases List.mem_cons.mp hy with rfl | hy
      · omega
      · have := ih.2 y hy; omega
theorem minI_min : ∀ (x : Int) (xs : List Int), minI (x :: xs) ∈ x :: xs ∧ ∀ y ∈ x :: xs, minI (x :: xs) ≤ y
  | x, [] => by simp [minI]
  | x, z :: zs => by
    have ih := minI_min z zs
    have e : minI (x :: z :: zs) = if minI (z :: zs) < x then minI (z :: zs) else x := rfl
    rw [e]
    split
    · rename_i h
      refine ⟨List.mem_cons_of_mem _ ih.1, fun y hy => ?_⟩
      rcases List.mem_cons.mp hy with rfl | hy
      · omega
      · exact ih.2 y hy
    · rename_i h
      refine ⟨List.mem_cons_self, fun y hy => ?_⟩
      rcases List.mem_cons.mp hy with rfl | hy
      · omega
      · have := ih.2 y hy; omega
/-- the function's own name in the model -/
def biV : Bi → Value
  | .len => .builtin "len"
  | .abs => .builtin "abs"
  | .max2 => .builtin "max"
  | .min2 => .builtin "min"
  | .max1 => .builtin "max"
  | .min1 => .builtin "min"
  | .sum => .builtin "sum"
  | .all => .builtin "all"
  | .any => .builtin "any"
  | .int => .type "int"
  | .str => .type "str"
  | .list _ => .type "list"
  | .tuple => .type "tuple"
  | .ktuple => .type "tuple"
  | .sorted _ => .builtin "sorted"
theorem Rps.nil_inv {K : PySem.W.Frag} {H : Hp} {B : Addr → Prop} {as : List Addr} {vs : List V} (h : Rps K H B as [] vs) : vs = [] := h
theorem Rps.one_inv {K : PySem.W.Frag} {H : Hp} {B : Addr → Prop} {as : List Addr} {d : D} {vs : List V} (h : Rps K H B as [d] vs) : ∃ v, vs = [v] ∧ Rp K H B as d v := by
  obtain ⟨v, r, rfl, h1, h2⟩ := h
  cases h2
  exact ⟨v, rfl, h1⟩
theorem Rps.two_inv {K : PySem.W.Frag} {H : Hp} {B : Addr → Prop} {as : List Addr} {d e : D} {vs : List V} (h : Rps K H B as [d, e] vs) : ∃ v w, vs = [v, w] ∧ Rp K H B as d v ∧ Rp K H B as e w := by
  obtain ⟨v, r, rfl, h1, h2⟩ := h
  obtain ⟨w, rfl, h3⟩ := Rps.one_inv h2
  exact ⟨v, w, rfl, h1, h3⟩
/-- what does not walk anything -/
def coolBi : Bi → Bool
  | .len => true
  | .abs => true
  | _ => false
section
variable {X : Cx} {E : Nat → Hp → Prop}
theorem call_bi (f : Bi) (hc : coolBi f = false → X.calm = true) : CallR X (biV f) (rOpN X.K E (bi f)) := by
  intro pins s σ H xs us Q I r h
  obtain ⟨B, as, M, ds, S, rs, h⟩ := h
  unfold bi at h
  split at h
  · -- len
    obtain ⟨v, rfl, r1⟩ := rs.one_inv
    split at h
    · rename_i ys e
      obtain ⟨a, vs, rfl, e1, r2⟩ := seq_rp S r1 e
      refine call_len_seq pins s σ H _ us Q I r ⟨a, vs, rfl, e1, ?_⟩
      have := r2.len
      rw [this]
      exact PostD.at S h rfl
    · split at h
      · split at h
        · rename_i hl
          cases r1
          exact call_len_str pins s σ H _ us Q I r ⟨_, rfl, Nat.le_trans hl LIM_le, PostD.at S h rfl⟩
        · exact h.elim
      · exact h.elim
  · obtain ⟨v, rfl, r1⟩ := rs.one_inv
    cases r1
    exact call_abs pins s σ H _ us Q I r ⟨_, rfl, PostD.at S h rfl⟩
  · obtain ⟨v, w, rfl, r1, r2⟩ := rs.two_inv
    cases r1; cases r2
    exact call_max2 (hc rfl) pins s σ H _ us Q I r ⟨_, _, rfl, PostD.at S h rfl⟩
  · obtain ⟨v, w, rfl, r1, r2⟩ := rs.two_inv
    cases r1; cases r2
    exact call_min2 (hc rfl) pins s σ H _ us Q I r ⟨_, _, rfl, PostD.at S h rfl⟩
  · obtain ⟨v, rfl, r1⟩ := rs.one_inv
    split at h
    · rename_i i t e
      obtain ⟨ys, e1, e2⟩ := Option.bind_eq_some_iff.mp e
      obtain ⟨a, vs, rfl, q1, q2⟩ := content_rp S r1 e1
      have := intsOf_rp e2 q2
      subst this
      refine cr_max (hc rfl) pins s σ H _ us Q I r ⟨a, _, rfl, .of q1, by simp, fun m hm hy => ?_⟩
      have hx := maxI_max i t
      have : m = maxI (i :: t) := Int.le_antisymm (hx.2 m hm) (hy _ hx.1)
      rw [this]
      exact PostD.at S h rfl
    · exact h.elim
  · obtain ⟨v, rfl, r1⟩ := rs.one_inv
    split at h
    · rename_i i t e
      obtain ⟨ys, e1, e2⟩ := Option.bind_eq_some_iff.mp e
      obtain ⟨a, vs, rfl, q1, q2⟩ := content_rp S r1 e1
      have := intsOf_rp e2 q2
      subst this
      refine cr_min (hc rfl) pins s σ H _ us Q I r ⟨a, _, rfl, .of q1, by simp, fun m hm hy => ?_⟩
      have hx := minI_min i t
      have : m = minI (i :: t) := Int.le_antisymm (hy _ hx.1) (hx.2 m hm)
      rw [this]
      exact PostD.at S h rfl
    · exact h.elim
  · obtain ⟨v, rfl, r1⟩ := rs.one_inv
    split at h
    · rename_i t e
      obtain ⟨ys, e1, e2⟩ := Option.bind_eq_some_iff.mp e
      obtain ⟨a, vs, rfl, q1, q2⟩ := content_rp S r1 e1
      have := intsOf_rp e2 q2
      subst this
      exact cr_sum (hc rfl) pins s σ H _ us Q I r ⟨a, _, rfl, .of q1, PostD.at S h rfl⟩
    · exact h.elim
  · obtain ⟨v, rfl, r1⟩ := rs.one_inv
    split at h
    · rename_i t e
      obtain ⟨ys, e1, e2⟩ := Option.bind_eq_some_iff.mp e
      obtain ⟨a, vs, rfl, q1, q2⟩ := content_rp S r1 e1
      have := blsOf_rp e2 q2
      subst this
      exact cr_all (hc rfl) pins s σ H _ us Q I r ⟨a, _, rfl, .of q1, PostD.at S h rfl⟩
    · exact h.elim
  · obtain ⟨v, rfl, r1⟩ := rs.one_inv
    split at h
    · rename_i t e
      obtain ⟨ys, e1, e2⟩ := Option.bind_eq_some_iff.mp e
      obtain ⟨a, vs, rfl, q1, q2⟩ := content_rp S r1 e1
      have := blsOf_rp e2 q2
      subst this
      exact cr_any (hc rfl) pins s σ H _ us Q I r ⟨a, _, rfl, .of q1, PostD.at S h rfl⟩
    · exact h.elim
  · obtain ⟨v, rfl, r1⟩ := rs.one_inv
    cases r1
    exact call_int1 pins s σ H _ us Q I r (.inl ⟨_, rfl, PostD.at S h rfl⟩)
  · obtain ⟨v, rfl, r1⟩ := rs.one_inv
    cases r1
    exact call_int1 pins s σ H _ us Q I r (.inr ⟨_, rfl, PostD.at S h rfl⟩)
  · obtain ⟨v, rfl, r1⟩ := rs.one_inv
    split at h
    · rename_i hl
      cases r1
      exact call_str_int pins s σ H _ us Q I r ⟨_, rfl, hl, PostD.at S h rfl⟩
    · exact h.elim
  · obtain ⟨v, rfl, r1⟩ := rs.one_inv
    split at h
    · rename_i ys e
      obtain ⟨a, vs, rfl, e1, r2⟩ := seq_rp S r1 e
      obtain ⟨hl, q⟩ := new_post S r2 h
      exact call_list_of pins s σ H _ us Q I r ⟨a, vs, rfl, e1, q⟩
    · exact h.elim
  · obtain ⟨v, rfl, r1⟩ := rs.one_inv
    split at h
    · obtain ⟨a, vs, rfl, e1, r2⟩ := r1
      exact call_tuple_of pins s σ H _ us Q I r ⟨a, vs, rfl, .inr ⟨.inl (.inl e1), PostD.at S h ⟨a, vs, rfl, e1, r2⟩⟩⟩
    · split at h
      · rename_i ys e
        split at h
        · obtain ⟨a, vs, rfl, e1, r2⟩ := content_rp S r1 e
          exact call_tuple_of pins s σ H _ us Q I r ⟨a, vs, rfl, .inl ⟨.of e1, ktup_post' S r2 h⟩⟩
        · exact h.elim
      · exact h.elim
  · obtain ⟨v, rfl, r1⟩ := rs.one_inv
    split at h
    · obtain ⟨a, vs, rfl, e1, r2⟩ := r1
      exact call_tuple_of pins s σ H _ us Q I r ⟨a, vs, rfl, .inr ⟨e1, PostD.at S h ⟨a, vs, rfl, e1, r2⟩⟩⟩
    · split at h
      · rename_i ys e
        split at h
        · obtain ⟨a, vs, rfl, e1, r2⟩ := content_rp S r1 e
          exact call_tuple_of pins s σ H _ us Q I r ⟨a, vs, rfl, .inl ⟨.of e1, tup_post S r2 h⟩⟩
        · exact h.elim
      · exact h.elim
  · exact h.elim

/-! ### isinstance -/
def tyN : Ty → String
  | .int => "int"
  | .bool => "bool"
  | .str => "str"
  | .list => "list"
  | .tuple => "tuple"
/-- a value's own type -/
def tyD : D → List Cell → Option String
  | .non, _ => some "NoneType"
  | .bl _, _ => some "bool"
  | .int _, _ => some "int"
  | .str _, _ => some "str"
  | .tup _, _ => some "tuple"
  | .ktp _, _ => some "tuple"
  | .lst _, _ => some "list"
  | .fro _, _ => none
  | .dct _ _ _, _ => none
  | .exo _, _ => none
  | .ref i, M => match M[i]? with
    | some ⟨_, .lst _⟩ => some "list"
    | _ => none
theorem isi_kit {t : Ty} {d : D} {M : List Cell} {k : Bool} (h : isi t d M = some k) : ∃ n, tyD d M = some n ∧ kitB n (tyN t) = some k := by
  cases d with
  | non => cases h; exact ⟨_, rfl, by cases t <;> decide +kernel⟩
  | bl _ => cases h; exact ⟨_, rfl, by cases t <;> decide +kernel⟩
  | int _ => cases h; exact ⟨_, rfl, by cases t <;> decide +kernel⟩
  | str _ => cases h; exact ⟨_, rfl, by cases t <;> decide +kernel⟩
  | tup _ => cases h; exact ⟨_, rfl, by cases t <;> decide +kernel⟩
  | ktp _ => cases h; exact ⟨_, rfl, by cases t <;> decide +kernel⟩
  | lst _ => cases h; exact ⟨_, rfl, by cases t <;> decide +kernel⟩
  | fro _ => cases h
  | dct _ _ _ => cases h
  | exo _ => cases h
  | ref i =>
    have h' : (match M[i]? with
      | some ⟨_, .lst _⟩ => some (t == .list)
      | _ => none) = some k := h
    split at h'
    · rename_i m xs e
      cases h'
      refine ⟨"list", ?_, by cases t <;> decide +kernel⟩
      show (match M[i]? with
        | some ⟨_, .lst _⟩ => some "list"
        | _ => none) = some "list"
      rw [e]
    · cases h'
theorem tyD_rp {K : PySem.W.Frag} {H : Hp} {B : Addr → Prop} {as : List Addr} {M : List Cell} {d : D} {v : V} {n : String} (S : Sim K H B as M) (r : Rp K H (Av B as M) as d v) (h : tyD d M = some n) : TyX K H v (.type n) := by
  cases d with
  | non => cases h; cases r; exact .base .non
  | bl _ => cases h; cases r; exact .base (.bl _)
  | int _ => cases h; cases r; exact .base (.int _)
  | str _ => cases h; cases r; exact .base (.str _)
  | tup _ =>
    cases h
    obtain ⟨a, vs, rfl, q, _⟩ := r
    rcases q with (q | ⟨o, q⟩) | ⟨o, its, n, q, c, _⟩
    · exact .base (.tup q)
    · exact .fTuple q
    · exact .kTuple q c
  | ktp _ =>
    cases h
    obtain ⟨a, vs, rfl, q, _⟩ := r
    exact .base (.tup q)
  | lst _ =>
    cases h
    obtain ⟨a, vs, rfl, q, _⟩ := r
    exact .base (.lst q)
  | fro _ => cases h
  | dct _ _ _ => cases h
  | exo _ => cases h
  | ref i =>
    have h' : (match M[i]? with
        | some ⟨_, .lst _⟩ => some "list"
        | _ => none) = some n := h
    split at h'
    · rename_i m xs e
      cases h'
      obtain ⟨a, vs, rfl, q, _⟩ := content_rp (xs := xs) S r (show (match M[i]? with
        | some ⟨_, .lst xs⟩ => some xs
        | _ => none) = some xs by rw [e])
      exact .base (.lst q)
    · cases h'
theorem call_isiD (t : Ty) : CallR X (.builtin "isinstance") (fun xs H Q => ∃ x B as M d k, xs = [x, .ty (tyN t)] ∧ Sim X.K H B as M ∧ Rp X.K H (Av B as M) as d x ∧ isi t d M = some k ∧ Q (.bl k) H) := by
  intro pins s σ H xs us Q I r h
  obtain ⟨x, B, as, M, d, k, rfl, S, rx, e, q⟩ := h
  obtain ⟨n, e1, e2⟩ := isi_kit e
  exact call_isi pins s σ H _ us Q I r ⟨x, _, _, _, k, rfl, .ty _, tyD_rp S rx e1, kit_ty e2, q⟩

/-! ### subscripts -/
theorem ixN_map {n : Nat} {i : Int} : ixN n i = ixN n i := rfl
theorem atI_rp {K : PySem.W.Frag} {H : Hp} {B : Addr → Prop} {as : List Addr} {ds : List D} {vs : List V} {i : Int} {d : D} (r : Rps K H B as ds vs) (h : atI ds i = some d) : ∃ v, atI vs i = some v ∧ Rp K H B as d v := by
  unfold atI at h ⊢
  rw [r.len]
  obtain ⟨j, e1, e2⟩ := Option.bind_eq_some_iff.mp h
  obtain ⟨v, q1, q2⟩ := r.get e2
  exact ⟨v, by rw [e1]; exact q1, q2⟩
theorem ix_idx : IxR X (rOp2 X.K E idxD) := by
  intro value slice pins s σ H x y v u Q I rx ry h hs
  obtain ⟨B, as, M, a, b, S, ra, rb, h⟩ := h
  unfold idxD at h
  split at h
  · rename_i i
    cases rb
    split at h
    · rename_i xs e
      split at h
      · rename_i d e2
        obtain ⟨p, vs, rfl, q1, q2⟩ := seq_rp S ra e
        obtain ⟨w, e3, q3⟩ := atI_rp q2 e2
        refine ix_seq value slice pins s σ H _ _ v u Q I rx ry ?_ hs
        rcases q1 with q1 | q1
        · exact .inl ⟨p, vs, i, w, rfl, rfl, q1, e3, PostD.at S h q3⟩
        · exact .inr (.inl ⟨p, vs, i, w, rfl, rfl, q1, e3, PostD.at S h q3⟩)
      · exact h.elim
    · split at h
      · split at h
        · rename_i hl
          split at h
          · rename_i c e2
            cases ra
            exact ix_seq value slice pins s σ H _ _ v u Q I rx ry (.inr (.inr ⟨_, i, c, rfl, rfl, Nat.le_trans hl LIM_le, e2, PostD.at S h rfl⟩)) hs
          · exact h.elim
        · exact h.elim
      · exact h.elim
  · exact h.elim
theorem sl_slc (m : Bool) : SlR X (fun x lo hi H Q => ∃ B as M a, Sim X.K H B as M ∧ Rp X.K H (Av B as M) as a x ∧ PostD X.K H B as M E (slcD m a lo hi M) Q) := by
  intro pins s σ H x v vl vu lo hi sl Q I rx g1 g2 g3 h
  obtain ⟨B, as, M, a, S, ra, h⟩ := h
  unfold slcD at h
  split at h
  · rename_i xs e
    obtain ⟨p, vs, rfl, q1, q2⟩ := listOf_rp S ra e
    obtain ⟨_, q⟩ := new_post S (q2.cut lo hi) h
    exact sl_list pins s σ H _ v vl vu lo hi sl Q I rx g1 g2 g3 ⟨p, vs, rfl, q1, q⟩
  · split at h
    · rename_i xs _
      obtain ⟨p, vs, rfl, q1, q2⟩ := ra
      refine sl_tupA pins s σ H _ v vl vu lo hi sl Q I rx g1 g2 g3 ⟨p, vs, rfl, q1, fun hw => ?_, fun _ => tup_post S (q2.cut lo hi) h⟩
      have e : cutL xs lo hi = xs := by
        rw [q2.len] at hw
        unfold cutL
        rw [hw.1, hw.2, List.drop_zero, Nat.sub_zero, List.take_length]
      rw [e] at h
      exact PostD.at S h ⟨p, vs, rfl, q1, q2⟩
    · rename_i xs _
      obtain ⟨p, vs, rfl, q1, q2⟩ := ra
      refine sl_tupA pins s σ H _ v vl vu lo hi sl Q I rx g1 g2 g3 ⟨p, vs, rfl, .inl (.inl q1), fun hw => ?_, fun _ => ktup_post' S (q2.cut lo hi) h⟩
      have e : cutL xs lo hi = xs := by
        rw [q2.len] at hw
        unfold cutL
        rw [hw.1, hw.2, List.drop_zero, Nat.sub_zero, List.take_length]
      rw [e] at h
      exact PostD.at S h ⟨p, vs, rfl, q1, q2⟩
    · exact h.elim
theorem set_setD : PSet X (fun o i v H Q => ∃ B as M a b d M', Sim X.K H B as M ∧ Rp X.K H (Av B as M) as a o ∧ Rp X.K H (Av B as M) as b i ∧ Rp X.K H (Av B as M) as d v ∧ setD a b d M = some M' ∧
    ∀ H', Go as M H as M' H' → Sim X.K H' B as M' → Q H') := by
  intro pins s σ H o i v ov iv u Q I ro ri rv h
  obtain ⟨B, as, M, a, b, d, M', S, ra, rb, rd, e, q⟩ := h
  unfold setD at e
  split at e
  · rename_i p k
    split at e
    · rename_i xs e1
      split at e
      · rename_i j e2
        cases e
        obtain ⟨c, h1, rfl⟩ := ra
        cases rb
        obtain ⟨vs, h2, h3⟩ := S.cell p c _ h1 e1
        refine set_list pins s σ H _ _ v ov iv u Q I ro ri rv ⟨c, vs, k, j, rfl, rfl, h2, by rw [h3.len]; exact e2, ?_⟩
        exact q _ (Go.put S h1 e1) (Sim.put S h1 e1 (h3.set j rd))
      · cases e
    · cases e
  · cases e

/-! ### methods -/
def mtN : Mt → String
  | .append => "list.append"
  | .extend => "list.extend"
  | .pop => "list.pop"
  | .popAt => "list.pop"
  | .clear => "list.clear"
  | .reverse => "list.reverse"
  | .insert => "list.insert"
theorem seqIx_nat {j : Int} {n : Nat} (h0 : 0 ≤ j) (h1 : j < n) : seqIndex? j n = some j.toNat := by
  unfold seqIndex?
  have h2 : ¬ j < 0 := by omega
  simp [h2, h0, h1]
theorem Rps.eraseIdx {K : PySem.W.Frag} {H : Hp} {B : Addr → Prop} {as : List Addr} : ∀ {ds : List D} {vs : List V} (n : Nat), Rps K H B as ds vs → Rps K H B as (ds.eraseIdx n) (vs.eraseIdx n)
  | [], _, _, h => by cases h; simp [Rps]
  | x :: xs, _, 0, h => by
    obtain ⟨v, r, rfl, h1, h2⟩ := h
    exact h2
  | x :: xs, _, n + 1, h => by
    obtain ⟨v, r, rfl, h1, h2⟩ := h
    exact ⟨v, r.eraseIdx n, rfl, h1, h2.eraseIdx n⟩
theorem mt_meth (f : Mt) : MtR X (mtN f) (fun x xs H Q => ∃ B as M a ds, Sim X.K H B as M ∧ Rp X.K H (Av B as M) as a x ∧ Rps X.K H (Av B as M) as ds xs ∧ PostD X.K H B as M E (meth f a ds M) Q) := by
  intro pins s σ H x xs v us Q I rx rv h
  obtain ⟨B, as, M, a, ds, S, ra, rs, h⟩ := h
  have fin : ∀ {i : Nat} {c : Addr} {d : D} {ys : List D} {vs : List V} {r : D} {w : V}, as[i]? = some c → M[i]? = some ⟨true, d⟩ → Rps X.K H (Av B as M) as ys vs → Rp X.K H (Av B as M) as r w →
      PostD X.K H B as M E (.ok r (M.set i ⟨true, .lst ys⟩)) Q → Q w (upd H c (.lst vs)) := fun h1 h2 h3 h4 h => h as _ _ (Go.put S h1 h2) (Sim.put S h1 h2 h3) ((Go.put S h1 h2).rp S h4)
  unfold meth at h
  split at h
  · obtain ⟨w, rfl, r1⟩ := rs.one_inv
    split at h
    · rename_i ys e
      split at h
      · rename_i hl
        obtain ⟨c, h1, rfl⟩ := ra
        obtain ⟨vs, h2, h3⟩ := S.cell _ c _ h1 e
        exact mt_append pins s σ H _ _ v us Q I rx rv ⟨c, vs, w, rfl, rfl, h2, by rw [h3.len]; exact Nat.lt_trans hl LIM_lt, fin (r := .non) (w := .non) h1 e (h3.append (Rps.one r1)) rfl h⟩
      · exact h.elim
    · exact h.elim
  · obtain ⟨w, rfl, r1⟩ := rs.one_inv
    split at h
    · rename_i ys zs e e2
      split at h
      · rename_i hl
        obtain ⟨c, h1, rfl⟩ := ra
        obtain ⟨vs, h2, h3⟩ := S.cell _ c _ h1 e
        obtain ⟨b, ws, rfl, h4, h5⟩ := content_rp S r1 e2
        exact mt_extend pins s σ H _ _ v us Q I rx rv ⟨c, b, vs, ws, rfl, rfl, h2, h4, by rw [h3.len, h5.len]; exact Nat.le_trans hl LIM_le, fin (r := .non) (w := .non) h1 e (h3.append h5) rfl h⟩
      · exact h.elim
    · exact h.elim
  · have := rs.nil_inv
    subst this
    split at h
    · rename_i ys e
      split at h
      · rename_i y e2
        obtain ⟨c, h1, rfl⟩ := ra
        obtain ⟨vs, h2, h3⟩ := S.cell _ c _ h1 e
        obtain ⟨w, h4, h5⟩ := h3.get e2
        exact mt_pop pins s σ H _ _ v us Q I rx rv ⟨c, vs, w, rfl, rfl, h2, by rw [h3.len]; exact h4, fin h1 e h3.dropLast h5 h⟩
      · exact h.elim
    · exact h.elim
  · have := rs.nil_inv
    subst this
    split at h
    · rename_i ys e
      obtain ⟨c, h1, rfl⟩ := ra
      obtain ⟨vs, h2, h3⟩ := S.cell _ c _ h1 e
      exact mt_clear pins s σ H _ _ v us Q I rx rv ⟨c, vs, rfl, rfl, h2, fin (r := .non) (w := .non) (ys := []) (vs := []) h1 e rfl rfl h⟩
    · exact h.elim
  · obtain ⟨w, rfl, r1⟩ := rs.one_inv
    split at h
    · rename_i ys e
      split at h
      · rename_i hj
        split at h
        · rename_i y e2
          cases r1
          obtain ⟨c, h1, rfl⟩ := ra
          obtain ⟨vs, h2, h3⟩ := S.cell _ c _ h1 e
          obtain ⟨w, h4, h5⟩ := h3.get e2
          have hlt := (List.getElem?_eq_some_iff.mp h4).1
          refine mt_popAt pins s σ H _ _ v us Q I rx rv ⟨c, vs, _, _, w, rfl, rfl, h2, by have := hj.1; omega, by have := hj.2; unfold Lt62 at this; omega, ?_, h4, fin h1 e (h3.eraseIdx _) h5 h⟩
          exact seqIx_nat hj.1 (by have := hj.1; omega)
        · exact h.elim
      · exact h.elim
    · exact h.elim
  · obtain ⟨w1, w, rfl, r0, r1⟩ := rs.two_inv
    split at h
    · rename_i ys e
      split at h
      · rename_i hj
        cases r0
        obtain ⟨c, h1, rfl⟩ := ra
        obtain ⟨vs, h2, h3⟩ := S.cell _ c _ h1 e
        exact mt_insert pins s σ H _ _ v us Q I rx rv ⟨c, vs, _, w, rfl, rfl, h2, by rw [h3.len]; exact Nat.lt_trans hj.1 LIM_lt, hj.2.1, by have := hj.2.2; unfold Lt62 at this; omega, fin (r := .non) (w := .non) h1 e (((h3.take _).append (Rps.one r1)).append (h3.drop _)) rfl h⟩
      · exact h.elim
    · exact h.elim
  · have := rs.nil_inv
    subst this
    split at h
    · rename_i ys e
      obtain ⟨c, h1, rfl⟩ := ra
      obtain ⟨vs, h2, h3⟩ := S.cell _ c _ h1 e
      exact mt_reverse pins s σ H _ _ v us Q I rx rv ⟨c, vs, rfl, rfl, h2, fin (r := .non) (w := .non) h1 e h3.reverse rfl h⟩
    · exact h.elim
  · exact h.elim
end
end Sg

/-! SgOk: the check that a term of the small syntax is a term of the model's. -/
namespace Sg
open PySem PySem.Spec PyProof.Rows L2

structure Ctx where
  N : List Str
  sc : Scope
  fn : Str → Bool
  nm : Nat → Option Str
  ex : Nat → Option Str
  gl : List (Str × D)
  k : Nat
  hot : Bool
  xk : Nat → Option Str
  wd : Option Str

def plainN (x : Str) : Bool := !(x == ("__debug__" : Str)) && !(x == ("__classdict__" : Str)) && !(x == ("__name__" : Str))
def visOk (sc : Scope) (x : Str) : Bool := match sc.names.lookup x with
  | some .local => true
  | some .cell => true
  | some .free => true
  | _ => false
def locOk (sc : Scope) (x : Str) : Bool := match sc.names.lookup x with
  | some .local => true
  | some .cell => true
  | _ => false
def glOk (sc : Scope) (x : Str) : Bool := match sc.names.lookup x with
  | some .globalImplicit => true
  | _ => false
def biN : Bi → String
  | .len => "len"
  | .abs => "abs"
  | .max2 => "max"
  | .min2 => "min"
  | .max1 => "max"
  | .min1 => "min"
  | .sum => "sum"
  | .all => "all"
  | .any => "any"
  | .int => "int"
  | .str => "str"
  | .list _ => "list"
  | .tuple => "tuple"
  | .ktuple => "tuple"
  | .sorted _ => "sorted"
/-- the built-in names that the module must not bind -/
def builtins : List String := ["len", "abs", "max", "min", "sum", "all", "any", "int", "str", "list", "tuple", "sorted", "isinstance", "bool", "range", "zip", "enumerate", "reversed", "ValueError"]
def mtA : Mt → String
  | .append => "append"
  | .extend => "extend"
  | .pop => "pop"
  | .popAt => "pop"
  | .clear => "clear"
  | .reverse => "reverse"
  | .insert => "insert"
def constOk : D → Const → Bool
  | .non, .none => true
  | .bl a, .bool b => a == b
  | .int a, .int b => a == b
  | .str a, .str b => decide (a = b)
  | _, _ => false
def isTup : Expr → Bool
  | .Tuple _ _ _ => true
  | _ => false
def ownP (N : List Str) (own : List Nat) : List (Str × Nat) := own.map fun i => (N.getD i "", i)
def blkX (c : Ctx) (scope : Scope) : Ctx := { c with sc := relS scope c.sc, fn := fun x => scope.names.lookup x == some .cell, xk := fun _ => none, wd := none }
mutual
/-- all slots that a target stores are among vs -/
def tSub : T → List Nat → Bool
  | .var i, vs => vs.contains i
  | .tup ts, vs => tSubs ts vs
  | .idx _ _, _ => true
def tSubs : Ts → List Nat → Bool
  | .nil, _ => true
  | .cons t ts, vs => tSub t vs && tSubs ts vs
end
def isNm : Expr → Bool
  | .Name _ _ => true
  | _ => false
def notComp : Expr → Bool
  | .ListComp _ _ _ _ => false
  | .SetComp _ _ _ _ => false
  | .DictComp _ _ _ _ _ => false
  | _ => true
/-- literals -/
def litOk (d : D) : Expr → Bool
  | .Constant k _ _ => constOk d k
  | .UnaryOp .USub (.Constant (.int i) _ _) _ => match d with
    | .int j => j == -i
    | _ => false
  | _ => false
def litsOk : List D → List D → List (Option Expr) → List Expr → Bool
  | [], [], [], [] => true
  | k :: ks, v :: vs, some x :: xs, y :: ys => litOk k x && (litOk v y && (key1 k && (!dHas k ks && litsOk ks vs xs ys)))
  | _, _, _, _ => false
/-- what is walked within an except suite -/
def coolIt : It → Bool
  | .rng1 _ => true
  | _ => false
/-- is x one of the shapes that the check lets by -/
def shp : Expr → Bool
  | .Starred _ _ => false
  | .Set _ _ _ => false
  | .Slice _ _ _ _ => false
  | .SetComp _ _ _ _ => false
  | .DictComp _ _ _ _ _ => false
  | .Call (.Name _ _) [] _ _ => false
  | _ => true
mutual
def okE : E → Ctx → Expr → Bool
  | .var i, c, x => match x with
    | .Name n _ => decide (c.N[i]? = some n) && visOk c.sc n && plainN n
    | _ => false
  | .c d, _, x => match x with
    | .Constant k _ _ => constOk d k
    | _ => false
  | .glob n d, c, x => match x with
    | .Name m _ => decide (n = m) && glOk c.sc n && plainN n && c.gl.any fun p => decide (p.1 = n) && beqD p.2 d
    | _ => false
  | .bin _ op a b, c, x => match x with
    | .BinOp p o q _ => decide (op = o) && okE a c p && okE b c q
    | _ => false
  | .un op a, c, x => match x with
    | .UnaryOp o p _ => decide (op = o) && okE a c p
    | _ => false
  | .cmp op a b, c, x => match x with
    | .Compare p [o] [q] _ => decide (op = o) && okE a c p && okE b c q
    | _ => false
  | .chain o1 o2 a b d, c, x => match x with
    | .Compare p [q1, q2] [q, r] _ => decide (o1 = q1) && decide (o2 = q2) && okE a c p && okE b c q && okE d c r
    | _ => false
  | .bop op es, c, x => match x with
    | .BoolOp o ps _ => decide (op = o) && okEs es c ps
    | _ => false
  | .ite a b d, c, x => match x with
    | .IfExp p q r _ => okE a c p && okE b c q && okE d c r
    | _ => false
  | .tup es, c, x => match x with
    | .Tuple ps _ _ => okEs es c ps
    | _ => false
  | .ktup es, c, x => match x with
    | .Tuple ps _ _ => okEs es c ps
    | _ => false
  | .dnew _, _, x => match x with
    | .Dict [] [] _ => true
    | _ => false
  | .dlit ks vs, _, x => match x with
    | .Dict xs ys _ => litsOk ks vs xs ys && (!ks.isEmpty && decide (ks.length ≤ 15))
    | _ => false
  | .dun e, c, x => match x with
    | .Dict [some (.Tuple [] _ _)] [y] _ => okE e c y
    | _ => false
  | .dget a b, c, x => match x with
    | .Subscript p q _ => okE a c p && okE b c q
    | _ => false
  | .dgetd a b d, c, x => match x with
    | .Call (.Attribute p n apos) [q, r] [] pos => decide (n = ("get" : Str)) && ((apos.endLine == pos.line) && (okE a c p && (okE b c q && okE d c r)))
    | _ => false
  | .din ng a b, c, x => match x with
    | .Compare p [o] [q] _ => decide (o = if ng then .NotIn else .In) && (okE a c p && okE b c q)
    | _ => false
  | .dlst _ a, c, x => match x with
    | .Call (.Name n _) [p] [] _ => !c.hot && (decide (n = ("list" : Str)) && (glOk c.sc n && okE a c p))
    | _ => false
  | .dmax a, c, x => match x with
    | .Call (.Name n _) [.Call (.Attribute p vn apos) [] [] mpos] [] _ => !c.hot && (decide (n = ("max" : Str)) && (decide (vn = ("values" : Str)) && (glOk c.sc n && ((apos.endLine == mpos.line) && okE a c p))))
    | _ => false
  | .dsum _, _, _ => false
  | .lst _ es, c, x => match x with
    | .List ps _ => okEs es c ps
    | _ => false
  | .idx a b, c, x => match x with
    | .Subscript p q _ => okE a c p && okE b c q
    | _ => false
  | .slc _ a lo hi, c, x => match x with
    | .Subscript p (.Slice l h none _) _ => okE a c p && okO lo c l && okO hi c h
    | _ => false
  | .call f _ es, c, x => match x with
    | .Call (.Name n _) (p :: ps) [] _ => !c.hot && (decide (c.nm f = some n) && glOk c.sc n && plainN n && okEs es c (p :: ps))
    | _ => false
  | .bi f es, c, x => match x with
    | .Call (.Name n _) (p :: ps) [] _ => decide (n = (biN f : Str)) && (!c.hot || coolBi f) && glOk c.sc n && okEs es c (p :: ps)
    | _ => false
  | .isi a t, c, x => match x with
    | .Call (.Name n _) [p, .Name m _] [] _ => decide (n = ("isinstance" : Str)) && decide (m = (tyN t : Str)) && glOk c.sc n && glOk c.sc m && okE a c p
    | _ => false
  | .meth f a es, c, x => match x with
    | .Call (.Attribute p n apos) ps [] pos => decide (n = (mtA f : Str)) && (apos.endLine == pos.line) && okE a c p && okEs es c ps && decide (ps.length < 20)
    | _ => false
  | .comp _ own t it cd e, c, x => match x with
    | .ListComp y [⟨tg, iter, ifs, 0⟩] scope _ => blkC c.N c.sc scope (ownP c.N own) && (!c.hot || coolIt it) && okIt it c (isTup tg) iter && okT t (blkX c scope) tg && tSub t own && okC cd (blkX c scope) ifs && okE e (blkX c scope) y
    | _ => false
  | .rep _ a b, c, x => match x with
    | .BinOp p o q _ => decide (o = .Mult) && okE a c p && okE b c q
    | _ => false
  | .snap e, c, x => notComp x && okE e c x
  | .hole, _, x => notComp x && shp x
  | .lrng _ a, c, x => match x with
    | .Call (.Name n _) [.Call (.Name m _) [p] [] _] [] _ => !c.hot && (decide (n = ("list" : Str)) && (decide (m = ("range" : Str)) && (glOk c.sc n && (glOk c.sc m && okE a c p))))
    | _ => false
  | .lrng2 _ a b, c, x => match x with
    | .Call (.Name n _) [.Call (.Name m _) [p, q] [] _] [] _ => !c.hot && (decide (n = ("list" : Str)) && (decide (m = ("range" : Str)) && (glOk c.sc n && (glOk c.sc m && (okE a c p && okE b c q)))))
    | _ => false
  | .rvl _ sl a, c, x => match x with
    | .Call (.Name n _) [.Call (.Name m _) [p] [] _] [] _ => !sl && (!c.hot && (decide (n = ("list" : Str)) && (decide (m = ("reversed" : Str)) && (glOk c.sc n && (glOk c.sc m && okE a c p)))))
    | .Subscript p (.Slice none none (some (.UnaryOp .USub (.Constant (.int 1) _ _) _)) _) _ => sl && okE a c p
    | _ => false
  | .xis i k, c, x => match x with
    | .Call (.Name n _) [.Name v _, .Name m _] [] _ => c.hot && (decide (n = ("isinstance" : Str)) && (glOk c.sc n && (decide (c.N[i]? = some v) && (visOk c.sc v && (plainN v && (decide (c.xk k = some m) && (glOk c.sc m && plainN m)))))))
    | _ => false
def okO : O → Ctx → Option Expr → Bool
  | .no, _, x => x.isNone
  | .so e, c, x => match x with
    | some y => okE e c y
    | none => false
def okC : O → Ctx → List Expr → Bool
  | .no, _, xs => xs.isEmpty
  | .so e, c, xs => match xs with
    | [y] => okE e c y
    | _ => false
def okEs : Es → Ctx → List Expr → Bool
  | .nil, _, xs => xs.isEmpty
  | .cons e es, c, xs => match xs with
    | y :: ys => okE e c y && okEs es c ys
    | [] => false
/-- tp: whether the target is a tuple -/
def okIt : It → Ctx → Bool → Expr → Bool
  | .val e, c, _, x => okE e c x
  | .rng1 a, c, _, x => match x with
    | .Call (.Name n _) [p] [] _ => decide (n = ("range" : Str)) && glOk c.sc n && okE a c p
    | _ => false
  | .rng2 a b, c, _, x => match x with
    | .Call (.Name n _) [p, q] [] _ => decide (n = ("range" : Str)) && glOk c.sc n && okE a c p && okE b c q
    | _ => false
  | .rng3 a b d, c, _, x => match x with
    | .Call (.Name n _) [p, q, r] [] _ => decide (n = ("range" : Str)) && glOk c.sc n && okE a c p && okE b c q && okE d c r
    | _ => false
  | .zip a b, c, tp, x => match x with
    | .Call (.Name n _) [p, q] [] _ => decide (n = ("zip" : Str)) && glOk c.sc n && okE a c p && okE b c q && tp
    | _ => false
  | .enum a, c, tp, x => match x with
    | .Call (.Name n _) [p] [] _ => decide (n = ("enumerate" : Str)) && glOk c.sc n && okE a c p && tp
    | _ => false
  | .rev a, c, _, x => match x with
    | .Call (.Name n _) [p] [] _ => decide (n = ("reversed" : Str)) && glOk c.sc n && okE a c p
    | _ => false
  | .keys a, c, _, x => okE a c x
  | .vals a, c, _, x => match x with
    | .Call (.Attribute p n apos) [] [] pos => decide (n = ("values" : Str)) && ((apos.endLine == pos.line) && okE a c p)
    | _ => false
  | .revR a, c, _, x => match x with
    | .Call (.Name n _) [.Call (.Name m _) [p] [] _] [] _ => decide (n = ("reversed" : Str)) && (decide (m = ("range" : Str)) && (glOk c.sc n && (glOk c.sc m && okE a c p)))
    | _ => false
  | .revR2 a b, c, _, x => match x with
    | .Call (.Name n _) [.Call (.Name m _) [p, q] [] _] [] _ => decide (n = ("reversed" : Str)) && (decide (m = ("range" : Str)) && (glOk c.sc n && (glOk c.sc m && (okE a c p && okE b c q))))
    | _ => false
def okT : T → Ctx → Expr → Bool
  | .var i, c, x => match x with
    | .Name n _ => decide (c.N[i]? = some n) && locOk c.sc n && (c.fn n || decide (c.sc.names.lookup n = some .local))
    | _ => false
  | .tup ts, c, x => match x with
    | .Tuple ps _ _ => !c.hot && okTs ts c ps
    | _ => false
  | .idx o i, c, x => match x with
    | .Subscript p q _ => okE o c p && okE i c q
    | _ => false
def okTs : Ts → Ctx → List Expr → Bool
  | .nil, _, xs => xs.isEmpty
  | .cons t ts, c, xs => match xs with
    | y :: ys => okT t c y && okTs ts c ys
    | [] => false
end
theorem okE_shp (e : E) (c : Ctx) (x : Expr) (h : okE e c x = true) : shp x = true := by
  cases e with
  | snap e =>
    unfold okE at h
    rw [Bool.and_eq_true] at h
    exact okE_shp e c x h.2
  | hole =>
    unfold okE at h
    rw [Bool.and_eq_true] at h
    exact h.2
  | dsum _ => unfold okE at h; cases h
  | _ => (unfold okE at h; split at h <;> first | rfl | (cases h; done) | skip)
end Sg

/-! SgHot: a comprehension within an except suite; a def that is called there with the error that is handled. -/
namespace SgH
noncomputable section
open PySem PySem.Spec PyProof.Rows L2 L2H
abbrev St := L2.St
/-! ### a block there: the handled error stays pinned -/
abbrev hblk (X : Cx) (s : Shared) (H : Hp) (scope : Scope) (cenv : Env) (fp : List Addr) : Cx := { X.blk s H scope cenv fp with pn := X.pn }
theorem hotC_blk {X : Cx} {s : Shared} {H : Hp} {scope : Scope} {cenv : Env} {fp : List Addr} (h : HotC X) : HotC (hblk X s H scope cenv fp) := by
  obtain ⟨p, h1, h2⟩ := h
  exact ⟨p, h1, h2⟩
section
variable {X : Cx} {pins : List (Addr × Obj)} {σ : St} {H : Hp} {s : Shared}
theorem hblk_start {scope : Scope} {own : List (Str × Nat)} {fp : List Addr} (I : Inv X pins σ H s) (ok : BlkOk X.N X.env.scope scope own) (hN : X.N.Nodup) (hfp : ∀ b ∈ fp, FpOk X pins H b ∧ b < s.heap.objs.size) :
    Inv (hblk X s H scope (compEnvC scope (cellsFrom (s.heap.objs.size + 1) scope.names (cloFrom X.env.cells scope.names [])) s.heap.objs.size X.env) fp) [] (wipe σ (own.map (·.2))) H { s with heap := pushCells (s.heap.push { cls := .type "dict", data := .dict #[] }) scope.names } := by
  have J := block_start I ok hN hfp
  refine ⟨?_, J.os, J.bare, J.base, J.loc, J.cell, J.free, J.freeC, fun q hq => ?_, J.hok, J.len⟩
  · have o := J.ok
    exact ⟨o.mod, o.kind, o.glob, o.blt, o.above, o.inj, o.has, o.cab, o.hd, o.frames, o.stk, o.exf, o.bs, o.bsz, o.noex, o.exfs, o.funs, o.frf⟩
  · have hq : q ∈ X.pn := by
      rcases List.mem_append.mp hq with z | z
      · exact z
      · cases z
    obtain ⟨g1, g2, g3, g4, g5⟩ := I.pin q (List.mem_append_left _ hq)
    refine ⟨pushCells_keeps _ _ _ _ (Heap.get?_push_of_some _ g1), g2, Nat.ne_of_lt (Heap.lt_size g1), fun z => ?_, g5⟩
    rcases List.mem_cons.mp (I.stkSub q.1 z) with e | e
    · exact g3 e
    · exact g4 e
theorem hlc_core {Q : VK} {elt tg iter : Expr} {ifs : List Expr} {scope : Scope} {own : List (Str × Nat)} {pos pos' : Pos} {wi : TI} {g : TG} {tt : TT} {te : TE} {use : Option (Value → Sem Unit)} {Qf : Value → Shared → Prop}
    (hc : HotC X) (hN : X.N.Nodup) (I : Inv X pins σ H s) (hi : PIH X tg iter wi) (ok : BlkOk X.N X.env.scope scope own)
    (hg : ∀ (s : Shared) (H : Hp) (C : Addr) (cl : List (Str × Addr)) (fp : List Addr), PG (hblk X s H scope (compEnvC scope cl C X.env) fp) tg g)
    (ht : ∀ (s : Shared) (H : Hp) (C : Addr) (cl : List (Str × Addr)) (fp : List Addr), PTs (hblk X s H scope (compEnvC scope cl C X.env) fp) ifs tt)
    (he : ∀ (s : Shared) (H : Hp) (C : Addr) (cl : List (Str × Addr)) (fp : List Addr), PE (hblk X s H scope (compEnvC scope cl C X.env) fp) elt te) (hs : ∀ x, foldedSetIterable iter X.env x = pure x)
    (h : tLc wi g tt te (own.map (·.2)) σ H Q)
    (fin : ∀ D C s' m H', Inv X pins σ H' s' → Q (.ref D) H' → s'.heap.Ns C m → FpOk X pins H' C → compPost (model X.prog X.w) X.A X.xe use Qf (.ref D) C (.ok .next) s') :
    wpAny (model X.prog X.w) X.A (comprehension (.ListComp elt [⟨tg, iter, ifs, 0⟩] scope pos) scope X.env pos' (newList []) false (eval iter X.env) use) Qf X.xe s := by
  have cap : ∀ y ∈ scope.names, y.2 = .free → ∃ c, X.env.cells.lookup y.1 = some c := fun y hy e => (ok.free y hy e).elim (fun k => I.ok.has _ (.inl k)) fun k => I.ok.has _ (.inr k)
  refine wpAny_comprehension_free (use := use) rfl hs (closure_ok cap) ok.kind (fun y hy e => by rw [ok.uniq y hy, e]) (thn (hi.run pins s σ H _ I h) fun xv sa ha => thn ha fun itv sb hb => ?_)
  obtain ⟨it, fp, tn, J, Hb, rfl, Ib, T, tb, fb, q⟩ := hb
  refine wpAny_newObj_type (newEnv_comp ?_) (by show 0 ≤ sizeLine; decide)
  have free0 : Hb sb.heap.objs.size = none := Ib.hok.fresh (Nat.le_refl _)
  obtain ⟨W, ⟨m0, w0⟩, turn⟩ := q _ free0
  -- the list that is made
  have Ic : Inv X pins σ (upd Hb sb.heap.objs.size (.lst [])) { sb with heap := sb.heap.push { cls := .type "list", data := .seq ([] : List Value).toArray } } :=
    Ib.laid (t' := sb.toks) (fun b o e => Heap.get?_push_of_some _ e) (Nat.le_refl _) ⟨Nat.zero_le _, [], 0, .nil, Heap.get?_push_size _ rfl⟩
  have below : ∀ b ∈ fp, b < sb.heap.objs.size := fun b hb => let ⟨o, e, _⟩ := T.obj _ _ tb b hb; Heap.lt_size e
  have fc : ∀ b ∈ fp, FpOk X pins (upd Hb sb.heap.objs.size (.lst [])) b := fun b hb => ⟨by rw [upd_ne (Nat.ne_of_lt (below b hb))]; exact (fb b hb).1, (fb b hb).2⟩
  have tc : tn 0 (sb.heap.push { cls := .type "list", data := .seq ([] : List Value).toArray }) := T.keep _ _ _ tb fun b _ o e => Heap.get?_push_of_some _ e
  have szc : (sb.heap.push { cls := .type "list", data := .seq ([] : List Value).toArray }).objs.size = sb.heap.objs.size + 1 := Heap.size_push ..
  generalize hHc : upd Hb sb.heap.objs.size (.lst []) = Hc at Ic fc w0
  generalize hD : sb.heap.objs.size = D at *
  generalize hsc : ({ sb with heap := sb.heap.push { cls := .type "list", data := .seq ([] : List Value).toArray } } : Shared) = sc at Ic
  have hsc' : sc.heap = sb.heap.push { cls := .type "list", data := .seq ([] : List Value).toArray } := by rw [← hsc]
  rw [← hsc'] at tc szc
  have fpl : ∀ b ∈ fp, FpOk X pins Hc b ∧ b < sc.heap.objs.size := fun b hb => ⟨fc b hb, by rw [szc]; exact Nat.lt_succ_of_lt (below b hb)⟩
  have Id := hblk_start Ic ok hN fpl
  have pg := hg sc Hc sc.heap.objs.size (cellsFrom (sc.heap.objs.size + 1) scope.names (cloFrom X.env.cells scope.names [])) fp
  have pt := ht sc Hc sc.heap.objs.size (cellsFrom (sc.heap.objs.size + 1) scope.names (cloFrom X.env.cells scope.names [])) fp
  have pe := he sc Hc sc.heap.objs.size (cellsFrom (sc.heap.objs.size + 1) scope.names (cloFrom X.env.cells scope.names [])) fp
  show codeAny _ _ (.compStart (.ListComp elt [⟨tg, iter, ifs, 0⟩] scope pos) 0 (.ref it) (.ref D) (compEnvC scope (cellsFrom (sc.heap.objs.size + 1) scope.names (cloFrom X.env.cells scope.names [])) sc.heap.objs.size X.env)) (compPost (model X.prog X.w) X.A X.xe use Qf (.ref D) sc.heap.objs.size) { sc with heap := pushCells (sc.heap.push { cls := .type "dict", data := .dict #[] }) scope.names }
  generalize hce : compEnvC scope (cellsFrom (sc.heap.objs.size + 1) scope.names (cloFrom X.env.cells scope.names [])) sc.heap.objs.size X.env = ce at Id pg pt pe ⊢
  have cL : ce.locals = sc.heap.objs.size := by rw [← hce]; rfl
  have td : tn 0 (pushCells (sc.heap.push { cls := .type "dict", data := .dict #[] }) scope.names) := T.keep _ _ _ tc fun b _ o e => pushCells_keeps _ _ _ _ (Heap.get?_push_of_some _ e)
  generalize hsd : ({ sc with heap := pushCells (sc.heap.push { cls := .type "dict", data := .dict #[] }) scope.names } : Shared) = sd at Id ⊢
  have hsd' : sd.heap = pushCells (sc.heap.push { cls := .type "dict", data := .dict #[] }) scope.names := by rw [← hsd]
  rw [← hsd'] at td
  have hcb : HotC (hblk X sc Hc scope ce fp) := hotC_blk hc
  have own_ : ∀ {σ' : St} {H' : Hp} {s' : Shared}, Inv (hblk X sc Hc scope ce fp) [] σ' H' s' → (∀ b ∈ fp, H' b = none) → ∀ b ∈ fp, FpOk (hblk X sc Hc scope ce fp) [] H' b := fun {σ' H' s'} I' hn b hb =>
    ⟨hn b hb, (I'.ok.exf b hb).1, I'.ok.exfs b hb, .inl hb, fun x c e => (I'.ok.exf b hb).2 x c e, fun p hp => (fpl b hb).1.2.2.2.2.2 p (by
      rcases List.mem_append.mp hp with z | z
      · exact List.mem_append_left _ z
      · cases z)⟩
  have loop : codeAny (model X.prog X.w) X.A (.compLoop (.ListComp elt [⟨tg, iter, ifs, 0⟩] scope pos) 0 (.ref it) (.ref D) ce) (compPost (model X.prog X.w) X.A X.xe use Qf (.ref D) sc.heap.objs.size) sd := by
    refine compLoop_any (fun n s' => ∃ i H', Inv (hblk X sc Hc scope ce fp) [] (wipe σ (own.map (·.2))) H' s' ∧ tn i s'.heap ∧ (∀ b ∈ fp, H' b = none) ∧ W i n H') ?_ m0 ⟨0, Hc, Id, td, fun b hb => (fc b hb).1, w0⟩
    rintro n s1 ⟨i, H1, I1, t1, n1, w1⟩
    rcases turn i n H1 w1 with ⟨stop, qq⟩ | ⟨go, Nx, hNx, step⟩
    · refine thnF (T.done (hblk X sc Hc scope ce fp) rfl rfl rfl hcb i [] s1 _ H1 (fun _ _ => False) I1 (own_ I1 n1) t1 stop) fun r s2 ⟨hr, I2⟩ => ?_
      subst hr
      have I3 : Inv X pins σ H1 s2 := Ic.call' (ch := fp) I2.os I2.base I2.hok I2.bare fun b hb => ⟨(fpl b hb).1.2.2.2.1, (fpl b hb).1.2.1, (fpl b hb).1.2.2.2.2.1, (fpl b hb).1.2.2.2.2.2⟩
      have nC : H1 ce.locals = none := I2.free
      obtain ⟨m, hn, _⟩ := I2.loc
      have hn : s2.heap.Ns ce.locals m := hn
      rw [cL] at nC hn
      exact fin D sc.heap.objs.size s2 m H1 I3 qq hn (Ic.fpOk (Nat.le_refl _) nC)
    · refine thnF (T.item (hblk X sc Hc scope ce fp) rfl rfl rfl hcb i [] s1 _ H1 (fun _ _ => False) I1 (own_ I1 n1) t1 go) fun r s2 ⟨u, hr, h2⟩ => ?_
      subst hr
      refine thnF h2 fun _ s3 ⟨x, H3, I3, r3, y3, t3, n3⟩ => ?_
      have I3' := I3.pinned (own_ I3 n3) (T.obj _ _ t3)
      refine thnF (pg.run _ s3 _ H3 x u _ I3' r3 (step x H3 y3)) fun _ s4 ⟨σ4, H4, I4, hw4, q4⟩ => thnF (pt.run _ s4 σ4 H4 _ I4 q4) fun b s5 ⟨H5, I5, q5⟩ => ?_
      have again : ∀ {s' : Shared} {H' : Hp}, Inv (hblk X sc Hc scope ce fp) ([] ++ pinsAt fp s3.heap) σ4 H' s' → Nx H' → ∃ m, m < n ∧ ∃ i H', Inv (hblk X sc Hc scope ce fp) [] (wipe σ (own.map (·.2))) H' s' ∧ tn i s'.heap ∧ (∀ b ∈ fp, H' b = none) ∧ W i m H' := fun {s' H'} I' nx => by
        obtain ⟨m', hm, w'⟩ := hNx H' nx
        have at_ : ∀ b ∈ fp, ∀ o, s3.heap.get? b = some o → s'.heap.get? b = some o ∧ H' b = none := fun b hb o e =>
          have z := I'.pin (b, o) (List.mem_append_right _ (List.mem_append_right _ (mem_pinsAt hb e)))
          ⟨z.1, z.2.1⟩
        have hl : (wipe σ (own.map (·.2))).length = σ4.length := by rw [← hw4, wipe_length]
        refine ⟨m', hm, i + 1, H', (I'.unpinned (pins := [])).weak hl (fun j v e => ?_), T.keep _ _ _ t3 fun b hb o e => (at_ b hb o e).1, fun b hb => ?_, w'⟩
        · rw [← hw4] at e
          exact (wipe_some e).1
        · obtain ⟨o, e, _⟩ := T.obj _ _ t3 b hb
          exact (at_ b hb o e).2
      cases b with
      | false =>
        simp only [Bool.false_eq_true, if_false] at q5 ⊢
        exact again I5 q5
      | true =>
        simp only [if_true] at q5 ⊢
        refine thnF (pe.run _ s5 σ4 H5 _ I5 q5) fun z s6 ⟨yv, H6, I6, r6, acc, hD6, hz6, nx⟩ => ?_
        exact app_ok (X := hblk X sc Hc scope ce fp) I6 hD6 hz6 r6 fun s7 I7 => again I7 nx
  exact codeAny_compStart_list loop (T.self X.A 0 _ _ _ td loop)
/-- as a value -/
theorem pe_hlc {elt tg iter : Expr} {ifs : List Expr} {scope : Scope} {own : List (Str × Nat)} {pos : Pos} {wi : TI} {g : TG} {tt : TT} {te : TE} (hc : HotC X) (hN : X.N.Nodup) (hi : PIH X tg iter wi) (ok : BlkOk X.N X.env.scope scope own)
    (hg : ∀ (s : Shared) (H : Hp) (C : Addr) (cl : List (Str × Addr)) (fp : List Addr), PG (hblk X s H scope (compEnvC scope cl C X.env) fp) tg g)
    (ht : ∀ (s : Shared) (H : Hp) (C : Addr) (cl : List (Str × Addr)) (fp : List Addr), PTs (hblk X s H scope (compEnvC scope cl C X.env) fp) ifs tt)
    (he : ∀ (s : Shared) (H : Hp) (C : Addr) (cl : List (Str × Addr)) (fp : List Addr), PE (hblk X s H scope (compEnvC scope cl C X.env) fp) elt te) (hs : ∀ x, foldedSetIterable iter X.env x = pure x) :
    PE X (.ListComp elt [⟨tg, iter, ifs, 0⟩] scope pos) (tLc wi g tt te (own.map (·.2))) :=
  ⟨fun pins s σ H Q I h => by
    rw [eval_ListComp]
    exact hlc_core hc hN I hi ok hg ht he hs h fun D C s' m H' I' q hn ⟨f0, f1, f2, f3, f4, f5⟩ => ⟨m, hn, fun h'' sb => ⟨.ref D, H', I'.turned (t' := s'.toks) (fun b o hb e => (sb.2 b hb).trans e) f0 f1 f3 f4 f5, rfl, q⟩⟩⟩
/-- name = [..] on one line, the name a local -/
theorem ps_setHlc {i : Nat} {y : Str} {py : Pos} {elt tg iter : Expr} {ifs : List Expr} {scope : Scope} {own : List (Str × Nat)} {pos spos : Pos} {wi : TI} {g : TG} {tt : TT} {te : TE} (hc : HotC X) (hN : X.N.Nodup) (hy : X.N[i]? = some y) (hyl : X.env.scope.names.lookup y = some .local)
    (hsw : swapsWith (.ListComp elt [⟨tg, iter, ifs, 0⟩] scope pos) (some (.Name y py)) spos.line X.env = pure true) (hi : PIH X tg iter wi) (ok : BlkOk X.N X.env.scope scope own)
    (hg : ∀ (s : Shared) (H : Hp) (C : Addr) (cl : List (Str × Addr)) (fp : List Addr), PG (hblk X s H scope (compEnvC scope cl C X.env) fp) tg g)
    (ht : ∀ (s : Shared) (H : Hp) (C : Addr) (cl : List (Str × Addr)) (fp : List Addr), PTs (hblk X s H scope (compEnvC scope cl C X.env) fp) ifs tt)
    (he : ∀ (s : Shared) (H : Hp) (C : Addr) (cl : List (Str × Addr)) (fp : List Addr), PE (hblk X s H scope (compEnvC scope cl C X.env) fp) elt te) (hs : ∀ x, foldedSetIterable iter X.env x = pure x) :
    PS X (.Assign [.Name y py] (.ListComp elt [⟨tg, iter, ifs, 0⟩] scope pos) spos) (tAsg (tLc wi g tt te (own.map (·.2))) (gName i)) := by
  refine ⟨fun pins s σ H D I h => ?_⟩
  rw [exec_Assign_Name_used _ _ _ _ hsw]
  refine wpAny_bind (wpAny_standAt (wpAny_bind ?_))
  have h : tLc wi g tt te (own.map (·.2)) σ H (fun x H1 => gName i x σ H1 D.nx) := h
  show wpAny _ X.A (do let _ ← comprehension (.ListComp elt [⟨tg, iter, ifs, 0⟩] scope pos) scope X.env (firstIterPos [⟨tg, iter, ifs, 0⟩] pos) (newList []) false (eval iter X.env) (some (assign (.Name y py) X.env))) _ _ s
  refine wpAny_bind (thn (hlc_core (Qf := fun _ s' => SP X pins D .next s') hc hN I hi ok hg ht he hs h fun L C s' m H' I' q hn ⟨f0, f1, f2, f3, f4, f5⟩ => ?_) fun _ s' hq => wpAny_pure (wpAny_pure hq))
  show wpAny _ _ (assign (.Name y py) X.env (.ref L)) _ _ _
  refine wpAny_assign_Name (store_ok2 (v := V.ref L) I' hN hy (.inl hyl) rfl (fun s2 I2 ⟨a, sb, ha⟩ => ⟨m, hn.sameBut sb (ha.elim (fun z => by rw [z]; exact f1) fun z e => f4 y a z e.symm), fun h3 sb3 =>
    ⟨_, H', I2.turned (t' := s2.toks) (fun b o hb e => (sb3.2 b hb).trans e) f0 f1 f3 f4 f5, q⟩⟩) (.inr hyl))
/-- isinstance(e, c), e the pinned error -/
theorem call_isP {p : Addr × Obj} {D : Addr} (hp : p ∈ X.pn) (C : ExcC X.K D) (hz : Zc (.ref D) none p.2) (hf : ∃ vs, p.2.data = .fields vs) : CallR X (.builtin "isinstance") (rIsE X.K D p.1) := by
  intro pins s σ H xs us Q I r h
  obtain ⟨c, cv, b, rfl, hcv, e, q⟩ := h
  cases r with
  | cons rx rr =>
    cases rr with
    | cons rt rr =>
      cases rr
      cases rx
      obtain rfl := hcv _ rt
      obtain ⟨a, oc, od, oda, osl⟩ := p
      obtain ⟨vs, hv⟩ := hf
      obtain ⟨h1, h2⟩ := hz
      dsimp only at h1 h2 hv
      subst h1 h2 hv
      have J : PySem.W.InstAt s.heap a ⟨.ref D, none, .fields vs, osl⟩ D none := ⟨(I.pin _ (List.mem_append_left _ hp)).1, rfl, rfl, trivial⟩
      exact PySem.W.kia_one (PySem.W.handS_kitx_exc C.hg C.hk C.hs C.hd C.ha C.hn C.ht C.hm) I.kIn J e (fun z => nomatch z) fun tk => ⟨.bl b, H, I.kept (t' := tk) fun _ _ z => z, rfl, q⟩
end
/-! ### a def that is called with the handled error -/
/-- what it promises, of each error p that is handled -/
structure FnP (P : Program) (w : World) (K : PySem.W.Frag) (mg : Str → Option Value) (base : Heap) (CX : CXT) (k : Nat) (f : Addr) (fd : FuncData) (ps : List Str) (sp : Addr × Obj → Sp) : Prop where
  len : ∀ p vs H Q E, sp p vs H Q E → vs.length = ps.length
  run : ∀ (p : Addr × Obj) (A : Around) (outer : List Env) (s : Shared) (H : Hp) (args : Args) (us : List Value) (vs : List V) (Q : VK) (E : XK), RoomH k A → Hot1 A p → PinOk outer H s p → Env0 P w K mg base A outer s H → BindsTo s fd args (ps.zip us) → Vals vs us → sp p vs H Q E →
    codeAny (model P w) A (.call (.ref f) args) (CR CX outer P w H s Q E) s
theorem FnP.mono {P : Program} {w : World} {K : PySem.W.Frag} {mg : Str → Option Value} {base : Heap} {CX : CXT} {j k : Nat} {f : Addr} {fd : FuncData} {ps : List Str} {sp : Addr × Obj → Sp} (F : FnP P w K mg base CX j f fd ps sp) (h : j ≤ k) : FnP P w K mg base CX k f fd ps sp :=
  ⟨F.len, fun p A outer s H args us vs Q E r => F.run p A outer s H args us vs Q E (r.mono h)⟩
/-- one error alone: L2H's promise, whose spec asks that the handled error is this one -/
theorem fnP_of {CX : CXT} {P : Program} {w : World} {K : PySem.W.Frag} {mg : Str → Option Value} {base : Heap} {k : Nat} {f : Addr} {name qual : Str} {params : Arguments} {body : List Stmt} {scope : Scope} {dV kV doc pm cdv ct oc : Value} {an od : Option Addr}
    {osl : Array (Option Value)} {N ps : List Str} {sp : Addr × Obj → Sp} (lk : K.lookup f = some ⟨oc, od, .func (PySem.W.fnOf name qual params body scope dV kV doc pm an cdv ct), osl⟩) (hcd : PySem.W.codeIn K cdv qual = true) (S : FnScope N ps scope)
    (len : ∀ p vs H Q E, sp p vs H Q E → vs.length = ps.length)
    (hbody : ∀ (p : Addr × Obj) (A : Around) (outer : List Env) (s : Shared) (H : Hp) (vs : List V) (Q : VK) (E : XK), Hot1 A p → RoomH k (A.deeper (envOfC qual scope s.heap.objs.size f cdv)) → sp p vs H Q E →
      ∃ t, PSs (cxH CX P w K mg base N qual scope f cdv A outer s H E p) body t ∧ t { nx := fun _ H' => Q .non H', rt := Q } (L2.start N vs) H) :
    FnP P w K mg base CX (k + 1) f (PySem.W.fnOf name qual params body scope dV kV doc pm an cdv ct) ps sp := by
  refine ⟨len, fun p A outer s H args us vs Q E hr hot hpin e0 hb r hsp => ?_⟩
  have hl := len p _ _ _ _ hsp
  have nolim : s.heap.NoLimit := e0.mod.nolimit.keeps fun b o e => (e0.bs b o e).1
  have hk : ∀ y ∈ ps.zip us, scope.names.lookup y.1 = some .local ∨ (scope.names.lookup y.1 = some .cell ∧ ((cellsFrom (s.heap.objs.size + 1) scope.names []).lookup y.1).isSome = true) := fun y hy =>
    (S.par y.1 (List.of_mem_zip (a := y.1) (b := y.2) hy).1).imp id fun q => ⟨q, PySem.W.cellsFrom_some _ _ _ (.inl q)⟩
  have inK : K.In s.heap := e0.mod.kin.keeps fun b o e => (e0.bs b o e).1
  refine codeAny_call_function hr.depth (inK _ _ lk) rfl S.co S.gen rfl (PySem.W.codeRec_of inK hcd) (hb _ _ _ _ (wpAny_newFunctionEnv_cells S.kind hk fun env he s1 x => ?_))
  subst he
  obtain ⟨t, ht, hq⟩ := hbody p A outer s H vs Q E hot (hr.deeper _) hsp
  have I := inv_startH (CX := CX) (E := E) S hpin e0 hl r x
  refine ⟨nolim.keeps x.toInCall.keep, codeAny_func (wpAny_mono (ht.run [] s1 (L2.start N vs) H _ I hq) (fun fl s' hs => ?_) fun e s' hs => hs)⟩
  cases fl with
  | ret u =>
    obtain ⟨v, σ', H', J, rv, q⟩ := hs
    exact ⟨v, H', J.os, J.bare, J.base, J.hok, rv, q⟩
  | next =>
    obtain ⟨σ', H', J, q⟩ := hs
    exact ⟨.non, H', J.os, J.bare, J.base, J.hok, rfl, q⟩
  | brk => exact hs.elim fun _ h => h.elim fun _ h => h.2.elim
  | cont => exact hs.elim fun _ h => h.elim fun _ h => h.2.elim
section
variable {X : Cx} {CX : CXT} {k : Nat} {f : Addr} {fd : FuncData} {ps : List Str} {sp : Addr × Obj → Sp} {E : L2.St → XK} {x : Str} {q pos : Pos} {e : Expr} {es : List Expr} {t : TA} {p : Addr × Obj}
theorem pe_callP (F : FnP X.prog X.w X.K X.mg X.base CX k f fd ps sp) (hr : RoomH k X.A) (hot : Hot1 X.A p) (hp : p ∈ X.pn) (hg : Gl X x) (hm : X.mg x = some (.ref f)) (hk : PySem.W.keepIn X.K (.ref f) = true) (hb : Binds X.K fd ps []) (hx : ∀ σ, PassesAt CX X σ (E σ))
    (ha : PA X (e :: es) t) (hdb : (x == ("__debug__" : Str)) = false) (he : starEach (e :: es) X.env = (false, eval e X.env) :: starEach es X.env) (hpl : (backTo pos (starEach es X.env)).any (·.1) = false) :
    PE X (.Call (.Name x q) (e :: es) [] pos) (tCallS (sp p) E t) := by
  refine ⟨fun pins s σ H Q I h => wpAny_Call_Name_kw (ld_glob I hg hm ?_ hdb)⟩
  refine PySem.W.callWith_K (h₀ := X.base) I.ok.mod.kin hk (thn (ha.run pos pins s σ H _ I h) fun us s1 ⟨vs, H1, I1, r, q⟩ => ⟨I1.kIn, ?_⟩) he hpl
  have hl : us.length = ps.length := by rw [← r.length]; exact F.len _ _ _ _ _ q
  have b := hb s1 us I1.kIn (by rw [List.append_nil]; exact hl)
  rw [List.append_nil] at b
  obtain ⟨g1, g2, g3, g4, g5⟩ := I1.pin p (List.mem_append_left _ hp)
  have pin : PinOk X.stack H1 s1 p := ⟨g1, g2, fun z => (List.mem_cons.mp (I1.stkSub p.1 z)).elim g3 g4, g5⟩
  refine wpAny_call (codeAny_mono (F.run p X.A X.stack s1 H1 ⟨us, []⟩ us vs Q (E σ) hr hot pin I1.env0 b r q) fun r s' hq => ?_)
  cases r with
  | error e => exact hx σ pins H1 s1 e s' I1 hq
  | ok fl =>
    cases fl with
    | ret u => exact I1.after hq
    | next => exact hq.elim
    | brk => exact hq.elim
    | cont => exact hq.elim
end
end
end SgH

/-! SgSound: what the evaluator says of an expression is a reading of it. -/
namespace Sg
noncomputable section
open PySem PySem.Spec PyProof.Rows L2

section
variable {env : Env}
theorem shp_star {x : Expr} {xs : List Expr} (h : shp x = true) : starEach (x :: xs) env = (false, eval x env) :: starEach xs env := by
  cases x <;> first | rfl | cases h
theorem shp_fold {x : Expr} (h : shp x = true) (v : Value) : foldedSetIterable x env v = pure v := by
  cases x <;> first | rfl | cases h
theorem shp_mark {x : Expr} {op : CmpOp} (h : shp x = true) : behindInMarks op x = false := by
  cases x <;> first | rfl | cases h
theorem shp_ix {x : Expr} (h : shp x = true) : PlainIx x := by
  cases x <;> first | (intro o i; rfl) | cases h
theorem shp_base {x : Expr} {n : Str} (h : shp x = true) : attributeBase x n env (eval x env) = eval x env := by
  cases x <;> first | rfl | skip
  rename_i f a k p
  cases f <;> first | rfl | skip
  cases a with
  | nil => cases h
  | cons _ _ => rfl
end
/-- what exceptions are wished, by the classes' numbers -/
abbrev exW (W : WX) (cv : Nat → Value) (σ : St2) : Nat → Hp → Prop := fun c H => W (cv c) none σ H
/-- what a def promises: it is the function F of the evaluator -/
def spD (K : PySem.W.Frag) (cv : Nat → Value) (F : List D → List Cell → R D) (n : Nat) : Sp := fun vs H Q E =>
  vs.length = n ∧ ∃ B as M ds, Sim K H B as M ∧ Rps K H (Av B as M) as ds vs ∧ PostD K H B as M (fun c H' => E (cv c) none H') (F ds M) Q
structure XH (c : Ctx) (Φ : Phi) (cv : Nat → Value) (X : Cx) (W : WX) : Prop where
  N : X.N = c.N
  nd : c.N.Nodup
  sc : X.env.scope = c.sc
  fn : ∀ x, c.fn x = true → X.fn x = true
  calm : c.hot = false → X.calm = true
  hotc : c.hot = true → L2H.HotC X
  xis : c.hot = true → ∀ k m, c.xk k = some m → ∃ (v : V) (u : Value), RelV v u ∧ (∀ u', RelV v u' → u' = u) ∧ (X.mg m = some u ∨ (X.mg m = none ∧ bootBuiltins m = some u ∧ m ≠ "__name__")) ∧ ∀ a M, Φ 0 [.exo a, .int k] M = .bad ∨ ∃ (p : Addr × Obj) (D : Addr) (b : Bool), p ∈ X.pn ∧ p.1 = a ∧ ExcC X.K D ∧ Zc (.ref D) none p.2 ∧ (∃ vs, p.2.data = .fields vs) ∧ PySem.W.kitOne X.K (.ref D) u = some b ∧ Φ 0 [.exo a, .int k] M = .ok (.bl b) M
  room : L2H.RoomH c.k X.A
  hd : c.hot = false → X.A.handled = none
  bi : ∀ x ∈ builtins, X.mg (x : Str) = none
  gl : ∀ p ∈ c.gl, ∃ u v, X.mg p.1 = some u ∧ RelV v u ∧ ∀ H B as, Rp X.K H B as p.2 v
  fns : ∀ f x, c.nm f = some x → ∃ (fa : Addr) (fd : FuncData) (ps : List Str) (dvs : List V) (dss : List Value) (dds : List D) (F : List D → List Cell → R D) (n : Nat), X.mg x = some (.ref fa) ∧ PySem.W.keepIn X.K (.ref fa) = true ∧ Binds X.K fd ps dss ∧ Vals dvs dss ∧ (∀ H B as, Rps X.K H B as dds dvs) ∧ ps.length = n + dds.length ∧
    (∀ ds M, ds.length ≠ n → Φ f ds M = .bad) ∧ (∀ ds M, Φ f ds M = F (ds ++ dds) M) ∧ FnOk X.prog X.w X.K X.mg X.base (L2N.CX X.prog X.w) c.k fa fd ps (spD X.K cv F ps.length)
  tk : L2N.Takes X W
/-- the slots -/
structure EnvR (K : PySem.W.Frag) (H : Hp) (B : Addr → Prop) (as : List Addr) (env : St) (σ : St2) : Prop where
  len : env.length = σ.length
  get : ∀ (i : Nat) (d : D), env[i]? = some (some d) → ∃ v, σ[i]? = some (some v) ∧ Rp K H B as d v
section
variable {K : PySem.W.Frag} {H H' : Hp} {B : Addr → Prop} {as as' : List Addr} {M M' : List Cell} {env : St} {σ : St2}
theorem EnvR.go (S : Sim K H B as M) (g : Go as M H as' M' H') (r : EnvR K H (Av B as M) as env σ) : EnvR K H' (Av B as' M') as' env σ :=
  ⟨r.len, fun i d e => let ⟨v, h1, h2⟩ := r.get i d e; ⟨v, h1, g.rp S h2⟩⟩
theorem EnvR.set {C : Addr → Prop} (r : EnvR K H C as env σ) {i : Nat} {d : D} {v : V} (h : Rp K H C as d v) : EnvR K H C as (env.set i (some d)) (σ.set i (some v)) := by
  refine ⟨by simp [r.len], fun j e he => ?_⟩
  by_cases hj : j = i
  · subst hj
    by_cases hl : j < env.length
    · rw [List.getElem?_set_self hl] at he
      cases he
      rw [List.getElem?_set_self (by rw [← r.len]; exact hl)]
      exact ⟨v, rfl, h⟩
    · rw [List.getElem?_eq_none (by simpa using hl)] at he; cases he
  · rw [List.getElem?_set_ne (Ne.symm hj)] at he
    rw [List.getElem?_set_ne (Ne.symm hj)]
    exact r.get j e he
theorem EnvR.none {C : Addr → Prop} (r : EnvR K H C as env σ) (i : Nat) : EnvR K H C as (env.set i Option.none) (σ.set i Option.none) := by
  refine ⟨by simp [r.len], fun j e he => ?_⟩
  by_cases hj : j = i
  · subst hj
    by_cases hl : j < env.length
    · rw [List.getElem?_set_self hl] at he; cases he
    · rw [List.getElem?_eq_none (by simpa using hl)] at he; cases he
  · rw [List.getElem?_set_ne (Ne.symm hj)] at he
    rw [List.getElem?_set_ne (Ne.symm hj)]
    exact r.get j e he
theorem EnvR.wipe {C : Addr → Prop} (r : EnvR K H C as env σ) : ∀ vs : List Nat, EnvR K H C as (wipeD env vs) (L2.wipe σ vs)
  | [] => r
  | v :: vs => (EnvR.wipe r vs).none v
end
section
variable (X : Cx) (cv : Nat → Value) (W : WX) (Φ : Phi)
/-- a reading, by a step of the evaluator -/
def tG {α β : Type} (rel : (Addr → Prop) → List Addr → List Cell → Hp → α → β → Prop) (f : St → List Cell → R α) : St2 → Hp → (β → Hp → Prop) → Prop := fun σ H Q =>
  ∃ B as M env, Sim X.K H B as M ∧ EnvR X.K H (Av B as M) as env σ ∧ PostG X.K H B as M (exW W cv σ) (rel B) (f env M) Q
def tE (e : E) : TE := tG X cv W (fun B => relD X.K B) (evE Φ e)
def evBl (e : E) (σ : St) (M : List Cell) : R Bool := (evE Φ e σ M).bind toBl
def tT (e : E) : TT := tG X cv W (fun _ => relEq) (evBl Φ e)
def tEs (es : Es) : TA := tG X cv W (fun B => relDs X.K B) (evEs Φ es)
def tO (o : O) : TO := tG X cv W (fun _ => relEq) (evO Φ o)
def tC (o : O) : TT := tG X cv W (fun _ => relEq) (evC Φ o)
def tB' (op : BoolOp) (es : Es) : TE := tG X cv W (fun B => relD X.K B) (evB Φ op es)
def tBT (op : BoolOp) (es : Es) : TT := tG X cv W (fun _ => relEq) (fun σ M => (evB Φ op es σ M).bind toBl)
/-- what is walked gives the values xs -/
def Feed (B : Addr → Prop) (as : List Addr) (M : List Cell) (H : Hp) (xs : List D) (J : L2.It) : Prop := ∀ B' as' M' H', (∀ a, H a ≠ none → B' a → B a) → Go as M H as' M' H' → Sim X.K H' B' as' M' →
  (∀ i, i < xs.length → J.go i H') ∧ (∀ i, xs.length ≤ i → J.stop i H') ∧
  ∀ (i : Nat) d x H'', xs[i]? = some d → J.yld i H' x H'' → Go as' M' H' as' M' H'' ∧ Sim X.K H'' B' as' M' ∧ Rp X.K H'' (Av B' as' M') as' d x ∧ ∀ a o, H' a = some o → H'' a = some o
def tI (it : It) : TI := tG X cv W (fun B as M H xs J => Feed X B as M H xs J) (evIt Φ it)
/-! a target: the slots behind it -/
def tT' (t : T) : TG := fun v σ H Q => ∃ B as M env d, Sim X.K H B as M ∧ EnvR X.K H (Av B as M) as env σ ∧ Rp X.K H (Av B as M) as d v ∧
  PostG X.K H B as M (fun _ _ => False) (fun as' M' H' e σ' => EnvR X.K H' (Av B as' M') as' e σ' ∧ ∀ vs, tSub t vs = true → L2.wipe σ' vs = L2.wipe σ vs) (evT Φ t d env M) Q
def tTs' (ts : Ts) : TGs := fun vs σ H Q => ∃ B as M env ds, Sim X.K H B as M ∧ EnvR X.K H (Av B as M) as env σ ∧ Rps X.K H (Av B as M) as ds vs ∧
  PostG X.K H B as M (fun _ _ => False) (fun as' M' H' e σ' => EnvR X.K H' (Av B as' M') as' e σ' ∧ ∀ vs, tSubs ts vs = true → L2.wipe σ' vs = L2.wipe σ vs) (evTs Φ ts ds env M) Q
end
section
variable {X : Cx} {cv : Nat → Value} {W : WX} {Φ : Phi} {c : Ctx} {x y z : Expr} {pos : Pos}
theorem _root_.L2.PE.imp {t t' : TE} (h : PE X x t) (k : ∀ σ H Q, t' σ H Q → t σ H Q) : PE X x t' := ⟨fun pins s σ H Q I q => h.run pins s σ H Q I (k σ H Q q)⟩
theorem _root_.L2.PT.imp {t t' : TT} (h : PT X x t) (k : ∀ σ H Q, t' σ H Q → t σ H Q) : PT X x t' := ⟨fun pins s σ H Q I q => h.run pins s σ H Q I (k σ H Q q)⟩
theorem _root_.L2.PW.imp {t t' : TT} (h : PW X x t) (k : ∀ σ H Q, t' σ H Q → t σ H Q) : PW X x t' := ⟨fun w pins s σ H Q I q => h.run w pins s σ H Q I (k σ H Q q)⟩
theorem _root_.L2.PA.imp {t t' : TA} {xs : List Expr} (h : PA X xs t) (k : ∀ σ H Q, t' σ H Q → t σ H Q) : PA X xs t' := ⟨fun p pins s σ H Q I q => h.run p pins s σ H Q I (k σ H Q q)⟩
theorem _root_.L2.PI.imp {t t' : TI} (h : PI X x y t) (k : ∀ σ H Q, t' σ H Q → t σ H Q) : PI X x y t' := ⟨fun pins s σ H Q I q => h.run pins s σ H Q I (k σ H Q q)⟩
theorem _root_.L2.PG.imp {t t' : TG} (h : PG X x t) (k : ∀ v σ H Q, t' v σ H Q → t v σ H Q) : PG X x t' := ⟨fun pins s σ H v u Q I r q => h.run pins s σ H v u Q I r (k v σ H Q q)⟩
theorem _root_.L2.PGs.imp {t t' : TGs} {xs : List Expr} (h : PGs X xs t) (k : ∀ v σ H Q, t' v σ H Q → t v σ H Q) : PGs X xs t' := ⟨fun pins s σ H v u Q I r q => h.run pins s σ H v u Q I r (k v σ H Q q)⟩

theorem vis_of (h : XH c Φ cv X W) {n : Str} (v : visOk c.sc n = true) : Vis X.env.scope n := by
  rw [h.sc]
  unfold visOk at v
  split at v
  · exact .inl (by assumption)
  · exact .inr (.inl (by assumption))
  · exact .inr (.inr (by assumption))
  · cases v
theorem loc_of (h : XH c Φ cv X W) {n : Str} (v : locOk c.sc n = true) : Loc X.env.scope n := by
  rw [h.sc]
  unfold locOk at v
  split at v
  · exact .inl (by assumption)
  · exact .inr (by assumption)
  · cases v
theorem gl_of (h : XH c Φ cv X W) {n : Str} (v : glOk c.sc n = true) : Gl X n := by
  show X.env.scope.names.lookup n = _
  rw [h.sc]
  unfold glOk at v
  split at v
  · assumption
  · cases v
theorem plain_of {n : Str} (h : plainN n = true) : (n == ("__debug__" : Str)) = false ∧ (n == ("__classdict__" : Str)) = false ∧ n ≠ ("__name__" : Str) := by
  unfold plainN at h
  simp only [Bool.and_eq_true, Bool.not_eq_true'] at h
  refine ⟨h.1.1, h.1.2, fun e => ?_⟩
  have := h.2
  rw [e] at this
  simp at this
/-- the value's step -/
theorem tE_one {e : E} {d : D} {σ : St2} {H : Hp} {Q : VK} {B : Addr → Prop} {as : List Addr} {M : List Cell} {env : St} {v : V} {E' : Nat → Hp → Prop} (S : Sim X.K H B as M)
    (h : PostG X.K H B as M E' (relD X.K B) (.ok d M) Q) (r : Rp X.K H (Av B as M) as d v) : Q v H := h as H v Go.refl S r

theorem s_var {i : Nat} {n : Str} (h : XH c Φ cv X W) (h1 : c.N[i]? = some n) (h2 : visOk c.sc n = true) (h3 : plainN n = true) : PE X (.Name n pos) (tE X cv W Φ (.var i)) := by
  obtain ⟨p1, p2, _⟩ := plain_of h3
  refine PE.imp (pe_var (i := i) (by rw [h.N]; exact h1) (vis_of h h2) p1 p2) fun σ H Q q => ?_
  obtain ⟨B, as, M, env, S, r, q⟩ := q
  have q : PostG X.K H B as M (exW W cv σ) (relD X.K B) (match env[i]? with
    | some (some d) => .ok d M
    | _ => .bad) Q := q
  split at q
  · rename_i d e
    obtain ⟨v, e1, e2⟩ := r.get i d e
    exact ⟨v, e1, q as H v Go.refl S e2⟩
  · exact q.elim
theorem s_const {d : D} {k : Const} {j : Nat} (h1 : constOk d k = true) : PE X (.Constant k j pos) (tE X cv W Φ (.c d)) := by
  have fin : ∀ {v : V} {σ : St2} {H : Hp} {Q : VK}, tE X cv W Φ (.c d) σ H Q → (∀ B as, Rp X.K H B as d v) → Q v H := fun {v σ H Q} q r => by
    obtain ⟨B, as, M, env, S, _, q⟩ := q
    exact q as H v Go.refl S (r _ _)
  unfold constOk at h1
  split at h1
  · exact PE.imp pe_non fun σ H Q q => fin q fun _ _ => rfl
  · have e := eq_of_beq h1
    subst e
    exact PE.imp pe_bl fun σ H Q q => fin q fun _ _ => rfl
  · have e := eq_of_beq h1
    subst e
    exact PE.imp pe_int fun σ H Q q => fin q fun _ _ => rfl
  · have := of_decide_eq_true h1
    subst this
    exact PE.imp pe_str fun σ H Q q => fin q fun _ _ => rfl
  · cases h1
theorem s_glob {d : D} {n : Str} (h : XH c Φ cv X W) (h1 : glOk c.sc n = true) (h2 : plainN n = true) (h3 : (c.gl.any fun p => decide (p.1 = n) && beqD p.2 d) = true) : PE X (.Name n pos) (tE X cv W Φ (.glob n d)) := by
  obtain ⟨p, hp, e⟩ := List.any_eq_true.mp h3
  rw [Bool.and_eq_true] at e
  have e1 := of_decide_eq_true e.1
  have e2 := beqD_eq _ _ e.2
  obtain ⟨u, v, g1, g2, g3⟩ := h.gl p hp
  rw [e1] at g1
  refine PE.imp (pe_glob (gl_of h h1) g1 g2 (plain_of h2).1) fun σ H Q q => ?_
  obtain ⟨B, as, M, env, S, _, q⟩ := q
  exact q as H v Go.refl S (e2 ▸ g3 _ _ _)
/-- two parts and an operation -/
theorem two_parts {e1 e2 : E} {f : D → D → List Cell → R D} {σ : St2} {H : Hp} {Q : VK}
    (q : tG X cv W (fun B => relD X.K B) (fun env M => (evE Φ e1 env M).bind fun a M1 => (evE Φ e2 env M1).bind fun b M2 => f a b M2) σ H Q) : tOp (rOp2 X.K (exW W cv σ) f) (tE X cv W Φ e1) (tE X cv W Φ e2) σ H Q := by
  obtain ⟨B, as, M, env, S, r, q⟩ := q
  refine ⟨B, as, M, env, S, r, post_bind q fun a M1 as1 H1 v _ g1 S1 ra q1 => ?_⟩
  refine ⟨B, as1, M1, env, S1, r.go S g1, post_bind q1 fun b M2 as2 H2 w _ g2 S2 rb q2 => ?_⟩
  exact ⟨B, as2, M2, a, b, S2, g2.rp S1 ra, rb, q2⟩
theorem s_bin {m : Bool} {op : Operator} {a b : E} (ha : PE X x (tE X cv W Φ a)) (hb : PE X y (tE X cv W Φ b)) : PE X (.BinOp x op y pos) (tE X cv W Φ (.bin m op a b)) :=
  ⟨fun pins s σ H Q I q => (pe_op (op_bop (E := exW W cv σ) m op) ha hb).run pins s σ H Q I (two_parts q)⟩
theorem s_rep {m : Bool} {a b : E} (ha : PE X x (tE X cv W Φ a)) (hb : PE X y (tE X cv W Φ b)) : PE X (.BinOp x .Mult y pos) (tE X cv W Φ (.rep m a b)) :=
  ⟨fun pins s σ H Q I q => (pe_op (op_repD (E := exW W cv σ) m) ha hb).run pins s σ H Q I (two_parts q)⟩
theorem s_un {op : UnaryOp} {a : E} (ha : PE X x (tE X cv W Φ a)) : PE X (.UnaryOp op x pos) (tE X cv W Φ (.un op a)) :=
  ⟨fun pins s σ H Q I q => (pe_un (un_uop (E := exW W cv σ) op) ha).run pins s σ H Q I (by
    obtain ⟨B, as, M, env, S, r, q⟩ := q
    refine ⟨B, as, M, env, S, r, post_bind q fun a M1 as1 H1 v _ g1 S1 ra q1 => ?_⟩
    exact ⟨B, as1, M1, a, S1, ra, q1⟩)⟩
theorem hu64 (h : XH c Φ cv X W) : X.A.units + 64 < cLine := by
  have := h.room.un
  omega
theorem s_cmp {op : CmpOp} {a b : E} (h : XH c Φ cv X W) (ha : PE X x (tE X cv W Φ a)) (hb : PE X y (tE X cv W Φ b)) (hy : shp y = true) : PE X (.Compare x [op] [y] pos) (tE X cv W Φ (.cmp op a b)) :=
  ⟨fun pins s σ H Q I q => (pe_cmpR (op_cop (E := exW W cv σ) (hu64 h) op) ha hb (shp_mark hy)).run pins s σ H Q I (two_parts q)⟩
theorem st_cmp {op : CmpOp} {a b : E} (h : XH c Φ cv X W) (ha : PE X x (tE X cv W Φ a)) (hb : PE X y (tE X cv W Φ b)) (hy : shp y = true) : PT X (.Compare x [op] [y] pos) (tT X cv W Φ (.cmp op a b)) :=
  ⟨fun pins s σ H Q I q => (pt_cmpR (op_cop (E := exW W cv σ) (hu64 h) op) ha hb (shp_mark hy)).run pins s σ H Q I (two_parts (by
    obtain ⟨B, as, M, env, S, r, q⟩ := q
    refine ⟨B, as, M, env, S, r, post_bind q fun a M1 as1 H1 v _ g1 S1 ra q1 => ?_⟩
    unfold toBl at q1
    split at q1
    · cases ra
      exact ⟨_, rfl, q1 _ _ _ Go.refl S1 rfl⟩
    · exact q1.elim))⟩
/-- a value that is asked as a test -/
theorem toT {a : E} {σ : St2} {H : Hp} {Q : Bool → Hp → Prop} (q : tT X cv W Φ a σ H Q) : tE X cv W Φ a σ H (fun x H1 => ∃ k, x = .bl k ∧ Q k H1) := by
  obtain ⟨B, as, M, env, S, r, q⟩ := q
  refine ⟨B, as, M, env, S, r, post_bind q fun a M1 as1 H1 v _ g1 S1 ra q1 => ?_⟩
  unfold toBl at q1
  split at q1
  · cases ra
    exact ⟨_, rfl, q1 _ _ _ Go.refl S1 rfl⟩
  · exact q1.elim
theorem three_parts {o1 o2 : CmpOp} {a b d : E} {σ : St2} {H : Hp} {Q : VK} (q : tE X cv W Φ (.chain o1 o2 a b d) σ H Q) :
    tChain (rOp2 X.K (exW W cv σ) (cop o1)) (rOp2 X.K (exW W cv σ) (cop o2)) (tE X cv W Φ a) (tE X cv W Φ b) (tE X cv W Φ d) σ H Q := by
  obtain ⟨B, as, M, env, S, r, q⟩ := q
  refine ⟨B, as, M, env, S, r, post_bind q fun a M1 as1 H1 v _ g1 S1 ra q1 => ?_⟩
  have r1 := r.go S g1
  refine ⟨B, as1, M1, env, S1, r1, post_bind q1 fun b M2 as2 H2 w _ g2 S2 rb q2 => ?_⟩
  have r2 := r1.go S1 g2
  refine ⟨B, as2, M2, a, b, S2, g2.rp S1 ra, rb, ?_⟩
  have q2' : PostG X.K H2 B as2 M2 (exW W cv σ) (relD X.K B) ((cop o1 a b M2).bind fun k M3 => (toBl k M3).bind fun k M3 => if k = true then (evE Φ d env M3).bind fun z M4 => cop o2 b z M4 else .ok (.bl false) M3) Q := by
    cases e : cop o1 a b M2 <;> rw [e] at q2 <;> exact q2
  refine post_bind q2' fun k M3 as3 H3 kv _ g3 S3 rk q3 => ?_
  have r3 := r2.go S2 g3
  cases k with
  | bl k =>
    cases rk
    refine ⟨k, rfl, ?_⟩
    cases k with
    | true =>
      show tE X cv W Φ d σ H3 _
      refine ⟨B, as3, M3, env, S3, r3, post_bind q3 fun z M4 as4 H4 zv _ g4 S4 rz q4 => ?_⟩
      exact ⟨B, as4, M4, b, z, S4, g4.rp S3 (g3.rp S2 rb), rz, q4⟩
    | false => exact q3 as3 H3 (.bl false) Go.refl S3 rfl
  | _ => exact q3.elim
theorem last2 {o1 o2 : CmpOp} {y z : Expr} (h : shp z = true) : lastMarks [o1, o2] [y, z] = false := by
  show behindInMarks o2 z = false
  exact shp_mark h
theorem s_chain {o1 o2 : CmpOp} {a b d : E} (h : XH c Φ cv X W) (ha : PE X x (tE X cv W Φ a)) (hb : PE X y (tE X cv W Φ b)) (hd : PE X z (tE X cv W Φ d)) (hz : shp z = true) : PE X (.Compare x [o1, o2] [y, z] pos) (tE X cv W Φ (.chain o1 o2 a b d)) :=
  ⟨fun pins s σ H Q I q => (pe_chain (op_cop (E := exW W cv σ) (hu64 h) o1) (op_cop (E := exW W cv σ) (hu64 h) o2) ha hb hd (last2 hz)).run pins s σ H Q I (three_parts q)⟩
theorem st_chain {o1 o2 : CmpOp} {a b d : E} (h : XH c Φ cv X W) (ha : PE X x (tE X cv W Φ a)) (hb : PE X y (tE X cv W Φ b)) (hd : PE X z (tE X cv W Φ d)) (hz : shp z = true) : PT X (.Compare x [o1, o2] [y, z] pos) (tT X cv W Φ (.chain o1 o2 a b d)) :=
  ⟨fun pins s σ H Q I q => (pt_chain (op_cop (E := exW W cv σ) (hu64 h) o1) (op_cop (E := exW W cv σ) (hu64 h) o2) ha hb hd (last2 hz)).run pins s σ H Q I (three_parts (toT q))⟩
end
end
end Sg

/-! SgSound2: further forms of expressions. -/
namespace Sg
noncomputable section
open PySem PySem.Spec PyProof.Rows L2
section
variable {X : Cx} {cv : Nat → Value} {W : WX} {Φ : Phi} {c : Ctx} {x y z : Expr} {pos : Pos}
/-- a test of a plain shape -/
theorem st_val {a : E} (ha : PE X x (tE X cv W Φ a)) (he : ∀ whole, isTrue x X.env whole = (do let v ← whole; standAt x.pos; holding [v] (truthy v))) : PT X x (tT X cv W Φ a) :=
  (pt_val ha he).imp fun σ H Q q => toT q
theorem st_not {a : E} (ha : PT X x (tT X cv W Φ a)) : PT X (.UnaryOp .Not x pos) (tT X cv W Φ (.un .Not a)) :=
  (pt_not ha).imp fun σ H Q q => by
    obtain ⟨B, as, M, env, S, r, q⟩ := q
    refine ⟨B, as, M, env, S, r, ?_⟩
    have q' : PostG X.K H B as M (exW W cv σ) relEq ((evBl Φ a env M).bind fun k M1 => .ok (!k) M1) Q := by
      refine PostG.eq (r := ((evE Φ (.un .Not a) env M).bind toBl)) ?_ q
      show (((evE Φ a env M).bind fun x M1 => uop .Not x M1).bind toBl) = ((evE Φ a env M).bind toBl).bind _
      cases evE Φ a env M with
      | ok d M1 => cases d <;> rfl
      | exc _ _ => rfl
      | bad => rfl
    exact post_bind q' fun k M1 as1 H1 v _ g1 S1 ra q1 => by
      cases ra
      exact q1 _ _ _ Go.refl S1 rfl
theorem s_ite {e1 e2 e3 : E} (h1 : PT X x (tT X cv W Φ e1)) (h2 : PE X y (tE X cv W Φ e2)) (h3 : PE X z (tE X cv W Φ e3)) : PE X (.IfExp x y z pos) (tE X cv W Φ (.ite e1 e2 e3)) :=
  (pe_ifExp h1 h2 h3).imp fun σ H Q q => by
    obtain ⟨B, as, M, env, S, r, q⟩ := q
    refine ⟨B, as, M, env, S, r, post_bind q fun k M1 as1 H1 v _ g1 S1 ra q1 => ?_⟩
    cases ra
    cases k with
    | true => exact ⟨B, as1, M1, env, S1, r.go S g1, q1⟩
    | false => exact ⟨B, as1, M1, env, S1, r.go S g1, q1⟩
theorem st_ite {e1 e2 e3 : E} (h1 : PT X x (tT X cv W Φ e1)) (h2 : PT X y (tT X cv W Φ e2)) (h3 : PT X z (tT X cv W Φ e3)) : PT X (.IfExp x y z pos) (tT X cv W Φ (.ite e1 e2 e3)) := by
  refine ⟨fun pins s σ H Q I q => ?_⟩
  obtain ⟨B, as, M, env, S, r, q⟩ := q
  have q' : PostG X.K H B as M (exW W cv σ) relEq ((evBl Φ e1 env M).bind fun k M1 => if k = true then evBl Φ e2 env M1 else evBl Φ e3 env M1) Q := by
    refine PostG.eq (r := ((evE Φ (.ite e1 e2 e3) env M).bind toBl)) ?_ q
    show ((((evE Φ e1 env M).bind toBl).bind fun k M1 => if k = true then evE Φ e2 env M1 else evE Φ e3 env M1).bind toBl) = ((evE Φ e1 env M).bind toBl).bind _
    cases (evE Φ e1 env M).bind toBl with
    | ok k M1 => cases k <;> rfl
    | exc _ _ => rfl
    | bad => rfl
  refine isTrue_IfExp (thn (h1.run pins s σ H _ I ⟨B, as, M, env, S, r, post_bind (Q' := fun k H1 => if k = true then tT X cv W Φ e2 σ H1 Q else tT X cv W Φ e3 σ H1 Q) q' fun k M1 as1 H1 v _ g1 S1 ra q1 => ?_⟩) fun d s1 ⟨H1, I1, q1⟩ => ?_)
  · cases ra
    cases k with
    | true => exact ⟨B, as1, M1, env, S1, r.go S g1, q1⟩
    | false => exact ⟨B, as1, M1, env, S1, r.go S g1, q1⟩
  · cases d with
    | true => exact h2.run pins s1 σ H1 Q I1 q1
    | false => exact h3.run pins s1 σ H1 Q I1 q1
/-! and, or -/
theorem s_bop1 {op : BoolOp} {a : E} (ha : PE X x (tE X cv W Φ a)) : PE X (.BoolOp op [x] pos) (tB' X cv W Φ op (.cons a .nil)) := pe_one ha
theorem s_bop2 {op : BoolOp} {a b : E} {r : Es} {ys : List Expr} (ha : PE X x (tE X cv W Φ a)) (hr : PE X (.BoolOp op (y :: ys) pos) (tB' X cv W Φ op (.cons b r))) : PE X (.BoolOp op (x :: y :: ys) pos) (tB' X cv W Φ op (.cons a (.cons b r))) := by
  cases op with
  | And =>
    exact (pe_and ha hr).imp fun σ H Q q => by
      obtain ⟨B, as, M, env, S, rr, q⟩ := q
      have q' : PostG X.K H B as M (exW W cv σ) (relD X.K B) ((evE Φ a env M).bind fun d M1 => (toBl d M1).bind fun k M1 => if k = true then evB Φ .And (.cons b r) env M1 else .ok (.bl false) M1) Q := by
        refine PostG.eq (r := (((evE Φ a env M).bind toBl).bind _)) ?_ q
        cases evE Φ a env M <;> rfl
      refine ⟨B, as, M, env, S, rr, post_bind q' fun d M1 as1 H1 v _ g1 S1 ra q1 => ?_⟩
      cases d with
      | bl k =>
        cases ra
        refine ⟨k, rfl, ?_⟩
        cases k with
        | true => exact ⟨B, as1, M1, env, S1, rr.go S g1, q1⟩
        | false => exact q1 as1 H1 (.bl false) Go.refl S1 rfl
      | _ => exact q1.elim
  | Or =>
    exact (pe_or ha hr).imp fun σ H Q q => by
      obtain ⟨B, as, M, env, S, rr, q⟩ := q
      have q' : PostG X.K H B as M (exW W cv σ) (relD X.K B) ((evE Φ a env M).bind fun d M1 => (toBl d M1).bind fun k M1 => if k = true then .ok (.bl true) M1 else evB Φ .Or (.cons b r) env M1) Q := by
        refine PostG.eq (r := (((evE Φ a env M).bind toBl).bind _)) ?_ q
        cases evE Φ a env M <;> rfl
      refine ⟨B, as, M, env, S, rr, post_bind q' fun d M1 as1 H1 v _ g1 S1 ra q1 => ?_⟩
      cases d with
      | bl k =>
        cases ra
        refine ⟨k, rfl, ?_⟩
        cases k with
        | true => exact q1 as1 H1 (.bl true) Go.refl S1 rfl
        | false => exact ⟨B, as1, M1, env, S1, rr.go S g1, q1⟩
      | _ => exact q1.elim
theorem st_bop1 {op : BoolOp} {a : E} (ha : PT X x (tT X cv W Φ a)) : PW X (.BoolOp op [x] pos) (tBT X cv W Φ op (.cons a .nil)) := by
  cases op with
  | And => exact pw_and1 ha
  | Or => exact pw_or1 ha
theorem st_bop2 {op : BoolOp} {a b : E} {r : Es} {ys : List Expr} (ha : PT X x (tT X cv W Φ a)) (hr : PW X (.BoolOp op (y :: ys) pos) (tBT X cv W Φ op (.cons b r))) : PW X (.BoolOp op (x :: y :: ys) pos) (tBT X cv W Φ op (.cons a (.cons b r))) := by
  cases op with
  | And =>
    exact (pw_and ha hr).imp fun σ H Q q => by
      obtain ⟨B, as, M, env, S, rr, q⟩ := q
      have q' : PostG X.K H B as M (exW W cv σ) relEq ((evBl Φ a env M).bind fun k M1 => if k = true then (evB Φ .And (.cons b r) env M1).bind toBl else .ok false M1) Q := by
        refine PostG.eq (r := ((((evE Φ a env M).bind toBl).bind _).bind toBl)) ?_ q
        show _ = ((evE Φ a env M).bind toBl).bind _
        cases (evE Φ a env M).bind toBl with
        | ok k M1 => cases k <;> rfl
        | exc _ _ => rfl
        | bad => rfl
      refine ⟨B, as, M, env, S, rr, post_bind q' fun k M1 as1 H1 v _ g1 S1 ra q1 => ?_⟩
      cases ra
      cases k with
      | true => exact ⟨B, as1, M1, env, S1, rr.go S g1, q1⟩
      | false => exact q1 as1 H1 false Go.refl S1 rfl
  | Or =>
    exact (pw_or ha hr).imp fun σ H Q q => by
      obtain ⟨B, as, M, env, S, rr, q⟩ := q
      have q' : PostG X.K H B as M (exW W cv σ) relEq ((evBl Φ a env M).bind fun k M1 => if k = true then .ok true M1 else (evB Φ .Or (.cons b r) env M1).bind toBl) Q := by
        refine PostG.eq (r := ((((evE Φ a env M).bind toBl).bind _).bind toBl)) ?_ q
        show _ = ((evE Φ a env M).bind toBl).bind _
        cases (evE Φ a env M).bind toBl with
        | ok k M1 => cases k <;> rfl
        | exc _ _ => rfl
        | bad => rfl
      refine ⟨B, as, M, env, S, rr, post_bind q' fun k M1 as1 H1 v _ g1 S1 ra q1 => ?_⟩
      cases ra
      cases k with
      | true => exact q1 as1 H1 true Go.refl S1 rfl
      | false => exact ⟨B, as1, M1, env, S1, rr.go S g1, q1⟩
/-! arguments, displays -/
theorem s_nil : PA X [] (tEs X cv W Φ .nil) := pa_nil.imp fun σ H Q q => by
  obtain ⟨B, as, M, env, S, r, q⟩ := q
  exact q as H [] Go.refl S rfl
theorem s_cons {a : E} {r : Es} {ys : List Expr} (ha : PE X x (tE X cv W Φ a)) (hr : PA X ys (tEs X cv W Φ r)) (hs : shp x = true) : PA X (x :: ys) (tEs X cv W Φ (.cons a r)) :=
  (pa_cons ha hr (shp_star hs)).imp fun σ H Q q => by
    obtain ⟨B, as, M, env, S, rr, q⟩ := q
    refine ⟨B, as, M, env, S, rr, post_bind q fun d M1 as1 H1 v _ g1 S1 ra q1 => ?_⟩
    refine ⟨B, as1, M1, env, S1, rr.go S g1, post_bind q1 fun ds M2 as2 H2 vs _ g2 S2 rs q2 => ?_⟩
    exact q2 as2 H2 (v :: vs) Go.refl S2 ⟨v, vs, rfl, g2.rp S1 ra, rs⟩
theorem s_tup {es : Es} {xs : List Expr} {k : Nat} (h : PA X xs (tEs X cv W Φ es)) : PE X (.Tuple xs k pos) (tE X cv W Φ (.tup es)) :=
  (pe_tup h).imp fun σ H Q q => by
    obtain ⟨B, as, M, env, S, rr, q⟩ := q
    refine ⟨B, as, M, env, S, rr, post_bind q fun ds M1 as1 H1 vs _ g1 S1 rs q1 => ?_⟩
    split at q1
    · rename_i hl
      exact ⟨by rw [rs.len]; exact Nat.le_trans hl LIM_le, tup_post S1 rs q1⟩
    · exact q1.elim
theorem s_lst {m : Bool} {es : Es} {xs : List Expr} (h : PA X xs (tEs X cv W Φ es)) : PE X (.List xs pos) (tE X cv W Φ (.lst m es)) :=
  (pe_lst h).imp fun σ H Q q => by
    obtain ⟨B, as, M, env, S, rr, q⟩ := q
    refine ⟨B, as, M, env, S, rr, post_bind q fun ds M1 as1 H1 vs _ g1 S1 rs q1 => ?_⟩
    obtain ⟨hl, q2⟩ := new_post S1 rs q1
    exact ⟨Nat.le_trans hl LIM_le, q2⟩
/-! subscripts -/
theorem s_idx {a b : E} (ha : PE X x (tE X cv W Φ a)) (hb : PE X y (tE X cv W Φ b)) (hy : shp y = true) : PE X (.Subscript x y pos) (tE X cv W Φ (.idx a b)) :=
  ⟨fun pins s σ H Q I q => (pe_ix (ix_idx (E := exW W cv σ)) ha hb (shp_ix hy)).run pins s σ H Q I (two_parts (f := idxD) q)⟩
theorem s_o0 : PO X none (tO X cv W Φ .no) := ⟨fun pins s σ H Q I q => po_none.run pins s σ H Q I (by
  obtain ⟨B, as, M, env, S, rr, q⟩ := q
  exact q as H none Go.refl S rfl)⟩
theorem s_o1 {a : E} (ha : PE X x (tE X cv W Φ a)) : PO X (some x) (tO X cv W Φ (.so a)) := ⟨fun pins s σ H Q I q => (po_some ha).run pins s σ H Q I (by
  obtain ⟨B, as, M, env, S, rr, q⟩ := q
  refine ⟨B, as, M, env, S, rr, post_bind q fun d M1 as1 H1 v _ g1 S1 ra q1 => ?_⟩
  cases d with
  | int i =>
    cases ra
    exact ⟨i, rfl, q1 as1 H1 (some i) Go.refl S1 rfl⟩
  | _ => exact q1.elim)⟩
theorem s_slc {m : Bool} {a : E} {lo hi : O} {l h : Option Expr} {p2 : Pos} (ha : PE X x (tE X cv W Φ a)) (hl : PO X l (tO X cv W Φ lo)) (hh : PO X h (tO X cv W Φ hi)) : PE X (.Subscript x (.Slice l h none p2) pos) (tE X cv W Φ (.slc m a lo hi)) :=
  ⟨fun pins s σ H Q I q => (pe_slice (sl_slc (E := exW W cv σ) m) ha hl hh).run pins s σ H Q I (by
    obtain ⟨B, as, M, env, S, rr, q⟩ := q
    refine ⟨B, as, M, env, S, rr, post_bind q fun d M1 as1 H1 v _ g1 S1 ra q1 => ?_⟩
    refine ⟨B, as1, M1, env, S1, rr.go S g1, post_bind q1 fun i M2 as2 H2 i' _ g2 S2 ri q2 => ?_⟩
    refine ⟨B, as2, M2, env, S2, (rr.go S g1).go S1 g2, post_bind q2 fun j M3 as3 H3 j' _ g3 S3 rj q3 => ?_⟩
    cases ri; cases rj
    exact ⟨B, as3, M3, d, S3, g3.rp S2 (g2.rp S1 ra), q3⟩)⟩
/-! calls -/
theorem sim_none {K : PySem.W.Frag} {H : Hp} {B : Addr → Prop} (h : ∀ a, B a → H a ≠ none) : Sim K H B [] [] := ⟨rfl, List.nodup_nil, h, fun _ z => (by cases z), fun i a c h1 => (by simp at h1)⟩
theorem av_none {B : Addr → Prop} {a : Addr} (h : ¬ B a) : ¬ Av B [] [] a := fun z => z.elim h fun ⟨i, d, h1, _⟩ => by simp at h1
theorem go_none {K : PySem.W.Frag} {H H' : Hp} {B : Addr → Prop} {as as' : List Addr} {M M' : List Cell} (S : Sim K H B as M) (g : Go [] [] H as' M' H') : Go as M H as M H' ∧ Sim K H' B as M := by
  have k : ∀ a o, H a = some o → H' a = some o := fun a o e => g.keep a o e fun ⟨i, d, h1, _⟩ => by simp at h1
  have g1 : Go as M H as M H' := ⟨List.prefix_rfl, fun a o e _ => k a o e, fun _ _ h => h, g.dom, fun i a h1 h2 => by rw [List.getElem?_eq_none h1] at h2; cases h2⟩
  exact ⟨g1, S.stay g1 k⟩
/-! a call's own places -/
section
variable {K : PySem.W.Frag} {H H' : Hp} {B : Addr → Prop} {as as' : List Addr} {M M1 : List Cell}
theorem fresh_ne (g : Go [] [] H as' M1 H') {i : Nat} {a : Addr} (e : as'[i]? = some a) : H a = none := g.new i a (Nat.zero_le _) e
/-- what is made of new places alone keeps clear of all that was -/
theorem fresh_rp (S' : Sim K H' B as' M1) (g : Go [] [] H as' M1 H') : ∀ (n k : Nat) (d d' : D) (v : V), freshF n M1 d = true → immF k M1 d = some d' → Rp K H' (Av B as' M1) as' d v → Rp K H' (fun a => H a ≠ none) [] d' v := fun n => by
  have flat : ∀ (k : Nat) (d d' : D) (v : V), isFlat d = true → immF k M1 d = some d' → Rp K H' (Av B as' M1) as' d v → Rp K H' (fun a => H a ≠ none) [] d' v := fun k d d' v hf hi r => by
    have e := immF_rp S' k d d' v hi r.weak
    have e2 : d' = d := by
      have := immF_of (n := k) (M := M1) (isFlat_imm d hf)
      rw [this] at hi
      cases hi
      rfl
    subst e2
    exact isFlat_rp d' v hf e
  have refs : ∀ (m : Nat), (∀ (k : Nat) (d d' : D) (v : V), freshF m M1 d = true → immF k M1 d = some d' → Rp K H' (Av B as' M1) as' d v → Rp K H' (fun a => H a ≠ none) [] d' v) →
      ∀ (k i : Nat) (d' : D) (v : V), freshF (m + 1) M1 (.ref i) = true → immF k M1 (.ref i) = some d' → Rp K H' (Av B as' M1) as' (.ref i) v → Rp K H' (fun a => H a ≠ none) [] d' v := fun m ih k i d' v hf hi r => by
    obtain ⟨a, e, rfl⟩ := r
    have ha := fresh_ne g e
    unfold freshF at hf
    split at hf
    · rename_i b xs hc
      have q := S'.cell i a _ e hc
      cases k with
      | zero => cases hi
      | succ k =>
        have hi2 : immF k M1 (.lst xs) = some d' := by
          have : mapRef (fun i => match M1[i]? with
            | some ⟨_, .non⟩ => none
            | some c => immF k M1 c.d
            | none => none) (.ref i) = some d' := hi
          rw [mapRef, hc] at this
          exact this
        -- the elements
        have key : ∀ (ys : List D) (vs : List V) (zs : List D) (f : D → Option D), (∀ y y', f y = some y' → immF k M1 y = some y' ∨ (∃ k', immF k' M1 y = some y')) → ys.all (freshF m M1) = true → Rps K H' (Av B as' M1) as' ys vs → (∀ y ∈ ys, True) → True := fun _ _ _ _ _ _ _ _ => trivial
        obtain ⟨vs, hv, rs⟩ : ∃ vs, H' a = some (.lst vs) ∧ Rps K H' (Av B as' M1) as' xs vs := by
          cases b with
          | true =>
            obtain ⟨vs, h1, h2⟩ := q
            exact ⟨vs, h1, h2⟩
          | false =>
            obtain ⟨a', vs, h0, h1, _, h2⟩ := q
            cases h0
            exact ⟨vs, h1, h2⟩
        have each : ∀ (j : Nat) (ys zs : List D) (vs : List V), (∀ y z w, freshF m M1 y = true → immF j M1 y = some z → Rp K H' (Av B as' M1) as' y w → Rp K H' (fun a => H a ≠ none) [] z w) → ys.all (freshF m M1) = true →
            mapRefs (fun i => match M1[i]? with
              | some ⟨_, .non⟩ => none
              | some c => immF (j - 1) M1 c.d
              | none => none) ys = some zs → j ≠ 0 → Rps K H' (Av B as' M1) as' ys vs → Rps K H' (fun a => H a ≠ none) [] zs vs := fun j ys => by
          induction ys with
          | nil =>
            intro zs vs _ _ hz _ r
            cases hz
            exact r
          | cons y ys ihy =>
            intro zs vs hy ha2 hz hj r
            rw [List.all_cons, Bool.and_eq_true] at ha2
            obtain ⟨w, ws, e1, r1, r2⟩ := r
            obtain ⟨j, rfl⟩ : ∃ j', j = j' + 1 := ⟨j - 1, by omega⟩
            rw [mapRefs] at hz
            cases q1 : mapRef (fun i => match M1[i]? with
              | some ⟨_, .non⟩ => none
              | some c => immF (j + 1 - 1) M1 c.d
              | none => none) y with
            | none => rw [q1] at hz; cases hz
            | some z1 =>
              rw [q1] at hz
              cases q2 : mapRefs (fun i => match M1[i]? with
                | some ⟨_, .non⟩ => none
                | some c => immF (j + 1 - 1) M1 c.d
                | none => none) ys with
              | none => rw [q2] at hz; cases hz
              | some z2 =>
                rw [q2] at hz
                cases hz
                exact ⟨w, ws, e1, hy y z1 w ha2.1 q1 r1, ihy z2 ws hy ha2.2 q2 hj r2⟩
        cases k with
        | zero =>
          unfold immF at hi2
          split at hi2
          · rename_i hi3
            cases hi2
            refine ⟨a, vs, rfl, hv, fun z => z ha, ?_⟩
            rw [isImm] at hi3
            -- trees alone, fresh: flat
            have fl : ∀ (ys : List D) (vs : List V), isImms ys = true → ys.all (freshF m M1) = true → Rps K H' (Av B as' M1) as' ys vs → Rps K H' (fun a => H a ≠ none) [] ys vs := fun ys => by
              induction ys with
              | nil => exact fun vs _ _ r => r
              | cons y ys ihy =>
                intro vs h1 h2 r
                rw [isImms, Bool.and_eq_true] at h1
                rw [List.all_cons, Bool.and_eq_true] at h2
                obtain ⟨w, ws, e1, r1, r2⟩ := r
                exact ⟨w, ws, e1, ih 0 y y w h2.1 (immF_of h1.1) r1, ihy ws h1.2 h2.2 r2⟩
            exact fl xs vs hi3 hf rs
          · cases hi2
        | succ k =>
          have hi3 : (mapRefs (fun i => match M1[i]? with
            | some ⟨_, .non⟩ => none
            | some c => immF k M1 c.d
            | none => none) xs).map D.lst = some d' := hi2
          cases q1 : mapRefs (fun i => match M1[i]? with
            | some ⟨_, .non⟩ => none
            | some c => immF k M1 c.d
            | none => none) xs with
          | none => rw [q1] at hi3; cases hi3
          | some zs =>
            rw [q1] at hi3
            cases hi3
            exact ⟨a, vs, rfl, hv, fun z => z ha, each (k + 1) xs zs vs (fun y z w h1 h2 h3 => ih (k + 1) y z w h1 h2 h3) hf q1 (by omega) rs⟩
    · cases hf
  have tups : ∀ (m : Nat), (∀ (k : Nat) (d d' : D) (v : V), freshF m M1 d = true → immF k M1 d = some d' → Rp K H' (Av B as' M1) as' d v → Rp K H' (fun a => H a ≠ none) [] d' v) →
      ∀ (k : Nat) (xs : List D) (d' : D) (v : V), xs.all (freshF m M1) = true → immF k M1 (.tup xs) = some d' → Rp K H' (Av B as' M1) as' (.tup xs) v → Rp K H' (fun a => H a ≠ none) [] d' v := fun m ih k xs d' v hf hi r => by
    obtain ⟨a, vs, e, s, rs⟩ := r
    cases k with
    | zero =>
      unfold immF at hi
      split at hi
      · rename_i hi3
        cases hi
        rw [isImm] at hi3
        refine ⟨a, vs, e, s, ?_⟩
        clear s e
        revert vs
        induction xs with
        | nil => exact fun vs r => r
        | cons y ys ihy =>
          intro vs r
          rw [isImms, Bool.and_eq_true] at hi3
          rw [List.all_cons, Bool.and_eq_true] at hf
          obtain ⟨w, ws, e1, r1, r2⟩ := r
          exact ⟨w, ws, e1, ih 0 y y w hf.1 (immF_of hi3.1) r1, ihy hf.2 hi3.2 ws r2⟩
      · cases hi
    | succ k =>
      have hi3 : (mapRefs (fun i => match M1[i]? with
        | some ⟨_, .non⟩ => none
        | some c => immF k M1 c.d
        | none => none) xs).map D.tup = some d' := hi
      cases q1 : mapRefs (fun i => match M1[i]? with
        | some ⟨_, .non⟩ => none
        | some c => immF k M1 c.d
        | none => none) xs with
      | none => rw [q1] at hi3; cases hi3
      | some zs =>
        rw [q1] at hi3
        cases hi3
        refine ⟨a, vs, e, s, ?_⟩
        clear s e hi
        revert vs zs
        induction xs with
        | nil =>
          intro vs r zs hz
          cases hz
          exact r
        | cons y ys ihy =>
          intro vs r zs hz
          rw [List.all_cons, Bool.and_eq_true] at hf
          obtain ⟨w, ws, e1, r1, r2⟩ := r
          rw [mapRefs] at hz
          cases q1 : mapRef (fun i => match M1[i]? with
            | some ⟨_, .non⟩ => none
            | some c => immF k M1 c.d
            | none => none) y with
          | none => rw [q1] at hz; cases hz
          | some z1 =>
            rw [q1] at hz
            cases q2 : mapRefs (fun i => match M1[i]? with
              | some ⟨_, .non⟩ => none
              | some c => immF k M1 c.d
              | none => none) ys with
            | none => rw [q2] at hz; cases hz
            | some z2 =>
              rw [q2] at hz
              cases hz
              exact ⟨w, ws, e1, ih (k + 1) y z1 w hf.1 q1 r1, ihy hf.2 ws r2 z2 q2⟩
  induction n with
  | zero =>
    intro k d d' v hf hi r
    exact flat k d d' v (by cases d <;> exact hf) hi r
  | succ m ih =>
    intro k d d' v hf hi r
    cases d with
    | ref i => exact refs m ih k i d' v hf hi r
    | tup xs => exact tups m ih k xs d' v hf hi r
    | _ => exact flat k _ d' v hf hi r
end
section
variable {K : PySem.W.Frag} {H H' : Hp} {B : Addr → Prop} {as as' : List Addr} {M M1 : List Cell}
mutual
theorem sh_rp {C C' : Addr → Prop} : (d : D) → (v : V) → isFr d = true → Rp K H' C as' d v → Rp K H' C' (as ++ as') (shD as.length d) v
  | .ref i, v, _, r => by
    obtain ⟨a, e, q⟩ := r
    refine ⟨a, ?_, q⟩
    rw [List.getElem?_append_right (Nat.le_add_right _ _), Nat.add_sub_cancel_left]
    exact e
  | .tup xs, v, hf, r => by
    rw [isFr] at hf
    obtain ⟨a, vs, e1, s, r⟩ := r
    rw [shD]
    exact ⟨a, vs, e1, s, sh_rps xs vs hf r⟩
  | .ktp xs, v, hf, r => by
    rw [isFr] at hf
    obtain ⟨a, vs, e1, s, r⟩ := r
    rw [shD]
    exact ⟨a, vs, e1, s, sh_rps xs vs hf r⟩
  | .non, _, _, h => h
  | .bl _, _, _, h => h
  | .int _, _, _, h => h
  | .str _, _, _, h => h
  | .lst _, _, h, _ => by rw [isFr] at h; cases h
  | .fro _, _, h, _ => by rw [isFr] at h; cases h
  | .dct _ _ _, _, h, _ => by rw [isFr] at h; cases h
  | .exo _, _, h, _ => by rw [isFr] at h; cases h
theorem sh_rps {C C' : Addr → Prop} : (ds : List D) → (vs : List V) → isFrs ds = true → Rps K H' C as' ds vs → Rps K H' C' (as ++ as') (shDs as.length ds) vs
  | [], _, _, r => r
  | d :: ds, _, h, r => by
    rw [isFrs, Bool.and_eq_true] at h
    obtain ⟨w, ws, e, r1, r2⟩ := r
    rw [shDs]
    exact ⟨w, ws, e, sh_rp d w h.1 r1, sh_rps ds ws h.2 r2⟩
end
theorem imp_go (S : Sim K H B as M) (S' : Sim K H' B as' M1) (g : Go [] [] H as' M1 H') : Go as M H (as ++ as') (M ++ M1.map (shC as.length)) H' := by
  have k : ∀ a o, H a = some o → H' a = some o := fun a o e => g.keep a o e fun ⟨i, d, h1, _⟩ => by simp at h1
  refine ⟨List.prefix_append _ _, fun a o e _ => k a o e, fun a h l => ?_, g.dom, fun i a h1 h2 => ?_⟩
  · obtain ⟨i, d, h1, h2⟩ := l
    by_cases hi : i < as.length
    · rw [List.getElem?_append_left hi] at h1
      rw [List.getElem?_append_left (by rw [← S.len]; exact hi)] at h2
      exact ⟨i, d, h1, h2⟩
    · rw [List.getElem?_append_right (by omega)] at h1
      exact absurd (fresh_ne g h1) h
  · rw [List.getElem?_append_right h1] at h2
    exact fresh_ne g h2
theorem imp_sim (S : Sim K H B as M) (S' : Sim K H' B as' M1) (g : Go [] [] H as' M1 H') : Sim K H' B (as ++ as') (M ++ M1.map (shC as.length)) := by
  have k : ∀ a o, H a = some o → H' a = some o := fun a o e => g.keep a o e fun ⟨i, d, h1, _⟩ => by simp at h1
  have G := imp_go S S' g
  have nd : (as ++ as').Nodup := by
    rw [List.nodup_append]
    refine ⟨S.nd, S'.nd, fun a ha b hb e => ?_⟩
    subst e
    obtain ⟨i, hi⟩ := List.getElem?_of_mem hb
    exact S.dom ha (fresh_ne g hi)
  refine ⟨?_, nd, fun a h => g.dom a (S.b0 a h), fun a h => ?_, fun i a c h1 h2 => ?_⟩
  · rw [List.length_append, List.length_append, List.length_map, S.len, S'.len]
  · rcases List.mem_append.mp h with h | h
    · exact S.dj a h
    · exact S'.dj a h
  · by_cases hi : i < as.length
    · rw [List.getElem?_append_left hi] at h1
      rw [List.getElem?_append_left (by rw [← S.len]; exact hi)] at h2
      exact (S.cell i a c h1 h2).go S G fun _ o e => k a o e
    · have h1' := h1
      rw [List.getElem?_append_right (by omega)] at h1
      rw [List.getElem?_append_right (by rw [← S.len]; omega), List.getElem?_map] at h2
      have hl : i - M.length = i - as.length := by rw [S.len]
      rw [hl] at h2
      cases e : M1[i - as.length]? with
      | none => rw [e] at h2; cases h2
      | some c0 =>
        rw [e] at h2
        have e2 : shC as.length c0 = c := Option.some.inj h2
        have q := S'.cell (i - as.length) a c0 h1 e
        have dead : Cp K H' (Av B (as ++ as') (M ++ M1.map (shC as.length))) (as ++ as') a ⟨false, .non⟩ := q.ne
        obtain ⟨m, d⟩ := c0
        subst e2
        cases d <;> try exact dead
        case dct t ks xs =>
          have nl : m = false → ¬ Av B as' M1 a → ¬ Av B (as ++ as') (M ++ M1.map (shC as.length)) a := fun hm h5 z => by
            rcases z with z | ⟨j, e3, z1, z2⟩
            · exact h5 (.inl z)
            · have hij : i = j := by
                have hlt : i < (as ++ as').length := (List.getElem?_eq_some_iff.mp h1').1
                exact (List.getElem?_inj hlt nd).mp (by rw [h1', z1])
              subst hij
              rw [List.getElem?_append_right (by rw [← S.len]; omega), List.getElem?_map, hl, e] at z2
              have z3 : shC as.length ⟨m, .dct t ks xs⟩ = ⟨true, e3⟩ := Option.some.inj z2
              subst hm
              have z4 : (if (isFlats ks && isFrs xs) = true then (⟨false, .dct t ks (shDs as.length xs)⟩ : Cell) else ⟨false, .non⟩) = ⟨true, e3⟩ := z3
              split at z4 <;> cases z4
          by_cases hf : (isFlats ks && isFrs xs) = true
          · have es : shC as.length ⟨m, .dct t ks xs⟩ = ⟨m, .dct t ks (shDs as.length xs)⟩ := if_pos hf
            rw [es]
            rw [Bool.and_eq_true] at hf
            cases m <;> cases t
            · obtain ⟨o, kvs, h3, h5, h6, h4⟩ := q
              exact ⟨o, kvs, h3, nl rfl h5, h6, sh_rps _ _ hf.2 h4⟩
            · obtain ⟨o, kvs, h3, h5, h6, h4⟩ := q
              exact ⟨o, kvs, h3, nl rfl h5, h6, sh_rps _ _ hf.2 h4⟩
            · obtain ⟨kvs, h3, h6, h4⟩ := q
              exact ⟨kvs, h3, h6, sh_rps _ _ hf.2 h4⟩
            · obtain ⟨kvs, h3, h6, h4⟩ := q
              exact ⟨kvs, h3, h6, sh_rps _ _ hf.2 h4⟩
          · have es : shC as.length ⟨m, .dct t ks xs⟩ = ⟨false, .non⟩ := if_neg hf
            rw [es]
            exact dead
        rename_i xs
        by_cases hf : isFrs xs = true
        · have es : ∀ m, shC as.length ⟨m, .lst xs⟩ = ⟨m, .lst (shDs as.length xs)⟩ := fun m => if_pos hf
          rw [es]
          cases m with
          | true =>
            obtain ⟨vs, h3, h4⟩ := q
            exact ⟨vs, h3, sh_rps _ _ hf h4⟩
          | false =>
            obtain ⟨b, vs, h0, h3, h5, h4⟩ := q
            cases h0
            refine ⟨a, vs, rfl, h3, fun z => ?_, sh_rps _ _ hf h4⟩
            rcases z with z | ⟨j, e3, z1, z2⟩
            · exact h5 (.inl z)
            · have hij : i = j := by
                have hlt : i < (as ++ as').length := (List.getElem?_eq_some_iff.mp h1').1
                exact (List.getElem?_inj hlt nd).mp (by rw [h1', z1])
              subst hij
              rw [List.getElem?_append_right (by rw [← S.len]; omega), List.getElem?_map, hl, e] at z2
              have z3 : shC as.length ⟨false, .lst xs⟩ = ⟨true, e3⟩ := Option.some.inj z2
              rw [es] at z3
              cases z3
        · have es : shC as.length ⟨m, .lst xs⟩ = ⟨false, .non⟩ := if_neg hf
          rw [es]
          exact dead
end
theorem call_post {K : PySem.W.Frag} {H : Hp} {B : Addr → Prop} {as : List Addr} {M : List Cell} {E : Nat → Hp → Prop} {Q : VK} {f mode n : Nat} {ds : List D} {vs : List V} {E' : XK}
    (S : Sim K H B as M) (rs : Rps K H (Av B as M) as ds vs) (hn : ∀ ds M, ds.length ≠ n → Φ f ds M = .bad) (hE : ∀ k H', E k H' → E' (cv k) none H') (q : PostD K H B as M E (callD Φ f mode ds M) Q) :
    spD K cv (Φ f) n vs H Q E' := by
  have len : ∀ {es : List D} {N : List Cell}, es.length = ds.length → Φ f es N ≠ .bad → vs.length = n := fun {es N} e h => by
    rw [rs.len, ← e]
    exact Classical.byContradiction fun z => h (hn es N z)
  unfold callD at q
  split at q
  · split at q
    · rename_i hi
      refine ⟨len (es := ds) (N := []) rfl fun z => by rw [z] at q; exact q, Av B as M, [], [], ds, sim_none fun a z => z.elim (S.b0 a) fun l => S.dom l.mem, isImms_rp (fun a z => av_none z) hi rs, ?_⟩
      cases e : Φ f ds [] with
      | ok d M1 =>
        rw [e] at q
        intro as' H' v g S' r
        dsimp only at q
        split at q
        · rename_i d' e2
          obtain ⟨g1, S1⟩ := go_none S g
          refine q as H' v g1 S1 ?_
          exact Rp.mono (List.nil_prefix) (fun _ _ z => z) (fun _ _ z => z) (fun a u z w => ⟨z, w⟩) (fun _ _ _ z => z) d' v (imm_rp S' e2 r)
        · exact q.elim
      | exc k M1 =>
        rw [e] at q
        intro as' H' g S'
        obtain ⟨g1, S1⟩ := go_none S g
        exact hE _ _ (q as H' g1 S1)
      | bad => rw [e] at q; exact q.elim
    · exact q.elim
  · split at q
    · rename_i es e1
      have hl : es.length = ds.length := by
        have h1 := (imms_rp S e1 rs).len
        rw [← h1, rs.len]
      refine ⟨len (es := es) (N := []) hl fun z => by rw [z] at q; exact q, B, [], [], es, sim_none S.b0, Rps.mono List.prefix_rfl (fun _ _ z => z) (fun _ _ z => z) (fun a u z w => ⟨z, av_none w⟩) (fun _ _ _ z => z) es vs (imms_rp S e1 rs), ?_⟩
      cases e : Φ f es [] with
      | ok d M1 =>
        rw [e] at q
        intro as' H' v g S' r
        dsimp only at q
        split at q
        · rename_i d' e2
          split at q
          · rename_i e3
            obtain ⟨g1, S1⟩ := go_none S g
            refine q as H' v g1 S1 ?_
            rcases (Bool.or_eq_true _ _).mp e3 with e3 | e3
            · exact isFlat_rp d' v e3 (imm_rp S' e2 r)
            · have r2 := fresh_rp S' g 8 M1.length d d' v e3 e2 r
              exact Rp.mono List.nil_prefix (fun _ _ z => z) (fun _ _ z => z) (fun a u z w => ⟨z, fun n => w (n.elim (S.b0 a) fun l => S.dom l.mem)⟩) (fun _ _ _ z => z) d' v r2
          · exact q.elim
        · exact q.elim
      | exc k M1 =>
        rw [e] at q
        intro as' H' g S'
        obtain ⟨g1, S1⟩ := go_none S g
        exact hE _ _ (q as H' g1 S1)
      | bad => rw [e] at q; exact q.elim
    · exact q.elim
  · split at q
    · rename_i es e1
      have hl : es.length = ds.length := by
        have h1 := (imms_rp S e1 rs).len
        rw [← h1, rs.len]
      refine ⟨len (es := es) (N := []) hl fun z => by rw [z] at q; exact q, B, [], [], es, sim_none S.b0, Rps.mono List.prefix_rfl (fun _ _ z => z) (fun _ _ z => z) (fun a u z w => ⟨z, av_none w⟩) (fun _ _ _ z => z) es vs (imms_rp S e1 rs), ?_⟩
      cases e : Φ f es [] with
      | ok d M1 =>
        rw [e] at q
        intro as' H' v g S' r
        dsimp only at q
        split at q
        · rename_i e2
          rw [← S.len] at q
          exact q (as ++ as') H' v (imp_go S S' g) (imp_sim S S' g) (sh_rp _ _ e2 r)
        · exact q.elim
      | exc k M1 =>
        rw [e] at q
        intro as' H' g S'
        obtain ⟨g1, S1⟩ := go_none S g
        exact hE _ _ (q as H' g1 S1)
      | bad => rw [e] at q; exact q.elim
    · exact q.elim
  · refine ⟨len (es := ds) (N := M) rfl fun z => by rw [z] at q; exact q, B, as, M, ds, S, rs, ?_⟩
    cases e : Φ f ds M with
    | ok d M1 => rw [e] at q; exact q
    | exc k M1 => rw [e] at q; exact fun as' H' g S' => hE _ _ (q as' H' g S')
    | bad => rw [e] at q; exact q.elim
theorem stars {env : Env} : ∀ (xs : List Expr), (∀ x ∈ xs, shp x = true) → (backTo pos (starEach xs env)).any (·.1) = false
  | [], _ => rfl
  | x :: xs, h => by
    rw [shp_star (h x List.mem_cons_self)]
    show (false || (backTo pos (starEach xs env)).any (·.1)) = false
    rw [stars xs fun y hy => h y (List.mem_cons_of_mem _ hy)]; rfl
theorem okEs_shp : ∀ (es : Es) (c : Ctx) (xs : List Expr), okEs es c xs = true → ∀ x ∈ xs, shp x = true
  | .nil, c, xs, h, x, hx => by
    unfold okEs at h
    cases xs with
    | nil => cases hx
    | cons _ _ => cases h
  | .cons e es, c, xs, h, x, hx => by
    unfold okEs at h
    cases xs with
    | nil => cases h
    | cons y ys =>
      simp only [Bool.and_eq_true] at h
      rcases List.mem_cons.mp hx with rfl | hx
      · exact okE_shp e c _ h.1
      · exact okEs_shp es c ys h.2 x hx
theorem spD_dfl {K : PySem.W.Frag} {G F : List D → List Cell → R D} {n : Nat} {dds : List D} {dvs vs : List V} {H : Hp} {Q : VK} {E : XK} (hG : ∀ ds M, G ds M = F (ds ++ dds) M) (hr : ∀ H B as, Rps K H B as dds dvs) (h : spD K cv G n vs H Q E) : spD K cv F (n + dds.length) (vs ++ dvs) H Q E := by
  obtain ⟨hl, B, as, M, ds, S, rs, q⟩ := h
  exact ⟨by rw [List.length_append, hl, (hr H B as).len], B, as, M, ds ++ dds, S, rs.append (hr _ _ _), by rw [← hG]; exact q⟩
theorem s_call {f mode : Nat} {es : Es} {n : Str} {p : Expr} {ps : List Expr} {p0 : Pos} (h : XH c Φ cv X W) (hcool : c.hot = false) (h1 : c.nm f = some n) (h2 : glOk c.sc n = true) (h3 : plainN n = true) (hs : ∀ y ∈ p :: ps, shp y = true)
    (ha : PA X (p :: ps) (tEs X cv W Φ es)) : PE X (.Call (.Name n p0) (p :: ps) [] pos) (tE X cv W Φ (.call f mode es)) := by
  obtain ⟨fa, fd, qs, dvs, dss, dds, F, n', g1, g2, g3, gv, gr, gn, g4, gF, g5⟩ := h.fns f n h1
  refine PE.imp (pe_callSD g5 ⟨h.hd hcool, h.room.dp, h.room.un⟩ (gl_of h h2) g1 g2 g3 gv (E := WE W) (fun σ => L2N.passAt h.tk σ) ha (plain_of h3).1 (shp_star (hs p List.mem_cons_self)) (stars ps fun y hy => hs y (List.mem_cons_of_mem _ hy))) fun σ H Q q => ?_
  obtain ⟨B, as, M, env, S, rr, q⟩ := q
  refine ⟨B, as, M, env, S, rr, post_bind q fun ds M1 as1 H1 vs _ g S1 rs q1 => ?_⟩
  rw [gn]
  exact spD_dfl gF gr (call_post S1 rs g4 (fun k H' z => z) q1)
/-- a built-in function stands by its name -/
theorem bi_boot (f : Bi) : bootBuiltins (biN f : Str) = some (biV f) := by cases f <;> first | decide +kernel | (rename_i m; cases m <;> decide +kernel)
theorem bi_name (f : Bi) : (biN f : Str) ≠ "__name__" ∧ ((biN f : Str) == ("__debug__" : Str)) = false := by cases f <;> first | decide +kernel | (rename_i m; cases m <;> decide +kernel)
theorem bi_mem (f : Bi) : biN f ∈ builtins := by cases f <;> first | decide | (rename_i m; cases m <;> decide)
theorem s_bi {f : Bi} {es : Es} {p : Expr} {ps : List Expr} {p0 : Pos} (h : XH c Φ cv X W) (hcool : coolBi f = false → c.hot = false) (h2 : glOk c.sc (biN f : Str) = true) (hs : ∀ y ∈ p :: ps, shp y = true)
    (ha : PA X (p :: ps) (tEs X cv W Φ es)) : PE X (.Call (.Name (biN f : Str) p0) (p :: ps) [] pos) (tE X cv W Φ (.bi f es)) := by
  have hm := h.bi _ (bi_mem f)
  have hv := bi_boot f
  have hn := bi_name f
  have s1 := shp_star (env := X.env) (xs := ps) (hs p List.mem_cons_self)
  have s2 := stars (pos := pos) (env := X.env) ps fun y hy => hs y (List.mem_cons_of_mem _ hy)
  have fin : ∀ σ H Q, tE X cv W Φ (.bi f es) σ H Q → tCB (rOpN X.K (exW W cv σ) (bi f)) (tEs X cv W Φ es) σ H Q := fun σ H Q q => by
    obtain ⟨B, as, M, env, S, rr, q⟩ := q
    refine ⟨B, as, M, env, S, rr, post_bind q fun ds M1 as1 H1 vs _ g S1 rs q1 => ?_⟩
    exact ⟨B, as1, M1, ds, S1, rs, q1⟩
  have tyc : (∃ T, biV f = .type T) ∨ ∃ id, biV f = .builtin id := by cases f <;> first | exact .inl ⟨_, rfl⟩ | exact .inr ⟨_, rfl⟩
  refine ⟨fun pins s σ H Q I q => ?_⟩
  have hc := call_bi (X := X) (E := exW W cv σ) f fun e => h.calm (hcool e)
  rcases tyc with ⟨T, e⟩ | ⟨id, e⟩
  · rw [e] at hc hv
    exact (pe_callTy hc (gl_of h h2) hm hv ha hn.1 hn.2 s1 s2).run pins s σ H Q I (fin σ H Q q)
  · rw [e] at hc hv
    exact (pe_callB hc (gl_of h h2) hm hv ha hn.1 hn.2 s1 s2).run pins s σ H Q I (fin σ H Q q)
theorem ty_boot (t : Ty) : bootBuiltins (tyN t : Str) = some (.type (tyN t)) ∧ (tyN t : Str) ≠ "__name__" ∧ ((tyN t : Str) == ("__debug__" : Str)) = false := by cases t <;> decide +kernel
theorem ty_mem (t : Ty) : tyN t ∈ builtins := by cases t <;> decide
theorem s_isi {a : E} {t : Ty} {p0 p1 : Pos} (h : XH c Φ cv X W) (h2 : glOk c.sc ("isinstance" : Str) = true) (h3 : glOk c.sc (tyN t : Str) = true) (hx : shp x = true) (ha : PE X x (tE X cv W Φ a)) :
    PE X (.Call (.Name ("isinstance" : Str) p0) [x, .Name (tyN t : Str) p1] [] pos) (tE X cv W Φ (.isi a t)) := by
  obtain ⟨b1, b2, b3⟩ := ty_boot t
  have ht : PE X (.Name (tyN t : Str) p1) (L2.tC (.ty (tyN t))) := pe_bltn (gl_of h h3) (h.bi _ (ty_mem t)) b1 rfl b2 b3
  refine PE.imp (pe_callB (call_isiD t) (gl_of h h2) (h.bi "isinstance" (by decide)) PyProof.Rows.boot_isinstance (pa_cons ha (pa_cons ht pa_nil) (shp_star hx)) (by decide) (by decide) (shp_star hx) rfl) fun σ H Q q => ?_
  obtain ⟨B, as, M, env, S, rr, q⟩ := q
  refine ⟨B, as, M, env, S, rr, post_bind q fun d M1 as1 H1 v _ g S1 ra q1 => ?_⟩
  split at q1
  · rename_i k e
    exact ⟨v, B, as1, M1, d, k, rfl, S1, ra, e, q1 as1 H1 _ Go.refl S1 rfl⟩
  · exact q1.elim
theorem s_xis {i k : Nat} {vn m : Str} {p0 p1 p2 : Pos} (h : XH c Φ cv X W) (hot : c.hot = true) (h2 : glOk c.sc ("isinstance" : Str) = true) (h3 : c.N[i]? = some vn) (h4 : visOk c.sc vn = true) (h5 : plainN vn = true) (h6 : c.xk k = some m) (h7 : glOk c.sc m = true) (h8 : plainN m = true) :
    PE X (.Call (.Name ("isinstance" : Str) p0) [.Name vn p1, .Name m p2] [] pos) (tE X cv W Φ (.xis i k)) := by
  obtain ⟨v, u, rv, ru, nm, hΦ⟩ := h.xis hot k m h6
  obtain ⟨n1, n2, _⟩ := plain_of h5
  have hv := pe_var (X := X) (i := i) (pos := p1) (by rw [h.N]; exact h3) (vis_of h h4) n1 n2
  have ht : PE X (.Name m p2) (L2.tC v) := by
    have g1 := gl_of h h7
    have g2 := (plain_of h8).1
    rcases nm with g | ⟨g, g4, g5⟩
    · exact pe_glob g1 g rv g2
    · exact pe_bltn g1 g g4 rv g5 g2
  refine ⟨fun pins s σ H Q I q => ?_⟩
  obtain ⟨B, as, M, env, S, r, q⟩ := q
  have q : PostG X.K H B as M (exW W cv σ) (relD X.K B) (match env[i]? with
    | some (some (.exo a)) => Φ 0 [.exo a, .int k] M
    | _ => .bad) Q := q
  split at q
  · rename_i a e
    obtain ⟨w, e1, e2⟩ := r.get i _ e
    have e2 : w = .ref a := e2
    subst e2
    rcases hΦ a M with z | ⟨p, D, b, z1, z2, z3, z4, z5, z6, z7⟩
    · rw [z] at q
      exact q.elim
    · rw [z7] at q
      refine (pe_callB (SgH.call_isP z1 z3 z4 z5) (gl_of h h2) (h.bi "isinstance" (by decide)) PyProof.Rows.boot_isinstance (pa_cons hv (pa_cons ht pa_nil)) (by decide) (by decide)).run pins s σ H Q I ?_
      exact ⟨_, e1, v, u, b, by rw [z2], ru, z6, q as H _ Go.refl S rfl⟩
  · exact q.elim
end
end
end Sg

/-! SgSound3: methods, what is walked, targets, comprehensions. -/
namespace Sg
noncomputable section
open PySem PySem.Spec PyProof.Rows L2
section
variable {X : Cx} {cv : Nat → Value} {W : WX} {Φ : Phi} {c : Ctx} {x y z tg : Expr} {pos : Pos}
/-! ### methods -/
theorem mt_facts (f : Mt) : Slot "list" (mtA f : Str) (mtN f) ∧ typeOf (.builtin (mtN f)) = pure (.type "method_descriptor") := by
  cases f
  · exact ⟨PySem.F.slot_list_append, PySem.F.type_list_append⟩
  · exact ⟨PySem.F.slot_list_extend, PySem.F.type_list_extend⟩
  · exact ⟨PySem.F.slot_list_pop, PySem.F.type_list_pop⟩
  · exact ⟨PySem.F.slot_list_pop, PySem.F.type_list_pop⟩
  · exact ⟨PySem.F.slot_list_clear, PySem.F.type_list_clear⟩
  · exact ⟨PySem.F.slot_list_reverse, PySem.F.type_list_reverse⟩
  · exact ⟨PySem.F.slot_list_insert, PySem.F.type_list_insert⟩
theorem few : ∀ (xs : List Expr) (env : Env), (∀ x ∈ xs, shp x = true) → (backTo pos (starEach xs env)).all (fun x => !x.1) = true
  | [], _, _ => rfl
  | x :: xs, env, h => by
    rw [shp_star (h x List.mem_cons_self)]
    show (!false && (backTo pos (starEach xs env)).all (fun x => !x.1)) = true
    rw [few xs env fun y hy => h y (List.mem_cons_of_mem _ hy)]; rfl
theorem s_meth {f : Mt} {a : E} {es : Es} {ps : List Expr} {apos : Pos} (hl : (apos.endLine == pos.line) = true) (ha : PE X x (tE X cv W Φ a)) (hx : shp x = true) (hs : ∀ y ∈ ps, shp y = true) (hn : ps.length < 20)
    (hes : PA X ps (tEs X cv W Φ es)) (hN : ∀ env M, ps = [] → evEs Φ es env M = .ok [] M) : PE X (.Call (.Attribute x (mtA f : Str) apos) ps [] pos) (tE X cv W Φ (.meth f a es)) := by
  obtain ⟨f1, f2⟩ := mt_facts f
  refine ⟨fun pins s σ H Q I q => ?_⟩
  have hm := mt_meth (X := X) (E := exW W cv σ) f
  have ty : ∀ {B : Addr → Prop} {as : List Addr} {M : List Cell} {H : Hp} {d : D} {v : V} {xs : List D}, Sim X.K H B as M → Rp X.K H (Av B as M) as d v → content M d = some xs → tyV X.K "list" v H := fun S r e => by
    obtain ⟨p, vs, rfl, h1, _⟩ := content_rp S r e
    exact .inl ⟨rfl, vs, .of h1⟩
  cases ps with
  | nil =>
    refine (pe_bm0 PySem.F.plainAttrs_list f1 f2 hm ha (shp_base hx) hl).run pins s σ H Q I ?_
    obtain ⟨B, as, M, env, S, r, q⟩ := q
    refine ⟨B, as, M, env, S, r, post_bind q fun d M1 as1 H1 v hq1 g1 S1 ra q1 => ?_⟩
    split at q1
    · rename_i xs e
      refine ⟨ty S1 ra e, B, as1, M1, d, [], S1, ra, rfl, ?_⟩
      rw [hN _ _ rfl] at q1
      exact q1
    · exact q1.elim
  | cons p qs =>
    have h1 := stars (pos := pos) (env := X.env) qs fun y hy => hs y (List.mem_cons_of_mem _ hy)
    have h2 := few (pos := pos) (p :: qs) X.env hs
    refine (pe_bm PySem.F.plainAttrs_list f1 f2 hm ha hes (shp_base hx) (by
      rw [h2]
      show (true && true && decide ((p :: qs).length + 0 + 0 < 30)) = true
      rw [decide_eq_true (by simp only [List.length_cons] at hn ⊢; omega)]; rfl) hl (shp_star (hs p List.mem_cons_self)) h1).run pins s σ H Q I ?_
    obtain ⟨B, as, M, env, S, r, q⟩ := q
    refine ⟨B, as, M, env, S, r, post_bind q fun d M1 as1 H1 v hq1 g1 S1 ra q1 => ?_⟩
    split at q1
    · rename_i xs e
      refine ⟨ty S1 ra e, B, as1, M1, env, S1, r.go S g1, post_bind q1 fun ds M2 as2 H2 vs hq2 g2 S2 rs q2 => ?_⟩
      exact ⟨B, as2, M2, d, ds, S2, g2.rp S1 ra, rs, q2⟩
    · exact q1.elim
/-! ### what is walked -/
/-- a list or a tuple -/
def iSeq (K : PySem.W.Frag) (tl : TE) : TI := fun σ H R => tl σ H fun x H1 => (∃ a, x = .ref a ∧ (∃ xs, SqL K H1 a xs) ∧ R (Itl K a) H1) ∨ ∃ a, x = .ref a ∧ (∃ xs, SqT K H1 a xs) ∧ R (Itt K a) H1
theorem pi_seq {l : Expr} {tl : TE} (hl : PE X l tl) : PI X tg l (iSeq X.K tl) := by
  refine ⟨fun pins s σ H R I h => ?_⟩
  refine thn (hl.run pins s σ H _ I h) fun v s1 ⟨x, H1, I1, r1, q1⟩ => ?_
  rcases q1 with ⟨a, e, ⟨xs, hq⟩, q⟩ | ⟨a, e, ⟨xs, hq⟩, q⟩
  · subst e
    cases r1
    obtain ⟨its, rv, p, hz⟩ := I1.list hq
    refine wpAny_pyIter_list p.isList ?_
    refine ⟨s1.heap.objs.size, [s1.heap.objs.size], _, _, H1, rfl, I1.kept (t' := s1.toks) fun b o e => Heap.get?_push_of_some _ e, turn_list a _, ⟨_, Heap.get?_push_size _ rfl, rfl, rfl⟩, fun b hb => ?_, q⟩
    have e : b = s1.heap.objs.size := by simpa using hb
    subst e
    exact I1.fpOk (Nat.le_refl _) (I1.hok.fresh (Nat.le_refl _))
  · subst e
    cases r1
    obtain ⟨its, rv, p, hz⟩ := I1.tuple hq
    refine wpAny_pyIter_tuple (show s1.heap.IsTuple a its.toArray from p) ?_
    refine ⟨s1.heap.objs.size, [s1.heap.objs.size], _, _, H1, rfl, I1.kept (t' := s1.toks) fun b o e => Heap.get?_push_of_some _ e, turn_tuple a _, ⟨_, Heap.get?_push_size _ rfl, rfl, rfl⟩, fun b hb => ?_, q⟩
    have e : b = s1.heap.objs.size := by simpa using hb
    subst e
    exact I1.fpOk (Nat.le_refl _) (I1.hok.fresh (Nat.le_refl _))
section
variable {K : PySem.W.Frag} {H : Hp} {B : Addr → Prop} {as : List Addr} {M : List Cell}
/-- a list that stays as it is, whatever comes -/
def Still (K : PySem.W.Frag) (as : List Addr) (M : List Cell) (H : Hp) (a : Addr) (vs : List V) : Prop := ∀ as' M' H', Go as M H as' M' H' → SqL K H' a vs
theorem Still.of {a : Addr} {vs : List V} (h : Rd H a (.lst vs)) (n : ¬ Live as M a) : Still K as M H a vs := fun _ _ _ g => .inl (g.rd h n)
/-- a list that is walked is written to no more -/
theorem stop_nl {d : D} {v : V} {xs : List D} (S : Sim K H B as M) (r : Rp K H (Av B as M) as d v) (h : listOf M d = some xs) : ∃ a vs, v = .ref a ∧ SqL K H a vs ∧ Rps K H (Av B as M) as xs vs ∧ Still K as (stop1 d M) H a vs := by
  cases d with
  | lst ys =>
    cases h
    obtain ⟨a, vs, e, s, n, q⟩ := r
    exact ⟨a, vs, e, .of s, q, .of (.inl s) fun l => n (.inr l)⟩
  | fro ys =>
    cases h
    obtain ⟨a, vs, e, s, q⟩ := r
    refine ⟨a, vs, e, s.sql, q, fun as' M' H' g => ?_⟩
    rcases s with ⟨o, s⟩ | s
    · exact .inl (.inr ⟨o, g.keep _ _ s (S.frzNL s)⟩)
    · exact .inr s
  | ref i =>
    obtain ⟨a, vs, e, s, q⟩ := content_rp S r (show content M (.ref i) = some xs from h)
    obtain ⟨b, e1, e2⟩ := r
    have : a = b := by rw [e] at e2; cases e2; rfl
    subst this
    refine ⟨a, vs, e, .of s, q, .of (.inl s) fun l => ?_⟩
    obtain ⟨m, hc⟩ := content_ref (show content M (.ref i) = some xs from h)
    obtain ⟨j, d, l1, l2⟩ := l
    have := nd_ix S l1 e1
    subst this
    unfold stop1 at l2
    dsimp only at l2
    rw [hc] at l2
    rcases set_get l2 with ⟨_, q, _⟩ | ⟨z, _⟩
    · cases q
    · exact z rfl
  | _ => cases h
end
theorem Go.rps2 {H H' : Hp} {B B' : Addr → Prop} {as as' : List Addr} {M M' : List Cell} {K : PySem.W.Frag} (S : Sim K H B as M) (g : Go as M H as' M' H') (hB : ∀ a, H a ≠ none → B' a → B a) {d : List D} {v : List V} (h : Rps K H (Av B as M) as d v) : Rps K H' (Av B' as' M') as' d v :=
  Rps.mono g.pre (fun _ _ => g.sqt S) (fun _ _ => g.tpl S) (fun a u e n => ⟨g.keep a u e fun l => n (.inr l), fun z => z.elim (fun b => n (.inl (hB a (by rw [e]; simp) b))) fun l => n (.inr (g.live a (by rw [e]; simp) l))⟩) (g.frz S) d v h
theorem Go.rp2 {H H' : Hp} {B B' : Addr → Prop} {as as' : List Addr} {M M' : List Cell} {K : PySem.W.Frag} (S : Sim K H B as M) (g : Go as M H as' M' H') (hB : ∀ a, H a ≠ none → B' a → B a) {d : D} {v : V} (h : Rp K H (Av B as M) as d v) : Rp K H' (Av B' as' M') as' d v :=
  Rp.mono g.pre (fun _ _ => g.sqt S) (fun _ _ => g.tpl S) (fun a u e n => ⟨g.keep a u e fun l => n (.inr l), fun z => z.elim (fun b => n (.inl (hB a (by rw [e]; simp) b))) fun l => n (.inr (g.live a (by rw [e]; simp) l))⟩) (g.frz S) d v h
/-- a list that stands still -/
theorem feed_list {H : Hp} {B : Addr → Prop} {as : List Addr} {M : List Cell} {a : Addr} {vs : List V} {xs : List D} (S : Sim X.K H B as M) (h : Still X.K as M H a vs) (r : Rps X.K H (Av B as M) as xs vs) : Feed X B as M H xs (Itl X.K a) := by
  intro B' as' M' H' hB g S'
  have h' := h _ _ _ g
  have r' := g.rps2 S hB r
  refine ⟨fun i hi => ?_, fun i hi => ⟨vs, h', by rw [r.len]; exact hi⟩, fun i d x H'' e y => ?_⟩
  · obtain ⟨v, e1, _⟩ := r'.get (List.getElem?_eq_getElem hi)
    exact ⟨vs, v, h', e1⟩
  · obtain ⟨rfl, y⟩ := y
    obtain ⟨v, e1, e2⟩ := r'.get e
    have := y vs h'
    rw [e1] at this
    cases this
    exact ⟨Go.refl, S', e2, fun _ _ h => h⟩
theorem feed_tup {H : Hp} {B : Addr → Prop} {as : List Addr} {M : List Cell} {a : Addr} {vs : List V} {xs : List D} (S : Sim X.K H B as M) (h : SqT X.K H a vs) (r : Rps X.K H (Av B as M) as xs vs) : Feed X B as M H xs (Itt X.K a) := by
  intro B' as' M' H' hB g S'
  have h' := g.sqt S h
  have r' := g.rps2 S hB r
  refine ⟨fun i hi => ?_, fun i hi => ⟨vs, h', by rw [r.len]; exact hi⟩, fun i d x H'' e y => ?_⟩
  · obtain ⟨v, e1, _⟩ := r'.get (List.getElem?_eq_getElem hi)
    exact ⟨vs, v, h', e1⟩
  · obtain ⟨rfl, y⟩ := y
    obtain ⟨v, e1, e2⟩ := r'.get e
    have := y vs h'
    rw [e1] at this
    cases this
    exact ⟨Go.refl, S', e2, fun _ _ h => h⟩
theorem upTo_get {lo : Int} {n i : Nat} {d : D} (e : (upTo lo n)[i]? = some d) : d = .int (lo + (i : Nat)) := by
  unfold upTo at e
  rw [List.getElem?_map] at e
  by_cases hi : i < n
  · rw [List.getElem?_range hi] at e; cases e; rfl
  · rw [List.getElem?_eq_none (by simpa using hi)] at e; cases e
theorem upBy_get {lo k : Int} {n i : Nat} {d : D} (e : (upBy lo k n)[i]? = some d) : d = .int (lo + (i : Nat) * k) := by
  unfold upBy at e
  rw [List.getElem?_map] at e
  by_cases hi : i < n
  · rw [List.getElem?_range hi] at e; cases e; rfl
  · rw [List.getElem?_eq_none (by simpa using hi)] at e; cases e
theorem feed_range {H : Hp} {B : Addr → Prop} {as : List Addr} {M : List Cell} {lo : Int} {n : Nat} : Feed X B as M H (upTo lo n) (Itr lo n) := by
  intro B' as' M' H' hB g S'
  have hl : (upTo lo n).length = n := by simp [upTo]
  refine ⟨fun i hi => by rw [hl] at hi; exact hi, fun i hi => by rw [hl] at hi; exact hi, fun i d x H'' e y => ?_⟩
  obtain ⟨rfl, rfl⟩ := y
  rw [upTo_get e]
  exact ⟨Go.refl, S', rfl, fun _ _ h => h⟩
theorem feed_rangeC {H : Hp} {B : Addr → Prop} {as : List Addr} {M : List Cell} {lo k : Int} {n : Nat} : Feed X B as M H (upBy lo k n) (Itc lo k n) := by
  intro B' as' M' H' hB g S'
  have hl : (upBy lo k n).length = n := by simp [upBy]
  refine ⟨fun i hi => by rw [hl] at hi; exact hi, fun i hi => by rw [hl] at hi; exact hi, fun i d x H'' e y => ?_⟩
  obtain ⟨rfl, rfl⟩ := y
  rw [upBy_get e]
  exact ⟨Go.refl, S', rfl, fun _ _ h => h⟩
theorem enum_get : ∀ {xs : List D} {n i : Nat} {d : D}, (enumD n xs)[i]? = some d → ∃ x, xs[i]? = some x ∧ d = .tup [.int ((n + i : Nat) : Int), x]
  | [], _, _, _, e => by simp [enumD] at e
  | x :: xs, n, 0, d, e => by
    simp [enumD] at e; subst e
    exact ⟨x, rfl, rfl⟩
  | x :: xs, n, i + 1, d, e => by
    obtain ⟨z, e1, e2⟩ := enum_get (xs := xs) (n := n + 1) (i := i) (by simpa [enumD] using e)
    exact ⟨z, by simpa using e1, by rw [e2, show n + 1 + i = n + (i + 1) by omega]⟩
theorem enum_len : ∀ (xs : List D) (n : Nat), (enumD n xs).length = xs.length
  | [], _ => rfl
  | x :: xs, n => by simp [enumD, enum_len xs (n + 1)]
theorem tup_new {H : Hp} {B : Addr → Prop} {as : List Addr} {M : List Cell} {p : Addr} {ds : List D} {vs : List V} (S : Sim X.K H B as M) (hp : H p = none) (r : Rps X.K H (Av B as M) as ds vs) :
    Go as M H as M (upd H p (.tup vs)) ∧ Sim X.K (upd H p (.tup vs)) B as M ∧ Rp X.K (upd H p (.tup vs)) (Av B as M) as (.tup ds) (.ref p) ∧ ∀ a o, H a = some o → upd H p (.tup vs) a = some o := by
  have g : Go as M H as M (upd H p (.tup vs)) := Go.laid S hp
  exact ⟨g, Sim.laid S hp, ⟨p, vs, rfl, .inl (.inl upd_same), g.rps S r⟩, fun a o e => by rw [upd_ne (ne_of_none e hp)]; exact e⟩
theorem feed_enum {H : Hp} {B : Addr → Prop} {as : List Addr} {M : List Cell} {a : Addr} {vs : List V} {xs : List D} (S : Sim X.K H B as M) (h : Still X.K as M H a vs) (r : Rps X.K H (Av B as M) as xs vs) : Feed X B as M H (enumD 0 xs) (Ite X.K a) := by
  intro B' as' M' H' hB g S'
  have h' := h _ _ _ g
  have r' := g.rps2 S hB r
  have hl := enum_len xs 0
  refine ⟨fun i hi => ?_, fun i hi => ⟨vs, h', by rw [r.len]; omega⟩, fun i d x H'' e y => ?_⟩
  · obtain ⟨v, e1, _⟩ := r'.get (List.getElem?_eq_getElem (show i < xs.length by omega))
    exact ⟨vs, v, h', e1⟩
  · obtain ⟨z, e1, e2⟩ := enum_get e
    obtain ⟨p, w, rfl, hp, rfl, y⟩ := y
    obtain ⟨v, e3, e4⟩ := r'.get e1
    have := y vs h'
    rw [e3] at this
    cases this
    rw [e2, Nat.zero_add]
    exact tup_new S' hp ⟨.int (i : Nat), [w], rfl, rfl, w, [], rfl, e4, rfl⟩
theorem zip_get : ∀ {xs ys : List D} {i : Nat} {d : D}, (zipD xs ys)[i]? = some d → ∃ x y, xs[i]? = some x ∧ ys[i]? = some y ∧ d = .tup [x, y]
  | [], ys, _, _, e => by cases ys <;> simp [zipD] at e
  | x :: xs, [], _, _, e => by simp [zipD] at e
  | x :: xs, y :: ys, 0, d, e => by
    simp [zipD] at e; subst e
    exact ⟨x, y, rfl, rfl, rfl⟩
  | x :: xs, y :: ys, i + 1, d, e => by
    obtain ⟨z, w, e1, e2, e3⟩ := zip_get (xs := xs) (ys := ys) (i := i) (by simpa [zipD] using e)
    exact ⟨z, w, by simpa using e1, by simpa using e2, e3⟩
theorem zip_len : ∀ (xs ys : List D), (zipD xs ys).length = min xs.length ys.length
  | [], ys => by cases ys <;> simp [zipD]
  | x :: xs, [] => by simp [zipD]
  | x :: xs, y :: ys => by simp [zipD, zip_len xs ys]
theorem feed_zip {H : Hp} {B : Addr → Prop} {as : List Addr} {M : List Cell} {a b : Addr} {vs ws : List V} {xs ys : List D} (S : Sim X.K H B as M) (h1 : Still X.K as M H a vs) (r1 : Rps X.K H (Av B as M) as xs vs)
    (h2 : Still X.K as M H b ws) (r2 : Rps X.K H (Av B as M) as ys ws) : Feed X B as M H (zipD xs ys) (Itz X.K a b) := by
  intro B' as' M' H' hB g S'
  have h1' := h1 _ _ _ g
  have h2' := h2 _ _ _ g
  have r1' := g.rps2 S hB r1
  have r2' := g.rps2 S hB r2
  have hl := zip_len xs ys
  refine ⟨fun i hi => ?_, fun i hi => ⟨vs, ws, h1', h2', by rw [r1.len, r2.len]; omega⟩, fun i d x H'' e y => ?_⟩
  · obtain ⟨v, e1, _⟩ := r1'.get (List.getElem?_eq_getElem (show i < xs.length by omega))
    obtain ⟨w, e2, _⟩ := r2'.get (List.getElem?_eq_getElem (show i < ys.length by omega))
    exact ⟨vs, ws, v, w, h1', h2', e1, e2⟩
  · obtain ⟨z, z2, e1, e2, rfl⟩ := zip_get e
    obtain ⟨p, w, w2, rfl, hp, rfl, y1, y2⟩ := y
    obtain ⟨v, e3, e4⟩ := r1'.get e1
    obtain ⟨v2, e5, e6⟩ := r2'.get e2
    have := y1 vs h1'
    rw [e3] at this
    cases this
    have := y2 ws h2'
    rw [e5] at this
    cases this
    exact tup_new S' hp ⟨w, [w2], rfl, e4, w2, [], rfl, e6, rfl⟩
theorem feed_rev {H : Hp} {B : Addr → Prop} {as : List Addr} {M : List Cell} {a : Addr} {vs : List V} {xs : List D} (S : Sim X.K H B as M) (h : Still X.K as M H a vs) (r : Rps X.K H (Av B as M) as xs vs) : Feed X B as M H xs.reverse (Itv X.K a vs.length) := by
  intro B' as' M' H' hB g S'
  have h' := h _ _ _ g
  have r' := (g.rps2 S hB r).reverse
  have hl : xs.reverse.length = vs.length := by rw [List.length_reverse, r.len]
  have at' : ∀ {i : Nat} {v : V}, vs.reverse[i]? = some v → vs[vs.length - 1 - i]? = some v := fun {i v} e => by
    have hi : i < vs.length := by
      have := (List.getElem?_eq_some_iff.mp e).1
      simpa using this
    rw [List.getElem?_reverse hi] at e
    exact e
  refine ⟨fun i hi => ?_, fun i hi => by rw [hl] at hi; exact hi, fun i d x H'' e y => ?_⟩
  · obtain ⟨v, e1, _⟩ := r'.get (List.getElem?_eq_getElem hi)
    exact ⟨by rw [hl] at hi; exact hi, vs, v, h', at' e1⟩
  · obtain ⟨rfl, y⟩ := y
    obtain ⟨v, e1, e2⟩ := r'.get e
    have := y vs h'
    rw [at' e1] at this
    cases this
    exact ⟨Go.refl, S', e2, fun _ _ h => h⟩
theorem s_val {a : E} (ha : PE X x (tE X cv W Φ a)) : PI X tg x (tI X cv W Φ (.val a)) :=
  (pi_seq ha).imp fun σ H R q => by
    obtain ⟨B, as, M, env, S, r, q⟩ := q
    refine ⟨B, as, M, env, S, r, post_bind q fun d M1 as1 H1 v hq1 g1 S1 ra q1 => ?_⟩
    split at q1
    · rename_i xs e
      by_cases ht : ∃ ys, d = .tup ys
      · obtain ⟨ys, rfl⟩ := ht
        cases e
        obtain ⟨p, vs, rfl, h1, h2⟩ := ra
        refine .inr ⟨p, rfl, ⟨vs, h1⟩, ?_⟩
        exact q1 as1 H1 _ Go.refl S1 (feed_tup S1 h1 h2)
      · by_cases hk : ∃ ys, d = .ktp ys
        · obtain ⟨ys, rfl⟩ := hk
          cases e
          obtain ⟨p, vs, rfl, h1, h2⟩ := ra
          refine .inr ⟨p, rfl, ⟨vs, .inl (.inl h1)⟩, ?_⟩
          exact q1 as1 H1 _ Go.refl S1 (feed_tup S1 (.inl (.inl h1)) h2)
        have h' : listOf M1 d = some xs := by
          cases d <;> first | exact e | exact absurd ⟨_, rfl⟩ ht | exact absurd ⟨_, rfl⟩ hk
        obtain ⟨p, vs, rfl, h1, h2, h3⟩ := stop_nl S1 ra h'
        have g2 := Go.stop S1 d
        refine .inl ⟨p, rfl, ⟨vs, h1⟩, ?_⟩
        exact q1 as1 H1 _ g2 (S1.stop d) (feed_list (S1.stop d) h3 (g2.rps S1 h2))
    · exact q1.elim
theorem s_rng1 {a : E} {p0 : Pos} (h : XH c Φ cv X W) (h2 : glOk c.sc ("range" : Str) = true) (hx : shp x = true) (ha : PE X x (tE X cv W Φ a)) : PI X tg (.Call (.Name ("range" : Str) p0) [x] [] pos) (tI X cv W Φ (.rng1 a)) :=
  (pi_range1 (gl_of h h2) (h.bi "range" (by decide)) (pa_cons ha pa_nil (shp_star hx)) (shp_star hx)).imp fun σ H R q => by
    obtain ⟨B, as, M, env, S, r, q⟩ := q
    refine ⟨B, as, M, env, S, r, post_bind q fun d M1 as1 H1 v hq1 g1 S1 ra q1 => ?_⟩
    split at q1
    · rename_i j
      split at q1
      · rename_i hb
        cases ra
        exact ⟨j, rfl, hb.1, hb.2, q1 as1 H1 _ Go.refl S1 feed_range⟩
      · exact q1.elim
    · exact q1.elim
theorem _root_.L2H.PIH.imp {x y : Expr} {t t' : TI} (h : L2H.PIH X x y t) (k : ∀ σ H Q, t' σ H Q → t σ H Q) : L2H.PIH X x y t' := ⟨fun pins s σ H Q I q => h.run pins s σ H Q I (k σ H Q q)⟩
theorem s_rng1H {a : E} {p0 : Pos} (h : XH c Φ cv X W) (h2 : glOk c.sc ("range" : Str) = true) (hx : shp x = true) (ha : PE X x (tE X cv W Φ a)) : L2H.PIH X tg (.Call (.Name ("range" : Str) p0) [x] [] pos) (tI X cv W Φ (.rng1 a)) :=
  (L2H.pi_range1H (gl_of h h2) (h.bi "range" (by decide)) (pa_cons ha pa_nil (shp_star hx)) (shp_star hx)).imp fun σ H R q => by
    obtain ⟨B, as, M, env, S, r, q⟩ := q
    refine ⟨B, as, M, env, S, r, post_bind q fun d M1 as1 H1 v hq1 g1 S1 ra q1 => ?_⟩
    split at q1
    · rename_i j
      split at q1
      · rename_i hb
        cases ra
        exact ⟨j, rfl, hb.1, hb.2, q1 as1 H1 _ Go.refl S1 feed_range⟩
      · exact q1.elim
    · exact q1.elim
theorem s_rng2 {a b : E} {p0 : Pos} (h : XH c Φ cv X W) (h2 : glOk c.sc ("range" : Str) = true) (hx : shp x = true) (hy : shp y = true) (ha : PE X x (tE X cv W Φ a)) (hb : PE X y (tE X cv W Φ b)) : PI X tg (.Call (.Name ("range" : Str) p0) [x, y] [] pos) (tI X cv W Φ (.rng2 a b)) :=
  (pi_range2 (gl_of h h2) (h.bi "range" (by decide)) (pa_cons ha (pa_cons hb pa_nil (shp_star hy)) (shp_star hx)) (by rw [shp_star hx, shp_star hy]; rfl) (shp_star hy)).imp fun σ H R q => by
    obtain ⟨B, as, M, env, S, r, q⟩ := q
    refine ⟨B, as, M, env, S, r, post_bind q fun d M1 as1 H1 v hq1 g1 S1 ra q1 => ?_⟩
    refine ⟨B, as1, M1, env, S1, r.go S g1, post_bind q1 fun e M2 as2 H2 w hq2 g2 S2 rb q2 => ?_⟩
    split at q2
    · rename_i i j
      split at q2
      · rename_i hb
        cases ra; cases rb
        exact ⟨i, j, rfl, ⟨hb.1.1, hb.1.2, hb.2.1, hb.2.2⟩, q2 as2 H2 _ Go.refl S2 feed_range⟩
      · exact q2.elim
    · exact q2.elim
theorem s_rng3 {a b d : E} {p0 : Pos} (h : XH c Φ cv X W) (h2 : glOk c.sc ("range" : Str) = true) (hx : shp x = true) (hy : shp y = true) (hz : shp z = true) (ha : PE X x (tE X cv W Φ a)) (hb : PE X y (tE X cv W Φ b)) (hd : PE X z (tE X cv W Φ d)) :
    PI X tg (.Call (.Name ("range" : Str) p0) [x, y, z] [] pos) (tI X cv W Φ (.rng3 a b d)) :=
  (pi_range3 (gl_of h h2) (h.bi "range" (by decide)) (pa_cons ha (pa_cons hb (pa_cons hd pa_nil (shp_star hz)) (shp_star hy)) (shp_star hx)) (shp_star hx) (by rw [shp_star hy, shp_star hz]; rfl)).imp fun σ H R q => by
    obtain ⟨B, as, M, env, S, r, q⟩ := q
    refine ⟨B, as, M, env, S, r, post_bind q fun d M1 as1 H1 v hq1 g1 S1 ra q1 => ?_⟩
    refine ⟨B, as1, M1, env, S1, r.go S g1, post_bind q1 fun e M2 as2 H2 w hq2 g2 S2 rb q2 => ?_⟩
    refine ⟨B, as2, M2, env, S2, (r.go S g1).go S1 g2, post_bind q2 fun g M3 as3 H3 u hq3 g3 S3 rc q3 => ?_⟩
    split at q3
    · rename_i i j k
      split at q3
      · rename_i hb
        obtain ⟨rfl, hb⟩ := hb
        cases ra; cases rb; cases rc
        exact ⟨i, j, -1, _, rfl, RgC.neg hb.1.1 hb.1.2 hb.2.1 hb.2.2, q3 as3 H3 _ Go.refl S3 feed_rangeC⟩
      · exact q3.elim
    · exact q3.elim
theorem s_enum {a : E} {p0 tp : Pos} {ts : List Expr} {kk : Nat} (h : XH c Φ cv X W) (h2 : glOk c.sc ("enumerate" : Str) = true) (hx : shp x = true) (ha : PE X x (tE X cv W Φ a)) :
    PI X (.Tuple ts kk tp) (.Call (.Name ("enumerate" : Str) p0) [x] [] pos) (tI X cv W Φ (.enum a)) :=
  (pi_enum (gl_of h h2) (h.bi "enumerate" (by decide)) (pa_cons ha pa_nil (shp_star hx)) (shp_star hx)).imp fun σ H R q => by
    obtain ⟨B, as, M, env, S, r, q⟩ := q
    refine ⟨B, as, M, env, S, r, post_bind q fun d M1 as1 H1 v hq1 g1 S1 ra q1 => ?_⟩
    split at q1
    · rename_i xs e
      obtain ⟨p, vs, rfl, h1, h2, h3⟩ := stop_nl S1 ra e
      have g2 := Go.stop S1 d
      exact ⟨p, vs, rfl, h1, q1 as1 H1 _ g2 (S1.stop d) (feed_enum (S1.stop d) h3 (g2.rps S1 h2))⟩
    · exact q1.elim
theorem s_rev {a : E} {p0 : Pos} (h : XH c Φ cv X W) (h2 : glOk c.sc ("reversed" : Str) = true) (hx : shp x = true) (ha : PE X x (tE X cv W Φ a)) :
    PI X tg (.Call (.Name ("reversed" : Str) p0) [x] [] pos) (tI X cv W Φ (.rev a)) :=
  (pi_reversed (gl_of h h2) (h.bi "reversed" (by decide)) (pa_cons ha pa_nil (shp_star hx)) (shp_star hx)).imp fun σ H R q => by
    obtain ⟨B, as, M, env, S, r, q⟩ := q
    refine ⟨B, as, M, env, S, r, post_bind q fun d M1 as1 H1 v hq1 g1 S1 ra q1 => ?_⟩
    split at q1
    · rename_i xs e
      obtain ⟨p, vs, rfl, h1, h2, h3⟩ := stop_nl S1 ra e
      have g2 := Go.stop S1 d
      exact ⟨p, vs, rfl, h1, q1 as1 H1 _ g2 (S1.stop d) (feed_rev (S1.stop d) h3 (g2.rps S1 h2))⟩
    · exact q1.elim
theorem s_zip {a b : E} {p0 tp : Pos} {ts : List Expr} {kk : Nat} (h : XH c Φ cv X W) (h2 : glOk c.sc ("zip" : Str) = true) (hx : shp x = true) (hy : shp y = true) (ha : PE X x (tE X cv W Φ a)) (hb : PE X y (tE X cv W Φ b)) :
    PI X (.Tuple ts kk tp) (.Call (.Name ("zip" : Str) p0) [x, y] [] pos) (tI X cv W Φ (.zip a b)) :=
  (pi_zip (gl_of h h2) (h.bi "zip" (by decide)) (pa_cons ha (pa_cons hb pa_nil (shp_star hy)) (shp_star hx)) (shp_star hx) (by rw [shp_star hy]; rfl)).imp fun σ H R q => by
    obtain ⟨B, as, M, env, S, r, q⟩ := q
    refine ⟨B, as, M, env, S, r, post_bind q fun d M1 as1 H1 v hq1 g1 S1 ra q1 => ?_⟩
    refine ⟨B, as1, M1, env, S1, r.go S g1, post_bind q1 fun e M2 as2 H2 w hq2 g2 S2 rb q2 => ?_⟩
    split at q2
    · rename_i xs ys e1 e2
      have ra2 := g2.rp S1 ra
      obtain ⟨p, vs, rfl, h1, h2, h3⟩ := stop_nl S2 ra2 e1
      have g3 := Go.stop S2 d
      have S3 := S2.stop d
      have e2' : listOf (stop1 d M2) e = some ys := by
        refine Eq.trans ?_ e2
        cases e <;> try rfl
        rename_i i
        cases d <;> try rfl
        rename_i j
        show content (stop1 (.ref j) M2) (.ref i) = content M2 (.ref i)
        unfold stop1 content
        dsimp only
        cases hj : M2[j]? with
        | none => rfl
        | some cj =>
          obtain ⟨mm, dd⟩ := cj
          cases dd <;> try rfl
          dsimp only
          by_cases hij : i = j
          · subst hij
            rw [List.getElem?_set_self (List.getElem?_eq_some_iff.mp hj).1, hj]
          · rw [List.getElem?_set_ne (Ne.symm hij)]
      obtain ⟨p2, ws, rfl, h4, h5, h6⟩ := stop_nl S3 (g3.rp S2 rb) e2'
      have g4 := Go.stop S3 e
      have h3' : Still X.K as2 (stop1 e (stop1 d M2)) H2 p vs := fun _ _ _ g => h3 _ _ _ (g4.trans g)
      exact ⟨p, p2, vs, ws, rfl, h1, h4, q2 as2 H2 _ (g3.trans g4) (S3.stop e) (feed_zip (S3.stop e) h3' (g4.rps S3 (g3.rps S2 h2)) h6 (g4.rps S3 h5))⟩
    · exact q2.elim
/-! ### targets -/
theorem wipe_set {i : Nat} {o : Option V} {σ : St2} : ∀ (vs : List Nat), i ∈ vs → L2.wipe (σ.set i o) vs = L2.wipe σ vs
  | [], h => by cases h
  | v :: vs, h => by
    have comm : ∀ vs : List Nat, L2.wipe (σ.set i o) vs = L2.wipe σ vs ∨ L2.wipe (σ.set i o) vs = (L2.wipe σ vs).set i o := fun vs => by
      induction vs with
      | nil => exact .inr rfl
      | cons w ws ih =>
        show (L2.wipe (σ.set i o) ws).set w none = (L2.wipe σ ws).set w none ∨ _ = ((L2.wipe σ ws).set w none).set i o
        rcases ih with e | e
        · exact .inl (by rw [e])
        · by_cases hw : w = i
          · subst hw
            exact .inl (by rw [e, List.set_set])
          · exact .inr (by show (L2.wipe (σ.set i o) ws).set w none = _; rw [e, List.set_comm _ _ (Ne.symm hw)])
    show (L2.wipe (σ.set i o) vs).set v none = (L2.wipe σ vs).set v none
    rcases List.mem_cons.mp h with rfl | h
    · rcases comm vs with e | e
      · rw [e]
      · rw [e, List.set_set]
    · rw [wipe_set vs h]
theorem PostG.rel {α β : Type} {K : PySem.W.Frag} {H : Hp} {B : Addr → Prop} {as : List Addr} {M : List Cell} {E : Nat → Hp → Prop} {rel rel' : List Addr → List Cell → Hp → α → β → Prop} {r : R α} {Q : β → Hp → Prop}
    (h : PostG K H B as M E rel r Q) (k : ∀ as' M' H' a b, rel' as' M' H' a b → rel as' M' H' a b) : PostG K H B as M E rel' r Q := by
  cases r with
  | ok d M' => exact fun as' H' v g S z => h as' H' v g S (k _ _ _ _ _ z)
  | exc c M' => exact h
  | bad => exact h
theorem s_tvar {i : Nat} {n : Str} (h : XH c Φ cv X W) (h1 : c.N[i]? = some n) (h2 : locOk c.sc n = true) (h3 : (c.fn n || decide (c.sc.names.lookup n = some .local)) = true) : PG X (.Name n pos) (tT' X Φ (.var i)) :=
  (pg_name (by rw [h.N]; exact h.nd) (by rw [h.N]; exact h1) (loc_of h h2) (by
    rw [Bool.or_eq_true] at h3
    rcases h3 with z | z
    · exact .inl (h.fn _ z)
    · exact .inr (by rw [h.sc]; exact of_decide_eq_true z))).imp fun v σ H Q q => by
    obtain ⟨B, as, M, env, d, S, r, rd, q⟩ := q
    exact q as H _ Go.refl S ⟨r.set rd, fun vs hv => wipe_set vs (by simpa [tSub] using hv)⟩
theorem s_tnil : PGs X [] (tTs' X Φ .nil) := pgs_nil.imp fun vs σ H Q q => by
  obtain ⟨B, as, M, env, ds, S, r, rd, q⟩ := q
  cases ds with
  | nil => exact ⟨rd, q as H σ Go.refl S ⟨r, fun _ _ => rfl⟩⟩
  | cons _ _ => exact q.elim
theorem s_tcons {t : T} {ts : Ts} {ys : List Expr} (h1 : PG X x (tT' X Φ t)) (h2 : PGs X ys (tTs' X Φ ts)) (hx : (assignEach (x :: ys) X.env).map (·.2) = assign x X.env :: (assignEach ys X.env).map (·.2)) : PGs X (x :: ys) (tTs' X Φ (.cons t ts)) :=
  (pgs_cons h1 h2 hx).imp fun vs σ H Q q => by
    obtain ⟨B, as, M, env, ds, S, r, rd, q⟩ := q
    cases ds with
    | nil => exact q.elim
    | cons d ds =>
      obtain ⟨v, ws, rfl, r1, r2⟩ := rd
      refine ⟨v, ws, rfl, B, as, M, env, d, S, r, r1, post_bind q fun e M1 as1 H1 σ1 _ g1 S1 re q1 => ?_⟩
      refine ⟨B, as1, M1, e, ds, S1, re.1, g1.rps S r2, q1.rel fun as' M' H' e σ' z => ⟨z.1, fun vs hv => ?_⟩⟩
      rw [tSubs, Bool.and_eq_true] at hv
      rw [z.2 vs hv.2, re.2 vs hv.1]
def noStar : List Expr → Bool
  | [] => true
  | .Starred _ _ :: _ => false
  | _ :: xs => noStar xs
theorem noStar_len {env : Env} : ∀ (xs : List Expr), noStar xs = true → (assignEach xs env).length = xs.length ∧ (assignEach xs env).findIdx? (·.1) = none
  | [], _ => ⟨rfl, rfl⟩
  | x :: xs, h => by
    have h' : noStar xs = true := by cases x <;> first | exact h | cases h
    have ih := noStar_len (env := env) xs h'
    have e : assignEach (x :: xs) env = (false, assign x env) :: assignEach xs env := by cases x <;> first | rfl | cases h
    rw [e]
    refine ⟨by simp [ih.1], ?_⟩
    rw [List.findIdx?_cons]
    simp [ih.2]
mutual
theorem evT_nox : (t : T) → (d : D) → (σ : St) → (M : List Cell) → ∀ k M', evT Φ t d σ M ≠ .exc k M'
  | .var i, d, σ, M, k, M', h => by cases h
  | .tup ts, d, σ, M, k, M', h => by
    cases d with
    | tup xs => exact evTs_nox ts xs σ M k M' h
    | _ => cases h
  | .idx o i, d, σ, M, k, M', h => by
    have h' : ((evE Φ o σ M).nox.bind fun x M1 => (evE Φ i σ M1).nox.bind fun y M2 => match setD x y d M2 with
      | some M3 => R.ok σ M3
      | none => .bad) = .exc k M' := h
    cases e : evE Φ o σ M with
    | ok x M1 =>
      rw [e] at h'
      dsimp only [R.nox_ok, R.bind_ok] at h'
      cases e2 : evE Φ i σ M1 with
      | ok y M2 =>
        rw [e2] at h'
        dsimp only [R.nox_ok, R.bind_ok] at h'
        split at h' <;> cases h'
      | exc _ _ => rw [e2] at h'; cases h'
      | bad => rw [e2] at h'; cases h'
    | exc _ _ => rw [e] at h'; cases h'
    | bad => rw [e] at h'; cases h'
theorem evTs_nox : (ts : Ts) → (ds : List D) → (σ : St) → (M : List Cell) → ∀ k M', evTs Φ ts ds σ M ≠ .exc k M'
  | .nil, [], σ, M, k, M', h => by cases h
  | .nil, _ :: _, σ, M, k, M', h => by cases h
  | .cons t ts, [], σ, M, k, M', h => by cases h
  | .cons t ts, d :: ds, σ, M, k, M', h => by
    have h' : ((evT Φ t d σ M).bind fun σ1 M1 => evTs Φ ts ds σ1 M1) = .exc k M' := h
    cases e : evT Φ t d σ M with
    | ok σ1 M1 =>
      rw [e] at h'
      exact evTs_nox ts ds σ1 M1 k M' h'
    | exc k1 M1 => exact evT_nox t d σ M k1 M1 e
    | bad => rw [e] at h'; cases h'
end
def tsLen : Ts → Nat
  | .nil => 0
  | .cons _ ts => tsLen ts + 1
theorem evTs_len : (ts : Ts) → (ds : List D) → (σ : St) → (M : List Cell) → ∀ σ' M', evTs Φ ts ds σ M = .ok σ' M' → ds.length = tsLen ts
  | .nil, [], σ, M, _, _, _ => rfl
  | .nil, _ :: _, σ, M, _, _, h => by cases h
  | .cons t ts, [], σ, M, _, _, h => by cases h
  | .cons t ts, d :: ds, σ, M, σ', M', h => by
    have h' : ((evT Φ t d σ M).bind fun σ1 M1 => evTs Φ ts ds σ1 M1) = .ok σ' M' := h
    cases e : evT Φ t d σ M with
    | ok σ1 M1 =>
      rw [e] at h'
      have := evTs_len ts ds σ1 M1 σ' M' h'
      simp [tsLen, this]
    | exc k1 M1 => rw [e] at h'; cases h'
    | bad => rw [e] at h'; cases h'
theorem s_ttup {ts : Ts} {ys : List Expr} {k : Nat} (h : XH c Φ cv X W) (hcool : c.hot = false) (h1 : PGs X ys (tTs' X Φ ts)) (hn : noStar ys = true) (hl : tsLen ts = ys.length) : PG X (.Tuple ys k pos) (tT' X Φ (.tup ts)) :=
  (pg_tup (h.calm hcool) h1 (noStar_len ys hn).1 (noStar_len ys hn).2).imp fun v σ H Q q => by
    obtain ⟨B, as, M, env, d, S, r, rd, q⟩ := q
    cases d with
    | tup xs =>
      obtain ⟨a, vs, rfl, e1, r1⟩ := rd
      have q' : PostG X.K H B as M (fun _ _ => False) (fun as' M' H' e σ' => EnvR X.K H' (Av B as' M') as' e σ' ∧ ∀ vs, tSubs ts vs = true → L2.wipe σ' vs = L2.wipe σ vs) (evTs Φ ts xs env M) Q := q
      refine ⟨a, vs, rfl, e1, ?_, B, as, M, env, xs, S, r, r1, q'⟩
      cases e : evTs Φ ts xs env M with
      | ok σ1 M1 => rw [r1.len, evTs_len ts xs env M σ1 M1 e, hl]
      | exc k M1 => exact absurd e (evTs_nox ts xs env M k M1)
      | bad => rw [e] at q'; exact q'.elim
    | _ => exact q.elim
theorem PostG.weak {α β : Type} {K : PySem.W.Frag} {H : Hp} {B : Addr → Prop} {as : List Addr} {M : List Cell} {E E' : Nat → Hp → Prop} {rel : List Addr → List Cell → Hp → α → β → Prop} {r : R α} {Q : β → Hp → Prop}
    (h : PostG K H B as M E rel r Q) (k : ∀ c H, E c H → E' c H) : PostG K H B as M E' rel r Q := by
  cases r with
  | ok d M' => exact h
  | exc c M' => exact fun as' H' g S => k _ _ (h as' H' g S)
  | bad => exact h
/-- no exception leaves this step -/
theorem post_nox {α β γ δ : Type} {K : PySem.W.Frag} {H : Hp} {B : Addr → Prop} {as : List Addr} {M : List Cell} {E E' : Nat → Hp → Prop} {rel1 : List Addr → List Cell → Hp → α → β → Prop} {rel2 : List Addr → List Cell → Hp → γ → δ → Prop}
    {r : R α} {f : α → List Cell → R γ} {Q : δ → Hp → Prop} {Q' : β → Hp → Prop} (h : PostG K H B as M E rel2 (r.nox.bind f) Q)
    (k : ∀ a M1 as1 H1 b, r = .ok a M1 → Go as M H as1 M1 H1 → Sim K H1 B as1 M1 → rel1 as1 M1 H1 a b → PostG K H1 B as1 M1 E rel2 (f a M1) Q → Q' b H1) : PostG K H B as M E' rel1 r Q' := by
  cases r with
  | ok a M1 => exact fun as' H' v g S q => k a M1 as' H' v rfl g S q (PostG.go h g)
  | exc c M1 => exact h.elim
  | bad => exact h
theorem s_tidx {o i : E} (h1 : PE X x (tE X cv W Φ o)) (h2 : PE X y (tE X cv W Φ i)) (hy : shp y = true) (hx : shp x = true) : PG X (.Subscript x y pos) (tT' X Φ (.idx o i)) :=
  (pg_sub h1 h2 set_setD (fun v => by cases y <;> first | rfl | cases hy)).imp fun v σ H Q q => by
    obtain ⟨B, as, M, env, d, S, r, rd, q⟩ := q
    refine ⟨B, as, M, env, S, r, post_nox q fun a M1 as1 H1 w hq1 g1 S1 ra q1 => ?_⟩
    refine ⟨B, as1, M1, env, S1, r.go S g1, post_nox q1 fun b M2 as2 H2 u hq2 g2 S2 rb q2 => ?_⟩
    split at q2
    · rename_i M3 e
      refine ⟨B, as2, M2, a, b, d, M3, S2, g2.rp S1 ra, rb, g2.rp S1 (g1.rp S rd), e, fun H' g3 S3 => ?_⟩
      exact q2 as2 H' σ g3 S3 ⟨((r.go S g1).go S1 g2).go S2 g3, fun _ _ => rfl⟩
    · exact q2.elim
end
end
end Sg

/-! SgSound4: comprehensions. -/
namespace Sg
noncomputable section
open PySem PySem.Spec PyProof.Rows L2
abbrev W0 : WX := fun _ _ _ _ => False
section
variable {K : PySem.W.Frag} {H H' : Hp} {B B' : Addr → Prop} {as as' : List Addr} {M M' : List Cell}
/-- what is to be kept clear of may be less -/
theorem Cp.drop {a : Addr} {c : Cell} (hB : ∀ a, B a → B' a) (h : Cp K H (Av B' as M) as a c) : Cp K H (Av B as M) as a c := by
  have w1 : ∀ {d : D} {v : V}, Rp K H (Av B' as M) as d v → Rp K H (Av B as M) as d v := fun {d v} h => Rp.mono List.prefix_rfl (fun _ _ z => z) (fun _ _ z => z) (fun a u z n => ⟨z, fun b => n (b.imp_left (hB a))⟩) (fun _ _ _ z => z) d v h
  have w2 : ∀ {d : List D} {v : List V}, Rps K H (Av B' as M) as d v → Rps K H (Av B as M) as d v := fun {d v} h => Rps.mono List.prefix_rfl (fun _ _ z => z) (fun _ _ z => z) (fun a u z n => ⟨z, fun b => n (b.imp_left (hB a))⟩) (fun _ _ _ z => z) d v h
  obtain ⟨m, d⟩ := c
  cases m <;> cases d <;> try (exact h.elim)
  · exact w1 h
  · rename_i t ks ds
    cases t
    · obtain ⟨o, vs, e, n, k, r⟩ := h
      exact ⟨o, vs, e, fun z => n (z.imp_left (hB a)), k, w2 r⟩
    · obtain ⟨o, vs, e, n, k, r⟩ := h
      exact ⟨o, vs, e, fun z => n (z.imp_left (hB a)), k, w2 r⟩
  · obtain ⟨vs, e, r⟩ := h
    exact ⟨vs, e, w2 r⟩
  · rename_i t ks ds
    cases t
    · obtain ⟨vs, e, k, r⟩ := h
      exact ⟨vs, e, k, w2 r⟩
    · obtain ⟨vs, e, k, r⟩ := h
      exact ⟨vs, e, k, w2 r⟩
theorem Sim.drop (S : Sim K H B' as M) (hB : ∀ a, B a → B' a) : Sim K H B as M :=
  ⟨S.len, S.nd, fun a h => S.b0 a (hB a h), fun a h b => S.dj a h (hB a b), fun i a c h1 h2 => (S.cell i a c h1 h2).drop hB⟩
theorem Cp.map {a : Addr} {c : Cell} (w1 : ∀ {d : D} {v : V}, Rp K H (Av B as M) as d v → Rp K H' (Av B' as' M') as' d v) (w2 : ∀ {d : List D} {v : List V}, Rps K H (Av B as M) as d v → Rps K H' (Av B' as' M') as' d v)
    (hm : ∀ o, H a = some o → H' a = some o) (hn : ∀ o u, H a = some (.frz o u) → ¬ Av B as M a → ¬ Av B' as' M' a) (h : Cp K H (Av B as M) as a c) : Cp K H' (Av B' as' M') as' a c := by
  obtain ⟨m, d⟩ := c
  cases m <;> cases d <;> try (exact h.elim)
  · intro z
    cases q : H a with
    | none => exact h q
    | some o => rw [hm o q] at z; cases z
  · exact w1 h
  · rename_i t ks ds
    cases t
    · obtain ⟨o, vs, e, n, k, r⟩ := h
      exact ⟨o, vs, hm _ e, hn _ _ e n, k, w2 r⟩
    · obtain ⟨o, vs, e, n, k, r⟩ := h
      exact ⟨o, vs, hm _ e, hn _ _ e n, k, w2 r⟩
  · obtain ⟨vs, e, r⟩ := h
    exact ⟨vs, hm _ e, w2 r⟩
  · rename_i t ks ds
    cases t
    · obtain ⟨vs, e, k, r⟩ := h
      exact ⟨vs, hm _ e, k, w2 r⟩
    · obtain ⟨vs, e, k, r⟩ := h
      exact ⟨vs, hm _ e, k, w2 r⟩
/-- a list is laid, of which all keep clear -/
theorem hide_rp {p : Addr} {o : HO} (hp : H p = none) {d : D} {v : V} (h : Rp K H (Av B as M) as d v) : Rp K (upd H p o) (Av (fun a => B a ∨ a = p) as M) as d v :=
  Rp.mono List.prefix_rfl (fun a vs z => by
    rcases z with (z | ⟨u, z⟩) | z
    · exact .inl (.inl (by rw [upd_ne (ne_of_none z hp)]; exact z))
    · exact .inl (.inr ⟨u, by rw [upd_ne (ne_of_none z hp)]; exact z⟩)
    · exact .inr z) (fun a vs z => by rw [upd_ne (ne_of_none z hp)]; exact z) (fun a u e n => by
    have ne := ne_of_none e hp
    exact ⟨by rw [upd_ne ne]; exact e, fun z => z.elim (fun z => z.elim (fun b => n (.inl b)) ne) fun l => n (.inr l)⟩) (fun a u w e => by rw [upd_ne (ne_of_none e hp)]; exact e) d v h
theorem hide_rps {p : Addr} {o : HO} (hp : H p = none) {d : List D} {v : List V} (h : Rps K H (Av B as M) as d v) : Rps K (upd H p o) (Av (fun a => B a ∨ a = p) as M) as d v :=
  Rps.mono List.prefix_rfl (fun a vs z => by
    rcases z with (z | ⟨u, z⟩) | z
    · exact .inl (.inl (by rw [upd_ne (ne_of_none z hp)]; exact z))
    · exact .inl (.inr ⟨u, by rw [upd_ne (ne_of_none z hp)]; exact z⟩)
    · exact .inr z) (fun a vs z => by rw [upd_ne (ne_of_none z hp)]; exact z) (fun a u e n => by
    have ne := ne_of_none e hp
    exact ⟨by rw [upd_ne ne]; exact e, fun z => z.elim (fun z => z.elim (fun b => n (.inl b)) ne) fun l => n (.inr l)⟩) (fun a u w e => by rw [upd_ne (ne_of_none e hp)]; exact e) d v h
theorem Sim.hide {p : Addr} {o : HO} (S : Sim K H B as M) (hp : H p = none) : Sim K (upd H p o) (fun a => B a ∨ a = p) as M := by
  refine ⟨S.len, S.nd, fun a h => ?_, fun a h b => ?_, fun i a c h1 h2 => (S.cell i a c h1 h2).map (hide_rp hp) (hide_rps hp) (fun u e => by rw [upd_ne (ne_of_none e hp)]; exact e) fun o u e n z => z.elim (fun z => z.elim (fun b => n (.inl b)) (ne_of_none e hp)) fun l => n (.inr l)⟩
  · rcases h with h | rfl
    · by_cases e : a = p
      · subst e; rw [upd_same]; simp
      · rw [upd_ne e]; exact S.b0 a h
    · rw [upd_same]; simp
  · rcases b with b | rfl
    · exact S.dj a h b
    · exact S.fresh hp h
/-- a list is written to, of which all keep clear -/
theorem poke_rp {p : Addr} {ws us : List V} (hp : H p = some (.lst ws)) (hB : B p) {d : D} {v : V} (h : Rp K H (Av B as M) as d v) : Rp K (upd H p (.lst us)) (Av B as M) as d v :=
  Rp.mono List.prefix_rfl (fun a vs z => by
    rcases z with (z | ⟨u, z⟩) | z
    · exact .inl (.inl (by rw [upd_ne (ne_of z hp (by intro z; cases z))]; exact z))
    · exact .inl (.inr ⟨u, by rw [upd_ne (ne_of z hp (by intro z; cases z))]; exact z⟩)
    · exact .inr z) (fun a vs z => by rw [upd_ne (ne_of z hp (by intro z; cases z))]; exact z) (fun a u e n => by
    have ne : a ≠ p := fun z => n (.inl (z ▸ hB))
    exact ⟨by rw [upd_ne ne]; exact e, n⟩) (fun a u w e => by rw [upd_ne (ne_of e hp (by intro z; cases z))]; exact e) d v h
theorem poke_rps {p : Addr} {ws us : List V} (hp : H p = some (.lst ws)) (hB : B p) {d : List D} {v : List V} (h : Rps K H (Av B as M) as d v) : Rps K (upd H p (.lst us)) (Av B as M) as d v :=
  Rps.mono List.prefix_rfl (fun a vs z => by
    rcases z with (z | ⟨u, z⟩) | z
    · exact .inl (.inl (by rw [upd_ne (ne_of z hp (by intro z; cases z))]; exact z))
    · exact .inl (.inr ⟨u, by rw [upd_ne (ne_of z hp (by intro z; cases z))]; exact z⟩)
    · exact .inr z) (fun a vs z => by rw [upd_ne (ne_of z hp (by intro z; cases z))]; exact z) (fun a u e n => by
    have ne : a ≠ p := fun z => n (.inl (z ▸ hB))
    exact ⟨by rw [upd_ne ne]; exact e, n⟩) (fun a u w e => by rw [upd_ne (ne_of e hp (by intro z; cases z))]; exact e) d v h
theorem Sim.poke {p : Addr} {ws us : List V} (S : Sim K H B as M) (hp : H p = some (.lst ws)) (hB : B p) : Sim K (upd H p (.lst us)) B as M := by
  refine ⟨S.len, S.nd, fun a h => ?_, S.dj, fun i a c h1 h2 => (S.cell i a c h1 h2).map (poke_rp hp hB) (poke_rps hp hB) (fun u e => ?_) fun _ _ _ n => n⟩
  · by_cases e : a = p
    · subst e; rw [upd_same]; simp
    · rw [upd_ne e]; exact S.b0 a h
  · have ne : a ≠ p := fun z => S.dj a (List.mem_of_getElem? h1) (z ▸ hB)
    rw [upd_ne ne]; exact e
theorem Go.poke {H0 : Hp} {as0 : List Addr} {M0 : List Cell} {p : Addr} {us : List V} (g : Go as0 M0 H0 as M H) (h0 : H0 p = none) : Go as0 M0 H0 as M (upd H p (.lst us)) :=
  ⟨g.pre, fun a o e n => by rw [upd_ne (ne_of_none e h0)]; exact g.keep a o e n, g.live, fun a e => by
    by_cases q : a = p
    · subst q; rw [upd_same]; simp
    · rw [upd_ne q]; exact g.dom a e, g.new⟩
end
/-- a step, told from an earlier state -/
theorem post_bind0 {α β γ δ : Type} {K : PySem.W.Frag} {H0 H : Hp} {B B1 : Addr → Prop} {as0 as : List Addr} {M0 M : List Cell} {E E' : Nat → Hp → Prop} {rel1 : List Addr → List Cell → Hp → α → β → Prop} {rel2 : List Addr → List Cell → Hp → γ → δ → Prop}
    {r : R α} {f : α → List Cell → R γ} {Q : δ → Hp → Prop} {Q' : β → Hp → Prop} (h : PostG K H0 B as0 M0 E rel2 (r.nox.bind f) Q)
    (k : ∀ a M1 as1 H1 b, r = .ok a M1 → Go as M H as1 M1 H1 → Sim K H1 B1 as1 M1 → rel1 as1 M1 H1 a b → PostG K H0 B as0 M0 E rel2 (f a M1) Q → Q' b H1) : PostG K H B1 as M E' rel1 r Q' := by
  cases r with
  | ok a M1 => exact fun as' H' v g S q => k a M1 as' H' v rfl g S q h
  | exc c M1 => exact h.elim
  | bad => exact h
/-- what was laid ahead, of which all keep clear, becomes a place -/
theorem adopt {K : PySem.W.Frag} {H0 H H1 : Hp} {B : Addr → Prop} {as0 as : List Addr} {M0 M : List Cell} {ob ob1 : HO} {d : D} {p : Addr} (g0 : Go as0 M0 H0 as M H) (S : Sim K H (fun a => B a ∨ a = p) as M) (h0 : H0 p = none) (nb : ¬ B p) (hp : H p = some ob)
    (hnf : ∀ vs, ob ≠ .tup vs) (hnz : ∀ o u, ob ≠ .frz o u) (hH : H1 = upd H p ob1) (hc : (∀ {e : D} {v : V}, Rp K H (Av (fun a => B a ∨ a = p) as M) as e v → Rp K H1 (Av B (as ++ [p]) (M ++ [⟨true, d⟩])) (as ++ [p]) e v) → Cp K H1 (Av B (as ++ [p]) (M ++ [⟨true, d⟩])) (as ++ [p]) p ⟨true, d⟩) :
    Go as0 M0 H0 (as ++ [p]) (M ++ [⟨true, d⟩]) H1 ∧ Sim K H1 B (as ++ [p]) (M ++ [⟨true, d⟩]) := by
  subst hH
  have S' : Sim K H B as M := S.drop fun a b => .inl b
  have hn : p ∉ as := fun z => S.dj p z (.inr rfl)
  have lv : ∀ a, Live (as ++ [p]) (M ++ [⟨true, d⟩]) a → Live as M a ∨ a = p := fun a l => (Live.app S.len l).imp_right fun z => z.1
  have av : ∀ a, ¬ Av (fun a => B a ∨ a = p) as M a → ¬ Av B (as ++ [p]) (M ++ [⟨true, d⟩]) a := fun a n z => z.elim (fun b => n (.inl (.inl b))) fun l => (lv a l).elim (fun l => n (.inr l)) fun e => n (.inl (.inr e))
  have ntup : ∀ a vs, H a = some (.tup vs) → a ≠ p := fun a vs e z => by
    rw [z, hp] at e
    cases e
    exact hnf vs rfl
  have nfrz : ∀ a o u, H a = some (.frz o u) → a ≠ p := fun a o u e z => by
    rw [z, hp] at e
    cases e
    exact hnz o u rfl
  have hl : ∀ a u, H a = some u → ¬ Av (fun a => B a ∨ a = p) as M a → upd H p ob1 a = some u ∧ ¬ Av B (as ++ [p]) (M ++ [⟨true, d⟩]) a := fun a u e n =>
    ⟨by rw [upd_ne fun z => n (.inl (.inr z))]; exact e, av a n⟩
  have ht : ∀ a vs, SqT K H a vs → SqT K (upd H p ob1) a vs := fun a vs z => by
    rcases z with (z | ⟨u, z⟩) | z
    · exact .inl (.inl (by rw [upd_ne (ntup a vs z)]; exact z))
    · exact .inl (.inr ⟨u, by rw [upd_ne (nfrz a _ _ z)]; exact z⟩)
    · exact .inr z
  have w1 : ∀ {d' : D} {v : V}, Rp K H (Av (fun a => B a ∨ a = p) as M) as d' v → Rp K (upd H p ob1) (Av B (as ++ [p]) (M ++ [⟨true, d⟩])) (as ++ [p]) d' v := fun {d' v} h =>
    Rp.mono (List.prefix_append _ _) ht (fun a vs z => by rw [upd_ne (ntup a vs z)]; exact z) hl (fun a o u z => by rw [upd_ne (nfrz a o u z)]; exact z) d' v h
  have w2 : ∀ {d' : List D} {v : List V}, Rps K H (Av (fun a => B a ∨ a = p) as M) as d' v → Rps K (upd H p ob1) (Av B (as ++ [p]) (M ++ [⟨true, d⟩])) (as ++ [p]) d' v := fun {d' v} h =>
    Rps.mono (List.prefix_append _ _) ht (fun a vs z => by rw [upd_ne (ntup a vs z)]; exact z) hl (fun a o u z => by rw [upd_ne (nfrz a o u z)]; exact z) d' v h
  have g1 : Go as0 M0 H0 (as ++ [p]) (M ++ [⟨true, d⟩]) (upd H p ob1) := by
    refine ⟨g0.pre.trans (List.prefix_append _ _), fun a o e n => ?_, fun a ha l => ?_, fun a e => ?_, fun i a h1 h2 => ?_⟩
    · rw [upd_ne (ne_of_none e h0)]
      exact g0.keep a o e n
    · rcases lv a l with l | rfl
      · exact g0.live a ha l
      · exact absurd h0 ha
    · by_cases q : a = p
      · rw [q, upd_same]; simp
      · rw [upd_ne q]; exact g0.dom a e
    · by_cases hi : i < as.length
      · rw [List.getElem?_append_left hi] at h2
        exact g0.new i a h1 h2
      · rw [List.getElem?_append_right (by omega)] at h2
        cases q : i - as.length with
        | zero => rw [q] at h2; simp at h2; subst h2; exact h0
        | succ n => rw [q] at h2; simp at h2
  refine ⟨g1, by simp [S.len], ?_, fun a h => ?_, fun a h => ?_, fun i a c h1 h2 => ?_⟩
  · rw [List.nodup_append]
    refine ⟨S.nd, by simp, fun a ha b hb => ?_⟩
    simp at hb; subst hb
    exact fun e => hn (e ▸ ha)
  · by_cases q : a = p
    · rw [q, upd_same]; simp
    · rw [upd_ne q]; exact S'.b0 a h
  · rcases List.mem_append.mp h with h | h
    · exact S'.dj a h
    · simp at h; subst h; exact nb
  · by_cases hi : i < as.length
    · rw [List.getElem?_append_left hi] at h1
      rw [List.getElem?_append_left (by rw [← S.len]; exact hi)] at h2
      refine (S.cell i a c h1 h2).map w1 w2 (fun o e => ?_) fun _ _ _ n => av a n
      rw [upd_ne fun (z : a = p) => hn (by rw [← z]; exact List.mem_of_getElem? h1)]
      exact e
    · rw [List.getElem?_append_right (by omega)] at h1
      rw [List.getElem?_append_right (by have := S.len; omega)] at h2
      have e1 : i - as.length = 0 := by
        cases q : i - as.length with
        | zero => rfl
        | succ n => rw [q] at h1; simp at h1
      have e2 : i - M.length = 0 := by have := S.len; omega
      rw [e1] at h1; rw [e2] at h2
      simp at h1 h2
      subst h1; subst h2
      exact hc w1
/-- a list that has grown within a block is told -/
theorem end_new {K : PySem.W.Frag} {H0 H : Hp} {B : Addr → Prop} {as0 as : List Addr} {M0 M : List Cell} {E : Nat → Hp → Prop} {Q : VK} {m : Bool} {xs : List D} {vs : List V} {p : Addr}
    (g0 : Go as0 M0 H0 as M H) (S : Sim K H (fun a => B a ∨ a = p) as M) (h0 : H0 p = none) (nb : ¬ B p) (hp : H p = some (.lst vs)) (r : Rps K H (Av (fun a => B a ∨ a = p) as M) as xs vs) (h : PostD K H0 B as0 M0 E (new m xs M) Q) : Q (.ref p) H := by
  unfold new at h
  have S' : Sim K H B as M := S.drop fun a b => .inl b
  have hn : p ∉ as := fun z => S.dj p z (.inr rfl)
  split at h
  · cases m
    · have nl : ¬ Av B as M p := fun z => z.elim nb fun l => hn l.mem
      exact h as H (.ref p) g0 S' ⟨p, vs, rfl, hp, nl, Rps.mono List.prefix_rfl (fun _ _ z => z) (fun _ _ z => z) (fun a u z n => ⟨z, fun b => n (b.imp_left .inl)⟩) (fun _ _ _ z => z) _ _ r⟩
    · have lv : ∀ a, Live (as ++ [p]) (M ++ [⟨true, .lst xs⟩]) a → Live as M a ∨ a = p := fun a l => (Live.app S.len l).imp_right fun z => z.1
      have av : ∀ a, ¬ Av (fun a => B a ∨ a = p) as M a → ¬ Av B (as ++ [p]) (M ++ [⟨true, .lst xs⟩]) a := fun a n z => z.elim (fun b => n (.inl (.inl b))) fun l => (lv a l).elim (fun l => n (.inr l)) fun e => n (.inl (.inr e))
      have w1 : ∀ {d : D} {v : V}, Rp K H (Av (fun a => B a ∨ a = p) as M) as d v → Rp K H (Av B (as ++ [p]) (M ++ [⟨true, .lst xs⟩])) (as ++ [p]) d v := fun {d v} h =>
        Rp.mono (List.prefix_append _ _) (fun _ _ z => z) (fun _ _ z => z) (fun a u z n => ⟨z, av a n⟩) (fun _ _ _ z => z) d v h
      have w2 : ∀ {d : List D} {v : List V}, Rps K H (Av (fun a => B a ∨ a = p) as M) as d v → Rps K H (Av B (as ++ [p]) (M ++ [⟨true, .lst xs⟩])) (as ++ [p]) d v := fun {d v} h =>
        Rps.mono (List.prefix_append _ _) (fun _ _ z => z) (fun _ _ z => z) (fun a u z n => ⟨z, av a n⟩) (fun _ _ _ z => z) d v h
      have g1 : Go as0 M0 H0 (as ++ [p]) (M ++ [⟨true, .lst xs⟩]) H := by
        refine ⟨g0.pre.trans (List.prefix_append _ _), g0.keep, fun a ha l => ?_, g0.dom, fun i a h1 h2 => ?_⟩
        · rcases lv a l with l | rfl
          · exact g0.live a ha l
          · exact absurd h0 ha
        · by_cases hi : i < as.length
          · rw [List.getElem?_append_left hi] at h2
            exact g0.new i a h1 h2
          · rw [List.getElem?_append_right (by omega)] at h2
            cases q : i - as.length with
            | zero => rw [q] at h2; simp at h2; subst h2; exact h0
            | succ n => rw [q] at h2; simp at h2
      have S1 : Sim K H B (as ++ [p]) (M ++ [⟨true, .lst xs⟩]) := by
        refine ⟨by simp [S.len], ?_, S'.b0, fun a h => ?_, fun i a c h1 h2 => ?_⟩
        · rw [List.nodup_append]
          refine ⟨S.nd, by simp, fun a ha b hb => ?_⟩
          simp at hb; subst hb
          exact fun e => hn (e ▸ ha)
        · rcases List.mem_append.mp h with h | h
          · exact S'.dj a h
          · simp at h; subst h; exact nb
        · by_cases hi : i < as.length
          · rw [List.getElem?_append_left hi] at h1
            rw [List.getElem?_append_left (by rw [← S.len]; exact hi)] at h2
            exact (S.cell i a c h1 h2).map w1 w2 (fun o e => e) fun _ _ _ n => av a n
          · rw [List.getElem?_append_right (by omega)] at h1
            rw [List.getElem?_append_right (by have := S.len; omega)] at h2
            have e1 : i - as.length = 0 := by
              cases q : i - as.length with
              | zero => rfl
              | succ n => rw [q] at h1; simp at h1
            have e2 : i - M.length = 0 := by have := S.len; omega
            rw [e1] at h1; rw [e2] at h2
            simp at h1 h2
            subst h1; subst h2
            exact ⟨vs, hp, w2 r⟩
      refine h (as ++ [p]) H (.ref p) g1 S1 ⟨p, ?_, rfl⟩
      rw [← S.len, List.getElem?_append_right (Nat.le_refl _), Nat.sub_self]; rfl
  · exact h.elim
theorem wipe_idem (σ : St2) : ∀ vs ws : List Nat, (∀ v ∈ vs, v ∈ ws) → L2.wipe (L2.wipe σ vs) ws = L2.wipe σ ws
  | [], _, _ => rfl
  | v :: vs, ws, hs => by
    show L2.wipe ((L2.wipe σ vs).set v none) ws = _
    rw [wipe_set ws (hs v List.mem_cons_self), wipe_idem σ vs ws fun u hu => hs u (List.mem_cons_of_mem _ hu)]
theorem nox_bind {α β γ : Type} (r : R α) (f : α → List Cell → R β) (g : β → List Cell → R γ) : ((r.bind f).nox.bind g) = r.nox.bind fun a M => (f a M).nox.bind g := by
  cases r <;> rfl
theorem compL_nox (step : D → List Cell → R (Option D)) : ∀ (xs : List D) (M : List Cell) (k : Nat) (M' : List Cell), compL step xs M ≠ .exc k M'
  | [], M, k, M', h => by cases h
  | x :: xs, M, k, M', h => by
    have h' : ((step x M).nox.bind fun y M1 => (compL step xs M1).bind fun ys M2 => match y with
      | some y => R.ok (y :: ys) M2
      | none => .ok ys M2) = .exc k M' := h
    cases e : step x M with
    | ok y M1 =>
      rw [e] at h'
      dsimp only [R.nox_ok, R.bind_ok] at h'
      cases e2 : compL step xs M1 with
      | ok ys M2 =>
        rw [e2] at h'
        dsimp only [R.bind_ok] at h'
        split at h' <;> cases h'
      | exc k1 M2 => exact compL_nox step xs M1 k1 M2 e2
      | bad => rw [e2] at h'; cases h'
    | exc _ _ => rw [e] at h'; cases h'
    | bad => rw [e] at h'; cases h'
/-- .. so it ends with a list of a size that is told -/
theorem grown_lim {K : PySem.W.Frag} {H : Hp} {B : Addr → Prop} {as : List Addr} {M M1 : List Cell} {E : Nat → Hp → Prop} {Q : VK} {m : Bool} {acc : List D} {step : D → List Cell → R (Option D)} {xs : List D}
    (h : PostD K H B as M E ((compL step xs M1).bind fun ys M2 => new m (acc ++ ys) M2) Q) : acc.length ≤ LIM := by
  cases e : compL step xs M1 with
  | ok ys M2 =>
    rw [e] at h
    have h' : PostD K H B as M E (new m (acc ++ ys) M2) Q := h
    unfold new at h'
    split at h'
    · rename_i hl
      rw [List.length_append] at hl
      omega
    · exact h'.elim
  | exc k M2 => exact absurd e (compL_nox step xs M1 k M2)
  | bad => rw [e] at h; exact h.elim
section
variable {X : Cx} {cv : Nat → Value} {W : WX} {Φ : Phi} {c : Ctx} {x y z tg iter elt : Expr} {pos : Pos}
theorem takes0N {X : Cx} : L2N.Takes X (fun _ _ _ _ => False) := fun _ _ x => by
  obtain ⟨_, _, _, _, _, _, _, _, _, _, _, _, _, _, _, _, z⟩ := x
  exact z.elim
theorem blk_XH {s : Shared} {H : Hp} {C : Addr} {cl : List (Str × Addr)} {fp : List Addr} {scope : Scope} (hcool : c.hot = false) (h : XH c Φ cv X W) :
    XH (blkX c scope) Φ cv (X.blk s H scope (compEnvC scope cl C X.env) fp) W0 where
  N := h.N
  nd := h.nd
  sc := by
    show relS scope X.env.scope = relS scope c.sc
    rw [h.sc]
  fn := fun x hx => hx
  calm := h.calm
  hotc := fun z => absurd (show c.hot = true from z) (by rw [hcool]; decide)
  xis := fun z => absurd (show c.hot = true from z) (by rw [hcool]; decide)
  room := h.room
  hd := h.hd
  bi := h.bi
  gl := h.gl
  fns := h.fns
  tk := takes0N
theorem hblk_XH {s : Shared} {H : Hp} {C : Addr} {cl : List (Str × Addr)} {fp : List Addr} {scope : Scope} (h : XH c Φ cv X W) :
    XH (blkX c scope) Φ cv (SgH.hblk X s H scope (compEnvC scope cl C X.env) fp) W0 where
  N := h.N
  nd := h.nd
  sc := by
    show relS scope X.env.scope = relS scope c.sc
    rw [h.sc]
  fn := fun x hx => hx
  calm := h.calm
  hotc := fun z => SgH.hotC_blk (h.hotc z)
  xis := fun _ k m e => by cases e
  room := h.room
  hd := h.hd
  bi := h.bi
  gl := h.gl
  fns := h.fns
  tk := takes0N
/-- a comprehension's step -/
def cStep (Φ : Phi) (own : List Nat) (t : T) (cd : O) (e : E) (env : St) : D → List Cell → R (Option D) := fun x M2 => (evT Φ t x (wipeD env own) M2).bind fun σ1 M3 =>
  (evC Φ cd σ1 M3).bind fun k M4 => if k then (evE Φ e σ1 M4).bind fun y M5 => .ok (some y) M5 else .ok none M4
theorem own_map (N : List Str) (own : List Nat) : (ownP N own).map (·.2) = own := by
  unfold ownP
  rw [List.map_map]
  exact List.map_id _
theorem s_comp {m : Bool} {own : List Nat} {t : T} {it : It} {cd : O} {e : E} {scope : Scope} (h : XH c Φ cv X W) (hb : blkC c.N c.sc scope (ownP c.N own) = true) (hsub : tSub t own = true) (hx : shp iter = true) :
    ∀ σ H Q, tE X cv W Φ (.comp m own t it cd e) σ H Q → tLc (tI X cv W Φ it) (tT' X Φ t) (tC X cv W0 Φ cd) (tE X cv W0 Φ e) ((ownP c.N own).map (·.2)) σ H Q := fun σ H Q q => by
  rw [own_map]
  obtain ⟨B, as, M, env, S, r, q⟩ := q
  refine ⟨B, as, M, env, S, r, post_bind q fun xs M1 as1 H1 J hq g1 S1 feed q1 => ?_⟩
  have r1 := r.go S g1
  intro p hp
  have q1 : PostD X.K H1 B as1 M1 (exW W cv σ) ((compL (cStep Φ own t cd e env) xs M1).bind fun ys M2 => new m ys M2) Q := q1
  have nb : ¬ B p := fun b => S1.b0 p b hp
  refine ⟨fun i k H => k = xs.length - i ∧ i ≤ xs.length ∧ ∃ as' M' acc accV, Go as1 M1 H1 as' M' H ∧ Sim X.K H (fun a => B a ∨ a = p) as' M' ∧ H p = some (.lst accV) ∧ Rps X.K H (Av (fun a => B a ∨ a = p) as' M') as' acc accV ∧
    EnvR X.K H (Av (fun a => B a ∨ a = p) as' M') as' (wipeD env own) (L2.wipe σ own) ∧ PostD X.K H1 B as1 M1 (exW W cv σ) ((compL (cStep Φ own t cd e env) (xs.drop i) M').bind fun ys M2 => new m (acc ++ ys) M2) Q,
    ⟨xs.length, by simp, Nat.zero_le _, as1, M1, [], [], Go.laid S1 hp, S1.hide hp, upd_same, rfl, EnvR.wipe ⟨r1.len, fun i d e => let ⟨v, e1, e2⟩ := r1.get i d e; ⟨v, e1, hide_rp hp e2⟩⟩ own, q1⟩, ?_⟩
  rintro i k H2 ⟨rfl, hi, as2, M2, acc, accV, g2, S2, hp2, ra, r2, q2⟩
  have S2' : Sim X.K H2 B as2 M2 := S2.drop fun a b => .inl b
  have hB : ∀ a, H1 a ≠ none → (B a ∨ a = p) → B a := fun a ha z => z.elim id fun e => absurd (e ▸ hp) ha
  obtain ⟨f1, f2, f3⟩ := feed _ as2 M2 H2 hB g2 S2
  by_cases hlt : i < xs.length
  · refine .inr ⟨f1 i hlt, fun H => i + 1 ≤ xs.length ∧ ∃ as' M' acc accV, Go as1 M1 H1 as' M' H ∧ Sim X.K H (fun a => B a ∨ a = p) as' M' ∧ H p = some (.lst accV) ∧ Rps X.K H (Av (fun a => B a ∨ a = p) as' M') as' acc accV ∧
      EnvR X.K H (Av (fun a => B a ∨ a = p) as' M') as' (wipeD env own) (L2.wipe σ own) ∧ PostD X.K H1 B as1 M1 (exW W cv σ) ((compL (cStep Φ own t cd e env) (xs.drop (i + 1)) M').bind fun ys M2 => new m (acc ++ ys) M2) Q,
      fun H' h' => ⟨xs.length - (i + 1), by omega, rfl, h'⟩, fun v H3 y => ?_⟩
    have ex : xs[i]? = some xs[i] := List.getElem?_eq_getElem hlt
    obtain ⟨g3, S3, rv, k3⟩ := f3 i _ v H3 ex y
    have hp3 : H3 p = some (.lst accV) := k3 _ _ hp2
    have ra3 := g3.rps S2 ra
    have r3 := r2.go S2 g3
    have g3' := g2.trans g3
    -- the turn
    have q3 : PostD X.K H1 B as1 M1 (exW W cv σ) ((evT Φ t xs[i] (wipeD env own) M2).nox.bind fun σ1 M3 => (evC Φ cd σ1 M3).nox.bind fun k M4 => (if k then (evE Φ e σ1 M4).bind fun y M5 => R.ok (some y) M5 else R.ok none M4).nox.bind fun yo M5 =>
        (compL (cStep Φ own t cd e env) (xs.drop (i + 1)) M5).bind fun ys M6 => new m (acc ++ (match yo with | some y => y :: ys | none => ys)) M6) Q := by
      refine PostG.eq ?_ q2
      rw [List.drop_eq_getElem_cons hlt]
      show (((cStep Φ own t cd e env xs[i] M2).nox.bind fun yo M1 => (compL (cStep Φ own t cd e env) (xs.drop (i + 1)) M1).bind fun ys M2 => match yo with | some y => R.ok (y :: ys) M2 | none => .ok ys M2).bind fun ys M2 => new m (acc ++ ys) M2) = _
      unfold cStep
      cases evT Φ t xs[i] (wipeD env own) M2 with
      | ok σ1 M3 =>
        dsimp only [R.bind_ok, R.nox_ok]
        cases evC Φ cd σ1 M3 with
        | ok k M4 =>
          dsimp only [R.bind_ok, R.nox_ok]
          cases k with
          | true =>
            simp only [if_true]
            cases evE Φ e σ1 M4 with
            | ok y M5 =>
              dsimp only [R.bind_ok, R.nox_ok]
              cases compL _ (xs.drop (i + 1)) M5 <;> rfl
            | exc _ _ => rfl
            | bad => rfl
          | false =>
            simp only [Bool.false_eq_true, if_false]
            dsimp only [R.bind_ok, R.nox_ok]
            cases compL _ (xs.drop (i + 1)) M4 <;> rfl
        | exc _ _ => rfl
        | bad => rfl
      | exc _ _ => rfl
      | bad => rfl
    refine ⟨_, as2, M2, _, xs[i], S3, r3, rv, post_bind0 q3 fun σ1 M3 as3 H4 σ2 hq4 g4 S4 rr q4 => ?_⟩
    have hp4 : H4 p = some (.lst accV) := g4.keep p _ hp3 fun l => S3.dj p l.mem (.inr rfl)
    have ra4 := g4.rps S3 ra3
    have r4 := r3.go S3 g4
    have g4' := g3'.trans g4
    refine ⟨?_, ?_⟩
    · rw [rr.2 own hsub]
      exact wipe_idem _ own own fun _ h => h
    · refine ⟨_, as3, M3, σ1, S4, rr.1, post_bind0 q4 fun k M4 as4 H5 b hq5 g5 S5 rb q5 => ?_⟩
      have hp5 : H5 p = some (.lst accV) := g5.keep p _ hp4 fun l => S4.dj p l.mem (.inr rfl)
      have ra5 := g5.rps S4 ra4
      have r5 := r4.go S4 g5
      have g5' := g4'.trans g5
      have rb : k = b := rb
      subst rb
      cases k with
      | true =>
        simp only [if_true] at q5 ⊢
        have q5' : PostD X.K H1 B as1 M1 (exW W cv σ) ((evE Φ e σ1 M4).nox.bind fun y M5 => (compL (cStep Φ own t cd e env) (xs.drop (i + 1)) M5).bind fun ys M6 => new m (acc ++ y :: ys) M6) Q := by
          refine PostG.eq ?_ q5
          cases evE Φ e σ1 M4 <;> rfl
        refine ⟨_, as4, M4, σ1, S5, rr.1.go S4 g5, post_bind0 q5' fun y M5 as5 H6 w hq6 g6 S6 ry q6 => ?_⟩
        have hp6 : H6 p = some (.lst accV) := g6.keep p _ hp5 fun l => S5.dj p l.mem (.inr rfl)
        have ra6 := g6.rps S5 ra5
        have r6 := r5.go S5 g6
        have g6' := g5'.trans g6
        have q7 : PostD X.K H1 B as1 M1 (exW W cv σ) ((compL (cStep Φ own t cd e env) (xs.drop (i + 1)) M5).bind fun ys M6 => new m ((acc ++ [y]) ++ ys) M6) Q := by
          refine PostG.eq ?_ q6
          simp only [List.append_assoc, List.singleton_append]
        have hl := grown_lim q7
        refine ⟨accV, hp6, ?_, hlt, as5, M5, acc ++ [y], accV ++ [w], g6'.poke hp, S6.poke hp6 (.inr rfl), upd_same, ?_, ⟨r6.len, fun i d e => let ⟨v, e1, e2⟩ := r6.get i d e; ⟨v, e1, poke_rp hp6 (.inr rfl) e2⟩⟩, q7⟩
        · rw [ra6.len]
          rw [List.length_append] at hl
          exact Nat.lt_of_lt_of_le (by simp at hl; omega) (Nat.le_of_lt LIM_lt)
        · exact poke_rps hp6 (.inr rfl) (ra6.append (Rps.one ry))
      | false =>
        simp only [Bool.false_eq_true, if_false] at q5 ⊢
        exact ⟨hlt, as4, M4, acc, accV, g5', S5, hp5, ra5, r5, q5⟩
  · have ei : xs.drop i = [] := List.drop_eq_nil_of_le (by omega)
    rw [ei] at q2
    refine .inl ⟨f2 i (by omega), ?_⟩
    have q2' : PostD X.K H1 B as1 M1 (exW W cv σ) (new m acc M2) Q := by
      refine PostG.eq ?_ q2
      show new m (acc ++ []) M2 = _
      rw [List.append_nil]
    exact end_new g2 S2 hp nb hp2 ra q2'
end
end
end Sg

/-! SgRev: list(reversed(a list)). -/
namespace SgR
noncomputable section
open PySem PySem.Spec PyProof.Rows L2 RT
theorem push_other {h : Heap} {o o' : Obj} {b : Addr} (hb : b ≠ h.objs.size) (e : (h.push o).get? b = some o') : h.get? b = some o' := by
  obtain ⟨e1, e2⟩ := Heap.get?_some_iff.mp e
  refine Heap.get?_some_iff.mpr ⟨?_, e2⟩
  cases h
  simpa [Heap.push, Array.getElem?_push, hb] using e1
section
variable {prog : Program} {w : World} {A : Around} {E : Value → Shared → Prop} {s : Shared}
theorem extend_rev {R : Result → Shared → Prop} {it l : Addr} {items : Array Value} (hh : A.handled = none) (hit : s.heap.IsRevIter it l ((items.size : Int) - 1)) (hl : s.heap.IsList l items) (hne : l ≠ it) (hn : items.size ≤ sizeLine) (S : Addr) (res : Value) (c₀ : Nat)
    (hS : s.heap.get? S = some { cls := .type "list", data := .seq #[] c₀ }) (hSi : S ≠ it) (hSl : S ≠ l)
    (hR : ∀ h' tk acc' c', (∀ b o, b ≠ S → b ≠ it → s.heap.get? b = some o → h'.get? b = some o) → h'.get? S = some { cls := .type "list", dict := none, data := .seq acc' c', slots := #[] } →
      ItemsOf (fun i v => items[items.size - 1 - i]? = some v) acc' items.size → R (.ok (.ret res)) { s with heap := h', toks := tk }) :
    wpAny (model prog w) A.in1 (Builtin.List.listExtendWith (.ref S) (.ref it) res)
      (fun fin s' => match fin with | .done f => R (.ok f) s' | .again c' => c'.quiet = true ∧ codeAny (model prog w) A c' R s') (fun e s' => R (.error e) s') s := by
  have W := (Walks.listRev (prog := prog) (w := w) (A := A.in1) hh it l hne items).toS
  have hSf : S ∉ [it, l] := by simp only [List.mem_cons, List.not_mem_nil, or_false, not_or]; exact ⟨hSi, hSl⟩
  have hT : s.TypeIs (.ref it) "list_reverseiterator" := Heap.IsRevIter.typeIs hit
  have h1 : Builtin.List.listSameRef (.ref S) (.ref it) = false := by simp [Builtin.List.listSameRef, hSi]
  unfold Builtin.List.listExtendWith
  refine wpAny_bind (wpAny_typeOf hT ?_)
  rw [if_neg (by rw [h1]; decide)]
  refine wpAny_bind (wpAny_pyIter_revIter hit ?_)
  refine wpAny_bind (wpAny_holding ?_)
  unfold Builtin.List.listLengthHint
  refine wpAny_bind (wpAny_specialOf hT nolen_lri ?_)
  show wpAny _ A.in1 (specialOf (Value.ref it) (Str.ofString "__length_hint__") >>= _) _ _ _
  refine wpAny_bind (wpAny_specialOf hT hint_lri ?_)
  generalize hid : ("list_reverseiterator.__length_hint__" : String) = id0
  wp_delta
  rw [show splitId id0 = some ("list_reverseiterator", "__length_hint__") from by subst hid; decide +kernel]
  subst hid
  refine wpAny_bind (wpAny_isInstance (b := true) hT (by rw [isSubtype_type]; kernel_rfl) ?_)
  refine wpAny_pure ?_
  rw [if_neg (by decide)]
  have e0 : ((items.size : Nat) : Int) - 1 - ((0 : Nat) : Int) = (items.size : Int) - 1 := by omega
  refine wpAny_pure ⟨plainId_quiet F.plain_extend_loop _, codeAny_extend_loopS W hn _ hSf _ items.size 0 _ _ _ rfl (Nat.zero_le _) ⟨Nat.zero_le _, by rw [e0]; exact hit, hl⟩ hS (ItemsOf.nil _) fun s' acc' c' hm hS' hacc => ?_⟩
  rw [Moved.eq_with hm]
  refine hR s'.heap s'.toks acc' c' (fun b o hb hb2 e => hm.heap b o (fun hmem => ?_) e) hS' hacc
  rcases List.mem_cons.mp hmem with e' | hmem
  · exact hb e'
  · exact hb2 (List.mem_singleton.mp hmem)
theorem call_list_rev {Q : Value → Shared → Prop} {it l : Addr} {items : Array Value} (hh : A.handled = none) (hit : s.heap.IsRevIter it l ((items.size : Int) - 1)) (hl : s.heap.IsList l items) (hne : l ≠ it) (hn : items.size ≤ sizeLine)
    (hQ : ∀ h' tk acc' c', (∀ b o, b ≠ it → s.heap.get? b = some o → h'.get? b = some o) →
      h'.get? s.heap.objs.size = some { cls := .type "list", dict := none, data := .seq acc' c', slots := #[] } → ItemsOf (fun i v => items[items.size - 1 - i]? = some v) acc' items.size → Q (.ref s.heap.objs.size) { s with heap := h', toks := tk }) :
    wpAny (model prog w) A (call (.type "list") [.ref it]) Q E s := by
  obtain ⟨oi, hoi, _⟩ := id hit
  obtain ⟨ol, hol, _⟩ := id hl
  refine callType_codes (Q₁ := fun obj s₁ => obj = .ref s.heap.objs.size ∧ s₁ = { s with heap := s.heap.push { cls := .type "list", data := .seq #[] } }) F.called_list (F.typeCall_list_1 _) F.entry_list_init
    (code_list_new _ ⟨rfl, rfl⟩) fun obj s₁ h₁ => ?_
  obtain ⟨rfl, rfl⟩ := h₁
  have hS : (s.heap.push { cls := .type "list", data := .seq #[] }).get? s.heap.objs.size = some { cls := .type "list", data := .seq #[] } := Heap.get?_push_size _ rfl
  have hSi : s.heap.objs.size ≠ it := Nat.ne_of_gt (Heap.lt_size hoi)
  have hSl : s.heap.objs.size ≠ l := Nat.ne_of_gt (Heap.lt_size hol)
  refine ⟨⟨_, hS, rfl⟩, F.args_list_init_2 _ _, ?_⟩
  show wpAny _ A.in1.in1 (do let old ← Builtin.List.listItems (.ref s.heap.objs.size); Builtin.List.listUpdate (.ref s.heap.objs.size) (fun _ => #[]); letGo old.toList.reverse; Builtin.List.listExtendWith (.ref s.heap.objs.size) (.ref it) .none) _ _ _
  refine wpAny_bind ?_
  unfold Builtin.List.listItems
  refine wpAny_bind (wpAny_seqItems hS rfl (wpAny_pure ?_))
  show wpAny _ _ (updateSeq s.heap.objs.size (fun _ => #[]) >>= fun _ => letGo (#[] : Array Value).toList.reverse >>= fun _ => Builtin.List.listExtendWith (.ref s.heap.objs.size) (.ref it) .none) _ _ _
  refine wpAny_bind (wpAny_updateSeq hS rfl ?_)
  have hS₂ := Heap.get?_update_self (Obj.mapSeq (fun _ => (#[] : Array Value))) hS rfl
  have oth : ∀ b o, b ≠ s.heap.objs.size → s.heap.get? b = some o → ((s.heap.push { cls := .type "list", data := .seq #[] }).update s.heap.objs.size (Obj.mapSeq (fun _ => (#[] : Array Value)))).get? b = some o :=
    fun b o hb e => (Heap.get?_update_other _ _ (Ne.symm hb)).trans (Heap.get?_push_of_some _ e)
  refine wpAny_bind (wpAny_letGo ?_)
  refine extend_rev (A := A.in1) hh (hit.at fun o e => oth it o (Ne.symm hSi) e) ?_ hne hn s.heap.objs.size .none _ hS₂ hSi hSl fun h' tk acc' c' hk hS' hacc => ?_
  · obtain ⟨o, e, r⟩ := hl
    exact ⟨o, oth l o (Ne.symm hSl) e, r⟩
  · exact ⟨rfl, hQ h' tk acc' c' (fun b o hb e => hk b o (Nat.ne_of_lt (Heap.lt_size e)) hb (oth b o (Nat.ne_of_lt (Heap.lt_size e)) e)) hS' hacc⟩
end
section
variable {X : Cx}
theorem pe_listRev {e : Expr} {te : TE} {p p2 pos pos2 : Pos} (hc : X.calm = true) (hg : Gl X "list") (hm : X.mg "list" = none) (hg2 : Gl X "reversed") (hm2 : X.mg "reversed" = none) (he : PE X e te)
    (hs : starEach [e] X.env = (false, eval e X.env) :: starEach [] X.env)
    (hs2 : starEach [.Call (.Name "reversed" p2) [e] [] pos2] X.env = (false, eval (.Call (.Name "reversed" p2) [e] [] pos2) X.env) :: starEach [] X.env := by rfl) :
    PE X (.Call (.Name "list" p) [.Call (.Name "reversed" p2) [e] [] pos2] [] pos) (tRevL X.K te) := by
  refine ⟨fun pins s σ H Q I h => ?_⟩
  refine Call_ (ld_blt I hg hm boot_list (PyProof.Rows.callWith_type1 (args_cons (Call_ (ld_blt I hg2 hm2 PyProof.Rows.boot_reversed (PyProof.Rows.callWith_type1 (args_cons (thn (he.run pins s σ H _ I h) fun u s1 ⟨v, H1, I1, r1, q1⟩ => args_nil ?_) hs) hs rfl))) hs2) hs2 rfl))
  obtain ⟨a, xs, ev, hq, q⟩ := q1
  subst ev
  obtain rfl : u = Value.ref a := r1
  obtain ⟨its, rv, p', hz⟩ := I1.list hq
  refine call_reversed_list p'.isList (args_nil ?_)
  have k0 : ∀ b o, s1.heap.get? b = some o → (s1.heap.push (revObj a ((its.toArray.size : Int) - 1))).get? b = some o := fun b o e => Heap.get?_push_of_some _ e
  have I2 : Inv X pins σ H1 { s1 with heap := s1.heap.push (revObj a ((its.toArray.size : Int) - 1)) } := I1.kept (t' := s1.toks) k0
  obtain ⟨f0, f1, f2, f3, f4, f5⟩ := I1.fpOk (H' := H1) (b := s1.heap.objs.size) (Nat.le_refl _) (I1.hok.fresh (Nat.le_refl _))
  have hl := p'.isList
  obtain ⟨ol, hol, _⟩ := id hl
  have hne : a ≠ s1.heap.objs.size := Nat.ne_of_lt (Heap.lt_size hol)
  have hn : its.toArray.size ≤ sizeLine := by rw [List.size_toArray, ← rv.length]; exact hz
  refine call_list_rev (s := { s1 with heap := s1.heap.push (revObj a ((its.toArray.size : Int) - 1)) }) (I1.ok.hd hc) ⟨_, Heap.get?_push_size _ rfl, rfl, rfl⟩ (hl.push _) hne hn fun h' tk acc c' hk hL hi => ?_
  generalize hs2h : s1.heap.push (revObj a ((its.toArray.size : Int) - 1)) = g at *
  have I2 : Inv X pins σ H1 { s1 with heap := g } := I2
  have hD : g.objs.size = s1.heap.objs.size + 1 := by rw [← hs2h]; exact Heap.size_push ..
  have nD : H1 g.objs.size = none := I2.hok.fresh (Nat.le_refl _)
  have I3 : Inv X pins σ (upd H1 g.objs.size (.lst xs.reverse)) { s1 with heap := g.push { cls := .type "list", dict := none, data := .seq acc c', slots := #[] }, toks := tk } :=
    I2.laid (t' := tk) (fun b o e => Heap.get?_push_of_some _ e) (Nat.le_refl _) (show ObjOk X.prog X.w _ _ _ (.lst xs.reverse) from ⟨by rw [List.length_reverse]; exact hz, acc.toList, c', vals_rev rv hi, by
      rw [Array.toArray_toList]
      exact Heap.get?_push_size _ rfl⟩)
  have nit : g.objs.size ≠ s1.heap.objs.size := by omega
  have I4 : Inv X pins σ (upd H1 g.objs.size (.lst xs.reverse)) { s1 with heap := h', toks := tk } := by
    refine Inv.turned (s := { s1 with heap := g.push { cls := .type "list", dict := none, data := .seq acc c', slots := #[] }, toks := tk }) (h' := h') I3 (t' := tk) (it := s1.heap.objs.size) (fun b o hb e => ?_) (by rw [upd_ne (Ne.symm nit)]; exact f0) f1 f3 f4 f5
    by_cases hbD : b = g.objs.size
    · subst hbD
      rw [Heap.get?_push_size _ rfl] at e
      cases e
      exact hL
    · exact hk b o hb (push_other hbD e)
  exact ⟨.ref g.objs.size, _, I4, rfl, q _ nD⟩
end
end
end SgR

/-! SgSound4b: ranges backwards, lists of ranges, lists backwards. -/
namespace Sg
noncomputable section
open PySem PySem.Spec PyProof.Rows L2
section
variable {X : Cx} {cv : Nat → Value} {W : WX} {Φ : Phi} {c : Ctx} {x y z tg : Expr} {pos : Pos}
theorem rps_upTo {K : PySem.W.Frag} {H : Hp} {B : Addr → Prop} {as : List Addr} {i j : Int} : Rps K H B as (upTo i (j - i).toNat) (rgV i j) := by
  unfold upTo rgV
  have key : ∀ ks : List Nat, Rps K H B as (ks.map fun k => D.int (i + (k : Nat))) (ks.map fun k => V.int (i + (k : Nat))) := fun ks => by
    induction ks with
    | nil => rfl
    | cons k ks ih => exact ⟨.int (i + (k : Nat)), _, rfl, rfl, ih⟩
  exact key _
theorem lrng_post {K : PySem.W.Frag} {H : Hp} {B : Addr → Prop} {as : List Addr} {M : List Cell} {E : Nat → Hp → Prop} {Q : VK} {m : Bool} {i j : Int} (S : Sim K H B as M) (q : PostD K H B as M E (lrngD m (.int i) (.int j) M) Q) :
    RgOk i j ∧ ∀ p, H p = none → Q (.ref p) (upd H p (.lst (rgV i j))) := by
  have q : PostD K H B as M E (if B62 i ∧ B62 j then new m (upTo i (j - i).toNat) M else .bad) Q := q
  split at q
  · rename_i hb
    obtain ⟨hl, q2⟩ := new_post S rps_upTo q
    rw [rgV_length] at hl
    refine ⟨⟨hb.1.1, hb.1.2, hb.2.1, hb.2.2, ?_⟩, q2⟩
    unfold LIM at hl
    omega
  · exact q.elim
theorem s_lrng {m : Bool} {a : E} {p0 p1 p2 : Pos} (h : XH c Φ cv X W) (hcool : c.hot = false) (h1 : glOk c.sc ("list" : Str) = true) (h2 : glOk c.sc ("range" : Str) = true) (hx : shp x = true) (ha : PE X x (tE X cv W Φ a)) :
    PE X (.Call (.Name ("list" : Str) p0) [.Call (.Name ("range" : Str) p1) [x] [] p2] [] pos) (tE X cv W Φ (.lrng m a)) :=
  (pe_listRg (h.calm hcool) (gl_of h h1) (h.bi "list" (by decide)) (prg_1 (gl_of h h2) (h.bi "range" (by decide)) ha (shp_star hx))).imp fun σ H Q q => by
    obtain ⟨B, as, M, env, S, r, q⟩ := q
    refine ⟨B, as, M, env, S, r, post_bind q fun d M1 as1 H1 v hq1 g1 S1 ra q1 => ?_⟩
    cases d with
    | int j =>
      cases ra
      exact ⟨j, rfl, lrng_post S1 q1⟩
    | _ => exact q1.elim
theorem s_lrng2 {m : Bool} {a b : E} {p0 p1 p2 : Pos} (h : XH c Φ cv X W) (hcool : c.hot = false) (h1 : glOk c.sc ("list" : Str) = true) (h2 : glOk c.sc ("range" : Str) = true) (hx : shp x = true) (hy : shp y = true) (ha : PE X x (tE X cv W Φ a)) (hb : PE X y (tE X cv W Φ b)) :
    PE X (.Call (.Name ("list" : Str) p0) [.Call (.Name ("range" : Str) p1) [x, y] [] p2] [] pos) (tE X cv W Φ (.lrng2 m a b)) :=
  (pe_listRg (h.calm hcool) (gl_of h h1) (h.bi "list" (by decide)) (prg_2 (gl_of h h2) (h.bi "range" (by decide)) ha hb (by rw [shp_star hx, shp_star hy]) (shp_star hy) (by rw [shp_star hy]; rfl))).imp fun σ H Q q => by
    obtain ⟨B, as, M, env, S, r, q⟩ := q
    refine ⟨B, as, M, env, S, r, post_bind q fun d M1 as1 H1 v hq1 g1 S1 ra q1 => ?_⟩
    refine ⟨B, as1, M1, env, S1, r.go S g1, post_bind q1 fun e M2 as2 H2 w hq2 g2 S2 rb q2 => ?_⟩
    cases d with
    | int i =>
      cases e with
      | int j =>
        cases ra; cases rb
        exact ⟨i, j, rfl, rfl, lrng_post S2 q2⟩
      | _ => exact q2.elim
    | _ => cases e <;> exact q2.elim
theorem rvl_imp {m sl : Bool} {a : E} {σ : St2} {H : Hp} {Q : VK} (q : tE X cv W Φ (.rvl m sl a) σ H Q) : tRevL X.K (tE X cv W Φ a) σ H Q := by
  obtain ⟨B, as, M, env, S, r, q⟩ := q
  refine ⟨B, as, M, env, S, r, post_bind q fun d M1 as1 H1 v hq1 g1 S1 ra q1 => ?_⟩
  unfold rvlD at q1
  split at q1
  · rename_i xs e
    obtain ⟨p, vs, rfl, h1, h2, _⟩ := stop_nl S1 ra e
    exact ⟨p, vs, rfl, h1, (new_post S1 h2.reverse q1).2⟩
  · exact q1.elim
theorem s_rvl0 {m : Bool} {a : E} {p0 p1 p2 : Pos} (h : XH c Φ cv X W) (hcool : c.hot = false) (h1 : glOk c.sc ("list" : Str) = true) (h2 : glOk c.sc ("reversed" : Str) = true) (hx : shp x = true) (ha : PE X x (tE X cv W Φ a)) :
    PE X (.Call (.Name ("list" : Str) p0) [.Call (.Name ("reversed" : Str) p1) [x] [] p2] [] pos) (tE X cv W Φ (.rvl m false a)) :=
  (SgR.pe_listRev (h.calm hcool) (gl_of h h1) (h.bi "list" (by decide)) (gl_of h h2) (h.bi "reversed" (by decide)) ha (shp_star hx)).imp fun σ H Q q => rvl_imp q
theorem s_rvl1 {m : Bool} {a : E} {k : Nat} {p1 p2 p3 : Pos} (ha : PE X x (tE X cv W Φ a)) :
    PE X (.Subscript x (.Slice none none (some (.UnaryOp .USub (.Constant (.int 1) k p1) p2)) p3) pos) (tE X cv W Φ (.rvl m true a)) := (pe_revL ha).imp fun σ H Q q => rvl_imp q
theorem s_revR {a : E} {p0 p1 p2 : Pos} (h : XH c Φ cv X W) (h1 : glOk c.sc ("reversed" : Str) = true) (h2 : glOk c.sc ("range" : Str) = true) (hx : shp x = true) (ha : PE X x (tE X cv W Φ a)) :
    PI X tg (.Call (.Name ("reversed" : Str) p0) [.Call (.Name ("range" : Str) p1) [x] [] p2] [] pos) (tI X cv W Φ (.revR a)) :=
  (pi_revR (gl_of h h1) (h.bi "reversed" (by decide)) (prg_1 (gl_of h h2) (h.bi "range" (by decide)) ha (shp_star hx))).imp fun σ H R q => by
    obtain ⟨B, as, M, env, S, r, q⟩ := q
    refine ⟨B, as, M, env, S, r, post_bind q fun d M1 as1 H1 v hq1 g1 S1 ra q1 => ?_⟩
    split at q1
    · rename_i j
      split at q1
      · rename_i hb
        cases ra
        exact ⟨j, rfl, by decide, by decide, hb.1, hb.2, q1 as1 H1 _ Go.refl S1 feed_rangeC⟩
      · exact q1.elim
    · exact q1.elim
theorem s_revR2 {a b : E} {p0 p1 p2 : Pos} (h : XH c Φ cv X W) (h1 : glOk c.sc ("reversed" : Str) = true) (h2 : glOk c.sc ("range" : Str) = true) (hx : shp x = true) (hy : shp y = true) (ha : PE X x (tE X cv W Φ a)) (hb : PE X y (tE X cv W Φ b)) :
    PI X tg (.Call (.Name ("reversed" : Str) p0) [.Call (.Name ("range" : Str) p1) [x, y] [] p2] [] pos) (tI X cv W Φ (.revR2 a b)) :=
  (pi_revR (gl_of h h1) (h.bi "reversed" (by decide)) (prg_2 (gl_of h h2) (h.bi "range" (by decide)) ha hb (by rw [shp_star hx, shp_star hy]) (shp_star hy) (by rw [shp_star hy]; rfl))).imp fun σ H R q => by
    obtain ⟨B, as, M, env, S, r, q⟩ := q
    refine ⟨B, as, M, env, S, r, post_bind q fun d M1 as1 H1 v hq1 g1 S1 ra q1 => ?_⟩
    refine ⟨B, as1, M1, env, S1, r.go S g1, post_bind q1 fun e M2 as2 H2 w hq2 g2 S2 rb q2 => ?_⟩
    split at q2
    · rename_i i j
      split at q2
      · rename_i hb
        cases ra; cases rb
        exact ⟨i, j, rfl, rfl, hb.1.1, hb.1.2, hb.2.1, hb.2.2, q2 as2 H2 _ Go.refl S2 feed_rangeC⟩
      · exact q2.elim
    · exact q2.elim
end
end
end Sg

/-! SgDict: dicts. -/
namespace Sg
noncomputable section
open PySem PySem.Spec PyProof.Rows L2

/-! ### keys -/
theorem keysOf_map : ∀ {ks : List D} {l : List Key}, keysOf ks = some l ↔ ks.map keyOf = l.map some
  | [], l => by
    cases l with
    | nil => exact ⟨fun _ => rfl, fun _ => rfl⟩
    | cons _ _ => exact ⟨fun h => (nomatch h), fun h => (nomatch h)⟩
  | x :: xs, l => by
    rw [keysOf]
    cases e : keyOf x with
    | none =>
      refine ⟨fun h => (nomatch h), fun h => ?_⟩
      rw [List.map_cons, e] at h
      cases l <;> cases h
    | some k =>
      cases l with
      | nil =>
        refine ⟨fun h => ?_, fun h => (nomatch h)⟩
        cases e2 : keysOf xs <;> (rw [e2] at h; cases h)
      | cons k2 l =>
        rw [List.map_cons, List.map_cons, e, List.cons.injEq, ← keysOf_map (ks := xs) (l := l)]
        cases e2 : keysOf xs with
        | none => exact ⟨fun h => (nomatch h), fun h => (nomatch h.2)⟩
        | some l2 =>
          show some (k :: l2) = some (k2 :: l) ↔ _
          simp
theorem keysT_map : ∀ {ks : List D} {l : List (List Key)}, keysT ks = some l ↔ ks.map keyT = l.map some
  | [], l => by
    cases l with
    | nil => exact ⟨fun _ => rfl, fun _ => rfl⟩
    | cons _ _ => exact ⟨fun h => (nomatch h), fun h => (nomatch h)⟩
  | x :: xs, l => by
    rw [keysT]
    cases e : keyT x with
    | none =>
      refine ⟨fun h => (nomatch h), fun h => ?_⟩
      rw [List.map_cons, e] at h
      cases l <;> cases h
    | some k =>
      cases l with
      | nil =>
        refine ⟨fun h => ?_, fun h => (nomatch h)⟩
        cases e2 : keysT xs <;> (rw [e2] at h; cases h)
      | cons k2 l =>
        rw [List.map_cons, List.map_cons, e, List.cons.injEq, ← keysT_map (ks := xs) (l := l)]
        cases e2 : keysT xs with
        | none => exact ⟨fun h => (nomatch h), fun h => (nomatch h.2)⟩
        | some l2 =>
          show some (k :: l2) = some (k2 :: l) ↔ _
          simp
theorem beq_key1 {x y : D} {k l : Key} (hx : keyOf x = some k) (hy : keyOf y = some l) : beqX x y = true ↔ k = l := by
  cases x <;> first | (cases hx; done) | skip
  all_goals cases y <;> first | (cases hy; done) | skip
  all_goals first
    | (cases hx; cases hy; rw [beqX]; simp; done)
    | (cases hx; cases hy; exact ⟨fun h => (nomatch h), fun h => (nomatch h)⟩)
theorem beq_keys1 : ∀ {xs ys : List D} {k l : List Key}, keysOf xs = some k → keysOf ys = some l → (beqXs xs ys = true ↔ k = l)
  | [], [], k, l, hx, hy => by cases hx; cases hy; exact ⟨fun _ => rfl, fun _ => rfl⟩
  | [], y :: ys, k, l, hx, hy => by
    cases hx
    rw [keysOf_map] at hy
    cases l with
    | nil => cases hy
    | cons _ _ => exact ⟨fun h => (nomatch h), fun h => (nomatch h)⟩
  | x :: xs, [], k, l, hx, hy => by
    cases hy
    rw [keysOf_map] at hx
    cases k with
    | nil => cases hx
    | cons _ _ => exact ⟨fun h => (nomatch h), fun h => (nomatch h)⟩
  | x :: xs, y :: ys, k, l, hx, hy => by
    rw [keysOf_map] at hx hy
    cases k with
    | nil => cases hx
    | cons k0 k =>
      cases l with
      | nil => cases hy
      | cons l0 l =>
        rw [List.map_cons, List.map_cons, List.cons.injEq] at hx hy
        rw [beqXs, Bool.and_eq_true, beq_key1 hx.1 hy.1, beq_keys1 (keysOf_map.mpr hx.2) (keysOf_map.mpr hy.2), List.cons.injEq]
theorem beq_keyT {x y : D} {k l : List Key} (hx : keyT x = some k) (hy : keyT y = some l) : beqX x y = true ↔ k = l := by
  cases x <;> first | (cases hx; done) | skip
  cases y <;> first | (cases hy; done) | skip
  rw [beqX]
  exact beq_keys1 hx hy
theorem keyOf_of {x : D} (h : key1 x = true) : ∃ k, keyOf x = some k := by
  cases x <;> first | (cases h; done) | exact ⟨_, rfl⟩
theorem keysOf_of : ∀ {xs : List D}, xs.all key1 = true → ∃ ks, keysOf xs = some ks
  | [], _ => ⟨[], rfl⟩
  | x :: xs, h => by
    rw [List.all_cons, Bool.and_eq_true] at h
    obtain ⟨k, e1⟩ := keyOf_of h.1
    obtain ⟨ks, e2⟩ := keysOf_of h.2
    exact ⟨k :: ks, by rw [keysOf, e1, e2]; rfl⟩
theorem keyT_of {x : D} (h : isKey true x = true) : ∃ k, keyT x = some k := by
  cases x <;> first | (cases h; done) | skip
  exact keysOf_of h
/-! ### tables -/
section
variable {κ : Type} [DecidableEq κ] {kf : D → Option κ} {K : PySem.W.Frag} {H : Hp} {B : Addr → Prop} {as : List Addr}
theorem look_gen (hbe : ∀ {x y : D} {k l : κ}, kf x = some k → kf y = some l → (beqX x y = true ↔ k = l)) : ∀ {ks vs : List D} {kvs : List (κ × V)}, ks.map kf = (kvs.map (·.1)).map some → Rps K H B as vs (kvs.map (·.2)) → ∀ {b : D} {k : κ}, kf b = some k →
    match dLook b ks vs with
    | some d => ∃ v, valV kvs k = some v ∧ Rp K H B as d v
    | none => valV kvs k = none
  | [], vs, [], _, _, b, k, _ => by
    cases vs <;> exact rfl
  | [], vs, _ :: _, h, _, b, k, _ => by cases h
  | _ :: _, vs, [], h, _, b, k, _ => by cases h
  | x :: ks, vs, (j, w) :: kvs, h, r, b, k, hb => by
    rw [List.map_cons, List.map_cons, List.map_cons, List.cons.injEq] at h
    cases vs with
    | nil => cases r
    | cons d vs =>
      obtain ⟨v, r2, e, h1, h2⟩ := r
      rw [List.map_cons, List.cons.injEq] at e
      have e1 := hbe h.1 hb
      rw [dLook]
      by_cases hj : j = k
      · rw [if_pos (e1.mpr hj)]
        refine ⟨w, valV_pos hj, ?_⟩
        have e2 : w = v := e.1
        rw [e2]
        exact h1
      · rw [if_neg fun z => hj (e1.mp z), valV_neg hj]
        have e3 : kvs.map (·.2) = r2 := e.2
        exact look_gen hbe h.2 (by rw [e3]; exact h2) hb
theorem has_gen (hbe : ∀ {x y : D} {k l : κ}, kf x = some k → kf y = some l → (beqX x y = true ↔ k = l)) : ∀ {ks : List D} {kvs : List (κ × V)}, ks.map kf = (kvs.map (·.1)).map some → ∀ {b : D} {k : κ}, kf b = some k → dHas b ks = kvs.any fun kv => decide (kv.1 = k)
  | [], [], _, b, k, _ => rfl
  | [], _ :: _, h, b, k, _ => by cases h
  | _ :: _, [], h, b, k, _ => by cases h
  | x :: ks, (j, w) :: kvs, h, b, k, hb => by
    rw [List.map_cons, List.map_cons, List.map_cons, List.cons.injEq] at h
    have ih := has_gen hbe (ks := ks) (kvs := kvs) h.2 hb
    unfold dHas at ih ⊢
    rw [List.any_cons, List.any_cons, ih]
    congr 1
    have e1 := hbe h.1 hb
    by_cases hj : j = k
    · rw [e1.mpr hj, decide_eq_true hj]
    · rw [decide_eq_false hj]
      exact Bool.eq_false_iff.mpr fun z => hj (e1.mp z)
theorem repl_gen (hbe : ∀ {x y : D} {k l : κ}, kf x = some k → kf y = some l → (beqX x y = true ↔ k = l)) : ∀ {ks vs : List D} {kvs : List (κ × V)}, ks.map kf = (kvs.map (·.1)).map some → Rps K H B as vs (kvs.map (·.2)) → ∀ {b d : D} {k : κ} {v : V}, kf b = some k → Rp K H B as d v →
    Rps K H B as (dRepl b d ks vs) ((kvs.map fun kv => if kv.1 = k then (kv.1, v) else kv).map (·.2))
  | [], vs, [], _, r, b, d, k, v, _, _ => r
  | [], vs, _ :: _, h, _, b, d, k, v, _, _ => by cases h
  | _ :: _, vs, [], h, _, b, d, k, v, _, _ => by cases h
  | x :: ks, vs, (j, w) :: kvs, h, r, b, d, k, v, hb, hd => by
    rw [List.map_cons, List.map_cons, List.map_cons, List.cons.injEq] at h
    cases vs with
    | nil => cases r
    | cons d0 vs =>
      obtain ⟨v0, r2, e, h1, h2⟩ := r
      rw [List.map_cons, List.cons.injEq] at e
      have e3 : kvs.map (·.2) = r2 := e.2
      have ih := repl_gen hbe (ks := ks) (vs := vs) (kvs := kvs) h.2 (by rw [e3]; exact h2) hb hd
      have e1 := hbe h.1 hb
      rw [dRepl, List.map_cons, List.map_cons]
      refine ⟨_, _, rfl, ?_, ih⟩
      by_cases hj : j = k
      · rw [if_pos (e1.mpr hj)]
        dsimp only
        rw [if_pos hj]
        exact hd
      · rw [if_neg fun z => hj (e1.mp z)]
        dsimp only
        rw [if_neg hj]
        have e2 : w = v0 := e.1
        rw [e2]
        exact h1
theorem put_gen (hbe : ∀ {x y : D} {k l : κ}, kf x = some k → kf y = some l → (beqX x y = true ↔ k = l)) {ks vs : List D} {kvs : List (κ × V)} (hk : ks.map kf = (kvs.map (·.1)).map some) (r : Rps K H B as vs (kvs.map (·.2))) {b d : D} {k : κ} {v : V} (hb : kf b = some k) (hd : Rp K H B as d v) :
    (dPutK b ks).map kf = ((putK kvs k v).map (·.1)).map some ∧ Rps K H B as (dPutV b d ks vs) ((putK kvs k v).map (·.2)) := by
  unfold dPutK dPutV putK
  rw [has_gen hbe hk hb]
  split
  · refine ⟨?_, repl_gen hbe hk r hb hd⟩
    rw [hk]
    congr 1
    rw [List.map_map]
    refine List.map_congr_left fun p _ => ?_
    show p.1 = (if p.1 = k then (p.1, v) else p).1
    split <;> rfl
  · refine ⟨?_, ?_⟩
    · rw [List.map_append, hk, List.map_append, List.map_append]
      congr 1
      show [kf b] = [some k]
      rw [hb]
    · rw [List.map_append]
      exact r.append (Rps.one hd)
end
/-! ### what is read -/
section
variable {K : PySem.W.Frag} {H : Hp} {B : Addr → Prop} {as : List Addr} {M : List Cell}
theorem kV_rp {x : D} {k : Key} {y : V} (h : keyOf x = some k) (r : Rp K H B as x y) : y = kV k := by
  cases x <;> first | (cases h; done) | (cases h; exact r)
theorem rp_kV {x : D} {k : Key} (h : keyOf x = some k) : Rp K H B as x (kV k) := by
  cases x <;> first | (cases h; done) | (cases h; exact rfl)
theorem kVs_rp : ∀ {xs : List D} {ks : List Key} {ys : List V}, keysOf xs = some ks → Rps K H B as xs ys → ys = ks.map kV
  | [], ks, ys, h, r => by cases h; cases r; rfl
  | x :: xs, ks, ys, h, r => by
    rw [keysOf_map] at h
    cases ks with
    | nil => cases h
    | cons k ks =>
      rw [List.map_cons, List.map_cons, List.cons.injEq] at h
      obtain ⟨v, r2, rfl, h1, h2⟩ := r
      rw [kV_rp h.1 h1, kVs_rp (keysOf_map.mpr h.2) h2]
      rfl
theorem rps_kV : ∀ {xs : List D} {ks : List Key}, keysOf xs = some ks → Rps K H B as xs (ks.map kV)
  | [], ks, h => by cases h; rfl
  | x :: xs, ks, h => by
    rw [keysOf_map] at h
    cases ks with
    | nil => cases h
    | cons k ks =>
      rw [List.map_cons, List.map_cons, List.cons.injEq] at h
      exact ⟨_, _, rfl, rp_kV h.1, rps_kV (keysOf_map.mpr h.2)⟩
theorem kT_rp {x : D} {k : List Key} {y : V} (h : keyT x = some k) (r : Rp K H B as x y) : ∃ b, y = .ref b ∧ H b = some (.tup (k.map kV)) := by
  cases x <;> first | (cases h; done) | skip
  obtain ⟨b, vs, rfl, s, q⟩ := r
  have h : keysOf _ = some k := h
  rw [kVs_rp h q] at s
  exact ⟨b, rfl, s⟩
theorem rp_kT {x : D} {k : List Key} {b : Addr} (h : keyT x = some k) (s : H b = some (.tup (k.map kV))) : Rp K H B as x (.ref b) := by
  cases x <;> first | (cases h; done) | skip
  exact ⟨b, _, rfl, s, rps_kV h⟩
/-- a dict lies at p -/
def DK (K : PySem.W.Frag) (H : Hp) (B : Addr → Prop) (as : List Addr) (p : Addr) (ks vs : List D) (rd : Hp → Addr → HO → Prop) : Bool → Prop
  | false => ∃ kvs, rd H p (.dK kvs) ∧ ks.map keyOf = (kvs.map (·.1)).map some ∧ Rps K H B as vs (kvs.map (·.2))
  | true => ∃ kvs, rd H p (.dT kvs) ∧ ks.map keyT = (kvs.map (·.1)).map some ∧ Rps K H B as vs (kvs.map (·.2))
abbrev isAt (H : Hp) (p : Addr) (o : HO) : Prop := H p = some o
theorem dct_ref {i : Nat} {t : Bool} {ks vs : List D} (h : dctOf M (.ref i) = some (t, ks, vs)) : ∃ m, M[i]? = some ⟨m, .dct t ks vs⟩ := by
  have h' : (match M[i]? with
    | some ⟨_, .dct t ks vs⟩ => some (t, ks, vs)
    | _ => none) = some (t, ks, vs) := h
  split at h'
  · rename_i m t' ks' vs' hc
    cases h'
    exact ⟨m, hc⟩
  · cases h'
theorem dct_rp {d : D} {x : V} {t : Bool} {ks vs : List D} (S : Sim K H B as M) (r : Rp K H (Av B as M) as d x) (h : dctOf M d = some (t, ks, vs)) : ∃ p, x = .ref p ∧ DK K H (Av B as M) as p ks vs Rd t := by
  cases d with
  | dct t' ks' vs' =>
    cases h
    cases t
    · obtain ⟨p, kvs, e, s, n, k, q⟩ := r
      exact ⟨p, e, kvs, s, keysOf_map.mp k, q⟩
    · obtain ⟨p, kvs, e, s, n, k, q⟩ := r
      exact ⟨p, e, kvs, s, keysT_map.mp k, q⟩
  | ref i =>
    obtain ⟨a, e, rfl⟩ := r
    obtain ⟨m, hc⟩ := dct_ref h
    have q := S.cell i a _ e hc
    refine ⟨a, rfl, ?_⟩
    cases m <;> cases t
    · obtain ⟨o, kvs, s, n, k, q⟩ := q
      exact ⟨kvs, .inr ⟨o, s⟩, keysOf_map.mp k, q⟩
    · obtain ⟨o, kvs, s, n, k, q⟩ := q
      exact ⟨kvs, .inr ⟨o, s⟩, keysT_map.mp k, q⟩
    · obtain ⟨kvs, s, k, q⟩ := q
      exact ⟨kvs, .inl s, keysOf_map.mp k, q⟩
    · obtain ⟨kvs, s, k, q⟩ := q
      exact ⟨kvs, .inl s, keysT_map.mp k, q⟩
  | _ => cases h
theorem DK.isD {p : Addr} {ks vs : List D} {t : Bool} (h : DK K H B as p ks vs Rd t) : IsD H p := by
  cases t
  · obtain ⟨kvs, s, _⟩ := h
    exact .inl ⟨kvs, s⟩
  · obtain ⟨kvs, s, _⟩ := h
    exact .inr ⟨kvs, s⟩
/-- a key is looked up -/
theorem dget_of {b : D} {y : V} {t : Bool} {ks vs : List D} {p : Addr} (h : DK K H B as p ks vs Rd t) (rb : Rp K H B as b y) (hk : isKey t b = true) :
    ∃ o, DGet H p y o ∧ match dLook b ks vs with
      | some d => ∃ v, o = some v ∧ Rp K H B as d v
      | none => o = none := by
  cases t
  · obtain ⟨kvs, s, k, q⟩ := h
    obtain ⟨key, e⟩ := keyOf_of (x := b) hk
    refine ⟨valV kvs key, .inl ⟨kvs, key, s, kV_rp e rb, rfl⟩, ?_⟩
    have := look_gen beq_key1 k q e
    revert this
    cases dLook b ks vs <;> exact id
  · obtain ⟨kvs, s, k, q⟩ := h
    obtain ⟨key, e⟩ := keyT_of (x := b) hk
    obtain ⟨a, e1, e2⟩ := kT_rp e rb
    refine ⟨valV kvs key, .inr ⟨kvs, key, a, s, e1, e2, rfl⟩, ?_⟩
    have := look_gen beq_keyT k q e
    revert this
    cases dLook b ks vs <;> exact id
/-! ### steps of the small heap -/
theorem Sim.pushO {p : Addr} {ob : HO} {c : Cell} (S : Sim K H B as M) (hp : H p = none) (hc : Cp K (upd H p ob) (Av B (as ++ [p]) (M ++ [c])) (as ++ [p]) p c) : Sim K (upd H p ob) B (as ++ [p]) (M ++ [c]) := by
  have g : Go as M H (as ++ [p]) (M ++ [c]) (upd H p ob) := Go.push S hp
  refine ⟨by simp [S.len], ?_, fun a h => g.dom a (S.b0 a h), fun a h => ?_, fun i a c' h1 h2 => ?_⟩
  · rw [List.nodup_append]
    refine ⟨S.nd, by simp, fun a ha b hb => ?_⟩
    simp at hb; subst hb
    exact fun e => S.fresh hp (e ▸ ha)
  · rcases List.mem_append.mp h with h | h
    · exact S.dj a h
    · simp at h; subst h
      exact fun b => S.b0 _ b hp
  · by_cases hi : i < as.length
    · rw [List.getElem?_append_left hi] at h1
      rw [List.getElem?_append_left (by rw [← S.len]; exact hi)] at h2
      exact (S.cell i a c' h1 h2).go S g fun _ o e => by rw [upd_ne (ne_of_none e hp)]; exact e
    · rw [List.getElem?_append_right (by omega)] at h1
      rw [List.getElem?_append_right (by have := S.len; omega)] at h2
      have e1 : i - as.length = 0 := by
        cases q : i - as.length with
        | zero => rfl
        | succ n => rw [q] at h1; simp at h1
      have e2 : i - M.length = 0 := by have := S.len; omega
      rw [e1] at h1; rw [e2] at h2
      simp at h1 h2
      subst h1; subst h2
      exact hc
/-- what was laid ahead, of which all keep clear, becomes a place -/
theorem Go.adopt {p : Addr} {ob : HO} {c : Cell} (S : Sim K H (fun a => B a ∨ a = p) as M) : Go as M H as M (upd H p ob) ∨ True := .inr trivial
theorem Sim.putO {i : Nat} {a : Addr} {d : D} {ob : HO} {d' : D} (S : Sim K H B as M) (ha : as[i]? = some a) (hc : M[i]? = some ⟨true, d⟩) (hcp : Cp K (upd H a ob) (Av B as (M.set i ⟨true, d'⟩)) as a ⟨true, d'⟩) : Sim K (upd H a ob) B as (M.set i ⟨true, d'⟩) := by
  have g : Go as M H as (M.set i ⟨true, d'⟩) (upd H a ob) := Go.put S ha hc
  refine ⟨by simp [S.len], S.nd, fun a h => g.dom a (S.b0 a h), S.dj, fun j b c h1 h2 => ?_⟩
  rcases set_get h2 with ⟨rfl, rfl, _⟩ | ⟨hj, h2⟩
  · rw [ha] at h1; cases h1
    exact hcp
  · refine (S.cell j b c h1 h2).go S g fun _ o e => ?_
    have : b ≠ a := fun e => hj (nd_ix S h1 (e ▸ ha))
    rw [upd_ne this]; exact e
/-- a new dict -/
theorem dnew_post {E : Nat → Hp → Prop} {Q : VK} {t : Bool} {ks vs : List D} {p : Addr} {ob : HO} (S : Sim K H B as M) (hp : H p = none)
    (hc : Cp K (upd H p ob) (Av B (as ++ [p]) (M ++ [⟨true, .dct t ks vs⟩])) (as ++ [p]) p ⟨true, .dct t ks vs⟩) (h : PostD K H B as M E (.ok (.ref M.length) (M ++ [⟨true, .dct t ks vs⟩])) Q) : Q (.ref p) (upd H p ob) := by
  refine h (as ++ [p]) _ _ (Go.push S hp) (Sim.pushO S hp hc) ⟨p, ?_, rfl⟩
  rw [← S.len, List.getElem?_append_right (Nat.le_refl _), Nat.sub_self]; rfl
/-- d[k] = v -/
theorem dset_rp {o i v : D} {x y z : V} {M' : List Cell} (S : Sim K H B as M) (ro : Rp K H (Av B as M) as o x) (ri : Rp K H (Av B as M) as i y) (rv : Rp K H (Av B as M) as v z) (h : dsetD o i v M = some M') :
    ∃ p H', x = .ref p ∧ DPut H p y z H' ∧ Go as M H as M' H' ∧ Sim K H' B as M' := by
  cases o with
  | ref j =>
    have h' : (match M[j]? with
      | some ⟨true, .dct t ks vs⟩ => if isKey t i = true ∧ ks.length < LIM then some (M.set j ⟨true, .dct t (dPutK i ks) (dPutV i v ks vs)⟩) else none
      | _ => none) = some M' := h
    split at h'
    · rename_i t ks vs hc
      split at h'
      · rename_i hk
        cases h'
        obtain ⟨a, e, rfl⟩ := ro
        have q := S.cell j a _ e hc
        cases t
        · obtain ⟨kvs, s, k, q⟩ := q
          obtain ⟨key, e1⟩ := keyOf_of (x := i) hk.1
          have hl : kvs.length < sizeLine := by
            have := congrArg List.length (keysOf_map.mp k)
            rw [List.length_map, List.length_map, List.length_map] at this
            have h2 := hk.2
            have h3 := LIM_lt
            omega
          have g : Go as M H as (M.set j ⟨true, .dct false (dPutK i ks) (dPutV i v ks vs)⟩) (upd H a (.dK (putK kvs key z))) := Go.put S e hc
          refine ⟨a, _, rfl, .inl ⟨kvs, key, s, kV_rp e1 ri, hl, rfl⟩, g, Sim.putO S e hc ?_⟩
          obtain ⟨p1, p2⟩ := put_gen beq_key1 (keysOf_map.mp k) (g.rps S q) e1 (g.rp S rv)
          exact ⟨_, upd_same, keysOf_map.mpr p1, p2⟩
        · obtain ⟨kvs, s, k, q⟩ := q
          obtain ⟨key, e1⟩ := keyT_of (x := i) hk.1
          obtain ⟨b, rfl, e2⟩ := kT_rp e1 ri
          have hl : kvs.length < sizeLine := by
            have := congrArg List.length (keysT_map.mp k)
            rw [List.length_map, List.length_map, List.length_map] at this
            have h2 := hk.2
            have h3 := LIM_lt
            omega
          have g : Go as M H as (M.set j ⟨true, .dct true (dPutK i ks) (dPutV i v ks vs)⟩) (upd H a (.dT (putK kvs key z))) := Go.put S e hc
          refine ⟨a, _, rfl, .inr ⟨kvs, key, b, s, rfl, e2, hl, rfl⟩, g, Sim.putO S e hc ?_⟩
          obtain ⟨p1, p2⟩ := put_gen beq_keyT (keysT_map.mp k) (g.rps S q) e1 (g.rp S rv)
          exact ⟨_, upd_same, keysT_map.mpr p1, p2⟩
      · cases h'
    · cases h'
  | _ => cases h
/-- a dict is locked -/
theorem lock_rp {d : D} {x : V} {t : Bool} {ks vs : List D} {M' : List Cell} (S : Sim K H B as M) (r : Rp K H (Av B as M) as d x) (h : lockD d M = some (t, ks, vs, M')) :
    ∃ p, x = .ref p ∧ ((DK K H (Av B as M) as p ks vs isAt t ∧ ∀ od u, H p = some u → Go as M H as M' (upd H p (.frz od u)) ∧ Sim K (upd H p (.frz od u)) B as M') ∨ (∃ od, DK K H (Av B as M) as p ks vs (fun H p u => H p = some (.frz od u)) t ∧ M' = M)) ∧ ¬ Live as M' p := by
  cases d with
  | ref j =>
    have h' : (match M[j]? with
      | some ⟨_, .dct t ks vs⟩ => some (t, ks, vs, M.set j ⟨false, .dct t ks vs⟩)
      | _ => none) = some (t, ks, vs, M') := h
    split at h'
    · rename_i m t' ks' vs' hc
      cases h'
      obtain ⟨a, e, rfl⟩ := r
      have q := S.cell j a _ e hc
      have nl : ¬ Live as (M.set j ⟨false, .dct t ks vs⟩) a := fun ⟨k, e', z1, z2⟩ => by
        have := nd_ix S z1 e
        subst this
        rcases set_get z2 with ⟨_, q, _⟩ | ⟨z, _⟩
        · cases q
        · exact z rfl
      refine ⟨a, rfl, ?_, nl⟩
      cases m
      · have eM : M.set j ⟨false, .dct t ks vs⟩ = M := by
          obtain ⟨hj, ej⟩ := List.getElem?_eq_some_iff.mp hc
          rw [← ej, List.set_getElem_self]
        refine .inr ?_
        cases t
        · obtain ⟨o, kvs, s, n, k, q⟩ := q
          exact ⟨o, ⟨kvs, s, keysOf_map.mp k, q⟩, eM⟩
        · obtain ⟨o, kvs, s, n, k, q⟩ := q
          exact ⟨o, ⟨kvs, s, keysT_map.mp k, q⟩, eM⟩
      · have go : ∀ od u, H a = some u → Go as M H as (M.set j ⟨false, .dct t ks vs⟩) (upd H a (.frz od u)) := fun od u hu => by
          refine ⟨List.prefix_rfl, fun b o hb n => ?_, fun b hb l => ?_, fun b hb => ?_, fun i a h1 h2 => by rw [List.getElem?_eq_none h1] at h2; cases h2⟩
          · have : b ≠ a := fun z => n (z ▸ ⟨j, _, e, hc⟩)
            rw [upd_ne this]; exact hb
          · obtain ⟨k, e', z1, z2⟩ := l
            rcases set_get z2 with ⟨rfl, q, _⟩ | ⟨z, z2⟩
            · cases q
            · exact ⟨k, e', z1, z2⟩
          · by_cases hba : b = a
            · rw [hba, upd_same]; simp
            · rw [upd_ne hba]; exact hb
        have nav : ¬ Av B as (M.set j ⟨false, .dct t ks vs⟩) a := fun z => z.elim (S.dj a (List.mem_of_getElem? e)) nl
        refine .inl ⟨?_, fun od u hu => ⟨go od u hu, by simp [S.len], S.nd, fun b hb => (go od u hu).dom b (S.b0 b hb), S.dj, fun k b c h1 h2 => ?_⟩⟩
        · cases t
          · obtain ⟨kvs, s, k, q⟩ := q
            exact ⟨kvs, s, keysOf_map.mp k, q⟩
          · obtain ⟨kvs, s, k, q⟩ := q
            exact ⟨kvs, s, keysT_map.mp k, q⟩
        · rcases set_get h2 with ⟨rfl, rfl, _⟩ | ⟨hk, h2⟩
          · rw [e] at h1; cases h1
            cases t
            · obtain ⟨kvs, s, k, q⟩ := q
              rw [hu] at s; cases s
              exact ⟨od, kvs, upd_same, nav, k, (go od _ hu).rps S q⟩
            · obtain ⟨kvs, s, k, q⟩ := q
              rw [hu] at s; cases s
              exact ⟨od, kvs, upd_same, nav, k, (go od _ hu).rps S q⟩
          · refine (S.cell k b c h1 h2).go S (go od u hu) fun _ o eo => ?_
            have : b ≠ a := fun z => hk (nd_ix S h1 (z ▸ e))
            rw [upd_ne this]; exact eo
    · cases h'
  | _ => cases h
end
/-! ### the layer's rules -/
section
variable {X : Cx} {pos : Pos}
/-- a dict is locked as it is read -/
def tLk (td : TE) : TE := fun σ H Q => td σ H fun x H1 => ∃ d, x = .ref d ∧ ((∃ u, H1 d = some u ∧ Mut (some u) ∧ ∀ od, Q x (upd H1 d (.frz od u))) ∨ Q x H1)
theorem pe_lk {e : Expr} {td : TE} (h : PE X e td) : PE X e (tLk td) := ⟨fun pins s σ H Q I q =>
  thn (h.run pins s σ H _ I q) fun v s1 ⟨x, H1, I1, r1, d, ex, q1⟩ => by
    rcases q1 with ⟨u, hu, mu, q1⟩ | q1
    · obtain ⟨od, I2⟩ := I1.lock hu mu
      exact ⟨x, _, I2, r1, q1 od⟩
    · exact ⟨x, H1, I1, r1, q1⟩⟩
/-- {k: v}, k a tuple -/
def tDun (tk tv : TE) : TE := fun σ H Q => ∀ p, H p = none → tk σ (upd H p (.dT [])) fun x H1 => tv σ H1 fun y H2 => H2 p = some (.dT []) ∧ ∃ b ks, x = .ref b ∧ H2 b = some (.tup (ks.map kV)) ∧ Q (.ref p) (upd H2 p (.dT [(ks, y)]))
theorem pe_dun {k v : Expr} {tk tv : TE} (hu : X.A.units + 1 < cLine) (hk : PE X k tk) (hv : PE X v tv) : PE X (.Dict [some k] [v] pos) (tDun tk tv) := by
  refine ⟨fun pins s σ H Q I q => ?_⟩
  have hn := I.hok.fresh (Nat.le_refl s.heap.objs.size)
  have I1 := I.laid (a := s.heap.objs.size) (o := .dT []) (h' := s.heap.push { cls := .type "dict", data := .dict #[] }) (t' := s.toks) (fun _ _ q => Heap.get?_push_of_some _ q) (Nat.le_refl _) (dt_empty s.heap I.big)
  have run := (pps_cons (pos := pos) hk hv pps_nil).run pins _ σ _ (fun ps H2 => match ps with
    | [(x, y)] => H2 s.heap.objs.size = some (.dT []) ∧ ∃ b ks, x = .ref b ∧ H2 b = some (.tup (ks.map kV)) ∧ Q (.ref s.heap.objs.size) (upd H2 s.heap.objs.size (.dT [(ks, y)]))
    | _ => False) I1 (q _ hn)
  have hl := pairTrees_length [some k] [v] X.env pos rfl rfl
  rw [arm_eval_Dict, zip_pairTrees [some k] [v] X.env pos rfl rfl, dictDisplay_pairs _ (fun z => by rw [z] at hl; cases hl) (by rw [hl]; show 1 < 17; decide)]
  refine wpAny_bind (wpAny_standAt (wpAny_bind (wpAny_subDictH (knd := tupleKind (mixKind X.prog X.w)) (Q := fun d s' => wpAny (model X.prog X.w) X.A (pure (Value.ref d)) (EP X pins σ Q) X.xe s') (show X.A.units < cLine by omega) (by rw [hl]; show 1 ≤ 15; decide) (thn run fun ws s2 ⟨ps, H2, I2, rel, q2⟩ => ?_))))
  match ps, rel, q2 with
  | [(x, y)], rel, ⟨e1, b, ks, ex, e2, q3⟩ =>
    subst ex
    cases ws with
    | nil => cases rel
    | cons p2 ws =>
      obtain ⟨u, w⟩ := p2
      cases rel with
      | cons hr ht =>
        cases ht
        obtain ⟨r1, r2⟩ := hr
        obtain rfl : u = Value.ref b := r1
        obtain ⟨z, hd, xs, rx, dd⟩ := dt_of I2.hok e1
        cases rx
        refine ⟨[(ks, b, w)], ⟨rfl, rfl, key_of I2.hok e2, trivial⟩, dd, fun h' tk dd' hs => wpAny_pure ⟨.ref s.heap.objs.size, _, ?_, rfl, q3⟩⟩
        obtain ⟨o, es, ep, ho, h2, h3, h4, _, h5⟩ := dd'
        refine d_write I2 (t' := tk) (by rw [e1]; exact True.intro) hs ⟨o, ho⟩ ⟨by rw [sizeLine_eq]; show 1 ≤ 16777216; decide, hd, [(ks, b, w)], .cons ⟨rfl, ?_, r2⟩ .nil, o, es, ep, ho, h2, h3, h4, h5⟩
        rw [upd_ne (ne_of e2 e1 (fun z => nomatch z))]
        exact e2
end
end
end Sg

/-! SgSound4c: dicts. -/
namespace Sg
noncomputable section
open PySem PySem.Spec PyProof.Rows L2
section
variable {X : Cx} {cv : Nat → Value} {W : WX} {Φ : Phi} {c : Ctx} {x y z tg : Expr} {pos : Pos}
theorem s_ktup {es : Es} {xs : List Expr} {k : Nat} (h : PA X xs (tEs X cv W Φ es)) : PE X (.Tuple xs k pos) (tE X cv W Φ (.ktup es)) :=
  (pe_tup h).imp fun σ H Q q => by
    obtain ⟨B, as, M, env, S, rr, q⟩ := q
    refine ⟨B, as, M, env, S, rr, post_bind q fun ds M1 as1 H1 vs _ g1 S1 rs q1 => ?_⟩
    split at q1
    · rename_i hl
      exact ⟨by rw [rs.len]; exact Nat.le_trans hl LIM_le, ktup_post' S1 rs q1⟩
    · exact q1.elim
theorem s_dnew {t : Bool} : PE X (.Dict [] [] pos) (tE X cv W Φ (.dnew t)) := by
  cases t
  · refine pe_dnewK.imp fun σ H Q q p hp => ?_
    obtain ⟨B, as, M, env, S, rr, q⟩ := q
    exact dnew_post (t := false) (ks := []) (vs := []) S hp ⟨[], upd_same, rfl, rfl⟩ q
  · refine pe_dnewT.imp fun σ H Q q p hp => ?_
    obtain ⟨B, as, M, env, S, rr, q⟩ := q
    exact dnew_post (t := true) (ks := []) (vs := []) S hp ⟨[], upd_same, rfl, rfl⟩ q
theorem hu1 (h : XH c Φ cv X W) : X.A.units + 1 < cLine := by
  have := hu64 h
  omega
theorem s_dget {a b : E} (h : XH c Φ cv X W) (ha : PE X x (tE X cv W Φ a)) (hb : PE X y (tE X cv W Φ b)) (hy : shp y = true) : PE X (.Subscript x y pos) (tE X cv W Φ (.dget a b)) := by
  refine (pe_dget (hu1 h) ha hb (by cases y <;> first | (intro o i; rfl) | cases hy)).imp fun σ H Q q => ?_
  obtain ⟨B, as, M, env, S, rr, q⟩ := q
  refine ⟨B, as, M, env, S, rr, post_bind q fun d M1 as1 H1 v _ g1 S1 ra q1 => ?_⟩
  refine ⟨B, as1, M1, env, S1, rr.go S g1, post_bind q1 fun e M2 as2 H2 w _ g2 S2 rb q2 => ?_⟩
  have ra2 := g2.rp S1 ra
  unfold dgetD at q2
  split at q2
  · rename_i t ks vs e1
    split at q2
    · rename_i hk
      obtain ⟨p, rfl, dk⟩ := dct_rp S2 ra2 e1
      obtain ⟨o, dg, m⟩ := dget_of dk rb hk
      split at q2
      · rename_i dv e2
        rw [e2] at m
        obtain ⟨u, rfl, ru⟩ := m
        exact ⟨p, u, rfl, dg, q2 as2 H2 u Go.refl S2 ru⟩
      · exact q2.elim
    · exact q2.elim
  · exact q2.elim
theorem din_key {ng : Bool} {a b : E} {σ : St2} {H : Hp} {Q : VK} (q : tE X cv W Φ (.din ng a b) σ H Q) : tE X cv W Φ a σ H fun y H1 => tE X cv W Φ b σ H1 fun x H2 => ∃ a o, x = .ref a ∧ DGet H2 a y o ∧ Q (.bl (if ng then !o.isSome else o.isSome)) H2 := by
  obtain ⟨B, as, M, env, S, rr, q⟩ := q
  refine ⟨B, as, M, env, S, rr, post_bind q fun d M1 as1 H1 v _ g1 S1 ra q1 => ?_⟩
  refine ⟨B, as1, M1, env, S1, rr.go S g1, post_bind q1 fun e M2 as2 H2 w _ g2 S2 rb q2 => ?_⟩
  have ra2 := g2.rp S1 ra
  unfold dinD at q2
  split at q2
  · rename_i t ks vs e1
    split at q2
    · rename_i hk
      obtain ⟨p, rfl, dk⟩ := dct_rp S2 rb e1
      obtain ⟨o, dg, m⟩ := dget_of dk ra2 hk
      refine ⟨p, o, rfl, dg, ?_⟩
      have eo : (dLook d ks vs).isSome = o.isSome := by
        cases e3 : dLook d ks vs with
        | none =>
          rw [e3] at m
          rw [show o = none from m]
          rfl
        | some dv =>
          rw [e3] at m
          obtain ⟨u, rfl, _⟩ := m
          rfl
      rw [eo] at q2
      exact q2 as2 H2 _ Go.refl S2 rfl
    · exact q2.elim
  · exact q2.elim
theorem s_din {ng : Bool} {a b : E} {o : CmpOp} (ho : o = if ng then .NotIn else .In) (h : XH c Φ cv X W) (ha : PE X x (tE X cv W Φ a)) (hb : PE X y (tE X cv W Φ b)) (hy : shp y = true) : PE X (.Compare x [o] [y] pos) (tE X cv W Φ (.din ng a b)) := by
  subst ho
  cases ng
  · exact (pe_cmp (pc_din (hu1 h) ha hb) (shp_mark hy)).imp fun σ H Q q => din_key q
  · exact (pe_cmp (pc_dnotin (hu1 h) ha hb) (shp_mark hy)).imp fun σ H Q q => din_key q
theorem st_din {ng : Bool} {a b : E} {o : CmpOp} (ho : o = if ng then .NotIn else .In) (h : XH c Φ cv X W) (ha : PE X x (tE X cv W Φ a)) (hb : PE X y (tE X cv W Φ b)) (hy : shp y = true) : PT X (.Compare x [o] [y] pos) (tT X cv W Φ (.din ng a b)) := by
  subst ho
  cases ng
  · exact (pt_cmp (pc_din (hu1 h) ha hb) (shp_mark hy)).imp fun σ H Q q => din_key (toT q)
  · exact (pt_cmp (pc_dnotin (hu1 h) ha hb) (shp_mark hy)).imp fun σ H Q q => din_key (toT q)
theorem s_dgetd {a b d : E} {apos : Pos} (hl : (apos.endLine == pos.line) = true) (h : XH c Φ cv X W) (ha : PE X x (tE X cv W Φ a)) (hb : PE X y (tE X cv W Φ b)) (hd : PE X z (tE X cv W Φ d)) (hx : shp x = true) (hy : shp y = true) (hz : shp z = true) :
    PE X (.Call (.Attribute x ("get" : Str) apos) [y, z] [] pos) (tE X cv W Φ (.dgetd a b d)) := by
  have st : starEach [y, z] X.env = [(false, eval y X.env), (false, eval z X.env)] := by rw [shp_star hy, shp_star hz]; rfl
  refine (pe_dget2 (hu1 h) ha hb hd ⟨shp_base hx, by rw [st]; rfl, hl, by rw [st]; rfl⟩).imp fun σ H Q q => ?_
  obtain ⟨B, as, M, env, S, rr, q⟩ := q
  refine ⟨B, as, M, env, S, rr, post_bind q fun dd M1 as1 H1 v hq1 g1 S1 ra q1 => ?_⟩
  split at q1
  case h_2 => exact q1.elim
  rename_i dk0 hk0
  obtain ⟨t0, ks0, vs0⟩ := dk0
  obtain ⟨p, rfl, dk0⟩ := dct_rp S1 ra hk0
  have hp := dk0.isD
  refine ⟨p, rfl, hp, B, as1, M1, env, S1, rr.go S g1, post_bind q1 fun e M2 as2 H2 w _ g2 S2 rb q2 => ?_⟩
  refine ⟨B, as2, M2, env, S2, (rr.go S g1).go S1 g2, post_bind q2 fun f M3 as3 H3 u _ g3 S3 rc q3 => ?_⟩
  have ra3 := g3.rp S2 (g2.rp S1 ra)
  have rb3 := g3.rp S2 rb
  unfold dgetdD at q3
  split at q3
  · rename_i t ks vs e1
    split at q3
    · rename_i hk
      obtain ⟨p', ep, dk⟩ := dct_rp S3 ra3 e1
      cases ep
      obtain ⟨o, dg, m⟩ := dget_of dk rb3 hk
      refine ⟨o, dg, ?_⟩
      cases e3 : dLook e ks vs with
      | none =>
        rw [e3] at m q3
        rw [show o = none from m]
        exact q3 as3 H3 u Go.refl S3 rc
      | some dv =>
        rw [e3] at m q3
        obtain ⟨u', rfl, ru⟩ := m
        exact q3 as3 H3 u' Go.refl S3 ru
    · exact q3.elim
  · exact q3.elim
/-! displays -/
theorem lit_pe {d : D} {xe : Expr} (h : litOk d xe = true) : PE X xe (L2.tC (flV d)) ∧ flatD d = true ∧ ∀ {K : PySem.W.Frag} {H : Hp} {B : Addr → Prop} {as : List Addr}, Rp K H B as d (flV d) := by
  unfold litOk at h
  split at h
  · unfold constOk at h
    split at h
    · exact ⟨pe_non, rfl, rfl⟩
    · have e := eq_of_beq h
      subst e
      exact ⟨pe_bl, rfl, rfl⟩
    · have e := eq_of_beq h
      subst e
      exact ⟨pe_int, rfl, rfl⟩
    · have e := of_decide_eq_true h
      subst e
      exact ⟨pe_str, rfl, rfl⟩
    · cases h
  · split at h
    · have e := eq_of_beq h
      subst e
      exact ⟨(pe_un un_neg pe_int).imp fun σ H Q q => ⟨_, rfl, q⟩, rfl, rfl⟩
    · cases h
  · cases h
theorem merge_new {kvs : List (Key × V)} : ∀ {acc : List (Key × V)}, (kvs.map (·.1)).Nodup → (∀ kv ∈ kvs, ∀ a ∈ acc, a.1 ≠ kv.1) → mergeK acc kvs = acc ++ kvs := by
  induction kvs with
  | nil => intro acc _ _; exact (List.append_nil _).symm
  | cons q kvs ih =>
    intro acc hn ha
    rw [List.map_cons, List.nodup_cons] at hn
    have e : putK acc q.1 q.2 = acc ++ [q] := by
      unfold putK
      rw [if_neg]
      intro z
      rw [List.any_eq_true] at z
      obtain ⟨a, h1, h2⟩ := z
      exact ha q List.mem_cons_self a h1 (of_decide_eq_true h2)
    show mergeK (putK acc q.1 q.2) kvs = _
    rw [e, ih hn.2, List.append_assoc]
    · rfl
    · intro kv hk a h1
      rcases List.mem_append.mp h1 with h1 | h1
      · exact ha kv (List.mem_cons_of_mem _ hk) a h1
      · rw [List.mem_singleton] at h1
        subst h1
        exact fun z => hn.1 (z ▸ List.mem_map_of_mem (f := (·.1)) hk)
theorem lits_pps : ∀ {ks vs : List D} {xs : List (Option Expr)} {ys : List Expr}, litsOk ks vs xs ys = true → ∃ kvs : List (Key × V), PPs X pos xs ys (kvs.map fun kv => (L2.tC (kV kv.1), L2.tC kv.2)) ∧ ks.map keyOf = (kvs.map (·.1)).map some ∧ (kvs.map (·.1)).Nodup ∧
    (∀ {K : PySem.W.Frag} {H : Hp} {B : Addr → Prop} {as : List Addr}, Rps K H B as vs (kvs.map (·.2))) ∧ xs.all (·.isSome) = true ∧ xs.length = ys.length ∧ ks.length = xs.length ∧ kvs.length = ks.length
  | [], [], [], [], _ => ⟨[], pps_nil, rfl, List.nodup_nil, rfl, rfl, rfl, rfl, rfl⟩
  | k :: ks, v :: vs, some x :: xs, y :: ys, h => by
    rw [litsOk] at h
    simp only [Bool.and_eq_true, Bool.not_eq_true'] at h
    obtain ⟨h1, h2, h3, h4, h5⟩ := h
    obtain ⟨kvs, p1, p2, p3, p4, p5, p6, p7, p8⟩ := lits_pps h5
    obtain ⟨ek, _, rk⟩ := lit_pe (X := X) h1
    obtain ⟨ev, _, rv⟩ := lit_pe (X := X) h2
    obtain ⟨key, e⟩ := keyOf_of h3
    have e1 : flV k = kV key := kV_rp (K := X.K) (H := fun _ => none) (B := fun _ => False) (as := []) e rk
    refine ⟨(key, flV v) :: kvs, pps_cons (by rw [← e1]; exact ek) ev p1, ?_, ?_, ⟨_, _, rfl, rv, p4⟩, ?_, ?_, ?_, ?_⟩
    · rw [List.map_cons, List.map_cons, List.map_cons, e, p2]
    · rw [List.map_cons, List.nodup_cons]
      refine ⟨fun z => ?_, p3⟩
      rw [has_gen beq_key1 p2 e] at h4
      obtain ⟨kv, z1, z2⟩ := List.mem_map.mp z
      have := List.any_eq_false.mp h4 kv z1
      exact this (decide_eq_true z2)
    · rw [List.all_cons, p5]; rfl
    · rw [List.length_cons, List.length_cons, p6]
    · rw [List.length_cons, List.length_cons, p7]
    · rw [List.length_cons, List.length_cons, p8]
  | [], _ :: _, _, _, h => by cases h
  | _ :: _, [], _, _, h => by cases h
  | [], [], _ :: _, _, h => by cases h
  | [], [], [], _ :: _, h => by cases h
  | _ :: _, _ :: _, [], _, h => by cases h
  | _ :: _, _ :: _, none :: _, _, h => by cases h
  | _ :: _, _ :: _, some _ :: _, [], h => by cases h
theorem pairs_c {σ : St2} : ∀ {kvs : List (Key × V)} {H : Hp} {Q : List (V × V) → Hp → Prop}, Q (kvs.map fun kv => (kV kv.1, kv.2)) H → tPairs (kvs.map fun kv => (L2.tC (kV kv.1), L2.tC kv.2)) σ H Q
  | [], _, _, h => h
  | q :: kvs, H, Q, h => pairs_c (kvs := kvs) (H := H) (Q := fun ps H3 => Q ((kV q.1, q.2) :: ps) H3) h
theorem s_dlit {ks vs : List D} {xs : List (Option Expr)} {ys : List Expr} (h : litsOk ks vs xs ys = true) (h0 : ks.isEmpty = false) (h15 : ks.length ≤ 15) : PE X (.Dict xs ys pos) (tE X cv W Φ (.dlit ks vs)) := by
  obtain ⟨kvs, p1, p2, p3, p4, p5, p6, p7, p8⟩ := lits_pps (X := X) (pos := pos) h
  refine (pe_disp p1 p5 p6 (fun z => ?_) (by rw [← p7]; exact h15)).imp fun σ H Q q p hp => ?_
  · rw [z] at p7
    cases ks with
    | nil => cases h0
    | cons _ _ => cases p7
  · obtain ⟨B, as, M, env, S, rr, q⟩ := q
    refine pairs_c ⟨upd_same, kvs, rfl, by rw [p8]; exact h15, ?_⟩
    rw [upd_upd, merge_new p3 (fun _ _ a z => (List.not_mem_nil z).elim), List.nil_append]
    exact dnew_post (t := false) (ks := ks) (vs := vs) S hp ⟨kvs, upd_same, keysOf_map.mpr p2, p4⟩ q
theorem s_dun {e : E} {k : Nat} {p1 : Pos} (h : XH c Φ cv X W) (he : PE X y (tE X cv W Φ e)) : PE X (.Dict [some (.Tuple [] k p1)] [y] pos) (tE X cv W Φ (.dun e)) := by
  refine (pe_dun (hu1 h) (pe_tup pa_nil) he).imp fun σ H Q q p hp => ?_
  obtain ⟨B, as, M, env, S, rr, q⟩ := q
  refine ⟨by rw [sizeLine_eq]; decide, fun b hb => ?_⟩
  have nb : ¬ B p := fun b => S.b0 p b hp
  have hbp : b ≠ p := fun z => by
    rw [z, upd_same] at hb
    cases hb
  have S1 := S.hide (o := .dT []) hp
  have S2 : Sim X.K (upd (upd H p (.dT [])) b (.tup [])) (fun a => B a ∨ a = p) as M := Sim.laid S1 hb
  have g2 : Go as M (upd H p (.dT [])) as M (upd (upd H p (.dT [])) b (.tup [])) := Go.laid S1 hb
  have r2 : EnvR X.K (upd (upd H p (.dT [])) b (.tup [])) (Av (fun a => B a ∨ a = p) as M) as env σ := ⟨rr.len, fun i d e => by
    obtain ⟨v, z1, z2⟩ := rr.get i d e
    exact ⟨v, z1, g2.rp S1 (hide_rp hp z2)⟩⟩
  have g0 : Go as M H as M (upd (upd H p (.dT [])) b (.tup [])) := (Go.laid S hp).trans g2
  refine ⟨fun a => B a ∨ a = p, as, M, env, S2, r2, ?_⟩
  have q : PostD X.K H B as M (exW W cv σ) ((evE Φ e env M).bind fun d M1 => .ok (.ref M1.length) (M1 ++ [⟨true, .dct true [.ktp []] [d]⟩])) Q := q
  cases ee : evE Φ e env M with
  | ok d M1 =>
    rw [ee] at q
    intro as1 H1 v g1 S1' rv
    have hp1 : H1 p = some (.dT []) := g1.keep p _ (by rw [upd_ne (Ne.symm hbp), upd_same]) fun l => S.fresh hp l.mem
    have hb1 : H1 b = some (.tup ([] : List V)) := g1.keep b _ upd_same fun l => by
      exact S1.fresh hb l.mem
    refine ⟨hp1, b, [], rfl, hb1, ?_⟩
    obtain ⟨ga, Sa⟩ := adopt (ob1 := .dT [([], v)]) (d := .dct true [.ktp []] [d]) (g0.trans g1) S1' hp nb hp1 (fun _ z => by cases z) (fun _ _ z => by cases z) rfl (fun w1 => ⟨[([], v)], upd_same, rfl, Rps.one (w1 rv)⟩)
    refine q _ _ _ ga Sa ⟨p, ?_, rfl⟩
    rw [← S1'.len, List.getElem?_append_right (Nat.le_refl _), Nat.sub_self]; rfl
  | exc k M1 =>
    rw [ee] at q
    intro as1 H1 g1 S1'
    exact q as1 H1 (g0.trans g1) (S1'.drop fun a b => .inl b)
  | bad => rw [ee] at q; exact q
/-! lists of keys -/
theorem s_dlst {m : Bool} {a : E} {p0 : Pos} (h : XH c Φ cv X W) (hcool : c.hot = false) (h1 : glOk c.sc ("list" : Str) = true) (hx : shp x = true) (ha : PE X x (tE X cv W Φ a)) : PE X (.Call (.Name ("list" : Str) p0) [x] [] pos) (tE X cv W Φ (.dlst m a)) := by
  have rule : CallR X (.type "list") (fun xs H Q => (∃ p kvs, xs = [.ref p] ∧ H p = some (.dK kvs) ∧ ∀ q, H q = none → Q (.ref q) (upd H q (.lst (kvs.map fun kv => kV kv.1)))) ∨
      ∃ d kvs, xs = [V.ref d] ∧ Rd H d (.dT kvs) ∧ ∀ p bs, H p = none → IsKeys H kvs bs → Q (.ref p) (upd H p (.lst (bs.map V.ref)))) := fun pins s σ H xs us Q I r q => by
    rcases q with q | q
    · exact call_list_dK (h.calm hcool) pins s σ H xs us Q I r q
    · exact call_list_dT (h.calm hcool) pins s σ H xs us Q I r q
  refine (pe_callTy rule (gl_of h h1) (h.bi "list" (by decide)) boot_list (pa_cons ha pa_nil (shp_star hx)) (by decide) (by decide) (shp_star hx) rfl).imp fun σ H Q q => ?_
  obtain ⟨B, as, M, env, S, rr, q⟩ := q
  refine ⟨B, as, M, env, S, rr, post_bind q fun d M1 as1 H1 v hq1 g1 S1 ra q1 => ?_⟩
  unfold dlstD at q1
  split at q1
  · rename_i i
    split at q1
    · rename_i t ks vs hc
      obtain ⟨p, e, rfl⟩ := ra
      have qc := S1.cell i p _ e hc
      cases t
      · obtain ⟨kvs, s, k, _⟩ := qc
        refine .inl ⟨p, kvs, rfl, s, ?_⟩
        have rk : Rps X.K H1 (Av B as1 M1) as1 ks (kvs.map fun kv => kV kv.1) := by
          have e3 : (kvs.map fun kv => kV kv.1) = (kvs.map (·.1)).map kV := by rw [List.map_map]; rfl
          rw [e3]
          exact rps_kV k
        exact (new_post S1 rk q1).2
      · obtain ⟨kvs, s, k, _⟩ := qc
        refine .inr ⟨p, kvs, rfl, .inl s, fun q bs hq hb => ?_⟩
        have rk : ∀ {ks : List D} {kvs : List (List Key × V)} {bs : List Addr}, ks.map keyT = (kvs.map (·.1)).map some → IsKeys H1 kvs bs → Rps X.K H1 (Av B as1 M1) as1 ks (bs.map V.ref) := fun {ks} => by
          induction ks with
          | nil =>
            intro kvs bs hk hb
            cases kvs with
            | nil => cases hb; rfl
            | cons _ _ => cases hk
          | cons x ks ih =>
            intro kvs bs hk hb
            cases kvs with
            | nil => cases hk
            | cons kv kvs =>
              rw [List.map_cons, List.map_cons, List.map_cons, List.cons.injEq] at hk
              cases bs with
              | nil => cases hb
              | cons b bs =>
                cases hb with
                | cons h1 h2 => exact ⟨_, _, rfl, rp_kT hk.1 h1, ih hk.2 h2⟩
        exact (new_post S1 (rk (keysT_map.mp k) hb) q1).2 q hq
    · exact q1.elim
  · exact q1.elim
/-! a dict is walked -/
theorem feed_keysK {B : Addr → Prop} {as : List Addr} {M : List Cell} {H : Hp} {d : Addr} {o : Obj} {kvs : List (Key × V)} {ks : List D} (hd : H d = some (.frz o (.dK kvs))) (nl : ¬ Live as M d) (hk : ks.map keyOf = (kvs.map (·.1)).map some) : Feed X B as M H ks (Itk d o kvs) := by
  intro B' as' M' H' hB g S'
  have h' := g.keep _ _ hd nl
  have hl : ks.length = kvs.length := by
    have := congrArg List.length hk
    simpa using this
  refine ⟨fun i hi => ⟨h', by omega⟩, fun i hi => ⟨h', by omega⟩, fun i dd x H'' e y => ?_⟩
  obtain ⟨rfl, k, v, e1, rfl⟩ := y
  refine ⟨Go.refl, S', rp_kV ?_, fun _ _ h => h⟩
  have := congrArg (fun l => l[i]?) hk
  simp only [List.getElem?_map, e, e1, Option.map_some] at this
  exact Option.some.inj this
theorem feed_keysT {B : Addr → Prop} {as : List Addr} {M : List Cell} {H : Hp} {d : Addr} {o : Obj} {kvs : List (List Key × V)} {ks : List D} (hd : H d = some (.frz o (.dT kvs))) (nl : ¬ Live as M d) (hk : ks.map keyT = (kvs.map (·.1)).map some) : Feed X B as M H ks (Itkt d o kvs) := by
  intro B' as' M' H' hB g S'
  have h' := g.keep _ _ hd nl
  have hl : ks.length = kvs.length := by
    have := congrArg List.length hk
    simpa using this
  refine ⟨fun i hi => ⟨h', by omega⟩, fun i hi => ⟨h', by omega⟩, fun i dd x H'' e y => ?_⟩
  obtain ⟨rfl, k, v, q, e1, rfl, e2⟩ := y
  refine ⟨Go.refl, S', rp_kT ?_ e2, fun _ _ h => h⟩
  have := congrArg (fun l => l[i]?) hk
  simp only [List.getElem?_map, e, e1, Option.map_some] at this
  exact Option.some.inj this
theorem feed_vals {B : Addr → Prop} {as : List Addr} {M : List Cell} {H : Hp} {d : Addr} {o : Obj} {kvs : List (Key × V)} {vs : List D} (S : Sim X.K H B as M) (hd : H d = some (.frz o (.dK kvs))) (nl : ¬ Live as M d) (r : Rps X.K H (Av B as M) as vs (kvs.map (·.2))) : Feed X B as M H vs (Itd d o kvs) := by
  intro B' as' M' H' hB g S'
  have h' := g.keep _ _ hd nl
  have r' := g.rps2 S hB r
  have hl : vs.length = kvs.length := by
    have := r.len
    rw [List.length_map] at this
    omega
  refine ⟨fun i hi => ⟨h', by omega⟩, fun i hi => ⟨h', by omega⟩, fun i dd x H'' e y => ?_⟩
  obtain ⟨rfl, k, e1⟩ := y
  obtain ⟨v, e2, e3⟩ := r'.get e
  rw [List.getElem?_map, e1] at e2
  cases e2
  exact ⟨Go.refl, S', e3, fun _ _ h => h⟩
theorem s_keys {a : E} (ha : PE X x (tE X cv W Φ a)) : PI X tg x (tI X cv W Φ (.keys a)) :=
  (pi_keys (pe_lk ha)).imp fun σ H R q => by
    obtain ⟨B, as, M, env, S, r, q⟩ := q
    refine ⟨B, as, M, env, S, r, post_bind q fun d M1 as1 H1 v hq1 g1 S1 ra q1 => ?_⟩
    split at q1
    · rename_i t ks vs M2 e
      obtain ⟨p, rfl, hc, nl⟩ := lock_rp S1 ra e
      refine ⟨p, rfl, ?_⟩
      rcases hc with ⟨dk, go⟩ | ⟨od, dk, rfl⟩
      · cases t
        · obtain ⟨kvs, s, k, _⟩ := dk
          refine .inl ⟨_, s, True.intro, fun od => ?_⟩
          obtain ⟨g2, S2⟩ := go od _ s
          exact ⟨p, od, rfl, .inl ⟨kvs, upd_same, q1 as1 _ _ g2 S2 (feed_keysK upd_same nl k)⟩⟩
        · obtain ⟨kvs, s, k, _⟩ := dk
          refine .inl ⟨_, s, True.intro, fun od => ?_⟩
          obtain ⟨g2, S2⟩ := go od _ s
          exact ⟨p, od, rfl, .inr ⟨kvs, upd_same, q1 as1 _ _ g2 S2 (feed_keysT upd_same nl k)⟩⟩
      · refine .inr ?_
        cases t
        · obtain ⟨kvs, s, k, _⟩ := dk
          exact ⟨p, od, rfl, .inl ⟨kvs, s, q1 as1 _ _ Go.refl S1 (feed_keysK s nl k)⟩⟩
        · obtain ⟨kvs, s, k, _⟩ := dk
          exact ⟨p, od, rfl, .inr ⟨kvs, s, q1 as1 _ _ Go.refl S1 (feed_keysT s nl k)⟩⟩
    · exact q1.elim
theorem s_vals {a : E} {apos : Pos} (hl : (apos.endLine == pos.line) = true) (hx : shp x = true) (ha : PE X x (tE X cv W Φ a)) : PI X tg (.Call (.Attribute x ("values" : Str) apos) [] [] pos) (tI X cv W Φ (.vals a)) :=
  (pi_values (pe_lk ha) (shp_base hx) hl).imp fun σ H R q => by
    obtain ⟨B, as, M, env, S, r, q⟩ := q
    refine ⟨B, as, M, env, S, r, post_bind q fun d M1 as1 H1 v hq1 g1 S1 ra q1 => ?_⟩
    split at q1
    · rename_i ks vs M2 e
      obtain ⟨p, rfl, hc, nl⟩ := lock_rp S1 ra e
      refine ⟨p, rfl, ?_⟩
      rcases hc with ⟨dk, go⟩ | ⟨od, dk, rfl⟩
      · obtain ⟨kvs, s, k, rv⟩ := dk
        refine .inl ⟨_, s, True.intro, fun od => ?_⟩
        obtain ⟨g2, S2⟩ := go od _ s
        exact ⟨p, od, kvs, rfl, upd_same, q1 as1 _ _ g2 S2 (feed_vals S2 upd_same nl (g2.rps S1 rv))⟩
      · obtain ⟨kvs, s, k, rv⟩ := dk
        exact .inr ⟨p, od, kvs, rfl, s, q1 as1 _ _ Go.refl S1 (feed_vals S1 s nl rv)⟩
    · exact q1.elim
end
end
end Sg

/-! SgDmax: the greatest of a dict's values (the library has the least: this stands by the same lemmas, for max, and for a dict that is walked too). -/
namespace Sg
noncomputable section
open PySem PySem.Spec PyProof.Rows L2
section
variable {X : Cx} {o : Expr} {p pos apos mpos : Pos} {td : TE}
def tMaxVals (td : TE) : TE := fun σ H Q => td σ H fun x H1 => ∃ a kvs is, x = V.ref a ∧ Rd H1 a (.dK kvs) ∧ kvs.map (·.2) = is.map V.int ∧ is ≠ [] ∧ ∀ m, m ∈ is → (∀ j ∈ is, j ≤ m) → Q (.int m) H1
theorem pe_maxVals (hc : X.calm = true) (hg : Gl X "max") (hm : X.mg "max" = none) (hd : PE X o td) (hbase : attributeBase o "values" X.env (eval o X.env) = eval o X.env) (hline : (apos.endLine == mpos.line) = true) :
    PE X (.Call (.Name "max" p) [.Call (.Attribute o "values" apos) [] [] mpos] [] pos) (tMaxVals td) := by
  refine ⟨fun pins s σ H Q I h => ?_⟩
  refine wpAny_Call_Name_kw (ld_blt I hg hm (u := .builtin "max") (by first | rfl | decide +kernel) ?_ (by first | decide +kernel | decide) (by first | decide +kernel | decide))
  have hse : starEach [Expr.Call (.Attribute o "values" apos) [] [] mpos] X.env = [(false, eval (Expr.Call (.Attribute o "values" apos) [] [] mpos) X.env)] := rfl
  rw [hse]
  refine PySem.callWith_builtin1 (wpAny_Call_method0_late hbase hline (thn (hd.run pins s σ H _ I h) fun v s1 ⟨x, H1, I1, r1, a, kvs, is, ex, ha, hv, hne, q⟩ => ?_))
  subst ex
  cases (show v = Value.ref a from r1)
  obtain ⟨_, hsys, vs, rel, dof⟩ := dk_rd I1.hok ha
  obtain ⟨ep, dat⟩ := dof.dictAt
  obtain ⟨ob, es, ho, ex, hdat, hko, hpr, hnd⟩ := id dat
  refine ⟨"dict", "dict.values", F.plainAttrs_dict, F.slot_dict_values, F.type_dict_values, ⟨ob, ho, ex.1⟩, fun b e => ?_, Calls.callWith_builtin rfl (PySem.evalArgs_none ?_)⟩
  · cases e
    exact ⟨ob, ho, ex.2.1⟩
  refine call_meetsIn F.slot_dict_values ⟨ob, ho, ex.1⟩ F.entry_dict_values (F.args_dict_values_1 _) (meets_dict_values (mixKind X.prog X.w) a hsys) ⟨⟨vs, dof⟩, ?_⟩
  generalize hh : s1.heap.push { cls := .type "dict_values", data := .fields #[.ref a] } = h2
  have k1 : ∀ b u, s1.heap.get? b = some u → h2.get? b = some u := fun b u e => by rw [← hh]; exact Heap.get?_push_of_some _ e
  have hview : h2.get? s1.heap.objs.size = some { cls := .type "dict_values", data := .fields #[.ref a] } := by rw [← hh]; exact Heap.get?_push_size _ rfl
  have hsz : h2.objs.size = s1.heap.objs.size + 1 := by rw [← hh]; exact Heap.size_push _ _
  have dat1 : h2.DictAt (mixKind X.prog X.w) a vs ep := dat.keep k1
  have hlv : vs.length = is.length := by
    have e1 := congrArg List.length hv
    simp only [List.length_map] at e1
    rw [← e1, KV.length rel]
  have hpos : 0 < vs.length := by rw [hlv]; exact List.length_pos_iff.mpr hne
  have hval : ∀ (i : Nat) (v : Value), (∃ k, vs[i]? = some (k, v)) → ∃ t, v = Value.int (is.getD i 0) t := fun i v ⟨k, hk⟩ => by
    obtain ⟨x, h1, h2⟩ := KV.at' rel hk
    have e1 : (is.map V.int)[i]? = some x := by rw [← hv, List.getElem?_map, h1]; rfl
    rw [List.getElem?_map] at e1
    cases hj : is[i]? with
    | none => rw [hj] at e1; cases e1
    | some j =>
      rw [hj] at e1
      cases e1
      obtain ⟨t, e3⟩ := h2
      exact ⟨t, by rw [e3, List.getD_eq_getElem?_getD, hj]; rfl⟩
  have hlt : a < s1.heap.objs.size := Heap.lt_size ho
  refine call_max_walk (wpAny_pyIter_values (v := s1.heap.objs.size) (d := a) ⟨_, hview, rfl, rfl⟩ dat1 ?_)
  refine ⟨_, _, _, _, _, _, _, rfl, Walks.dictValues (knd := mixKind X.prog X.w) (A := X.A.in1) (I.ok.hd hc) h2.objs.size a (by rw [hsz]; exact Nat.ne_of_lt (Nat.lt_succ_of_lt hlt)) vs ep,
    ⟨⟨_, Heap.get?_push_size _ rfl, rfl, rfl⟩, dat1.keep fun b u e => Heap.get?_push_of_some _ e⟩, fun b hb => ?_, hpos, CmpOf.ints_gt (fun i => is.getD i 0) hval, fun v h' tk hP hk => ?_⟩
  · show b < (h2.push _).objs.size
    rw [Heap.size_push]
    rcases List.mem_cons.mp hb with e | hb
    · rw [e]
      exact Nat.lt_succ_self _
    · rw [List.mem_singleton.mp hb, hsz]
      exact Nat.lt_succ_of_lt (Nat.lt_succ_of_lt hlt)
  · obtain ⟨t, rfl⟩ := hval _ v hP
    obtain ⟨b1, b2⟩ := argBest_gt (fun i => is.getD i 0) (vs.length - 1)
    refine ⟨.int _, H1, I1.kept (t' := tk) fun b u e => hk b u (fun hmem => ?_) (Heap.get?_push_of_some _ (k1 b u e)), ⟨t, rfl⟩, q _ ?_ fun j hj => ?_⟩
    · have e1 : b = h2.objs.size := List.mem_singleton.mp hmem
      have e2 := Heap.lt_size e
      rw [e1, hsz] at e2
      exact absurd e2 (Nat.not_lt.mpr (Nat.le_succ _))
    · have hb : argBest (fun i j => decide (is.getD i 0 > is.getD j 0)) (vs.length - 1) < is.length := by omega
      rw [List.getD_eq_getElem?_getD, List.getElem?_eq_getElem hb]
      exact List.getElem_mem hb
    · obtain ⟨i, hi, e⟩ := List.mem_iff_getElem.mp hj
      have e2 : is.getD i 0 = j := by rw [List.getD_eq_getElem?_getD, List.getElem?_eq_getElem hi, ← e]; rfl
      rw [← e2]
      exact b2 i (by omega)
end
section
variable {X : Cx} {cv : Nat → Value} {W : WX} {Φ : Phi} {c : Ctx} {x : Expr} {pos apos mpos p0 : Pos}
theorem ints_rps {K : PySem.W.Frag} {H : Hp} {B : Addr → Prop} {as : List Addr} : ∀ {vs : List D} {us : List V} {r : List Int}, intsOf vs = some r → Rps K H B as vs us → us = r.map V.int
  | [], us, r, h, q => by
    cases h
    exact q
  | d :: vs, us, r, h, q => by
    cases d with
    | int i =>
      cases e : intsOf vs with
      | none =>
        have h : (intsOf vs).map _ = some r := h
        rw [e] at h
        cases h
      | some r' =>
        have h : (intsOf vs).map (fun r => i :: r) = some r := h
        rw [e] at h
        cases h
        obtain ⟨u, us', rfl, h1, h2⟩ := q
        have h1 : u = .int i := h1
        rw [h1, ints_rps e h2, List.map_cons]
    | _ => cases h
theorem maxI_is : ∀ (i : Int) (r : List Int) (m : Int), m ∈ i :: r → (∀ j ∈ i :: r, j ≤ m) → maxI (i :: r) = m := fun i r m h1 h2 => by
  obtain ⟨h3, h4⟩ := maxI_max i r
  exact Int.le_antisymm (h2 _ h3) (h4 _ h1)
theorem s_dmax {a : E} (h : XH c Φ cv X W) (hcool : c.hot = false) (h1 : glOk c.sc ("max" : Str) = true) (hl : (apos.endLine == mpos.line) = true) (hx : shp x = true) (ha : PE X x (tE X cv W Φ a)) :
    PE X (.Call (.Name ("max" : Str) p0) [.Call (.Attribute x ("values" : Str) apos) [] [] mpos] [] pos) (tE X cv W Φ (.dmax a)) :=
  (pe_maxVals (h.calm hcool) (gl_of h h1) (h.bi "max" (by decide)) ha (shp_base hx) hl).imp fun σ H Q q => by
    obtain ⟨B, as, M, env, S, rr, q⟩ := q
    refine ⟨B, as, M, env, S, rr, post_bind q fun d M1 as1 H1 v hq1 g1 S1 ra q1 => ?_⟩
    cases e : dvalsD M1 d with
    | none => rw [e] at q1; exact q1.elim
    | some l =>
      rw [e] at q1
      cases l with
      | nil => exact q1.elim
      | cons i r =>
        unfold dvalsD at e
        split at e
        · rename_i ks vs e1
          obtain ⟨p, rfl, dk⟩ := dct_rp S1 ra e1
          obtain ⟨kvs, s, k, rv⟩ := dk
          have ev := ints_rps e rv
          refine ⟨p, kvs, i :: r, rfl, s, ev, by simp, fun m hm1 hm2 => ?_⟩
          rw [← maxI_is i r m hm1 hm2]
          exact q1 as1 H1 _ Go.refl S1 rfl
        · cases e
end
end
end Sg

/-! SgSound5: all expressions. -/
namespace Sg
noncomputable section
open PySem PySem.Spec PyProof.Rows L2
section
variable {cv : Nat → Value} {Φ : Phi}
theorem _root_.L2.PTs.imp {X : Cx} {xs : List Expr} {t t' : TT} (h : PTs X xs t) (k : ∀ σ H Q, t' σ H Q → t σ H Q) : PTs X xs t' := ⟨fun pins s σ H Q I q => h.run pins s σ H Q I (k σ H Q q)⟩
theorem okT_shape {t : T} {c : Ctx} {x : Expr} (h : okT t c x = true) : (∃ n p, x = .Name n p) ∨ (∃ es k p, x = .Tuple es k p) ∨ ∃ a b p, x = .Subscript a b p := by
  cases t <;> (unfold okT at h; split at h <;> first | exact .inl ⟨_, _, rfl⟩ | exact .inr (.inl ⟨_, _, _, rfl⟩) | exact .inr (.inr ⟨_, _, _, rfl⟩) | cases h)
theorem okTs_facts : (ts : Ts) → (c : Ctx) → (xs : List Expr) → okTs ts c xs = true → noStar xs = true ∧ tsLen ts = xs.length
  | .nil, c, xs, h => by
    unfold okTs at h
    cases xs with
    | nil => exact ⟨rfl, rfl⟩
    | cons _ _ => cases h
  | .cons t ts, c, xs, h => by
    unfold okTs at h
    cases xs with
    | nil => cases h
    | cons y ys =>
      simp only [Bool.and_eq_true] at h
      obtain ⟨h1, h2⟩ := okTs_facts ts c ys h.2
      refine ⟨?_, by simp [tsLen, h2]⟩
      rcases okT_shape h.1 with ⟨_, _, rfl⟩ | ⟨_, _, _, rfl⟩ | ⟨_, _, _, rfl⟩ <;> exact h1
theorem okT_each {t : T} {c : Ctx} {x : Expr} {ys : List Expr} {env : Env} (h : okT t c x = true) : (assignEach (x :: ys) env).map (·.2) = assign x env :: (assignEach ys env).map (·.2) := by
  rcases okT_shape h with ⟨_, _, rfl⟩ | ⟨_, _, _, rfl⟩ | ⟨_, _, _, rfl⟩ <;> rfl
theorem okIt_shp : (it : It) → (c : Ctx) → (tp : Bool) → (x : Expr) → okIt it c tp x = true → shp x = true
  | .val e, c, tp, x, k => by unfold okIt at k; exact okE_shp _ _ _ k
  | .rng1 _, c, tp, x, k => by unfold okIt at k; split at k <;> first | rfl | cases k
  | .rng2 _ _, c, tp, x, k => by unfold okIt at k; split at k <;> first | rfl | cases k
  | .rng3 _ _ _, c, tp, x, k => by unfold okIt at k; split at k <;> first | rfl | cases k
  | .zip _ _, c, tp, x, k => by unfold okIt at k; split at k <;> first | rfl | cases k
  | .enum _, c, tp, x, k => by unfold okIt at k; split at k <;> first | rfl | cases k
  | .rev _, c, tp, x, k => by unfold okIt at k; split at k <;> first | rfl | cases k
  | .revR _, c, tp, x, k => by unfold okIt at k; split at k <;> first | rfl | cases k
  | .revR2 _ _, c, tp, x, k => by unfold okIt at k; split at k <;> first | rfl | cases k
  | .keys _, c, tp, x, k => by unfold okIt at k; exact okE_shp _ _ _ k
  | .vals _, c, tp, x, k => by unfold okIt at k; split at k <;> first | rfl | cases k
/-- what the slots are by now -/
theorem snap_env {K : PySem.W.Frag} {H : Hp} {B : Addr → Prop} {as : List Addr} {M : List Cell} {env : St} {σ : St2} (S : Sim K H B as M) (r : EnvR K H (Av B as M) as env σ) : EnvR K H (Av B [] []) [] (env.map fun o => o.bind (imm M)) σ := by
  refine ⟨by rw [List.length_map]; exact r.len, fun i d e => ?_⟩
  rw [List.getElem?_map] at e
  cases e1 : env[i]? with
  | none => rw [e1] at e; cases e
  | some o =>
    rw [e1] at e
    cases o with
    | none => cases e
    | some d0 =>
      have e2 : imm M d0 = some d := Option.some.inj e
      obtain ⟨v, h1, h2⟩ := r.get i d0 e1
      exact ⟨v, h1, Rp.mono List.prefix_rfl (fun _ _ z => z) (fun _ _ z => z) (fun a u z w => ⟨z, av_none w⟩) (fun _ _ _ z => z) d v (imm_rp S e2 h2)⟩
theorem s_snap {X : Cx} {W : WX} {x : Expr} {e : E} (h : PE X x (tE X cv W Φ e)) : PE X x (tE X cv W Φ (.snap e)) := h.imp fun σ H Q q => by
  obtain ⟨B, as, M, env, S, r, q⟩ := q
  refine ⟨B, [], [], env.map fun o => o.bind (imm M), sim_none S.b0, snap_env S r, ?_⟩
  have q : PostD X.K H B as M (exW W cv σ) (match evE Φ e (env.map fun o => o.bind (imm M)) [] with
    | .ok d _ => if isFlat d = true then .ok d M else .bad
    | .exc c _ => .exc c M
    | .bad => .bad) Q := q
  cases e1 : evE Φ e (env.map fun o => o.bind (imm M)) [] with
  | ok d M1 =>
    rw [e1] at q
    intro as' H' v g S' rv
    dsimp only at q
    split at q
    · rename_i hf
      obtain ⟨g1, S1⟩ := go_none S g
      exact q as H' v g1 S1 (isFlat_rp d v hf rv)
    · exact q.elim
  | exc c M1 =>
    rw [e1] at q
    intro as' H' g S'
    obtain ⟨g1, S1⟩ := go_none S g
    exact q as H' g1 S1
  | bad => rw [e1] at q; exact q
theorem st_snap {X : Cx} {W : WX} {x : Expr} {e : E} (h : PT X x (tT X cv W Φ e)) : PT X x (tT X cv W Φ (.snap e)) := h.imp fun σ H Q q => by
  obtain ⟨B, as, M, env, S, r, q⟩ := q
  refine ⟨B, [], [], env.map fun o => o.bind (imm M), sim_none S.b0, snap_env S r, ?_⟩
  have q : PostG X.K H B as M (exW W cv σ) relEq ((match evE Φ e (env.map fun o => o.bind (imm M)) [] with
    | .ok d _ => if isFlat d = true then .ok d M else .bad
    | .exc c _ => .exc c M
    | .bad => .bad : R D).bind toBl) Q := q
  show PostG X.K H B [] [] (exW W cv σ) relEq ((evE Φ e (env.map fun o => o.bind (imm M)) []).bind toBl) Q
  cases e1 : evE Φ e (env.map fun o => o.bind (imm M)) [] with
  | ok d M1 =>
    rw [e1] at q
    cases d with
    | bl k =>
      intro as' H' v g S' rv
      obtain ⟨g1, S1⟩ := go_none S g
      exact q as H' v g1 S1 rv
    | _ =>
      have q : PostG X.K H B as M (exW W cv σ) relEq ((if _ = true then R.ok _ M else R.bad).bind toBl) Q := q
      split at q <;> exact q.elim
  | exc c M1 =>
    rw [e1] at q
    intro as' H' g S'
    obtain ⟨g1, S1⟩ := go_none S g
    exact q as H' g1 S1
  | bad => rw [e1] at q; exact q
theorem cool_bi {c : Ctx} {f : Bi} (h : (!c.hot || coolBi f) = true) (z : coolBi f = false) : c.hot = false := by
  rw [z, Bool.or_false, Bool.not_eq_true'] at h
  exact h
mutual
theorem soundE : (e : E) → (c : Ctx) → (X : Cx) → (W : WX) → (x : Expr) → XH c Φ cv X W → okE e c x = true → PE X x (tE X cv W Φ e)
  | .var i, c, X, W, x, h, k => by
    unfold okE at k
    split at k
    · simp only [Bool.and_eq_true] at k
      exact s_var h (of_decide_eq_true k.1.1) k.1.2 k.2
    · cases k
  | .c d, c, X, W, x, h, k => by
    unfold okE at k
    split at k
    · exact s_const k
    · cases k
  | .glob n d, c, X, W, x, h, k => by
    unfold okE at k
    split at k
    · simp only [Bool.and_eq_true] at k
      have e := of_decide_eq_true k.1.1.1
      subst e
      exact s_glob h k.1.1.2 k.1.2 k.2
    · cases k
  | .bin m op a b, c, X, W, x, h, k => by
    unfold okE at k
    split at k
    · simp only [Bool.and_eq_true] at k
      have e := of_decide_eq_true k.1.1
      subst e
      exact s_bin (soundE a c X W _ h k.1.2) (soundE b c X W _ h k.2)
    · cases k
  | .un op a, c, X, W, x, h, k => by
    unfold okE at k
    split at k
    · simp only [Bool.and_eq_true] at k
      have e := of_decide_eq_true k.1
      subst e
      exact s_un (soundE a c X W _ h k.2)
    · cases k
  | .cmp op a b, c, X, W, x, h, k => by
    unfold okE at k
    split at k
    · simp only [Bool.and_eq_true] at k
      have e := of_decide_eq_true k.1.1
      subst e
      exact s_cmp h (soundE a c X W _ h k.1.2) (soundE b c X W _ h k.2) (okE_shp _ _ _ k.2)
    · cases k
  | .chain o1 o2 a b d, c, X, W, x, h, k => by
    unfold okE at k
    split at k
    · simp only [Bool.and_eq_true] at k
      obtain ⟨⟨⟨⟨k1, k2⟩, k3⟩, k4⟩, k5⟩ := k
      have e1 := of_decide_eq_true k1
      have e2 := of_decide_eq_true k2
      subst e1 e2
      exact s_chain h (soundE a c X W _ h k3) (soundE b c X W _ h k4) (soundE d c X W _ h k5) (okE_shp _ _ _ k5)
    · cases k
  | .bop op es, c, X, W, x, h, k => by
    unfold okE at k
    split at k
    · simp only [Bool.and_eq_true] at k
      have e := of_decide_eq_true k.1
      subst e
      exact soundB es op c X W _ _ h k.2
    · cases k
  | .ite a b d, c, X, W, x, h, k => by
    unfold okE at k
    split at k
    · simp only [Bool.and_eq_true] at k
      exact s_ite (soundT a c X W _ h k.1.1) (soundE b c X W _ h k.1.2) (soundE d c X W _ h k.2)
    · cases k
  | .tup es, c, X, W, x, h, k => by
    unfold okE at k
    split at k
    · exact s_tup (soundEs es c X W _ h k)
    · cases k
  | .lst m es, c, X, W, x, h, k => by
    unfold okE at k
    split at k
    · exact s_lst (soundEs es c X W _ h k)
    · cases k
  | .idx a b, c, X, W, x, h, k => by
    unfold okE at k
    split at k
    · simp only [Bool.and_eq_true] at k
      exact s_idx (soundE a c X W _ h k.1) (soundE b c X W _ h k.2) (okE_shp _ _ _ k.2)
    · cases k
  | .slc m a lo hi, c, X, W, x, h, k => by
    unfold okE at k
    split at k
    · simp only [Bool.and_eq_true] at k
      exact s_slc (soundE a c X W _ h k.1.1) (soundO lo c X W _ h k.1.2) (soundO hi c X W _ h k.2)
    · cases k
  | .call f mode es, c, X, W, x, h, k => by
    unfold okE at k
    split at k
    · simp only [Bool.and_eq_true] at k
      rw [Bool.not_eq_true'] at k
      obtain ⟨k0, k⟩ := k
      exact s_call h k0 (of_decide_eq_true k.1.1.1) k.1.1.2 k.1.2 (okEs_shp es c _ k.2) (soundEs es c X W _ h k.2)
    · cases k
  | .bi f es, c, X, W, x, h, k => by
    unfold okE at k
    split at k
    · simp only [Bool.and_eq_true] at k
      have e := of_decide_eq_true k.1.1.1
      subst e
      exact s_bi h (fun z => cool_bi k.1.1.2 z) k.1.2 (okEs_shp es c _ k.2) (soundEs es c X W _ h k.2)
    · cases k
  | .isi a t, c, X, W, x, h, k => by
    unfold okE at k
    split at k
    · simp only [Bool.and_eq_true] at k
      obtain ⟨⟨⟨⟨k1, k2⟩, k3⟩, k4⟩, k5⟩ := k
      have e1 := of_decide_eq_true k1
      have e2 := of_decide_eq_true k2
      subst e1 e2
      exact s_isi h k3 k4 (okE_shp _ _ _ k5) (soundE a c X W _ h k5)
    · cases k
  | .meth f a es, c, X, W, x, h, k => by
    unfold okE at k
    split at k
    · simp only [Bool.and_eq_true] at k
      obtain ⟨⟨⟨⟨k1, k2⟩, k3⟩, k4⟩, k5⟩ := k
      have e1 := of_decide_eq_true k1
      subst e1
      refine s_meth k2 (soundE a c X W _ h k3) (okE_shp _ _ _ k3) (okEs_shp es c _ k4) (of_decide_eq_true k5) (soundEs es c X W _ h k4) fun env M e => ?_
      subst e
      cases es with
      | nil => rfl
      | cons _ _ => unfold okEs at k4; cases k4
    · cases k
  | .comp m own t it cd e, c, X, W, x, h, k => by
    unfold okE at k
    split at k
    · simp only [Bool.and_eq_true] at k
      rename_i elt tg iter ifs scope pos
      obtain ⟨⟨⟨⟨⟨⟨k1, k0⟩, k2⟩, k3⟩, k4⟩, k5⟩, k6⟩ := k
      have hsh := okIt_shp it c _ _ k2
      by_cases hot : c.hot = true
      · cases it with
        | rng1 a =>
          have hi : L2H.PIH X tg iter (tI X cv W Φ (.rng1 a)) := by
            unfold okIt at k2
            split at k2
            · simp only [Bool.and_eq_true] at k2
              have e := of_decide_eq_true k2.1.1
              subst e
              exact s_rng1H h k2.1.2 (okE_shp _ _ _ k2.2) (soundE a c X W _ h k2.2)
            · cases k2
          have hg : ∀ (s : Shared) (H : Hp) (C : Addr) (cl : List (Str × Addr)) (fp : List Addr), PG (SgH.hblk X s H scope (compEnvC scope cl C X.env) fp) tg (tT' X Φ t) := fun s H C cl fp => soundTg t _ (SgH.hblk X s H scope (compEnvC scope cl C X.env) fp) W0 _ (hblk_XH h) k3
          have ht : ∀ (s : Shared) (H : Hp) (C : Addr) (cl : List (Str × Addr)) (fp : List Addr), PTs (SgH.hblk X s H scope (compEnvC scope cl C X.env) fp) ifs (tC X cv W0 Φ cd) := fun s H C cl fp => soundC cd _ (SgH.hblk X s H scope (compEnvC scope cl C X.env) fp) W0 _ (hblk_XH h) k5
          have he : ∀ (s : Shared) (H : Hp) (C : Addr) (cl : List (Str × Addr)) (fp : List Addr), PE (SgH.hblk X s H scope (compEnvC scope cl C X.env) fp) elt (tE X cv W0 Φ e) := fun s H C cl fp => soundE e _ (SgH.hblk X s H scope (compEnvC scope cl C X.env) fp) W0 _ (hblk_XH h) k6
          exact PE.imp (SgH.pe_hlc (own := ownP c.N own) (h.hotc hot) (by rw [h.N]; exact h.nd) hi (blkOk_by (by rw [h.N, h.sc]; exact k1)) hg ht he (fun x => shp_fold hsh x)) (s_comp h k1 k4 hsh)
        | _ => rw [hot] at k0; cases k0
      · have hcool : c.hot = false := Bool.eq_false_iff.mpr hot
        have hi := soundIt it c X W tg iter h k2
        have hg : ∀ (s : Shared) (H : Hp) (C : Addr) (cl : List (Str × Addr)) (fp : List Addr), PG (X.blk s H scope (compEnvC scope cl C X.env) fp) tg (tT' X Φ t) := fun s H C cl fp => soundTg t _ (X.blk s H scope (compEnvC scope cl C X.env) fp) W0 _ (blk_XH hcool h) k3
        have ht : ∀ (s : Shared) (H : Hp) (C : Addr) (cl : List (Str × Addr)) (fp : List Addr), PTs (X.blk s H scope (compEnvC scope cl C X.env) fp) ifs (tC X cv W0 Φ cd) := fun s H C cl fp => soundC cd _ (X.blk s H scope (compEnvC scope cl C X.env) fp) W0 _ (blk_XH hcool h) k5
        have he : ∀ (s : Shared) (H : Hp) (C : Addr) (cl : List (Str × Addr)) (fp : List Addr), PE (X.blk s H scope (compEnvC scope cl C X.env) fp) elt (tE X cv W0 Φ e) := fun s H C cl fp => soundE e _ (X.blk s H scope (compEnvC scope cl C X.env) fp) W0 _ (blk_XH hcool h) k6
        exact PE.imp (pe_lc (own := ownP c.N own) (h.calm hcool) (by rw [h.N]; exact h.nd) hi (blkOk_by (by rw [h.N, h.sc]; exact k1)) hg ht he (fun x => shp_fold hsh x)) (s_comp h k1 k4 hsh)
    · cases k
  | .rep m a b, c, X, W, x, h, k => by
    unfold okE at k
    split at k
    · simp only [Bool.and_eq_true] at k
      have e := of_decide_eq_true k.1.1
      subst e
      exact s_rep (soundE a c X W _ h k.1.2) (soundE b c X W _ h k.2)
    · cases k
  | .snap e, c, X, W, x, h, k => by
    unfold okE at k
    rw [Bool.and_eq_true] at k
    exact s_snap (soundE e c X W x h k.2)
  | .xis i j, c, X, W, x, h, k => by
    unfold okE at k
    split at k
    · simp only [Bool.and_eq_true] at k
      obtain ⟨k1, k2, k3, k4, k5, k9, k6, k7, k8⟩ := k
      have e := of_decide_eq_true k2
      subst e
      exact s_xis h k1 k3 (of_decide_eq_true k4) k5 k9 (of_decide_eq_true k6) k7 k8
    · cases k
  | .hole, c, X, W, x, h, k => ⟨fun pins s σ H Q I q => by
    obtain ⟨B, as, M, env, S, r, q⟩ := q
    exact q.elim⟩
  | .lrng m a, c, X, W, x, h, k => by
    unfold okE at k
    split at k
    · simp only [Bool.and_eq_true, Bool.not_eq_true'] at k
      obtain ⟨k1, k2, k3, k4, k5, k6⟩ := k
      have e1 := of_decide_eq_true k2
      have e2 := of_decide_eq_true k3
      subst e1 e2
      exact s_lrng h k1 k4 k5 (okE_shp _ _ _ k6) (soundE a c X W _ h k6)
    · cases k
  | .lrng2 m a b, c, X, W, x, h, k => by
    unfold okE at k
    split at k
    · simp only [Bool.and_eq_true, Bool.not_eq_true'] at k
      obtain ⟨k1, k2, k3, k4, k5, k6, k7⟩ := k
      have e1 := of_decide_eq_true k2
      have e2 := of_decide_eq_true k3
      subst e1 e2
      exact s_lrng2 h k1 k4 k5 (okE_shp _ _ _ k6) (okE_shp _ _ _ k7) (soundE a c X W _ h k6) (soundE b c X W _ h k7)
    · cases k
  | .rvl m sl a, c, X, W, x, h, k => by
    unfold okE at k
    split at k
    · simp only [Bool.and_eq_true, Bool.not_eq_true'] at k
      obtain ⟨k0, k1, k2, k3, k4, k5, k6⟩ := k
      have e1 := of_decide_eq_true k2
      have e2 := of_decide_eq_true k3
      subst e1 e2 k0
      exact s_rvl0 h k1 k4 k5 (okE_shp _ _ _ k6) (soundE a c X W _ h k6)
    · simp only [Bool.and_eq_true] at k
      obtain ⟨k0, k1⟩ := k
      subst k0
      exact s_rvl1 (soundE a c X W _ h k1)
    · cases k
  | .ktup es, c, X, W, x, h, k => by
    unfold okE at k
    split at k
    · exact s_ktup (soundEs es c X W _ h k)
    · cases k
  | .dnew t, c, X, W, x, h, k => by
    unfold okE at k
    split at k
    · exact s_dnew
    · cases k
  | .dlit ks vs, c, X, W, x, h, k => by
    unfold okE at k
    split at k
    · simp only [Bool.and_eq_true, Bool.not_eq_true'] at k
      exact s_dlit k.1 k.2.1 (of_decide_eq_true k.2.2)
    · cases k
  | .dun e, c, X, W, x, h, k => by
    unfold okE at k
    split at k
    · exact s_dun h (soundE e c X W _ h k)
    · cases k
  | .dget a b, c, X, W, x, h, k => by
    unfold okE at k
    split at k
    · simp only [Bool.and_eq_true] at k
      exact s_dget h (soundE a c X W _ h k.1) (soundE b c X W _ h k.2) (okE_shp _ _ _ k.2)
    · cases k
  | .dgetd a b d, c, X, W, x, h, k => by
    unfold okE at k
    split at k
    · simp only [Bool.and_eq_true] at k
      obtain ⟨k1, k2, k3, k4, k5⟩ := k
      have e := of_decide_eq_true k1
      subst e
      exact s_dgetd k2 h (soundE a c X W _ h k3) (soundE b c X W _ h k4) (soundE d c X W _ h k5) (okE_shp _ _ _ k3) (okE_shp _ _ _ k4) (okE_shp _ _ _ k5)
    · cases k
  | .din ng a b, c, X, W, x, h, k => by
    unfold okE at k
    split at k
    · simp only [Bool.and_eq_true] at k
      exact s_din (of_decide_eq_true k.1) h (soundE a c X W _ h k.2.1) (soundE b c X W _ h k.2.2) (okE_shp _ _ _ k.2.2)
    · cases k
  | .dlst m a, c, X, W, x, h, k => by
    unfold okE at k
    split at k
    · simp only [Bool.and_eq_true, Bool.not_eq_true'] at k
      obtain ⟨k1, k2, k3, k4⟩ := k
      have e := of_decide_eq_true k2
      subst e
      exact s_dlst h k1 k3 (okE_shp _ _ _ k4) (soundE a c X W _ h k4)
    · cases k
  | .dmax a, c, X, W, x, h, k => by
    unfold okE at k
    split at k
    · simp only [Bool.and_eq_true, Bool.not_eq_true'] at k
      obtain ⟨k1, k2, k3, k4, k5, k6⟩ := k
      have e := of_decide_eq_true k2
      have e3 := of_decide_eq_true k3
      subst e e3
      exact s_dmax h k1 k4 k5 (okE_shp _ _ _ k6) (soundE a c X W _ h k6)
    · cases k
  | .dsum a, c, X, W, x, h, k => by unfold okE at k; cases k
theorem soundT : (e : E) → (c : Ctx) → (X : Cx) → (W : WX) → (x : Expr) → XH c Φ cv X W → okE e c x = true → PT X x (tT X cv W Φ e)
  | .un op a, c, X, W, x, h, k => by
    have k0 := k
    unfold okE at k
    split at k
    · simp only [Bool.and_eq_true] at k
      have e := of_decide_eq_true k.1
      subst e
      cases op with
      | Not => exact st_not (soundT a c X W _ h k.2)
      | _ => exact st_val (s_un (soundE a c X W _ h k.2)) fun _ => rfl
    · cases k
  | .cmp op a b, c, X, W, x, h, k => by
    unfold okE at k
    split at k
    · simp only [Bool.and_eq_true] at k
      have e := of_decide_eq_true k.1.1
      subst e
      exact st_cmp h (soundE a c X W _ h k.1.2) (soundE b c X W _ h k.2) (okE_shp _ _ _ k.2)
    · cases k
  | .chain o1 o2 a b d, c, X, W, x, h, k => by
    unfold okE at k
    split at k
    · simp only [Bool.and_eq_true] at k
      obtain ⟨⟨⟨⟨k1, k2⟩, k3⟩, k4⟩, k5⟩ := k
      have e1 := of_decide_eq_true k1
      have e2 := of_decide_eq_true k2
      subst e1 e2
      exact st_chain h (soundE a c X W _ h k3) (soundE b c X W _ h k4) (soundE d c X W _ h k5) (okE_shp _ _ _ k5)
    · cases k
  | .bop op es, c, X, W, x, h, k => by
    unfold okE at k
    split at k
    · simp only [Bool.and_eq_true] at k
      have e := of_decide_eq_true k.1
      subst e
      exact (soundBT es op c X W _ _ h k.2).pt
    · cases k
  | .ite a b d, c, X, W, x, h, k => by
    unfold okE at k
    split at k
    · simp only [Bool.and_eq_true] at k
      exact st_ite (soundT a c X W _ h k.1.1) (soundT b c X W _ h k.1.2) (soundT d c X W _ h k.2)
    · cases k
  | .var i, c, X, W, x, h, k => by
    have k0 := soundE (.var i) c X W x h k
    unfold okE at k
    split at k <;> first | exact st_val k0 fun _ => rfl | cases k
  | .c d, c, X, W, x, h, k => by
    have k0 := soundE (.c d) c X W x h k
    unfold okE at k
    split at k <;> first | exact st_val k0 fun _ => rfl | cases k
  | .glob n d, c, X, W, x, h, k => by
    have k0 := soundE (.glob n d) c X W x h k
    unfold okE at k
    split at k <;> first | exact st_val k0 fun _ => rfl | cases k
  | .bin m op a b, c, X, W, x, h, k => by
    have k0 := soundE (.bin m op a b) c X W x h k
    unfold okE at k
    split at k <;> first | exact st_val k0 fun _ => rfl | cases k
  | .tup es, c, X, W, x, h, k => by
    have k0 := soundE (.tup es) c X W x h k
    unfold okE at k
    split at k <;> first | exact st_val k0 fun _ => rfl | cases k
  | .lst m es, c, X, W, x, h, k => by
    have k0 := soundE (.lst m es) c X W x h k
    unfold okE at k
    split at k <;> first | exact st_val k0 fun _ => rfl | cases k
  | .idx a b, c, X, W, x, h, k => by
    have k0 := soundE (.idx a b) c X W x h k
    unfold okE at k
    split at k <;> first | exact st_val k0 fun _ => rfl | cases k
  | .slc m a lo hi, c, X, W, x, h, k => by
    have k0 := soundE (.slc m a lo hi) c X W x h k
    unfold okE at k
    split at k <;> first | exact st_val k0 fun _ => rfl | cases k
  | .call f mode es, c, X, W, x, h, k => by
    have k0 := soundE (.call f mode es) c X W x h k
    unfold okE at k
    split at k <;> first | exact st_val k0 fun _ => rfl | cases k
  | .bi f es, c, X, W, x, h, k => by
    have k0 := soundE (.bi f es) c X W x h k
    unfold okE at k
    split at k <;> first | exact st_val k0 fun _ => rfl | cases k
  | .isi a t, c, X, W, x, h, k => by
    have k0 := soundE (.isi a t) c X W x h k
    unfold okE at k
    split at k <;> first | exact st_val k0 fun _ => rfl | cases k
  | .meth f a es, c, X, W, x, h, k => by
    have k0 := soundE (.meth f a es) c X W x h k
    unfold okE at k
    split at k <;> first | exact st_val k0 fun _ => rfl | cases k
  | .comp m own t it cd e, c, X, W, x, h, k => by
    have k0 := soundE (.comp m own t it cd e) c X W x h k
    unfold okE at k
    split at k <;> first | exact st_val k0 fun _ => rfl | cases k
  | .rep m a b, c, X, W, x, h, k => by
    have k0 := soundE (.rep m a b) c X W x h k
    unfold okE at k
    split at k <;> first | exact st_val k0 fun _ => rfl | cases k
  | .xis i j, c, X, W, x, h, k => by
    have k0 := soundE (.xis i j) c X W x h k
    unfold okE at k
    split at k <;> first | exact st_val k0 fun _ => rfl | cases k
  | .snap e, c, X, W, x, h, k => by
    unfold okE at k
    rw [Bool.and_eq_true] at k
    exact st_snap (soundT e c X W x h k.2)
  | .hole, c, X, W, x, h, k => ⟨fun pins s σ H Q I q => by
    obtain ⟨B, as, M, env, S, r, q⟩ := q
    exact q.elim⟩
  | .lrng m a, c, X, W, x, h, k => by
    have k0 := soundE (.lrng m a) c X W x h k
    unfold okE at k
    split at k <;> first | exact st_val k0 fun _ => rfl | cases k
  | .lrng2 m a b, c, X, W, x, h, k => by
    have k0 := soundE (.lrng2 m a b) c X W x h k
    unfold okE at k
    split at k <;> first | exact st_val k0 fun _ => rfl | cases k
  | .rvl m sl a, c, X, W, x, h, k => by
    have k0 := soundE (.rvl m sl a) c X W x h k
    unfold okE at k
    split at k <;> first | exact st_val k0 fun _ => rfl | cases k
  | .ktup es, c, X, W, x, h, k => by
    have k0 := soundE (.ktup es) c X W x h k
    unfold okE at k
    split at k <;> first | exact st_val k0 fun _ => rfl | cases k
  | .dnew t, c, X, W, x, h, k => by
    have k0 := soundE (.dnew t) c X W x h k
    unfold okE at k
    split at k <;> first | exact st_val k0 fun _ => rfl | cases k
  | .dlit ks vs, c, X, W, x, h, k => by
    have k0 := soundE (.dlit ks vs) c X W x h k
    unfold okE at k
    split at k <;> first | exact st_val k0 fun _ => rfl | cases k
  | .dun e, c, X, W, x, h, k => by
    have k0 := soundE (.dun e) c X W x h k
    unfold okE at k
    split at k <;> first | exact st_val k0 fun _ => rfl | cases k
  | .dget a b, c, X, W, x, h, k => by
    have k0 := soundE (.dget a b) c X W x h k
    unfold okE at k
    split at k <;> first | exact st_val k0 fun _ => rfl | cases k
  | .dgetd a b d, c, X, W, x, h, k => by
    have k0 := soundE (.dgetd a b d) c X W x h k
    unfold okE at k
    split at k <;> first | exact st_val k0 fun _ => rfl | cases k
  | .din ng a b, c, X, W, x, h, k => by
    unfold okE at k
    split at k
    · simp only [Bool.and_eq_true] at k
      exact st_din (of_decide_eq_true k.1) h (soundE a c X W _ h k.2.1) (soundE b c X W _ h k.2.2) (okE_shp _ _ _ k.2.2)
    · cases k
  | .dlst m a, c, X, W, x, h, k => by
    have k0 := soundE (.dlst m a) c X W x h k
    unfold okE at k
    split at k <;> first | exact st_val k0 fun _ => rfl | cases k
  | .dmax a, c, X, W, x, h, k => by
    have k0 := soundE (.dmax a) c X W x h k
    unfold okE at k
    split at k <;> first | exact st_val k0 fun _ => rfl | cases k
  | .dsum a, c, X, W, x, h, k => by unfold okE at k; cases k
theorem soundB : (es : Es) → (op : BoolOp) → (c : Ctx) → (X : Cx) → (W : WX) → (xs : List Expr) → (pos : Pos) → XH c Φ cv X W → okEs es c xs = true → PE X (.BoolOp op xs pos) (tB' X cv W Φ op es)
  | .nil, op, c, X, W, xs, pos, h, k => ⟨fun pins s σ H Q I q => by
    obtain ⟨B, as, M, env, S, r, q⟩ := q
    exact q.elim⟩
  | .cons a .nil, op, c, X, W, xs, pos, h, k => by
    unfold okEs at k
    cases xs with
    | nil => cases k
    | cons y ys =>
      simp only [Bool.and_eq_true] at k
      obtain ⟨k1, k2⟩ := k
      unfold okEs at k2
      cases ys with
      | nil => exact s_bop1 (soundE a c X W _ h k1)
      | cons _ _ => cases k2
  | .cons a (.cons b r), op, c, X, W, xs, pos, h, k => by
    unfold okEs at k
    cases xs with
    | nil => cases k
    | cons y ys =>
      simp only [Bool.and_eq_true] at k
      obtain ⟨k1, k2⟩ := k
      cases ys with
      | nil => unfold okEs at k2; cases k2
      | cons z zs => exact s_bop2 (soundE a c X W _ h k1) (soundB (.cons b r) op c X W _ pos h k2)
theorem soundBT : (es : Es) → (op : BoolOp) → (c : Ctx) → (X : Cx) → (W : WX) → (xs : List Expr) → (pos : Pos) → XH c Φ cv X W → okEs es c xs = true → PW X (.BoolOp op xs pos) (tBT X cv W Φ op es)
  | .nil, op, c, X, W, xs, pos, h, k => ⟨fun wh pins s σ H Q I q => by
    obtain ⟨B, as, M, env, S, r, q⟩ := q
    exact q.elim⟩
  | .cons a .nil, op, c, X, W, xs, pos, h, k => by
    unfold okEs at k
    cases xs with
    | nil => cases k
    | cons y ys =>
      simp only [Bool.and_eq_true] at k
      obtain ⟨k1, k2⟩ := k
      unfold okEs at k2
      cases ys with
      | nil => exact st_bop1 (soundT a c X W _ h k1)
      | cons _ _ => cases k2
  | .cons a (.cons b r), op, c, X, W, xs, pos, h, k => by
    unfold okEs at k
    cases xs with
    | nil => cases k
    | cons y ys =>
      simp only [Bool.and_eq_true] at k
      obtain ⟨k1, k2⟩ := k
      cases ys with
      | nil => unfold okEs at k2; cases k2
      | cons z zs => exact st_bop2 (soundT a c X W _ h k1) (soundBT (.cons b r) op c X W _ pos h k2)
theorem soundO : (o : O) → (c : Ctx) → (X : Cx) → (W : WX) → (x : Option Expr) → XH c Φ cv X W → okO o c x = true → PO X x (tO X cv W Φ o)
  | .no, c, X, W, x, h, k => by
    unfold okO at k
    cases x with
    | none => exact s_o0
    | some _ => cases k
  | .so e, c, X, W, x, h, k => by
    unfold okO at k
    cases x with
    | none => cases k
    | some y => exact s_o1 (soundE e c X W y h k)
theorem soundC : (o : O) → (c : Ctx) → (X : Cx) → (W : WX) → (xs : List Expr) → XH c Φ cv X W → okC o c xs = true → PTs X xs (tC X cv W Φ o)
  | .no, c, X, W, xs, h, k => by
    unfold okC at k
    cases xs with
    | nil =>
      exact pts_nil.imp fun σ H Q q => by
        obtain ⟨B, as, M, env, S, r, q⟩ := q
        exact q as H true Go.refl S rfl
    | cons _ _ => cases k
  | .so e, c, X, W, xs, h, k => by
    unfold okC at k
    split at k
    · exact pts_one (soundT e c X W _ h k)
    · cases k
theorem soundEs : (es : Es) → (c : Ctx) → (X : Cx) → (W : WX) → (xs : List Expr) → XH c Φ cv X W → okEs es c xs = true → PA X xs (tEs X cv W Φ es)
  | .nil, c, X, W, xs, h, k => by
    unfold okEs at k
    cases xs with
    | nil => exact s_nil
    | cons _ _ => cases k
  | .cons e es, c, X, W, xs, h, k => by
    unfold okEs at k
    cases xs with
    | nil => cases k
    | cons y ys =>
      simp only [Bool.and_eq_true] at k
      exact s_cons (soundE e c X W _ h k.1) (soundEs es c X W _ h k.2) (okE_shp _ _ _ k.1)
theorem soundIt : (it : It) → (c : Ctx) → (X : Cx) → (W : WX) → (tg x : Expr) → XH c Φ cv X W → okIt it c (isTup tg) x = true → PI X tg x (tI X cv W Φ it)
  | .val e, c, X, W, tg, x, h, k => by
    unfold okIt at k
    exact s_val (soundE e c X W _ h k)
  | .rng1 a, c, X, W, tg, x, h, k => by
    unfold okIt at k
    split at k
    · simp only [Bool.and_eq_true] at k
      have e := of_decide_eq_true k.1.1
      subst e
      exact s_rng1 h k.1.2 (okE_shp _ _ _ k.2) (soundE a c X W _ h k.2)
    · cases k
  | .rng2 a b, c, X, W, tg, x, h, k => by
    unfold okIt at k
    split at k
    · simp only [Bool.and_eq_true] at k
      have e := of_decide_eq_true k.1.1.1
      subst e
      exact s_rng2 h k.1.1.2 (okE_shp _ _ _ k.1.2) (okE_shp _ _ _ k.2) (soundE a c X W _ h k.1.2) (soundE b c X W _ h k.2)
    · cases k
  | .rng3 a b d, c, X, W, tg, x, h, k => by
    unfold okIt at k
    split at k
    · simp only [Bool.and_eq_true] at k
      obtain ⟨⟨⟨⟨k1, k2⟩, k3⟩, k4⟩, k5⟩ := k
      have e := of_decide_eq_true k1
      subst e
      exact s_rng3 h k2 (okE_shp _ _ _ k3) (okE_shp _ _ _ k4) (okE_shp _ _ _ k5) (soundE a c X W _ h k3) (soundE b c X W _ h k4) (soundE d c X W _ h k5)
    · cases k
  | .zip a b, c, X, W, tg, x, h, k => by
    unfold okIt at k
    split at k
    · simp only [Bool.and_eq_true] at k
      obtain ⟨⟨⟨⟨k1, k2⟩, k3⟩, k4⟩, k5⟩ := k
      have e := of_decide_eq_true k1
      subst e
      cases tg <;> first | exact s_zip h k2 (okE_shp _ _ _ k3) (okE_shp _ _ _ k4) (soundE a c X W _ h k3) (soundE b c X W _ h k4) | cases k5
    · cases k
  | .enum a, c, X, W, tg, x, h, k => by
    unfold okIt at k
    split at k
    · simp only [Bool.and_eq_true] at k
      obtain ⟨⟨⟨k1, k2⟩, k3⟩, k4⟩ := k
      have e := of_decide_eq_true k1
      subst e
      cases tg <;> first | exact s_enum h k2 (okE_shp _ _ _ k3) (soundE a c X W _ h k3) | cases k4
    · cases k
  | .rev a, c, X, W, tg, x, h, k => by
    unfold okIt at k
    split at k
    · simp only [Bool.and_eq_true] at k
      have e := of_decide_eq_true k.1.1
      subst e
      exact s_rev h k.1.2 (okE_shp _ _ _ k.2) (soundE a c X W _ h k.2)
    · cases k
  | .revR a, c, X, W, tg, x, h, k => by
    unfold okIt at k
    split at k
    · simp only [Bool.and_eq_true] at k
      obtain ⟨k1, k2, k3, k4, k5⟩ := k
      have e1 := of_decide_eq_true k1
      have e2 := of_decide_eq_true k2
      subst e1 e2
      exact s_revR h k3 k4 (okE_shp _ _ _ k5) (soundE a c X W _ h k5)
    · cases k
  | .revR2 a b, c, X, W, tg, x, h, k => by
    unfold okIt at k
    split at k
    · simp only [Bool.and_eq_true] at k
      obtain ⟨k1, k2, k3, k4, k5, k6⟩ := k
      have e1 := of_decide_eq_true k1
      have e2 := of_decide_eq_true k2
      subst e1 e2
      exact s_revR2 h k3 k4 (okE_shp _ _ _ k5) (okE_shp _ _ _ k6) (soundE a c X W _ h k5) (soundE b c X W _ h k6)
    · cases k
  | .keys a, c, X, W, tg, x, h, k => by
    unfold okIt at k
    exact s_keys (soundE a c X W _ h k)
  | .vals a, c, X, W, tg, x, h, k => by
    unfold okIt at k
    split at k
    · simp only [Bool.and_eq_true] at k
      obtain ⟨k1, k2, k3⟩ := k
      have e := of_decide_eq_true k1
      subst e
      exact s_vals k2 (okE_shp _ _ _ k3) (soundE a c X W _ h k3)
    · cases k
theorem soundTg : (t : T) → (c : Ctx) → (X : Cx) → (W : WX) → (x : Expr) → XH c Φ cv X W → okT t c x = true → PG X x (tT' X Φ t)
  | .var i, c, X, W, x, h, k => by
    unfold okT at k
    split at k
    · simp only [Bool.and_eq_true] at k
      exact s_tvar h (of_decide_eq_true k.1.1) k.1.2 k.2
    · cases k
  | .tup ts, c, X, W, x, h, k => by
    unfold okT at k
    split at k
    · rw [Bool.and_eq_true, Bool.not_eq_true'] at k
      obtain ⟨k0, k⟩ := k
      obtain ⟨f1, f2⟩ := okTs_facts ts c _ k
      exact s_ttup h k0 (soundTgs ts c X W _ h k) f1 f2
    · cases k
  | .idx o i, c, X, W, x, h, k => by
    unfold okT at k
    split at k
    · simp only [Bool.and_eq_true] at k
      exact s_tidx (soundE o c X W _ h k.1) (soundE i c X W _ h k.2) (okE_shp _ _ _ k.2) (okE_shp _ _ _ k.1)
    · cases k
theorem soundTgs : (ts : Ts) → (c : Ctx) → (X : Cx) → (W : WX) → (xs : List Expr) → XH c Φ cv X W → okTs ts c xs = true → PGs X xs (tTs' X Φ ts)
  | .nil, c, X, W, xs, h, k => by
    unfold okTs at k
    cases xs with
    | nil => exact s_tnil
    | cons _ _ => cases k
  | .cons t ts, c, X, W, xs, h, k => by
    unfold okTs at k
    cases xs with
    | nil => cases k
    | cons y ys =>
      simp only [Bool.and_eq_true] at k
      exact s_tcons (soundTg t c X W _ h k.1) (soundTgs ts c X W _ h k.2) (okT_each k.1)
end
end
end
end Sg

/-! SgStmt: statements and defs. -/
namespace Sg
noncomputable section
open PySem PySem.Spec PyProof.Rows L2

/-! ### the check -/
def notTup : Expr → Bool
  | .Tuple _ _ _ => false
  | .List _ _ => false
  | _ => true
/-- a comprehension's list is stored within its block -/
def swapOk (c : Ctx) (n : Str) (py ep : Pos) (scope : Scope) : Bool :=
  decide (c.sc.names.lookup n = some .local) && (py.line == ep.line) && !(scope.names.any fun (m, k) => m == n && (k == .local || k == .cell))
/-- how the value goes to the target -/
def asgOk (c : Ctx) : Expr → Expr → Bool
  | .Name _ _, _ => true
  | .Tuple ts _ _, .Tuple _ _ _ => ts.any fun t => !isNm t
  | .Tuple _ _ _, v => notTup v
  | .List _ _, _ => false
  | _, _ => true
/-- the error's word is asked -/
def okTwC (c : Ctx) (n : Str) : Expr → Bool
  | .Call (.Name f _) [.Name v _] [] _ => decide (c.wd = some f) && (glOk c.sc f && (plainN f && decide (v = n)))
  | _ => false
def okTwL (c : Ctx) (n : Str) : Expr → Bool
  | .List [z] _ => okTwC c n z
  | _ => false
def okTwE (x : Str) (c : Ctx) (n : Str) : Expr → Bool
  | .Compare z [.Eq] [.Constant (.str x') _ _] _ => decide (x' = x) && okTwC c n z
  | _ => false
def okTw : Tw → Ctx → Str → Expr → Bool
  | .word, c, n, y => okTwC c n y
  | .lword, c, n, y => okTwL c n y
  | .weq x, c, n, y => okTwE x c n y
mutual
def okS : S → Ctx → Stmt → Bool
  | .expr e, c, x => match x with
    | .Expr y _ => okE e c y && notComp y
    | _ => false
  | .asg t e, c, x => match x with
    | .Assign [tg] y _ => okT t c tg && okE e c y && asgOk c tg y
    | _ => false
  | .par _ _ _ _, _, _ => false
  | .aug i op e, c, x => match x with
    | .AugAssign (.Name n _) o y _ => decide (op = o) && (decide (op = .Add) || decide (op = .Sub)) && decide (c.N[i]? = some n) && decide (c.sc.names.lookup n = some .local) && okE e c y
    | _ => false
  | .ite e a b, c, x => match x with
    | .If y as bs _ => okE e c y && okSs a c as && okSs b c bs
    | _ => false
  | .whl e b, c, x => match x with
    | .While y bs [] _ => okE e c y && okSs b c bs
    | _ => false
  | .for t it b, c, x => match x with
    | .For tg y bs [] _ => !c.hot && (okT t c tg && okIt it c (isTup tg) y && okSs b c bs)
    | _ => false
  | .forL t e b, c, x => match x with
    | .For tg y bs [] _ => !c.hot && (okT t c tg && okE e c y && okSs b c bs)
    | _ => false
  | .ret e, c, x => match x with
    | .Return y _ => okO e c y
    | _ => false
  | .pass, _, x => match x with
    | .Pass _ => true
    | _ => false
  | .brk, _, x => match x with
    | .Break _ => true
    | _ => false
  | .cont, _, x => match x with
    | .Continue _ => true
    | _ => false
  | .raise k, c, x => match x with
    | .Raise (some (.Call (.Name n _) [.Constant (.str _) _ _] [] _)) none _ => !c.hot && (decide (c.ex k = some n) && glOk c.sc n && plainN n)
    | _ => false
  | .hole, _, _ => true
  | .dset o i v, c, x => match x with
    | .Assign [.Subscript p q _] y _ => notComp y && (okE v c y && (okE o c p && okE i c q))
    | _ => false
  | .tryN k b d, c, x => match x with
    | .Try bs [.ExceptHandler (some (.Name sm _)) none [.Return (some (.Constant kk _ _)) _] _] [] [] _ => !c.hot && (decide (c.ex k = some sm) && (glOk c.sc sm && (plainN sm && (constOk d kk && okSs b c bs))))
    | _ => false
  | .tryW i b w, c, x => match x with
    | .Try bs [.ExceptHandler (some (.Name sm _)) (some n) [.Return (some y) _] _] [] [] _ => !c.hot && (decide (sm = ("SmoothError" : Str)) && (glOk c.sc sm && (plainN sm && (decide (c.N[i]? = some n) && (decide (c.sc.names.lookup n = some .local) && (plainN n && (okTw w c n y && okSs b c bs)))))))
    | _ => false
def okSs : Ss → Ctx → List Stmt → Bool
  | .nil, _, xs => xs.isEmpty
  | .cons s ss, c, xs => match xs with
    | y :: ys => okS s c y && okSs ss c ys
    | [] => false
end

/-! ### what is wanted behind a statement -/
theorem PostG.mono {α β : Type} {K : PySem.W.Frag} {H : Hp} {B : Addr → Prop} {as : List Addr} {M : List Cell} {E : Nat → Hp → Prop} {rel : List Addr → List Cell → Hp → α → β → Prop} {r : R α} {Q Q' : β → Hp → Prop}
    (h : PostG K H B as M E rel r Q) (k : ∀ b H, Q b H → Q' b H) : PostG K H B as M E rel r Q' := by
  cases r with
  | ok d M' => exact fun as' H' v g S q => k _ _ (h as' H' v g S q)
  | exc c M' => exact h
  | bad => exact h
def PostQ (K : PySem.W.Frag) (cv : Nat → Value) (W : WX) (H : Hp) (B : Addr → Prop) (as : List Addr) (M : List Cell) (r : Qr) (D : Ends) : Prop := match r with
  | .ok .nx env M' => ∀ as' H' σ', Go as M H as' M' H' → Sim K H' B as' M' → EnvR K H' (Av B as' M') as' env σ' → D.nx σ' H'
  | .ok (.rt d) _ M' => ∀ as' H' v, Go as M H as' M' H' → Sim K H' B as' M' → Rp K H' (Av B as' M') as' d v → D.rt v H'
  | .ok .bk env M' => ∀ as' H' σ', Go as M H as' M' H' → Sim K H' B as' M' → EnvR K H' (Av B as' M') as' env σ' → D.bk σ' H'
  | .ok .ct env M' => ∀ as' H' σ', Go as M H as' M' H' → Sim K H' B as' M' → EnvR K H' (Av B as' M') as' env σ' → D.ct σ' H'
  | .exc c env M' => ∀ as' H' σ', Go as M H as' M' H' → Sim K H' B as' M' → EnvR K H' (Av B as' M') as' env σ' → W (cv c) none σ' H'
  | .bad => False
section
variable {K : PySem.W.Frag} {cv : Nat → Value} {W : WX} {H H1 : Hp} {B : Addr → Prop} {as as1 : List Addr} {M M1 : List Cell}
theorem PostQ.go {r : Qr} {D : Ends} (h : PostQ K cv W H B as M r D) (g : Go as M H as1 M1 H1) : PostQ K cv W H1 B as1 M1 r D := by
  cases r with
  | ok f env M' => cases f <;> exact fun as' H' v g' S q => h as' H' v (g.trans g') S q
  | exc c env M' => exact fun as' H' v g' S q => h as' H' v (g.trans g') S q
  | bad => exact h
theorem PostQ.eq {r r' : Qr} {D : Ends} (e : r = r') (h : PostQ K cv W H B as M r D) : PostQ K cv W H B as M r' D := e ▸ h
/-- an expression's step within a statement -/
theorem st_bind {α β : Type} {rel : List Addr → List Cell → Hp → α → β → Prop} {r : R α} {f : α → List Cell → Qr} {D : Ends} {Q' : β → Hp → Prop} {env : St} {σ : St2} (S : Sim K H B as M) (re : EnvR K H (Av B as M) as env σ) (h : PostQ K cv W H B as M (r.st env f) D)
    (k : ∀ a M1 as1 H1 b, r = .ok a M1 → Go as M H as1 M1 H1 → Sim K H1 B as1 M1 → rel as1 M1 H1 a b → PostQ K cv W H1 B as1 M1 (f a M1) D → Q' b H1) : PostG K H B as M (exW W cv σ) rel r Q' := by
  cases r with
  | ok a M1 => exact fun as' H' v g S q => k a M1 as' H' v rfl g S q (PostQ.go h g)
  | exc c M1 => exact fun as' H' g S' => h as' H' σ g S' (re.go S g)
  | bad => exact h
theorem st_nox {α β : Type} {rel : List Addr → List Cell → Hp → α → β → Prop} {E : Nat → Hp → Prop} {r : R α} {f : α → List Cell → Qr} {D : Ends} {Q' : β → Hp → Prop} {env : St} (h : PostQ K cv W H B as M (r.nox.st env f) D)
    (k : ∀ a M1 as1 H1 b, r = .ok a M1 → Go as M H as1 M1 H1 → Sim K H1 B as1 M1 → rel as1 M1 H1 a b → PostQ K cv W H1 B as1 M1 (f a M1) D → Q' b H1) : PostG K H B as M E rel r Q' := by
  cases r with
  | ok a M1 => exact fun as' H' v g S q => k a M1 as' H' v rfl g S q (PostQ.go h g)
  | exc c M1 => exact h.elim
  | bad => exact h
end
/-- what is promised of the def that tells an error's word -/
def spW (cv : Nat → Value) (F : List D → List Cell → R D) : Addr × Obj → Sp := fun p vs H Q E => vs = [.ref p.1] ∧ ∃ k x M, L2N.Zn (cv k) none p.2 ∧ (∃ us, p.2.data = .fields us) ∧ F [.int (k : Nat)] [] = .ok (.str x) M ∧ ∀ H', (∀ a o, H a = some o → H' a = some o) → Q (.str x) H'
/-- the context of a def's statements -/
structure XS (c : Ctx) (Φ : Phi) (cv : Nat → Value) (X : Cx) (W : WX) : Prop where
  x : XH c Φ cv X W
  po : PassesOwn (model X.prog X.w) X.A X.env X.xe
  kd : X.env.scope.kind = .function
  cls : ∀ k n, c.ex k = some n → ∃ C, X.mg n = some (.ref C) ∧ cv k = .ref C ∧ PySem.W.excIn X.K C [.type "ValueError", .type "Exception", .type "BaseException", .type "object"] "ValueError.__new__" = true ∧ PySem.W.keepIn X.K (.ref C) = true ∧ Raises X (.ref C)
  slf : ∀ k n, c.ex k = some n → PySem.W.exmOne X.K (cv k) (cv k) = some true
  hs : X.stack = X.env :: X.outer
  hf : X.env.frame = some X.env.locals
  wd : ∀ f, c.wd = some f → ∃ (sm : Value) (fa : Addr) (fd : FuncData) (p : Str), X.mg ("SmoothError" : Str) = some sm ∧ X.mg f = some (.ref fa) ∧ PySem.W.keepIn X.K (.ref fa) = true ∧ Binds X.K fd [p] [] ∧
    SgH.FnP X.prog X.w X.K X.mg X.base (L2N.CX X.prog X.w) c.k fa fd [p] (spW cv (Φ 0)) ∧ ∀ (k : Nat) x M, Φ 0 [.int (k : Nat)] [] = .ok (.str x) M → PySem.W.exmOne X.K (cv k) sm = some true
section
variable {X : Cx} {cv : Nat → Value} {W : WX} {Φ : Phi} {c : Ctx} {pos : Pos}
def tS (X : Cx) (cv : Nat → Value) (W : WX) (f : St → List Cell → Qr) : TS := fun D σ H => ∃ B as M env, Sim X.K H B as M ∧ EnvR X.K H (Av B as M) as env σ ∧ PostQ X.K cv W H B as M (f env M) D
theorem _root_.L2.PS.imp {st : Stmt} {t t' : TS} (h : PS X st t) (k : ∀ D σ H, t' D σ H → t D σ H) : PS X st t' := ⟨fun pins s σ H D I q => h.run pins s σ H D I (k D σ H q)⟩
theorem _root_.L2.PSs.imp {st : List Stmt} {t t' : TS} (h : PSs X st t) (k : ∀ D σ H, t' D σ H → t D σ H) : PSs X st t' := ⟨fun pins s σ H D I q => h.run pins s σ H D I (k D σ H q)⟩
theorem swaps_no {e : Expr} {t : Option Expr} {l : Nat} {env : Env} (h : notComp e = true) : swapsWith e t l env = pure false := by
  cases e <;> first | rfl | cases h
theorem ss_expr {e : E} {y : Expr} (he : PE X y (tE X cv W Φ e)) (hn : notComp y = true) : PS X (.Expr y pos) (tS X cv W (evS Φ (.expr e))) :=
  (ps_expr he (swaps_no hn)).imp fun D σ H q => by
    obtain ⟨B, as, M, env, S, r, q⟩ := q
    refine ⟨B, as, M, env, S, r, st_bind S r q fun d M1 as1 H1 v hq1 g1 S1 ra q1 => ?_⟩
    exact q1 as1 H1 σ Go.refl S1 (r.go S g1)
theorem asg_post {t : T} {e : E} {D : Ends} {σ : St2} {H : Hp} (q : tS X cv W (evS Φ (.asg t e)) D σ H) : tAsg (tE X cv W Φ e) (tT' X Φ t) D σ H := by
  obtain ⟨B, as, M, env, S, r, q⟩ := q
  refine ⟨B, as, M, env, S, r, st_bind S r q fun d M1 as1 H1 v hq1 g1 S1 ra q1 => ?_⟩
  refine ⟨B, as1, M1, env, d, S1, r.go S g1, ra, st_nox q1 fun e M2 as2 H2 σ2 hq2 g2 S2 rr q2 => ?_⟩
  exact q2 as2 H2 σ2 Go.refl S2 rr.1
theorem names_lt {env : Env} {line : Nat} : ∀ (ts : List Expr), (ts.any fun t => !isNm t) = true → (ts.filterMap fun
    | .Name id pos => if env.kindOf id == some .local && pos.line == line then some id else none
    | _ => none).length < ts.length
  | [], h => by cases h
  | t :: ts, h => by
    rw [List.any_cons, Bool.or_eq_true] at h
    have le : (ts.filterMap fun
      | Expr.Name id pos => if env.kindOf id == some .local && pos.line == line then some id else none
      | _ => none).length ≤ ts.length := List.length_filterMap_le _ _
    rw [List.filterMap_cons]
    rcases h with h | h
    · cases t <;> first | (simp only [List.length_cons]; omega) | cases h
    · have ih := names_lt (env := env) (line := line) ts h
      split
      · simp only [List.length_cons]; omega
      · simp only [List.length_cons]; omega
theorem swapped_no {tg y : Expr} {env : Env} (h : asgOk c tg y = true) : swappedStores [tg] y env = pure none := by
  cases tg with
  | Tuple ts k p =>
    cases y with
    | Tuple vs k2 p2 =>
      have h' : (ts.any fun t => !isNm t) = true := h
      unfold swappedStores
      dsimp only
      split
      · rfl
      · split
        · rfl
        · split
          · rfl
          · rename_i _ _ hn
            exfalso
            refine hn ?_
            rw [Bool.or_eq_true]
            left
            rw [bne_iff_ne]
            exact Nat.ne_of_lt (names_lt (env := env) (line := (ts.head?.map (·.pos.line)).getD 0) ts h')
    | List _ _ => cases h
    | _ => rfl
  | List ts p => cases h
  | _ => rfl
theorem ss_asg {t : T} {e : E} {tg y : Expr} (h : XS c Φ cv X W) (ht : okT t c tg = true) (hg : PG X tg (tT' X Φ t)) (he : PE X y (tE X cv W Φ e)) (hn : notComp y = true) (ha : asgOk c tg y = true) : PS X (.Assign [tg] y pos) (tS X cv W (evS Φ (.asg t e))) :=
  (ps_asg he hg (by show swapsWith y (some tg) pos.line X.env = _; exact swaps_no hn) (swapped_no ha) (okT_each ht)).imp fun D σ H q => asg_post q
/-- a comprehension's list, stored as any value or within its block -/
theorem ss_asgc {t : T} {m : Bool} {own : List Nat} {t' : T} {it : It} {cd : O} {e : E} {tg elt itg iter : Expr} {ifs : List Expr} {scope : Scope} {ep : Pos} (h : XS c Φ cv X W) (ht : okT t c tg = true) (hg : PG X tg (tT' X Φ t)) (ha : asgOk c tg (.ListComp elt [⟨itg, iter, ifs, 0⟩] scope ep) = true)
    (k : okE (.comp m own t' it cd e) c (.ListComp elt [⟨itg, iter, ifs, 0⟩] scope ep) = true) : PS X (.Assign [tg] (.ListComp elt [⟨itg, iter, ifs, 0⟩] scope ep) pos) (tS X cv W (evS Φ (.asg t (.comp m own t' it cd e)))) := by
  have he := soundE (.comp m own t' it cd e) c X W _ h.x k
  by_cases hs : swapsWith (.ListComp elt [⟨itg, iter, ifs, 0⟩] scope ep) (some tg) pos.line X.env = pure false
  · exact (ps_asg he hg hs (swapped_no ha) (okT_each ht)).imp fun D σ H q => asg_post q
  · -- a name
    have hx := h.x
    rcases okT_shape ht with ⟨n, py, rfl⟩ | ⟨_, _, _, rfl⟩ | ⟨_, _, _, rfl⟩
    · have hv : swapsWith (.ListComp elt [⟨itg, iter, ifs, 0⟩] scope ep) (some (.Name n py)) pos.line X.env = pure (X.env.blockKind == .function && X.env.kindOf n == some .local && py.line == ep.line && !(scope.names.any fun (m, k) => m == n && (k == .local || k == .cell))) := rfl
      cases hb : (X.env.blockKind == .function && X.env.kindOf n == some .local && py.line == ep.line && !(scope.names.any fun (m, k) => m == n && (k == .local || k == .cell))) with
      | false => exact absurd (hv.trans (by rw [hb])) hs
      | true =>
        have hl : X.env.scope.names.lookup n = some .local := by
          simp only [Bool.and_eq_true] at hb
          exact eq_of_beq hb.1.1.2
        cases t with
        | var i =>
          unfold okT at ht
          simp only [Bool.and_eq_true] at ht
          have hi := of_decide_eq_true ht.1.1
          unfold okE at k
          simp only [Bool.and_eq_true] at k
          obtain ⟨⟨⟨⟨⟨⟨k1, k0⟩, k2⟩, k3⟩, k4⟩, k5⟩, k6⟩ := k
          have hsh := okIt_shp it c _ _ k2
          by_cases hot : c.hot = true
          · cases it with
            | rng1 a =>
              have hi' : L2H.PIH X itg iter (tI X cv W Φ (.rng1 a)) := by
                unfold okIt at k2
                split at k2
                · simp only [Bool.and_eq_true] at k2
                  have e := of_decide_eq_true k2.1.1
                  subst e
                  exact s_rng1H hx k2.1.2 (okE_shp _ _ _ k2.2) (soundE a c X W _ hx k2.2)
                · cases k2
              have hg' : ∀ (s : Shared) (H : Hp) (C : Addr) (cl : List (Str × Addr)) (fp : List Addr), PG (SgH.hblk X s H scope (compEnvC scope cl C X.env) fp) itg (tT' X Φ t') := fun s H C cl fp => soundTg t' _ (SgH.hblk X s H scope (compEnvC scope cl C X.env) fp) W0 _ (hblk_XH hx) k3
              have ht' : ∀ (s : Shared) (H : Hp) (C : Addr) (cl : List (Str × Addr)) (fp : List Addr), PTs (SgH.hblk X s H scope (compEnvC scope cl C X.env) fp) ifs (Sg.tC X cv W0 Φ cd) := fun s H C cl fp => soundC cd _ (SgH.hblk X s H scope (compEnvC scope cl C X.env) fp) W0 _ (hblk_XH hx) k5
              have he' : ∀ (s : Shared) (H : Hp) (C : Addr) (cl : List (Str × Addr)) (fp : List Addr), PE (SgH.hblk X s H scope (compEnvC scope cl C X.env) fp) elt (tE X cv W0 Φ e) := fun s H C cl fp => soundE e _ (SgH.hblk X s H scope (compEnvC scope cl C X.env) fp) W0 _ (hblk_XH hx) k6
              refine (SgH.ps_setHlc (own := ownP c.N own) (i := i) (hx.hotc hot) (by rw [hx.N]; exact hx.nd) (by rw [hx.N]; exact hi) hl (by rw [hv, hb]) hi' (blkOk_by (by rw [hx.N, hx.sc]; exact k1)) hg' ht' he' (fun x => shp_fold hsh x)).imp fun D σ H q => ?_
              have q2 := asg_post q
              have q3 : tE X cv W Φ (.comp m own t' (.rng1 a) cd e) σ H fun x H1 => gName i x σ H1 D.nx := by
                obtain ⟨B, as, M, env, S, r, q⟩ := q2
                refine ⟨B, as, M, env, S, r, q.mono fun v H1 q1 => ?_⟩
                obtain ⟨B, as, M, env, d, S, r, rd, q⟩ := q1
                exact q as H1 _ Go.refl S ⟨r.set rd, fun vs hv => wipe_set vs (by simpa [tSub] using hv)⟩
              exact s_comp hx k1 k4 hsh σ H _ q3
            | _ => rw [hot] at k0; cases k0
          have hcool : c.hot = false := Bool.eq_false_iff.mpr hot
          have hi' := soundIt it c X W itg iter hx k2
          have hg' : ∀ (s : Shared) (H : Hp) (C : Addr) (cl : List (Str × Addr)) (fp : List Addr), PG (X.blk s H scope (compEnvC scope cl C X.env) fp) itg (tT' X Φ t') := fun s H C cl fp => soundTg t' _ (X.blk s H scope (compEnvC scope cl C X.env) fp) W0 _ (blk_XH hcool hx) k3
          have ht' : ∀ (s : Shared) (H : Hp) (C : Addr) (cl : List (Str × Addr)) (fp : List Addr), PTs (X.blk s H scope (compEnvC scope cl C X.env) fp) ifs (Sg.tC X cv W0 Φ cd) := fun s H C cl fp => soundC cd _ (X.blk s H scope (compEnvC scope cl C X.env) fp) W0 _ (blk_XH hcool hx) k5
          have he' : ∀ (s : Shared) (H : Hp) (C : Addr) (cl : List (Str × Addr)) (fp : List Addr), PE (X.blk s H scope (compEnvC scope cl C X.env) fp) elt (tE X cv W0 Φ e) := fun s H C cl fp => soundE e _ (X.blk s H scope (compEnvC scope cl C X.env) fp) W0 _ (blk_XH hcool hx) k6
          refine (ps_setLc (own := ownP c.N own) (i := i) (hx.calm hcool) (by rw [hx.N]; exact hx.nd) (by rw [hx.N]; exact hi) hl (by rw [hv, hb]) hi' (blkOk_by (by rw [hx.N, hx.sc]; exact k1)) hg' ht' he' (fun x => shp_fold hsh x)).imp fun D σ H q => ?_
          have q2 := asg_post q
          have q3 : tE X cv W Φ (.comp m own t' it cd e) σ H fun x H1 => gName i x σ H1 D.nx := by
            obtain ⟨B, as, M, env, S, r, q⟩ := q2
            refine ⟨B, as, M, env, S, r, q.mono fun v H1 q1 => ?_⟩
            obtain ⟨B, as, M, env, d, S, r, rd, q⟩ := q1
            exact q as H1 _ Go.refl S ⟨r.set rd, fun vs hv => wipe_set vs (by simpa [tSub] using hv)⟩
          exact s_comp hx k1 k4 hsh σ H _ q3
        | _ => unfold okT at ht; cases ht
    · exact absurd rfl hs
    · exact absurd rfl hs
end
end
end Sg

/-! SgStmt2: loops, blocks, defs. -/
namespace Sg
noncomputable section
open PySem PySem.Spec PyProof.Rows L2
section
variable {X : Cx} {cv : Nat → Value} {W : WX} {Φ : Phi} {c : Ctx} {pos : Pos}
theorem ss_aug {i : Nat} {op : Operator} {e : E} {n : Str} {p : Pos} {y : Expr} (h : XS c Φ cv X W) (ho : op = .Add ∨ op = .Sub) (h1 : c.N[i]? = some n) (h2 : c.sc.names.lookup n = some .local) (he : PE X y (tE X cv W Φ e)) :
    PS X (.AugAssign (.Name n p) op y pos) (tS X cv W (evS Φ (.aug i op e))) :=
  (ps_aug (by rw [h.x.N]; exact h.x.nd) (by rw [h.x.N]; exact h1) (by rw [h.x.sc]; exact .inl h2) he (ip_aug (E := fun _ _ => False) op) (.inr (by rw [h.x.sc]; exact h2))).imp fun D σ H q => by
    obtain ⟨B, as, M, env, S, r, q⟩ := q
    have q : PostQ X.K cv W H B as M (match env[i]? with
      | some (some x) => (evE Φ e env M).st env fun y M1 => (match x, y with
        | .int a, .int b => (bopI op (.int a) (.int b) M1).st env fun z M2 => .ok .nx (env.set i (some z)) M2
        | _, _ => .bad)
      | _ => .bad) D := q
    split at q
    · rename_i x ex
      obtain ⟨v, e1, e2⟩ := r.get i x ex
      refine ⟨v, e1, B, as, M, env, S, r, st_bind S r q fun d M1 as1 H1 w hq1 g1 S1 ra q1 => ?_⟩
      split at q1
      · rename_i a b
        cases e2; cases ra
        refine ⟨ho, B, as1, M1, a, b, S1, rfl, rfl, ?_⟩
        have hok : ∃ z M2, bopI op (.int a) (.int b) M1 = .ok z M2 := by
          rcases ho with rfl | rfl <;> exact ⟨_, _, rfl⟩
        obtain ⟨z, M2, hz⟩ := hok
        rw [hz] at q1 ⊢
        intro as2 H2 zv g2 S2 rz
        exact q1 as2 H2 _ g2 S2 (((r.go S g1).go S1 g2).set rz)
      · exact q1.elim
    · exact q.elim
theorem ss_ret {o : O} {y : Option Expr} (h : XS c Φ cv X W) (k : okO o c y = true) : PS X (.Return y pos) (tS X cv W (evS Φ (.ret o))) := by
  cases o with
  | no =>
    unfold okO at k
    cases y with
    | some _ => cases k
    | none =>
      exact ps_retN.imp fun D σ H q => by
        obtain ⟨B, as, M, env, S, r, q⟩ := q
        exact q as H .non Go.refl S rfl
  | so e =>
    unfold okO at k
    cases y with
    | none => cases k
    | some y =>
      refine (ps_ret (soundE e c X W y h.x k)).imp fun D σ H q => ?_
      obtain ⟨B, as, M, env, S, r, q⟩ := q
      refine ⟨B, as, M, env, S, r, st_bind S r q fun d M1 as1 H1 v hq1 g1 S1 ra q1 => ?_⟩
      exact q1 as1 H1 v Go.refl S1 ra
theorem ss_raise {k : Nat} {n m : Str} {j : Nat} {p p2 p3 : Pos} (h : XS c Φ cv X W) (hcool : c.hot = false) (h1 : c.ex k = some n) (h2 : glOk c.sc n = true) (h3 : plainN n = true) : PS X (.Raise (some (.Call (.Name n p) [.Constant (.str m) j p2] [] p3)) none pos) (tS X cv W (evS Φ (.raise k))) := by
  obtain ⟨C, g1, g2, g3, g4, g5⟩ := h.cls k n h1
  refine (L2N.ps_raise (h.x.calm hcool) h.x.tk (L2N.pmk_own PySem.F.excBase_ValueError g3 g1 g4 g5 (gl_of h.x h2) (plain_of h3).1)).imp fun D σ H q => ?_
  obtain ⟨B, as, M, env, S, r, q⟩ := q
  rw [← g2]
  exact q as H σ Go.refl S r
/-! ### blocks -/
def tSs (X : Cx) (cv : Nat → Value) (W : WX) (Φ : Phi) (ss : Ss) : TS := tS X cv W (evSs Φ ss)
theorem ss_nil : PSs X [] (tSs X cv W Φ .nil) := pss_nil.imp fun D σ H q => by
  obtain ⟨B, as, M, env, S, r, q⟩ := q
  exact q as H σ Go.refl S r
theorem ss_cons {s : S} {ss : Ss} {x : Stmt} {xs : List Stmt} (h1 : PS X x (tS X cv W (evS Φ s))) (h2 : PSs X xs (tSs X cv W Φ ss)) : PSs X (x :: xs) (tSs X cv W Φ (.cons s ss)) :=
  (pss_cons h1 h2).imp fun D σ H q => by
    obtain ⟨B, as, M, env, S, r, q⟩ := q
    refine ⟨B, as, M, env, S, r, ?_⟩
    have q : PostQ X.K cv W H B as M ((evS Φ s env M).seq fun σ1 M1 => evSs Φ ss σ1 M1) D := q
    cases e : evS Φ s env M with
    | ok f env1 M1 =>
      rw [e] at q
      cases f with
      | nx => exact fun as1 H1 σ1 g1 S1 r1 => ⟨B, as1, M1, env1, S1, r1, q.go g1⟩
      | rt d => exact q
      | bk => exact q
      | ct => exact q
    | exc k env1 M1 => rw [e] at q; exact q
    | bad => rw [e] at q; exact q
/-! ### try -/
/-- the error's word is asked -/
def tWord (cv : Nat → Value) (Φ : Phi) (i : Nat) (a : Addr) (cls : Value) (d : Option Addr) : TE := fun σ H Q => σ[i]? = some (some (.ref a)) ∧ d = none ∧ ∃ k x M, cls = cv k ∧ Φ 0 [.int (k : Nat)] [] = .ok (.str x) M ∧ ∀ H', (∀ a o, H a = some o → H' a = some o) → Q (.str x) H'
def tSuite (K : PySem.W.Frag) (cv : Nat → Value) (Φ : Phi) (i : Nat) (w : Tw) (a : Addr) (cls : Value) (d : Option Addr) : TS := match w with
  | .word => fun D σ H => tWord cv Φ i a cls d σ H D.rt
  | .lword => fun D σ H => L2.tLst (L2.tCons (tWord cv Φ i a cls d) L2.tNil) σ H D.rt
  | .weq y => fun D σ H => L2.tOp (rOp2 K (fun _ _ => False) (cop .Eq)) (tWord cv Φ i a cls d) (L2.tC (.str y)) σ H D.rt
theorem pe_word {i : Nat} {n f : Str} {a : Addr} {oe : Obj} {cls : Value} {d : Option Addr} {pn : List (Addr × Obj)} {p0 p1 pos : Pos} (h : XS c Φ cv X W) (hi : c.N[i]? = some n) (hl : c.sc.names.lookup n = some .local) (hn : plainN n = true) (hw : c.wd = some f) (hg : glOk c.sc f = true) (hp : plainN f = true)
    (hz : L2N.Zn cls d oe) (hv : ∃ vs, oe.data = .fields vs) : PE (X.suite a ((a, oe) :: pn)) (.Call (.Name f p0) [.Name n p1] [] pos) (tWord cv Φ i a cls d) := by
  obtain ⟨sm, fa, fd, p, g1, g2, g3, g4, g5, g6⟩ := h.wd f hw
  obtain ⟨n1, n2, _⟩ := plain_of hn
  obtain ⟨vs, ev⟩ := hv
  have hc2 : vs[2]? = some .none := hz.2.2 vs ev
  have hvar : PE (X.suite a ((a, oe) :: pn)) (.Name n p1) (L2.tVar i) := pe_var (X := X.suite a ((a, oe) :: pn)) (by show X.N[i]? = some n; rw [h.x.N]; exact hi) (.inl (by show X.env.scope.names.lookup n = _; rw [h.x.sc]; exact hl)) n1 n2
  have hr : L2H.RoomH c.k (X.suite a ((a, oe) :: pn)).A := ⟨h.x.room.dp, h.x.room.un⟩
  have hgl : Gl (X.suite a ((a, oe) :: pn)) f := gl_of h.x hg
  refine (SgH.pe_callP (X := X.suite a ((a, oe) :: pn)) (p := (a, oe)) (E := fun _ _ _ _ => False) g5 hr ⟨rfl, vs, ev, hc2⟩ List.mem_cons_self hgl g2 g3 g4 (fun σ pins H s e s' I z => ?_) (pa_cons hvar pa_nil) (plain_of hp).1 rfl rfl).imp fun σ H Q q => ?_
  · obtain ⟨_, _, _, _, _, _, _, _, _, _, _, _, z⟩ := z
    exact z.elim
  · obtain ⟨q1, q2, k, x, M, q3, q4, q5⟩ := q
    subst q2 q3
    exact ⟨_, q1, rfl, k, x, M, hz, ⟨vs, ev⟩, q4, q5⟩
theorem okTwC_shp {n : Str} {z : Expr} (h : okTwC c n z = true) : shp z = true := by
  unfold okTwC at h
  split at h
  · rfl
  · cases h
theorem ss_try {i : Nat} {b : Ss} {w : Tw} {bs : List Stmt} {n : Str} {y : Expr} {np rp pos' : Pos} (h : XS c Φ cv X W) (hcool : c.hot = false) (hg : glOk c.sc ("SmoothError" : Str) = true) (hp : plainN ("SmoothError" : Str) = true) (hi : c.N[i]? = some n)
    (hl : c.sc.names.lookup n = some .local) (hn : plainN n = true) (hw : okTw w c n y = true) (hb : ∀ (X' : Cx) (W' : WX), XS c Φ cv X' W' → PSs X' bs (tSs X' cv W' Φ b)) :
    PS X (.Try bs [.ExceptHandler (some (.Name ("SmoothError" : Str) np)) (some n) [.Return (some y) rp] pos'] [] [] pos) (tS X cv W (evS Φ (.tryW i b w))) := by
  obtain ⟨f, hf⟩ : ∃ f, c.wd = some f := by
    have key : ∀ z, okTwC c n z = true → ∃ f, c.wd = some f := fun z hz => by
      unfold okTwC at hz
      split at hz
      · simp only [Bool.and_eq_true] at hz
        exact ⟨_, of_decide_eq_true hz.1⟩
      · cases hz
    cases w with
    | word => exact key _ hw
    | lword =>
      have hw : okTwL c n y = true := hw
      unfold okTwL at hw
      split at hw
      · exact key _ hw
      · cases hw
    | weq x =>
      have hw : okTwE x c n y = true := hw
      unfold okTwE at hw
      split at hw
      · rw [Bool.and_eq_true] at hw
        exact key _ hw.2
      · cases hw
  obtain ⟨sm, fa, fd, p, g1, g2, g3, g4, g5, g6⟩ := h.wd f hf
  have one : ∀ (a : Addr) (oe : Obj) (cls : Value) (d : Option Addr) (pn : List (Addr × Obj)) (z : Expr), okTwC c n z = true → L2N.Zn cls d oe → (∃ vs, oe.data = .fields vs) → PE (X.suite a ((a, oe) :: pn)) z (tWord cv Φ i a cls d) := fun a oe cls d pn z hz hzn hv => by
    unfold okTwC at hz
    split at hz
    · simp only [Bool.and_eq_true] at hz
      obtain ⟨z1, z2, z3, z4⟩ := hz
      have e := of_decide_eq_true z4
      subst e
      exact pe_word h hi hl hn (of_decide_eq_true z1) z2 z3 hzn hv
    · cases hz
  refine (L2N.ps_try_as (c := sm) (tb := fun W' => tSs X cv W' Φ b) (ts := tSuite X.K cv Φ i w) h.hs h.hf (by rw [h.x.N]; exact h.x.nd) (by rw [h.x.N]; exact hi) (by show X.env.scope.names.lookup n = _; rw [h.x.sc]; exact hl) ⟨gl_of h.x hg, (plain_of hp).1, .inl g1⟩ h.x.tk (fun W' pn xe tk po => ?_) (fun a oe cls d pn hz hv => ?_)).imp fun D σ H q => ?_
  · refine hb (X.tr pn xe) W' ⟨⟨h.x.N, h.x.nd, h.x.sc, h.x.fn, h.x.calm, fun z => absurd z (by rw [hcool]; decide), fun z => absurd z (by rw [hcool]; decide), h.x.room, h.x.hd, h.x.bi, h.x.gl, h.x.fns, tk⟩, po, h.kd, h.cls, h.slf, h.hs, h.hf, h.wd⟩
  · cases w with
    | word => exact (pss_cons (ps_ret (one a oe cls d pn _ hw hz hv)) pss_nil).imp fun D σ H q => q
    | lword =>
      have hw : okTwL c n y = true := hw
      unfold okTwL at hw
      split at hw
      · exact (pss_cons (ps_ret (pe_lst (pa_cons (one a oe cls d pn _ hw hz hv) pa_nil (shp_star (okTwC_shp hw))))) pss_nil).imp fun D σ H q => q
      · cases hw
    | weq x =>
      have hw : okTwE x c n y = true := hw
      unfold okTwE at hw
      split at hw
      · rw [Bool.and_eq_true] at hw
        have e := of_decide_eq_true hw.1
        subst e
        exact (pss_cons (ps_ret (pe_cmpR (X := X.suite a ((a, oe) :: pn)) (op_cop (X := X.suite a ((a, oe) :: pn)) (E := fun _ _ => False) (by have z := hu64 h.x; exact z) .Eq) (one a oe cls d pn _ hw.2 hz hv) pe_str rfl)) pss_nil).imp fun D σ H q => q
      · cases hw
  · obtain ⟨B, as, M, env, S, r, q⟩ := q
    refine ⟨B, as, M, env, S, r, ?_⟩
    have q : PostQ X.K cv W H B as M ((evSs Φ b env M).look fun k σ1 M1 => match Φ 0 [.int (k : Nat)] [] with
      | .ok (.str x) _ => if i < σ1.length then (match twR w x M1 with
        | .ok d M2 => .ok (.rt d) (σ1.set i none) M2
        | _ => .bad) else .bad
      | _ => .bad) D := q
    cases e : evSs Φ b env M with
    | ok fl env1 M1 => rw [e] at q; cases fl <;> exact q
    | bad => rw [e] at q; exact q
    | exc k env1 M1 =>
      rw [e] at q
      have q : PostQ X.K cv W H B as M (match Φ 0 [.int (k : Nat)] [] with
        | .ok (.str x) _ => if i < env1.length then (match twR w x M1 with
          | .ok d M2 => .ok (.rt d) (env1.set i none) M2
          | _ => .bad) else .bad
        | _ => .bad) D := q
      split at q
      · rename_i x M2 ew
        split at q
        · rename_i hlen
          intro as1 H1 σ1 g S1 r1
          refine ⟨true, g6 k x M2 ew, fun _ a ha => ?_, fun z => by cases z⟩
          have hs : (σ1.set i (some (V.ref a)))[i]? = some (some (.ref a)) := List.getElem?_set_self (by rw [← r1.len]; exact hlen)
          have sk : ∀ H', (∀ a o, H1 a = some o → H' a = some o) → Go as1 M1 H1 as1 M1 H' ∧ Sim X.K H' B as1 M1 := fun H' hk => by
            have hd : ∀ a, H1 a ≠ none → H' a ≠ none := fun a z e => by
              cases e1 : H1 a with
              | none => exact z e1
              | some o =>
                rw [hk a o e1] at e
                cases e
            have hn : ∀ (i : Nat) (a : Addr), as1.length ≤ i → as1[i]? = some a → H1 a = none := fun i a h1 h2 => by
              rw [List.getElem?_eq_none h1] at h2
              cases h2
            have g' : Go as1 M1 H1 as1 M1 H' := ⟨List.prefix_rfl, fun a o e _ => hk a o e, fun _ _ z => z, hd, hn⟩
            exact ⟨g', S1.stay g' hk⟩
          cases w with
          | word => exact ⟨hs, rfl, k, x, M2, rfl, ew, fun H' hk => q as1 H' _ (g.trans (sk H' hk).1) (sk H' hk).2 rfl⟩
          | lword =>
            refine ⟨hs, rfl, k, x, M2, rfl, ew, fun H' hk => ⟨by rw [sizeLine_eq]; show 1 ≤ 16777216; decide, fun p hp => ?_⟩⟩
            obtain ⟨g', S'⟩ := sk H' hk
            exact q as1 _ _ ((g.trans g').trans (Go.laid S' hp)) (Sim.laid S' hp) ⟨p, [.str x], rfl, upd_same, S'.notAv hp, ⟨.str x, [], rfl, rfl, rfl⟩⟩
          | weq y =>
            refine ⟨hs, rfl, k, x, M2, rfl, ew, fun H' hk => ?_⟩
            obtain ⟨g', S'⟩ := sk H' hk
            refine ⟨B, as1, M1, .str x, .str y, S', rfl, rfl, ?_⟩
            have q : PostQ X.K cv W H B as M (match cop .Eq (.str x) (.str y) M1 with
              | .ok d M2 => .ok (.rt d) (env1.set i none) M2
              | _ => .bad) D := q
            cases ec : cop .Eq (.str x) (.str y) M1 with
            | ok d M3 =>
              rw [ec] at q
              exact fun as2 H2 v g2 S2 rv => q as2 H2 v ((g.trans g').trans g2) S2 rv
            | exc c M3 => rw [ec] at q; exact q.elim
            | bad => rw [ec] at q; exact q.elim
        · exact q.elim
      · exact q.elim
/-- an error of one class, its suite a constant -/
theorem ss_tryN {k : Nat} {b : Ss} {dd : D} {bs : List Stmt} {sm : Str} {kk : Const} {j : Nat} {np rp pos' cp : Pos} (h : XS c Φ cv X W) (hcool : c.hot = false) (he : c.ex k = some sm) (hg : glOk c.sc sm = true) (hp : plainN sm = true) (hk : constOk dd kk = true)
    (hb : ∀ (X' : Cx) (W' : WX), XS c Φ cv X' W' → PSs X' bs (tSs X' cv W' Φ b)) :
    PS X (.Try bs [.ExceptHandler (some (.Name sm np)) none [.Return (some (.Constant kk j cp)) rp] pos'] [] [] pos) (tS X cv W (evS Φ (.tryN k b dd))) := by
  obtain ⟨C, g1, g2, _⟩ := h.cls k sm he
  refine (L2N.ps_try_many (l := [(cv k, fun _ _ _ => tRet (L2.tC (flV dd)))]) (tb := fun W' => tSs X cv W' Φ b) h.hs h.hf h.x.tk (fun W' pn xe tk po => ?_) (.cons ⟨gl_of h.x hg, (plain_of hp).1, .inl (by rw [g1, g2])⟩ (fun a oe cls d pn hz hv => ?_) .nil)).imp fun D σ H q => ?_
  · refine hb (X.tr pn xe) W' ⟨⟨h.x.N, h.x.nd, h.x.sc, h.x.fn, h.x.calm, fun z => absurd z (by rw [hcool]; decide), fun z => absurd z (by rw [hcool]; decide), h.x.room, h.x.hd, h.x.bi, h.x.gl, h.x.fns, tk⟩, po, h.kd, h.cls, h.slf, h.hs, h.hf, h.wd⟩
  · refine (pss_cons (ps_ret (te := L2.tC (flV dd)) ?_) pss_nil).imp fun D σ H q => q
    unfold constOk at hk
    split at hk
    · exact pe_non
    · have e := eq_of_beq hk
      subst e
      exact pe_bl
    · have e := eq_of_beq hk
      subst e
      exact pe_int
    · have e := of_decide_eq_true hk
      subst e
      exact pe_str
    · cases hk
  · obtain ⟨B, as, M, env, S, r, q⟩ := q
    refine ⟨B, as, M, env, S, r, ?_⟩
    have q : PostQ X.K cv W H B as M ((evSs Φ b env M).look fun c σ1 M1 => if c = k then .ok (.rt dd) σ1 M1 else .bad) D := q
    cases e : evSs Φ b env M with
    | ok fl env1 M1 => rw [e] at q; cases fl <;> exact q
    | bad => rw [e] at q; exact q
    | exc c' env1 M1 =>
      rw [e] at q
      have q2 : PostQ X.K cv W H B as M (if c' = k then .ok (.rt dd) env1 M1 else .bad) D := q
      by_cases hc : c' = k
      · rw [if_pos hc] at q2
        subst hc
        intro as1 H1 σ1 g S1 r1
        refine ⟨true, h.slf _ _ he, fun _ a ha => ?_, fun z => by cases z⟩
        refine q2 as1 H1 _ g S1 ?_
        cases dd <;> cases kk <;> first | (cases hk; done) | rfl
      · rw [if_neg hc] at q2
        exact q2.elim
theorem ss_dset {o i v : E} {x y z : Expr} {sp : Pos} (h : XS c Φ cv X W) (hn : notComp z = true) (hy : shp y = true) (hv : PE X z (tE X cv W Φ v)) (ho : PE X x (tE X cv W Φ o)) (hi : PE X y (tE X cv W Φ i)) : PS X (.Assign [.Subscript x y sp] z pos) (tS X cv W (evS Φ (.dset o i v))) := by
  refine (ps_dput (hu1 h.x) ho hi hv (swaps_no hn)).imp fun D σ H q => ?_
  obtain ⟨B, as, M, env, S, r, q⟩ := q
  refine ⟨B, as, M, env, S, r, st_bind S r q fun zd M1 as1 H1 zv _ g1 S1 rz q1 => ?_⟩
  have r1 := r.go S g1
  refine ⟨B, as1, M1, env, S1, r1, st_bind S1 r1 q1 fun xd M2 as2 H2 xv _ g2 S2 rx q2 => ?_⟩
  have r2 := r1.go S1 g2
  refine ⟨B, as2, M2, env, S2, r2, st_bind S2 r2 q2 fun yd M3 as3 H3 yv _ g3 S3 ry q3 => ?_⟩
  have r3 := r2.go S2 g3
  cases e : dsetD xd yd zd M3 with
  | none => rw [e] at q3; exact q3.elim
  | some M4 =>
    rw [e] at q3
    obtain ⟨p, H4, rfl, dp, g4, S4⟩ := dset_rp S3 (g3.rp S2 rx) ry (g3.rp S2 (g2.rp S1 rz)) e
    exact ⟨p, H4, rfl, dp, q3 as3 H4 σ g4 S4 (r3.go S3 g4)⟩
theorem ss_ite {e : E} {a b : Ss} {y : Expr} {as bs : List Stmt} (h1 : PT X y (tT X cv W Φ e)) (h2 : PSs X as (tSs X cv W Φ a)) (h3 : PSs X bs (tSs X cv W Φ b)) : PS X (.If y as bs pos) (tS X cv W (evS Φ (.ite e a b))) :=
  (ps_if h1 h2 h3).imp fun D σ H q => by
    obtain ⟨B, as, M, env, S, r, q⟩ := q
    refine ⟨B, as, M, env, S, r, st_bind S r q fun k M1 as1 H1 v hq1 g1 S1 ra q1 => ?_⟩
    have ra : k = v := ra
    subst ra
    cases k with
    | true => exact ⟨B, as1, M1, env, S1, r.go S g1, q1⟩
    | false => exact ⟨B, as1, M1, env, S1, r.go S g1, q1⟩
theorem ss_whl {e : E} {b : Ss} {y : Expr} {bs : List Stmt} (h : XS c Φ cv X W) (h1 : PT X y (tT X cv W Φ e)) (h2 : PSs X bs (tSs X cv W Φ b)) : PS X (.While y bs [] pos) (tS X cv W (evS Φ (.whl e b))) :=
  (ps_while h.po h1 h2).imp fun D σ H q => by
    obtain ⟨B, as, M, env, S, r, q⟩ := q
    have q : PostQ X.K cv W H B as M (whlL (fun σ1 M1 => evE Φ e σ1 M1) (fun σ1 M1 => evSs Φ b σ1 M1) FUEL env M) D := q
    refine ⟨fun m σ H => ∃ B as M env, Sim X.K H B as M ∧ EnvR X.K H (Av B as M) as env σ ∧ PostQ X.K cv W H B as M (whlL (fun σ1 M1 => evE Φ e σ1 M1) (fun σ1 M1 => evSs Φ b σ1 M1) m env M) D, ⟨FUEL, B, as, M, env, S, r, q⟩, ?_⟩
    rintro m σ H ⟨B, as, M, env, S, r, q⟩
    cases m with
    | zero => exact q.elim
    | succ m =>
      refine ⟨B, as, M, env, S, r, st_bind S r q fun k M1 as1 H1 v hq1 g1 S1 ra q1 => ?_⟩
      have ra : k = v := ra
      subst ra
      have r1 := r.go S g1
      cases k with
      | true =>
        simp only [if_true] at q1 ⊢
        refine ⟨fun σ H => ∃ B as M env, Sim X.K H B as M ∧ EnvR X.K H (Av B as M) as env σ ∧ PostQ X.K cv W H B as M (whlL (fun σ1 M1 => evE Φ e σ1 M1) (fun σ1 M1 => evSs Φ b σ1 M1) m env M) D, fun σ' H' z => ⟨m, Nat.lt_succ_self m, z⟩, ?_⟩
        refine ⟨B, as1, M1, env, S1, r1, ?_⟩
        cases e2 : evSs Φ b env M1 with
        | ok f env2 M2 =>
          rw [e2] at q1
          cases f with
          | nx => exact fun as2 H2 σ2 g2 S2 r2 => ⟨B, as2, M2, env2, S2, r2, PostQ.go q1 g2⟩
          | ct => exact fun as2 H2 σ2 g2 S2 r2 => ⟨B, as2, M2, env2, S2, r2, PostQ.go q1 g2⟩
          | bk => exact q1
          | rt d => exact q1
        | exc k env2 M2 => rw [e2] at q1; exact q1
        | bad => rw [e2] at q1; exact q1
      | false =>
        simp only [Bool.false_eq_true, if_false] at q1 ⊢
        exact q1 as1 H1 σ Go.refl S1 r1
theorem ss_for {t : T} {it : It} {b : Ss} {tg y : Expr} {bs : List Stmt} (h : XS c Φ cv X W) (hcool : c.hot = false) (hg : PG X tg (tT' X Φ t)) (hi : PI X tg y (tI X cv W Φ it)) (hy : shp y = true) (h2 : PSs X bs (tSs X cv W Φ b)) : PS X (.For tg y bs [] pos) (tS X cv W (evS Φ (.for t it b))) :=
  (ps_for h.po (h.x.calm hcool) hi hg h2 (fun x => shp_fold hy x)).imp fun D σ H q => by
    obtain ⟨B, as, M, env, S, r, q⟩ := q
    refine ⟨B, as, M, env, S, r, st_bind S r q fun xs M1 as1 H1 J hq1 g1 S1 feed q1 => ?_⟩
    have r1 := r.go S g1
    refine ⟨fun i m σ H => m = xs.length - i ∧ i ≤ xs.length ∧ ∃ as' M' env, Go as1 M1 H1 as' M' H ∧ Sim X.K H B as' M' ∧ EnvR X.K H (Av B as' M') as' env σ ∧
      PostQ X.K cv W H B as' M' (forL (fun x σ1 M2 => (evT Φ t x σ1 M2).nox.st σ1 fun σ2 M3 => evSs Φ b σ2 M3) (xs.drop i) env M') D, ⟨xs.length, by simp, Nat.zero_le _, as1, M1, env, Go.refl, S1, r1, q1⟩, ?_⟩
    rintro i m σ H2 ⟨rfl, hi, as2, M2, env2, g2, S2, r2, q2⟩
    obtain ⟨f1, f2, f3⟩ := feed B as2 M2 H2 (fun _ _ z => z) g2 S2
    by_cases hlt : i < xs.length
    · refine .inr ⟨f1 i hlt, fun σ H => i + 1 ≤ xs.length ∧ ∃ as' M' env, Go as1 M1 H1 as' M' H ∧ Sim X.K H B as' M' ∧ EnvR X.K H (Av B as' M') as' env σ ∧
        PostQ X.K cv W H B as' M' (forL (fun x σ1 M2 => (evT Φ t x σ1 M2).nox.st σ1 fun σ2 M3 => evSs Φ b σ2 M3) (xs.drop (i + 1)) env M') D, fun σ' H' z => ⟨xs.length - (i + 1), by omega, rfl, z⟩, fun v H3 y => ?_⟩
      obtain ⟨g3, S3, rv, k3⟩ := f3 i _ v H3 (List.getElem?_eq_getElem hlt) y
      have r3 := r2.go S2 g3
      have q3 := q2.go g3
      have q3 : PostQ X.K cv W H3 B as2 M2 (((evT Φ t xs[i] env2 M2).nox.st env2 fun σ2 M3 => evSs Φ b σ2 M3).turn fun σ1 M3 => forL (fun x σ1 M2 => (evT Φ t x σ1 M2).nox.st σ1 fun σ2 M3 => evSs Φ b σ2 M3) (xs.drop (i + 1)) σ1 M3) D := by
        refine PostQ.eq ?_ q3
        rw [List.drop_eq_getElem_cons hlt]
        rfl
      refine ⟨B, as2, M2, env2, xs[i], S3, r3, rv, ?_⟩
      cases e1 : evT Φ t xs[i] env2 M2 with
      | ok env4 M4 =>
        rw [e1] at q3
        intro as4 H4 σ4 g4 S4 rr
        refine ⟨B, as4, M4, env4, S4, rr.1, ?_⟩
        have q4 := q3.go g4
        have q4 : PostQ X.K cv W H4 B as4 M4 ((evSs Φ b env4 M4).turn fun σ1 M3 => forL (fun x σ1 M2 => (evT Φ t x σ1 M2).nox.st σ1 fun σ2 M3 => evSs Φ b σ2 M3) (xs.drop (i + 1)) σ1 M3) D := q4
        have g4' := (g2.trans g3).trans g4
        cases e2 : evSs Φ b env4 M4 with
        | ok f env5 M5 =>
          rw [e2] at q4
          cases f with
          | nx => exact fun as5 H5 σ5 g5 S5 r5 => ⟨hlt, as5, M5, env5, g4'.trans g5, S5, r5, q4.go g5⟩
          | ct => exact fun as5 H5 σ5 g5 S5 r5 => ⟨hlt, as5, M5, env5, g4'.trans g5, S5, r5, q4.go g5⟩
          | bk => exact q4
          | rt d => exact q4
        | exc k env5 M5 => rw [e2] at q4; exact q4
        | bad => rw [e2] at q4; exact q4
      | exc k M4 => rw [e1] at q3; exact q3.elim
      | bad => rw [e1] at q3; exact q3.elim
    · refine .inl ⟨f2 i (by omega), ?_⟩
      have ei : xs.drop i = [] := List.drop_eq_nil_of_le (by omega)
      rw [ei] at q2
      exact q2 as2 H2 σ Go.refl S2 r2
mutual
theorem beqX_eq : (a b : D) → beqX a b = true → a = b
  | .ref i, b, h => by
    cases b <;> first | (rw [beqX] at h; rw [eq_of_beq h]) | cases h
  | .non, b, h => by cases b <;> first | rfl | cases h
  | .bl a, b, h => by
    cases b <;> first | (rw [beqX] at h; rw [eq_of_beq h]) | cases h
  | .int a, b, h => by
    cases b <;> first | (rw [beqX] at h; rw [eq_of_beq h]) | cases h
  | .str a, b, h => by
    cases b <;> first | (rw [beqX] at h; rw [of_decide_eq_true h]) | cases h
  | .tup xs, b, h => by
    cases b <;> first | (rw [beqX] at h; rw [beqXs_eq xs _ h]) | cases h
  | .ktp xs, b, h => by
    cases b <;> first | (rw [beqX] at h; rw [beqXs_eq xs _ h]) | cases h
  | .lst xs, b, h => by
    cases b <;> first | (rw [beqX] at h; rw [beqXs_eq xs _ h]) | cases h
  | .fro _, b, h => by cases b <;> cases h
  | .dct _ _ _, b, h => by cases b <;> cases h
  | .exo _, b, h => by cases b <;> cases h
theorem beqXs_eq : (a b : List D) → beqXs a b = true → a = b
  | [], [], _ => rfl
  | [], _ :: _, h => by cases h
  | _ :: _, [], h => by cases h
  | x :: xs, y :: ys, h => by
    rw [beqXs, Bool.and_eq_true] at h
    rw [beqX_eq x y h.1, beqXs_eq xs ys h.2]
end
theorem holds_eq {i : Nat} {xs : List D} {M : List Cell} (h : holds i xs M = true) : M[i]? = some ⟨true, .lst xs⟩ := by
  unfold holds at h
  split at h
  · rename_i ys e
    rw [e, beqXs_eq ys xs h]
  · cases h
theorem prefix_get {xs ys : List Addr} {i : Nat} {a : Addr} (h : xs <+: ys) (e : xs[i]? = some a) : ys[i]? = some a := by
  obtain ⟨zs, rfl⟩ := h
  rw [List.getElem?_append_left (List.getElem?_eq_some_iff.mp e).1]
  exact e
theorem ss_forL {t : T} {e : E} {b : Ss} {tg y : Expr} {bs : List Stmt} (h : XS c Φ cv X W) (hcool : c.hot = false) (hg : PG X tg (tT' X Φ t)) (hi : PE X y (tE X cv W Φ e)) (hy : shp y = true) (h2 : PSs X bs (tSs X cv W Φ b)) : PS X (.For tg y bs [] pos) (tS X cv W (evS Φ (.forL t e b))) :=
  (ps_for h.po (h.x.calm hcool) (pi_list hi) hg h2 (fun x => shp_fold hy x)).imp fun D σ H q => by
    obtain ⟨B, as, M, env, S, r, q⟩ := q
    refine ⟨B, as, M, env, S, r, st_bind S r q fun d M1 as1 H1 v hq1 g1 S1 rd q1 => ?_⟩
    have r1 := r.go S g1
    cases d with
    | ref i =>
      dsimp only at q1
      cases hc : M1[i]? with
      | none => rw [hc] at q1; exact q1.elim
      | some cc =>
        obtain ⟨m, dd⟩ := cc
        rw [hc] at q1
        cases m with
        | false => exact q1.elim
        | true =>
          cases dd with
          | lst xs =>
            dsimp only at q1
            obtain ⟨a, ha, rfl⟩ := rd
            obtain ⟨vs, hv1, hv2⟩ := S1.cell i a _ ha hc
            refine ⟨a, rfl, ⟨vs, .inl (.inl hv1)⟩, ?_⟩
            refine ⟨fun j m σ H => m = xs.length - j ∧ j ≤ xs.length ∧ ∃ as' M' env, Go as1 M1 H1 as' M' H ∧ Sim X.K H B as' M' ∧ EnvR X.K H (Av B as' M') as' env σ ∧
              PostQ X.K cv W H B as' M' (forV i xs (fun x σ1 M2 => (evT Φ t x σ1 M2).nox.st σ1 fun σ2 M3 => evSs Φ b σ2 M3) (xs.drop j) env M') D, ⟨xs.length, by simp, Nat.zero_le _, as1, M1, env, Go.refl, S1, r1, q1⟩, ?_⟩
            rintro j m σ H2 ⟨rfl, hj, as2, M2, env2, g2, S2, r2, q2⟩
            by_cases hlt : j < xs.length
            · have e0 : forV i xs (fun x σ1 M2 => (evT Φ t x σ1 M2).nox.st σ1 fun σ2 M3 => evSs Φ b σ2 M3) (xs.drop j) env2 M2 = if holds i xs M2 = true then (((evT Φ t xs[j] env2 M2).nox.st env2 fun σ2 M3 => evSs Φ b σ2 M3).turn fun σ1 M3 => forV i xs (fun x σ1 M2 => (evT Φ t x σ1 M2).nox.st σ1 fun σ2 M3 => evSs Φ b σ2 M3) (xs.drop (j + 1)) σ1 M3) else .bad := by
                rw [List.drop_eq_getElem_cons hlt]
                rfl
              have q2 := PostQ.eq e0 q2
              split at q2
              · rename_i hh
                have hcell := holds_eq hh
                obtain ⟨ws, hw1, hw2⟩ := S2.cell i a _ (prefix_get g2.pre ha) hcell
                obtain ⟨w, e1, rw1⟩ := hw2.get (List.getElem?_eq_getElem hlt)
                refine .inr ⟨⟨ws, w, .inl (.inl hw1), e1⟩, fun σ H => j + 1 ≤ xs.length ∧ ∃ as' M' env, Go as1 M1 H1 as' M' H ∧ Sim X.K H B as' M' ∧ EnvR X.K H (Av B as' M') as' env σ ∧
                  PostQ X.K cv W H B as' M' (forV i xs (fun x σ1 M2 => (evT Φ t x σ1 M2).nox.st σ1 fun σ2 M3 => evSs Φ b σ2 M3) (xs.drop (j + 1)) env M') D, fun σ' H' z => ⟨xs.length - (j + 1), by omega, rfl, z⟩, fun v H3 y => ?_⟩
                obtain ⟨rfl, y⟩ := y
                have ev := y ws (.inl (.inl hw1))
                rw [e1] at ev
                cases ev
                refine ⟨B, as2, M2, env2, xs[j], S2, r2, rw1, ?_⟩
                cases e1 : evT Φ t xs[j] env2 M2 with
                | ok env4 M4 =>
                  rw [e1] at q2
                  intro as4 H4 σ4 g4 S4 rr
                  refine ⟨B, as4, M4, env4, S4, rr.1, ?_⟩
                  have q4 := q2.go g4
                  have q4 : PostQ X.K cv W H4 B as4 M4 ((evSs Φ b env4 M4).turn fun σ1 M3 => forV i xs (fun x σ1 M2 => (evT Φ t x σ1 M2).nox.st σ1 fun σ2 M3 => evSs Φ b σ2 M3) (xs.drop (j + 1)) σ1 M3) D := q4
                  have g4' := g2.trans g4
                  cases e2 : evSs Φ b env4 M4 with
                  | ok f env5 M5 =>
                    rw [e2] at q4
                    cases f with
                    | nx => exact fun as5 H5 σ5 g5 S5 r5 => ⟨hlt, as5, M5, env5, g4'.trans g5, S5, r5, q4.go g5⟩
                    | ct => exact fun as5 H5 σ5 g5 S5 r5 => ⟨hlt, as5, M5, env5, g4'.trans g5, S5, r5, q4.go g5⟩
                    | bk => exact q4
                    | rt d => exact q4
                  | exc k env5 M5 => rw [e2] at q4; exact q4
                  | bad => rw [e2] at q4; exact q4
                | exc k M4 => rw [e1] at q2; exact q2.elim
                | bad => rw [e1] at q2; exact q2.elim
              · exact q2.elim
            · have ei : xs.drop j = [] := List.drop_eq_nil_of_le (by omega)
              rw [ei] at q2
              have q2 : PostQ X.K cv W H2 B as2 M2 (if holds i xs M2 = true then .ok .nx env2 M2 else .bad) D := q2
              split at q2
              · rename_i hh
                obtain ⟨ws, hw1, hw2⟩ := S2.cell i a _ (prefix_get g2.pre ha) (holds_eq hh)
                exact .inl ⟨⟨ws, .inl (.inl hw1), by rw [hw2.len]; omega⟩, q2 as2 H2 σ Go.refl S2 r2⟩
              · exact q2.elim
          | _ => exact q1.elim
    | _ => exact q1.elim
mutual
theorem soundS : (s : S) → (X : Cx) → (W : WX) → (x : Stmt) → XS c Φ cv X W → okS s c x = true → PS X x (tS X cv W (evS Φ s))
  | .expr e, X, W, x, h, k => by
    unfold okS at k
    split at k
    · simp only [Bool.and_eq_true] at k
      exact ss_expr (soundE e c X W _ h.x k.1) k.2
    · cases k
  | .asg t e, X, W, x, h, k => by
    unfold okS at k
    split at k
    · rename_i tg y pos
      simp only [Bool.and_eq_true] at k
      obtain ⟨⟨k1, k2⟩, k3⟩ := k
      have hg := soundTg t c X W tg h.x k1
      by_cases hc : notComp y = true
      · exact ss_asg h k1 hg (soundE e c X W _ h.x k2) hc k3
      · cases e with
        | comp m own t' it cd e' =>
          have k2' := k2
          unfold okE at k2'
          split at k2'
          · exact ss_asgc h k1 hg k3 k2
          · cases k2'
        | snap e' =>
          unfold okE at k2
          rw [Bool.and_eq_true] at k2
          exact absurd k2.1 hc
        | hole =>
          unfold okE at k2
          rw [Bool.and_eq_true] at k2
          exact absurd k2.1 hc
        | dsum _ => unfold okE at k2; cases k2
        | _ => (unfold okE at k2; split at k2 <;> first | exact absurd rfl hc | cases k2)
    · cases k
  | .par _ _ _ _, X, W, x, h, k => by unfold okS at k; cases k
  | .aug i op e, X, W, x, h, k => by
    unfold okS at k
    split at k
    · simp only [Bool.and_eq_true, Bool.or_eq_true] at k
      obtain ⟨⟨⟨⟨k1, k2⟩, k3⟩, k4⟩, k5⟩ := k
      have e1 := of_decide_eq_true k1
      subst e1
      exact ss_aug h (k2.imp of_decide_eq_true of_decide_eq_true) (of_decide_eq_true k3) (of_decide_eq_true k4) (soundE e c X W _ h.x k5)
    · cases k
  | .ite e a b, X, W, x, h, k => by
    unfold okS at k
    split at k
    · simp only [Bool.and_eq_true] at k
      exact ss_ite (soundT e c X W _ h.x k.1.1) (soundSs a X W _ h k.1.2) (soundSs b X W _ h k.2)
    · cases k
  | .whl e b, X, W, x, h, k => by
    unfold okS at k
    split at k
    · simp only [Bool.and_eq_true] at k
      exact ss_whl h (soundT e c X W _ h.x k.1) (soundSs b X W _ h k.2)
    · cases k
  | .for t it b, X, W, x, h, k => by
    unfold okS at k
    split at k
    · simp only [Bool.and_eq_true] at k
      have k0 : c.hot = false := by have := k.1; rwa [Bool.not_eq_true'] at this
      have k := k.2
      exact ss_for h k0 (soundTg t c X W _ h.x k.1.1) (soundIt it c X W _ _ h.x k.1.2) (okIt_shp it c _ _ k.1.2) (soundSs b X W _ h k.2)
    · cases k
  | .forL t e b, X, W, x, h, k => by
    unfold okS at k
    split at k
    · simp only [Bool.and_eq_true] at k
      have k0 : c.hot = false := by have := k.1; rwa [Bool.not_eq_true'] at this
      have k := k.2
      exact ss_forL h k0 (soundTg t c X W _ h.x k.1.1) (soundE e c X W _ h.x k.1.2) (okE_shp e c _ k.1.2) (soundSs b X W _ h k.2)
    · cases k
  | .ret e, X, W, x, h, k => by
    unfold okS at k
    split at k
    · exact ss_ret h k
    · cases k
  | .pass, X, W, x, h, k => by
    unfold okS at k
    split at k
    · exact ps_pass.imp fun D σ H q => by
        obtain ⟨B, as, M, env, S, r, q⟩ := q
        exact q as H σ Go.refl S r
    · cases k
  | .brk, X, W, x, h, k => by
    unfold okS at k
    split at k
    · exact ps_break.imp fun D σ H q => by
        obtain ⟨B, as, M, env, S, r, q⟩ := q
        exact q as H σ Go.refl S r
    · cases k
  | .cont, X, W, x, h, k => by
    unfold okS at k
    split at k
    · exact ps_continue.imp fun D σ H q => by
        obtain ⟨B, as, M, env, S, r, q⟩ := q
        exact q as H σ Go.refl S r
    · cases k
  | .hole, X, W, x, h, k => ⟨fun pins s σ H D I q => by
    obtain ⟨B, as, M, env, S, r, q⟩ := q
    exact q.elim⟩
  | .dset o i v, X, W, x, h, k => by
    unfold okS at k
    split at k
    · simp only [Bool.and_eq_true] at k
      obtain ⟨k1, k2, k3, k4⟩ := k
      exact ss_dset h k1 (okE_shp _ _ _ k4) (soundE v c X W _ h.x k2) (soundE o c X W _ h.x k3) (soundE i c X W _ h.x k4)
    · cases k
  | .tryN kk b d, X, W, x, h, k => by
    unfold okS at k
    split at k
    · simp only [Bool.and_eq_true, Bool.not_eq_true'] at k
      obtain ⟨k0, k1, k2, k3, k4, k5⟩ := k
      exact ss_tryN h k0 (of_decide_eq_true k1) k2 k3 k4 fun X' W' h' => soundSs b X' W' _ h' k5
    · cases k
  | .raise kk, X, W, x, h, k => by
    unfold okS at k
    split at k
    · simp only [Bool.and_eq_true] at k
      have k0 : c.hot = false := by have := k.1; rwa [Bool.not_eq_true'] at this
      have k := k.2
      exact ss_raise h k0 (of_decide_eq_true k.1.1) k.1.2 k.2
    · cases k
  | .tryW i b w, X, W, x, h, k => by
    unfold okS at k
    split at k
    · simp only [Bool.and_eq_true] at k
      obtain ⟨k0, k1, k2, k3, k4, k5, k6, k7, k8⟩ := k
      have k0 : c.hot = false := by rwa [Bool.not_eq_true'] at k0
      have e := of_decide_eq_true k1
      subst e
      exact ss_try h k0 k2 k3 (of_decide_eq_true k4) (of_decide_eq_true k5) k6 k7 fun X' W' h' => soundSs b X' W' _ h' k8
    · cases k
theorem soundSs : (ss : Ss) → (X : Cx) → (W : WX) → (xs : List Stmt) → XS c Φ cv X W → okSs ss c xs = true → PSs X xs (tSs X cv W Φ ss)
  | .nil, X, W, xs, h, k => by
    unfold okSs at k
    cases xs with
    | nil => exact ss_nil
    | cons _ _ => cases k
  | .cons s ss, X, W, xs, h, k => by
    unfold okSs at k
    cases xs with
    | nil => cases k
    | cons y ys =>
      simp only [Bool.and_eq_true] at k
      exact ss_cons (soundS s X W y h k.1) (soundSs ss X W ys h k.2)
end
end
end
end Sg

/-! SgProg: defs, the whole program, the law's end. -/
namespace Sg
noncomputable section
open PySem PySem.Spec PyProof.Rows L2
/-- a def of the program: its number, name, parameters, what it computes -/
structure Ent where
  id : Nat
  x : Str
  ps : List Str
  F : List D → List Cell → R D
  dds : List D := []
/-- .. with its last arguments left out -/
def Ent.G (e : Ent) : List D → List Cell → R D := match e.dds with
  | [] => e.F
  | d :: dd => fun ds M => e.F (ds ++ d :: dd) M
theorem Ent.G_eq (e : Ent) (ds : List D) (M : List Cell) : e.G ds M = e.F (ds ++ e.dds) M := by
  unfold Ent.G
  cases e.dds with
  | nil => rw [List.append_nil]
  | cons d dd => rfl
def look : List Ent → Phi
  | [], _ => fun _ _ => .bad
  | e :: L, i => if e.id = i then e.G else look L i
def nameOf : List Ent → Nat → Option Str
  | [], _ => none
  | e :: L, i => if e.id = i then some e.x else nameOf L i
/-- the error's word, by the class's number -/
def wordF (tb : List (Nat × Str)) : List D → List Cell → R D := fun ds _ => match ds with
  | [.int k] => (match tb.lookup k.toNat with
    | some x => .ok (.str x) []
    | none => .bad)
  | _ => .bad
def lookW (tb : List (Nat × Str)) (L : List Ent) : Phi := fun i => match i with
  | 0 => wordF tb
  | i + 1 => look L (i + 1)
def nameW (L : List Ent) : Nat → Option Str := fun i => match i with
  | 0 => none
  | i + 1 => nameOf L (i + 1)
/-- what the text says of a def -/
structure DefT where
  N : List Str
  ps : List Str
  sc : Scope
  body : List Stmt
def nodupB : List Str → Bool
  | [] => true
  | x :: xs => !(xs.contains x) && nodupB xs
/-- the scope's facts, decided -/
def scopeB (N ps : List Str) (sc : Scope) : Bool :=
  (match sc.kind with | .function => true | _ => false) && !sc.isCoroutine && !sc.isGenerator && decide N.Nodup && decide (N.take ps.length = ps) &&
    (ps.all fun x => match sc.names.lookup x with | some .local => true | some .cell => true | _ => false) && (sc.names.all fun y => match y.2 with | .free => false | _ => true)
theorem scope_of {N ps : List Str} {sc : Scope} (h : scopeB N ps sc = true) : FnScope N ps sc := by
  unfold scopeB at h
  simp only [Bool.and_eq_true, Bool.not_eq_true', List.all_eq_true] at h
  obtain ⟨⟨⟨⟨⟨⟨h1, h2⟩, h3⟩, h4⟩, h5⟩, h6⟩, h7⟩ := h
  refine ⟨?_, h2, h3, of_decide_eq_true h4, of_decide_eq_true h5, fun x hx => ?_, fun y hy e => ?_⟩
  · split at h1
    · assumption
    · cases h1
  · have := h6 x hx
    split at this
    · exact .inl (by assumption)
    · exact .inr (by assumption)
    · cases this
  · have := h7 y hy
    rw [e] at this
    cases this
def ctxOf (tb : List (Nat × Str)) (L : List Ent) (ex : Nat → Option Str) (gl : List (Str × D)) (k : Nat) (N : List Str) (sc : Scope) : Ctx := ⟨N, sc, fun _ => true, nameW L, ex, gl, k, false, fun _ => none, if tb.isEmpty || k == 0 then none else some ("_law_word" : Str)⟩
/-- what stands around all defs -/
structure Top (P : Program) (w : World) (K : PySem.W.Frag) (mg : Str → Option Value) (cv : Nat → Value) (ex : Nat → Option Str) (gl : List (Str × D)) : Prop where
  bi : ∀ x ∈ builtins, mg (x : Str) = none
  gl : ∀ p ∈ gl, ∃ u v, mg p.1 = some u ∧ RelV v u ∧ ∀ H B as, Rp K H B as p.2 v
  cls : ∀ k n, ex k = some n → ∃ C, mg n = some (.ref C) ∧ cv k = .ref C ∧ PySem.W.excIn K C [.type "ValueError", .type "Exception", .type "BaseException", .type "object"] "ValueError.__new__" = true ∧ PySem.W.keepIn K (.ref C) = true ∧
    PySem.W.subIn K (.ref C) (.type "BaseException") = some true ∧ PySem.W.typeIn K (.ref C) = some (.type "type")
  slf : ∀ k n, ex k = some n → PySem.W.exmOne K (cv k) (cv k) = some true
/-- the def that tells an error's word -/
def WdOk (P : Program) (w : World) (K : PySem.W.Frag) (mg : Str → Option Value) (base : Heap) (cv : Nat → Value) (tb : List (Nat × Str)) : Prop := tb ≠ [] → ∃ (sm : Value) (fa : Addr) (fd : FuncData) (p : Str), mg ("SmoothError" : Str) = some sm ∧ mg ("_law_word" : Str) = some (.ref fa) ∧
  PySem.W.keepIn K (.ref fa) = true ∧ Binds K fd [p] [] ∧ SgH.FnP P w K mg base (L2N.CX P w) 1 fa fd [p] (spW cv (wordF tb)) ∧ ∀ k x, tb.lookup k = some x → PySem.W.exmOne K (cv k) sm = some true
def EntOk (P : Program) (w : World) (K : PySem.W.Frag) (mg : Str → Option Value) (base : Heap) (cv : Nat → Value) (k : Nat) (e : Ent) : Prop :=
  ∃ (fa : Addr) (fd : FuncData) (dvs : List V) (dss : List Value), mg e.x = some (.ref fa) ∧ (∃ o, K.lookup fa = some o ∧ o.data = .func fd) ∧ PySem.W.keepIn K (.ref fa) = true ∧ Binds K fd e.ps dss ∧ Vals dvs dss ∧ (∀ H B as, Rps K H B as e.dds dvs) ∧ e.dds.length ≤ e.ps.length ∧ (∀ ds M, ds.length ≠ e.ps.length → e.F ds M = .bad) ∧ FnOk P w K mg base (L2N.CX P w) k fa fd e.ps (spD K cv e.F e.ps.length)
theorem evD_len {Φ : Phi} {d : Df} {ds : List D} {M : List Cell} (h : ds.length ≠ d.ps) : evD Φ d ds M = .bad := by
  unfold evD
  rw [if_neg h]
theorem start_env {K : PySem.W.Frag} {H : Hp} {B : Addr → Prop} {as : List Addr} {N : List Str} {ds : List D} {vs : List V} (r : Rps K H B as ds vs) : EnvR K H B as (start N.length ds) (L2.start N vs) := by
  unfold start L2.start
  have hl := r.len
  refine ⟨by simp [hl], fun i d e => ?_⟩
  by_cases hi : i < ds.length
  · have hv : i < vs.length := by omega
    rw [List.getElem?_append_left (by rw [List.length_map]; exact hi), List.getElem?_map, List.getElem?_eq_getElem hi] at e
    cases e
    obtain ⟨v, e1, e2⟩ := r.get (List.getElem?_eq_getElem hi)
    refine ⟨v, ?_, e2⟩
    rw [List.getElem?_append_left (by rw [List.length_map]; exact hv), List.getElem?_map, e1]; rfl
  · rw [List.getElem?_append_right (by simpa using hi)] at e
    rw [List.getElem?_replicate] at e
    split at e <;> cases e
section
variable {P : Program} {w : World} {K : PySem.W.Frag} {mg : Str → Option Value} {base : Heap} {cv : Nat → Value} {ex : Nat → Option Str} {gl : List (Str × D)} {L : List Ent} {k : Nat}
theorem look_mem : ∀ {L : List Ent} {i : Nat} {x : Str}, nameOf L i = some x → ∃ e ∈ L, e.x = x ∧ look L i = e.G
  | [], _, _, h => by cases h
  | e :: L, i, x, h => by
    unfold nameOf at h
    split at h
    · rename_i hi
      cases h
      exact ⟨e, List.mem_cons_self, rfl, by unfold look; rw [if_pos hi]⟩
    · rename_i hi
      obtain ⟨e', h1, h2, h3⟩ := look_mem h
      exact ⟨e', List.mem_cons_of_mem _ h1, h2, by unfold look; rw [if_neg hi]; exact h3⟩
theorem look_memW {tb : List (Nat × Str)} {L : List Ent} {i : Nat} {x : Str} (h : nameW L i = some x) : ∃ e ∈ L, e.x = x ∧ lookW tb L i = e.G := by
  cases i with
  | zero => cases h
  | succ i => exact look_mem h
/-- THE STEP: a def more -/
theorem ent_ok {st : Stmt} {x qn : Str} {f : Addr} {fd : FuncData} {id : Nat} {d : Df} {N ps : List Str} {dvs : List V} {tb : List (Nat × Str)} (T : Top P w K mg cv ex gl) (hw : WdOk P w K mg base cv tb) (hL : ∀ e ∈ L, EntOk P w K mg base cv k e) (F : FunD K qn qn (defArgs st) (defBody st) (defScope st) dvs [] f fd) (hf : mg x = some (.ref f))
    (hb : Binds K fd ps []) (hs : scopeB N ps (defScope st) = true) (h1 : d.ps = ps.length) (h2 : d.n = N.length) (ok : okSs d.body (ctxOf tb L ex gl k N (defScope st)) (defBody st) = true) :
    EntOk P w K mg base cv (k + 1) ⟨id, x, ps, evD (lookW tb L) d, []⟩ := by
  refine ⟨f, fd, [], [], hf, (by
    obtain ⟨oc, od, dV, kV, dc, pm, an, cd, ct, sl, e, l, c⟩ := F.ex
    exact ⟨_, l, rfl⟩), F.kp, hb, .nil, fun _ _ _ => rfl, Nat.zero_le _, fun ds M h => evD_len (by rw [h1]; exact h), ?_⟩
  have S := scope_of hs
  refine F.ok (CX := L2N.CX P w) S (fun vs H Q E h => h.1) (fun cdv A outer s H vs Q E hr hsp => ?_)
  have hX : XH (ctxOf tb L ex gl k N (defScope st)) (lookW tb L) cv (cxOf (L2N.CX P w) P w K mg base N qn (defScope st) f cdv A outer s H E) (fun cls d _ H => E cls d H) :=
    ⟨rfl, S.nd, rfl, fun _ _ => rfl, fun _ => rfl, fun z => (by cases z), fun z => (by cases z), ⟨hr.dp, hr.un⟩, fun _ => hr.hd, T.bi, T.gl, fun i y hy => by
      obtain ⟨e, h1, h2, h3⟩ := look_memW (tb := tb) hy
      obtain ⟨fa, fd', dvs, dss, g1, _, g2, g3, gv, gr, gl, g4, g5⟩ := hL e h1
      rw [h2] at g1
      exact ⟨fa, fd', e.ps, dvs, dss, e.dds, e.F, e.ps.length - e.dds.length, g1, g2, g3, gv, gr, by omega, fun ds M hl => by rw [h3, Ent.G_eq]; exact g4 _ M (by rw [List.length_append]; omega), fun ds M => by rw [h3, Ent.G_eq], g5⟩, L2N.takes_of rfl rfl rfl rfl⟩
  have hS : XS (ctxOf tb L ex gl k N (defScope st)) (lookW tb L) cv (cxOf (L2N.CX P w) P w K mg base N qn (defScope st) f cdv A outer s H E) (fun cls d _ H => E cls d H) :=
    ⟨hX, passes_of rfl, S.kind, fun i n hn => by
      obtain ⟨C, g1, g2, g3, g4, g5, g6⟩ := T.cls i n hn
      exact ⟨C, g1, g2, g3, g4, raises_own g5 g6⟩, T.slf, rfl, rfl, fun f hf => by
      have hf : (if (tb.isEmpty || k == 0) = true then none else some ("_law_word" : Str)) = some f := hf
      split at hf
      · cases hf
      · rename_i hb
        cases hf
        rw [Bool.or_eq_true, not_or] at hb
        obtain ⟨sm, fa, fd, p, g1, g2, g3, g4, g5, g6⟩ := hw (fun z => hb.1 (by rw [z]; rfl))
        refine ⟨sm, fa, fd, p, g1, g2, g3, g4, g5.mono (by
          have := hb.2
          rw [beq_iff_eq] at this
          show 1 ≤ k
          omega), fun j x M e => ?_⟩
        have e : (match tb.lookup (j : Int).toNat with
          | some x => R.ok (D.str x) []
          | none => .bad) = R.ok (D.str x) M := e
        rw [Int.toNat_natCast] at e
        cases e1 : tb.lookup j with
        | none => rw [e1] at e; cases e
        | some y => exact g6 j y e1⟩
  refine ⟨_, soundSs d.body _ _ _ hS ok, ?_⟩
  obtain ⟨hl, B, as, M, ds, Sm, rs, q⟩ := hsp
  have hdl : ds.length = d.ps := by rw [h1, ← hl, rs.len]
  refine ⟨B, as, M, start d.n ds, Sm, by rw [h2]; exact start_env rs, ?_⟩
  have q : PostD K H B as M (fun c H' => E (cv c) none H') (evD (lookW tb L) d ds M) Q := q
  unfold evD at q
  rw [if_pos hdl] at q
  revert q
  cases evSs (lookW tb L) d.body (start d.n ds) M with
  | ok fl env M' =>
    cases fl with
    | nx => exact fun q as' H' σ' g S' r => q as' H' .non g S' rfl
    | rt x => exact fun q => q
    | bk => exact fun q => q.elim
    | ct => exact fun q => q.elim
  | exc c env M' => exact fun q as' H' σ' g S' r => q as' H' g S'
  | bad => exact fun q => q.elim
/-- what is told of the classes -/
def subN (exs : List (Nat × Str)) (k j : Nat) : Bool := j == 99 || (j == k || decide (exs.lookup j = some ("SmoothError" : Str)))
def xkOf (exs : List (Nat × Str)) (j : Nat) : Option Str := if j = 99 then some ("ValueError" : Str) else exs.lookup j
def wordPhi (exs : List (Nat × Str)) (k a : Nat) : Phi := fun i ds M => match i, ds with
  | 0, [.exo b, .int j] => if b = a then .ok (.bl (subN exs k j.toNat)) M else .bad
  | _, _ => .bad
def ctxW (exs : List (Nat × Str)) (N : List Str) (sc : Scope) : Ctx := ⟨N, sc, fun _ => true, fun _ => none, fun _ => none, [], 0, true, xkOf exs, none⟩
theorem fnP_word {st : Stmt} {x p : Str} {f : Addr} {fd : FuncData} {d : Df} {N : List Str} {dvs : List V} {tb exs : List (Nat × Str)} (hbi : ∀ x ∈ builtins, mg (x : Str) = none) (F : FunD K x x (defArgs st) (defBody st) (defScope st) dvs [] f fd)
    (hs : scopeB N [p] (defScope st) = true) (h1 : d.ps = 1) (h2 : d.n = N.length) (ok : okSs d.body (ctxW exs N (defScope st)) (defBody st) = true)
    (hc : ∀ k x, tb.lookup k = some x → ∃ D, cv k = .ref D ∧ ExcC K D ∧ PySem.W.kitOne K (.ref D) (.type "ValueError") = some true ∧ ∀ j y, exs.lookup j = some y → ∃ u, mg y = some u ∧ (∃ a, u = .ref a) ∧ PySem.W.kitOne K (.ref D) u = some (subN exs k j))
    (hev : ∀ k x, tb.lookup k = some x → ∀ a, ∃ M, evD (wordPhi exs k a) d [.exo a] [] = .ok (.str x) M) :
    SgH.FnP P w K mg base (L2N.CX P w) 1 f fd [p] (spW cv (wordF tb)) := by
  have S := scope_of hs
  obtain ⟨oc, od, dV, kV, doc, pm, an, cdv, ct, osl, rfl, lk, hcd, _, _⟩ := F.ex
  refine SgH.fnP_of lk hcd S (fun p vs H Q E h => by rw [h.1]; rfl) (fun pp A outer s H vs Q E hot hr hsp => ?_)
  obtain ⟨rfl, k, y, M, hz, hfl, hF, hq⟩ := hsp
  have hF : (match tb.lookup (k : Int).toNat with
    | some x => R.ok (D.str x) []
    | none => .bad) = R.ok (D.str y) M := hF
  rw [Int.toNat_natCast] at hF
  cases hl : tb.lookup k with
  | none => rw [hl] at hF; cases hF
  | some y' =>
    rw [hl] at hF
    cases hF
    obtain ⟨D, c1, c2, c3, c4⟩ := hc k y hl
    obtain ⟨M1, he⟩ := hev k y hl pp.1
    rw [c1] at hz
    have hX : XH (ctxW exs N (defScope st)) (wordPhi exs k pp.1) cv (L2H.cxH (L2N.CX P w) P w K mg base N x (defScope st) f cdv A outer s H E pp) W0 :=
      ⟨rfl, S.nd, rfl, fun _ _ => rfl, fun z => (by cases z), fun _ => ⟨pp, hot, List.mem_cons_self⟩, fun _ j m hj => by
        have bad : ∀ {u : Value} {b : Bool}, PySem.W.kitOne K (.ref D) u = some (subN exs k j) → ∀ a M, wordPhi exs k pp.1 0 [.exo a, .int (j : Nat)] M = .bad ∨ ∃ (p : Addr × Obj) (D : Addr) (b : Bool), p ∈ [pp] ∧ p.1 = a ∧ ExcC K D ∧ Zc (.ref D) none p.2 ∧ (∃ vs, p.2.data = .fields vs) ∧ PySem.W.kitOne K (.ref D) u = some b ∧
            wordPhi exs k pp.1 0 [.exo a, .int (j : Nat)] M = .ok (.bl b) M := fun {u b} hk a M => by
          by_cases ha : a = pp.1
          · refine .inr ⟨pp, D, subN exs k j, List.mem_cons_self, ha.symm, c2, hz.zc, hfl, hk, ?_⟩
            show (if a = pp.1 then R.ok (Sg.D.bl (subN exs k (j : Int).toNat)) M else .bad) = _
            rw [if_pos ha, Int.toNat_natCast]
          · exact .inl (if_neg ha)
        have hj : xkOf exs j = some m := hj
        unfold xkOf at hj
        split at hj
        · rename_i h99
          cases hj
          refine ⟨.ty "ValueError", .type "ValueError", rfl, fun u' h => h, .inr ⟨hbi "ValueError" (by decide), by decide +kernel, by decide⟩, bad (b := true) ?_⟩
          rw [c3]
          unfold subN
          rw [h99]
          rfl
        · obtain ⟨u, g1, ⟨a, rfl⟩, g3⟩ := c4 j m hj
          exact ⟨.ref a, .ref a, rfl, fun u' h => h, .inl g1, bad (b := true) g3⟩, ⟨hr.dp, hr.un⟩, fun z => (by cases z), hbi, fun p hp => (by cases hp), fun i y hy => (by cases hy), takes0N⟩
    have hS : XS (ctxW exs N (defScope st)) (wordPhi exs k pp.1) cv (L2H.cxH (L2N.CX P w) P w K mg base N x (defScope st) f cdv A outer s H E pp) W0 :=
      ⟨hX, passes_of rfl, S.kind, fun i n hn => (by cases hn), fun i n hn => (by cases hn), rfl, rfl, fun f hf => (by cases hf)⟩
    refine ⟨_, soundSs d.body _ _ _ hS ok, ?_⟩
    refine ⟨fun _ => False, [], [], start d.n [.exo pp.1], sim_none fun _ z => z.elim, by rw [h2]; exact start_env (ds := [.exo pp.1]) (vs := [.ref pp.1]) ⟨.ref pp.1, [], rfl, rfl, rfl⟩, ?_⟩
    unfold evD at he
    rw [if_pos (by rw [h1]; rfl)] at he
    revert he
    cases evSs (wordPhi exs k pp.1) d.body (start d.n [.exo pp.1]) [] with
    | ok fl env M' =>
      cases fl with
      | nx => intro he; cases he
      | rt z =>
        intro he
        cases he
        intro as' H' v g S' r
        have r : v = .str y := r
        subst r
        exact hq H' fun a o e => g.keep a o e fun ⟨i, d, l, _⟩ => by cases l
      | bk => intro he; cases he
      | ct => intro he; cases he
    | exc c env M' => intro he; cases he
    | bad => intro he; cases he
theorem EntOk.mono {j : Nat} {e : Ent} (h : EntOk P w K mg base cv k e) (hk : k ≤ j) : EntOk P w K mg base cv j e := by
  obtain ⟨fa, fd, dvs, dss, g1, g0, g2, g3, gv, gr, gl, g4, g5⟩ := h
  exact ⟨fa, fd, dvs, dss, g1, g0, g2, g3, gv, gr, gl, g4, g5.mono hk⟩
theorem ents_cons {e : Ent} (hL : ∀ e ∈ L, EntOk P w K mg base cv k e) (h : EntOk P w K mg base cv (k + 1) e) : ∀ e' ∈ e :: L, EntOk P w K mg base cv (k + 1) e' := fun e' he => by
  rcases List.mem_cons.mp he with rfl | he
  · exact h
  · exact (hL e' he).mono (Nat.le_succ k)
end
/-- the law's own end -/
theorem law_sp {K : PySem.W.Frag} {cv : Nat → Value} {F : List D → List Cell → R D} {H : Hp} {a : Addr} {ns : List Int} (hO : Only H) (hS : SqL K H a (ns.map V.int)) (h : F [.fro (ns.map D.int)] [] = .ok (.bl true) []) :
    spD K cv F 1 [.ref a] H (fun v _ => v = .bl true) fun _ _ _ => False := by
  have hf : FroK K H a (ns.map V.int) := by
    rcases hS with (h | ⟨o, h⟩) | h
    · rcases hO a with e | ⟨o, xs, e⟩ <;> rw [h] at e <;> cases e
    · exact .inl ⟨o, h⟩
    · exact .inr h
  have hr : ∀ ns : List Int, Rps K H (Av (fun _ => False) [] []) [] (ns.map D.int) (ns.map V.int) := fun ns => by
    induction ns with
    | nil => rfl
    | cons n ns ih => exact ⟨.int n, ns.map V.int, rfl, rfl, ih⟩
  refine ⟨rfl, fun _ => False, [], [], [.fro (ns.map D.int)], sim_none fun _ z => z.elim, ⟨.ref a, [], rfl, ⟨a, ns.map V.int, rfl, hf, hr ns⟩, rfl⟩, ?_⟩
  rw [h]
  exact fun as' H' v g S r => r
/-- .. whatever the small heap holds in the end -/
theorem law_sp' {K : PySem.W.Frag} {cv : Nat → Value} {F : List D → List Cell → R D} {H : Hp} {a : Addr} {ns : List Int} (hO : Only H) (hS : SqL K H a (ns.map V.int)) (h : ∃ M, F [.fro (ns.map D.int)] [] = .ok (.bl true) M) :
    spD K cv F 1 [.ref a] H (fun v _ => v = .bl true) fun _ _ _ => False := by
  obtain ⟨M, h⟩ := h
  have hf : FroK K H a (ns.map V.int) := by
    rcases hS with (h | ⟨o, h⟩) | h
    · rcases hO a with e | ⟨o, xs, e⟩ <;> rw [h] at e <;> cases e
    · exact .inl ⟨o, h⟩
    · exact .inr h
  have hr : ∀ ns : List Int, Rps K H (Av (fun _ => False) [] []) [] (ns.map D.int) (ns.map V.int) := fun ns => by
    induction ns with
    | nil => rfl
    | cons n ns ih => exact ⟨.int n, ns.map V.int, rfl, rfl, ih⟩
  refine ⟨rfl, fun _ => False, [], [], [.fro (ns.map D.int)], sim_none fun _ z => z.elim, ⟨.ref a, [], rfl, ⟨a, ns.map V.int, rfl, hf, hr ns⟩, rfl⟩, ?_⟩
  rw [h]
  exact fun as' H' v g S r => r
/-- a constant of the module that is a tuple of ints -/
theorem gl_tup {K : PySem.W.Frag} {a : Addr} {ns : List Int} (h : ∃ (o : Obj) (its : Array Value) (n : Nat), K.lookup a = some o ∧ o.cls = .type "tuple" ∧ o.data = .seq its n ∧ its.size ≤ sizeLine ∧ Vals (ns.map V.int) its.toList) :
    ∀ H B as, Rp K H B as (.tup (ns.map D.int)) (.ref a) := fun H B as =>
  ⟨a, ns.map V.int, rfl, .inr h, by
    induction ns with
    | nil => rfl
    | cons n ns ih =>
      have hr : ∀ ns : List Int, Rps K H B as (ns.map D.int) (ns.map V.int) := fun ns => by
        induction ns with
        | nil => rfl
        | cons n ns ih => exact ⟨.int n, ns.map V.int, rfl, rfl, ih⟩
      exact hr _⟩
theorem cx_none {P : Program} {w : World} {H : Hp} {s : Shared} {e : Value} {s' : Shared} (h : L2N.CX P w [] H s (fun _ _ _ => False) e s') : False := by
  obtain ⟨_, _, _, _, _, _, _, _, _, _, _, _, z⟩ := h
  exact z
end
end Sg

/-! SgHead: the head's facts for all defs at once, the law's end. -/
namespace Sg
noncomputable section
open PySem PySem.Spec PyProof.Rows L2
/-! ### constants of the module -/
mutual
def litB (K : PySem.W.Frag) : D → Value → Bool
  | .non, .none => true
  | .bl b, .bool c => b == c
  | .int i, .int j _ => decide (i = j)
  | .str x, .str y _ => decide (x = y)
  | .tup ds, .ref a => (match K.lookup a with
    | some ⟨.type c, _, .seq its _, _⟩ => decide (c = "tuple") && (decide (its.size ≤ sizeLine) && litBs K ds its.toList)
    | _ => false)
  | _, _ => false
def litBs (K : PySem.W.Frag) : List D → List Value → Bool
  | [], [] => true
  | d :: ds, u :: us => litB K d u && litBs K ds us
  | _, _ => false
end
mutual
theorem litB_ok {K : PySem.W.Frag} : (d : D) → (u : Value) → litB K d u = true → ∃ v, RelV v u ∧ ∀ H B as, Rp K H B as d v
  | .non, u, h => by
    cases u <;> first | (cases h; done) | skip
    exact ⟨.non, rfl, fun _ _ _ => rfl⟩
  | .bl b, u, h => by
    cases u <;> first | (cases h; done) | skip
    rename_i c
    have e : b = c := by
      have h1 : (b == c) = true := h
      exact eq_of_beq h1
    subst e
    exact ⟨.bl b, rfl, fun _ _ _ => rfl⟩
  | .int i, u, h => by
    cases u <;> first | (cases h; done) | skip
    rename_i j t
    have e : i = j := of_decide_eq_true h
    subst e
    exact ⟨.int i, ⟨t, rfl⟩, fun _ _ _ => rfl⟩
  | .str x, u, h => by
    cases u <;> first | (cases h; done) | skip
    rename_i y t
    have e : x = y := of_decide_eq_true h
    subst e
    exact ⟨.str x, ⟨t, rfl⟩, fun _ _ _ => rfl⟩
  | .tup ds, u, h => by
    cases u <;> first | (cases h; done) | skip
    rename_i a
    unfold litB at h
    split at h
    · rename_i c dd its n sl e
      simp only [Bool.and_eq_true] at h
      obtain ⟨vs, r, g⟩ := litBs_ok ds its.toList h.2.2
      have hc : c = "tuple" := of_decide_eq_true h.1
      refine ⟨.ref a, rfl, fun H B as => ⟨a, vs, rfl, .inr ⟨_, its, n, e, ?_, rfl, of_decide_eq_true h.2.1, r⟩, g H B as⟩⟩
      rw [hc]
    · cases h
  | .lst _, u, h => by cases u <;> cases h
  | .fro _, u, h => by cases u <;> cases h
  | .dct _ _ _, u, h => by cases u <;> cases h
  | .exo _, u, h => by cases u <;> cases h
  | .ref _, u, h => by cases u <;> cases h
theorem litBs_ok {K : PySem.W.Frag} : (ds : List D) → (us : List Value) → litBs K ds us = true → ∃ vs, Vals vs us ∧ ∀ H B as, Rps K H B as ds vs
  | [], [], _ => ⟨[], .nil, fun _ _ _ => rfl⟩
  | [], _ :: _, h => by cases h
  | _ :: _, [], h => by cases h
  | d :: ds, u :: us, h => by
    have h2 : (litB K d u && litBs K ds us) = true := h
    rw [Bool.and_eq_true] at h2
    obtain ⟨v, r, g⟩ := litB_ok d u h2.1
    obtain ⟨vs, r2, g2⟩ := litBs_ok ds us h2.2
    exact ⟨v :: vs, .cons r r2, fun H B as => ⟨v, vs, rfl, g H B as, g2 H B as⟩⟩
end
def constB (K : PySem.W.Frag) (p : Str × D) : Bool := match PySem.W.nsIn K mainGlobals p.1 with
  | some (some u) => litB K p.2 u
  | _ => false
/-! ### the Hook -/
abbrev AlS : Type := He.AlD × Bool
def hookS (n : Nat) (fa : List He.Fa) (fn : List He.DefD) (B : PySem.W.Frag → Bool) : PySem.W.Hook where
  α := AlS
  obs := fun s => (He.obsDG n fa fn s.heap.get?, B (He.frG s.heap.get? (He.asD s.heap.get? n)))
  val := fun _ => (He.valD fn, true)
  says := fun _ h => ∃ K : PySem.W.Frag, K.In h ∧ He.SaysD fa fn K ∧ B K = true
  of := fun _ _ e => ⟨_, He.frG_in, congrArg (fun z : AlS => z.1) e, congrArg (fun z : AlS => z.2) e⟩
  keeps := fun _ _ _ ⟨K, hK, c⟩ k => ⟨K, PySem.W.Frag.In.keeps hK k, c⟩
def obS (n : Nat) (fa : List He.Fa) (fn : List He.DefD) (B : PySem.W.Frag → Bool) (s : PySem.W.SharedT) : AlS :=
  (He.obsDG n fa fn (HandSHeadRun.getT s), B (He.frG (HandSHeadRun.getT s) (He.asD (HandSHeadRun.getT s) n)))
theorem obS_eq (n : Nat) (fa : List He.Fa) (fn : List He.DefD) (B : PySem.W.Frag → Bool) (s : PySem.W.SharedT) : obS n fa fn B s = (hookS n fa fn B).obs s.abs := by
  have e : HandSHeadRun.getT s = s.abs.heap.get? := funext (HandSHeadRun.getT_eq s)
  unfold obS
  rw [e]
  rfl
/-! ### what the classes of errors say -/
def excB (K : PySem.W.Frag) (D : Addr) : Bool := He.eqO (PySem.W.findIn K (.ref D) "__getattribute__") (some (some (.builtin "BaseException.__getattribute__"))) &&
  (He.eqO (PySem.W.findIn K (.ref D) "__getattr__") (some none) && (decide (PySem.W.subIn K (.ref D) (.type "BaseException") = some true) && (PySem.W.hasDictIn K D && (He.eqO (PySem.W.findIn K (.ref D) "__class__") (some (some (.builtin "object.__class__"))) &&
  (He.eqO (PySem.W.specialIn K (.builtin "object.__class__") "__get__") (some (some (.builtin "getset_descriptor.__get__"))) && (decide (PySem.W.takesIn K (.builtin "object.__class__") = some true) && decide (PySem.W.mroIn K D (.type "object") = some true)))))))
theorem excB_ok {K : PySem.W.Frag} {D : Addr} (h : excB K D = true) : ExcC K D := by
  unfold excB at h
  simp only [Bool.and_eq_true, decide_eq_true_eq] at h
  obtain ⟨h1, h2, h3, h4, h5, h6, h7, h8⟩ := h
  exact ⟨He.eqO_ok h1, He.eqO_ok h2, h3, h4, He.eqO_ok h5, He.eqO_ok h6, h7, h8⟩
def wordB (K : PySem.W.Frag) (exs : List (Nat × Str)) (k : Nat) : Bool := match exs.lookup k with
  | some n => excB K (He.ga K n) && (decide (PySem.W.kitOne K (.ref (He.ga K n)) (.type "ValueError") = some true) && (decide (PySem.W.exmOne K (.ref (He.ga K n)) (.ref (He.ga K "SmoothError")) = some true) &&
      exs.all fun q => decide (PySem.W.kitOne K (.ref (He.ga K n)) (.ref (He.ga K q.2)) = some (subN exs k q.1))))
  | none => false
def topB (gl : List (Str × D)) (exs tb : List (Nat × Str)) (K : PySem.W.Frag) : Bool := gl.all (constB K) && ((exs.all fun p => decide (PySem.W.exmOne K (.ref (He.ga K p.2)) (.ref (He.ga K p.2)) = some true)) && tb.all fun p => wordB K exs p.1)
/-! ### what stands around all defs -/
/-- the facts that are asked: the builtins' names free, the exceptions' classes, the defs -/
def facts (exs : List (Nat × Str)) (xs : List Str) : List He.Fa := builtins.map (fun x => He.Fa.free (x : String)) ++ exs.map (fun p => He.Fa.exc p.2) ++ exs.map (fun p => He.Fa.glo p.2) ++ xs.map He.Fa.glo
def exOf (exs : List (Nat × Str)) (k : Nat) : Option Str := exs.lookup k
def cvOf (K : PySem.W.Frag) (exs : List (Nat × Str)) (k : Nat) : Value := match exs.lookup k with
  | some x => .ref (He.ga K x)
  | none => .none
theorem fact_of {fa : List He.Fa} {fn : List He.DefD} {K : PySem.W.Frag} (c : He.SaysD fa fn K) {f : He.Fa} (h : f ∈ fa) : f.ok K = true := by
  obtain ⟨i, hi, e⟩ := List.mem_iff_getElem.mp h
  exact c.fact i (f := f) (by rw [List.getElem?_eq_getElem hi, e])
theorem look_of_mem {α : Type} {k : Nat} {x : α} : ∀ {l : List (Nat × α)}, l.lookup k = some x → (k, x) ∈ l
  | [], h => by cases h
  | (j, y) :: l, h => by
    rw [List.lookup_cons] at h
    split at h
    · rename_i e
      rw [beq_iff_eq] at e
      cases h
      subst e
      exact List.mem_cons_self
    · exact List.mem_cons_of_mem _ (look_of_mem h)
section
variable {P : Program} {w : World} {K : PySem.W.Frag} {h : Heap} {mg : Str → Option Value} {exs : List (Nat × Str)} {xs : List Str} {fn : List He.DefD} {gl : List (Str × D)} {tb : List (Nat × Str)}
theorem top_of (X : K.In h) (G : h.Ns mainGlobals mg) (c : He.SaysD (facts exs xs) fn K) (cg : topB gl exs tb K = true) : Top P w K mg (cvOf K exs) (exOf exs) gl where
  bi := fun x hx => He.free_ok X G (fact_of c (by
    unfold facts
    exact List.mem_append_left _ (List.mem_append_left _ (List.mem_append_left _ (List.mem_map.mpr ⟨x, hx, rfl⟩)))))
  gl := fun p hp => by
    have cg1 : gl.all (constB K) = true := by
      unfold topB at cg
      rw [Bool.and_eq_true] at cg
      exact cg.1
    have h1 := List.all_eq_true.mp cg1 p hp
    unfold constB at h1
    split at h1
    · rename_i u e
      obtain ⟨v, r, g⟩ := litB_ok p.2 u h1
      exact ⟨u, v, PySem.W.mg_of X G e, r, g⟩
    · cases h1
  cls := fun k n hk => by
    have hm := look_of_mem hk
    have h1 := He.exc_ok (fact_of c (f := .exc n) (by
      unfold facts
      exact List.mem_append_left _ (List.mem_append_left _ (List.mem_append_right _ (List.mem_map.mpr ⟨(k, n), hm, rfl⟩)))))
    have h2 := He.glo_ok X G (fact_of c (f := .glo n) (by
      unfold facts
      exact List.mem_append_left _ (List.mem_append_right _ (List.mem_map.mpr ⟨(k, n), hm, rfl⟩))))
    refine ⟨He.ga K n, h2, ?_, h1⟩
    unfold cvOf
    have hk : exs.lookup k = some n := hk
    rw [hk]
  slf := fun k n hk => by
    have hm := look_of_mem hk
    unfold topB at cg
    simp only [Bool.and_eq_true] at cg
    have h1 := of_decide_eq_true (List.all_eq_true.mp cg.2.1 (k, n) hm)
    unfold cvOf
    have hk : exs.lookup k = some n := hk
    rw [hk]
    exact h1
/-- a def of the text -/
structure Dt where
  id : Nat
  x : Str
  st : Stmt
  ps : List Str
  N : List Str
  d : Df
  dfl : List He.Dv := []
  q : Str
def Dt.dd (t : Dt) : He.DefD := ⟨(t.x, none), t.q, t.q, defArgs t.st, defBody t.st, defScope t.st, t.dfl, []⟩
def Dt.ent (t : Dt) (tb : List (Nat × Str)) (L : List Ent) : Ent := ⟨t.id, t.x, t.ps, evD (lookW tb L) t.d, []⟩
/-- how the arguments are bound: all are written -/
def BindsE (t : Dt) : Prop := (t.dfl = [] ∧ ∀ (kV doc pm : Value) (an : Option Addr) (cdv ct : Value) (us : List Value), us.length = t.ps.length →
  bindArgs (PySem.W.fnOf t.q t.q (defArgs t.st) (defBody t.st) (defScope t.st) .none kV doc pm an cdv ct) ⟨us, []⟩ = pure (t.ps.zip us)) ∨
  (t.dfl ≠ [] ∧ ∀ (T : Addr) (kV doc pm : Value) (an : Option Addr) (cdv ct : Value) (us its : List Value), us.length = t.ps.length → its.length = t.dfl.length →
    ∃ k, bindArgs (PySem.W.fnOf t.q t.q (defArgs t.st) (defBody t.st) (defScope t.st) (.ref T) kV doc pm an cdv ct) ⟨us, []⟩ = seqItems? (.ref T) >>= k ∧ k (some its.toArray) = pure (t.ps.zip us))
theorem binds_of {t : Dt} {K : PySem.W.Frag} {f : Addr} {fd : FuncData} (hb : BindsE t) (F : FunD K t.q t.q (defArgs t.st) (defBody t.st) (defScope t.st) (t.dfl.map (He.Dv.v K)) [] f fd) : Binds K fd t.ps [] := by
  rcases hb with ⟨e, hb⟩ | ⟨e, hb⟩
  · rw [e] at F
    exact FunD.bindsN (ps := t.ps) F hb
  · obtain ⟨ds, h1, h2⟩ := FunD.binds1 (ps := t.ps) F t.ps.length (t.dfl.map (He.Dv.v K)).length (fun z => e (List.map_eq_nil_iff.mp z)) (by omega) (fun T kV doc pm an cdv ct us its hu hi => by
      obtain ⟨k, e1, e2⟩ := hb T kV doc pm an cdv ct us its hu (by rw [hi, List.length_map])
      refine ⟨k, e1, ?_⟩
      rw [e2, ← hi, List.drop_length, List.append_nil])
    rw [List.drop_length] at h1
    cases h1
    exact h2
def itB (t : Dt) (tb : List (Nat × Str)) (L : List Ent) (exs : List (Nat × Str)) (gl : List (Str × D)) (k : Nat) : Bool :=
  scopeB t.N t.ps (defScope t.st) && (decide (t.d.ps = t.ps.length) && (decide (t.d.n = t.N.length) && okSs t.d.body (ctxOf tb L (exOf exs) gl k t.N (defScope t.st)) (defBody t.st)))
theorem step {base : Heap} {L : List Ent} {k : Nat} (t : Dt) (X : K.In h) (G : h.Ns mainGlobals mg) (c : He.SaysD (facts exs xs) fn K) (cg : topB gl exs tb K = true) (hw : WdOk P w K mg base (cvOf K exs) tb) (hx : t.x ∈ xs) (hfn : t.dd ∈ fn) (hb : BindsE t)
    (hB : itB t tb L exs gl k = true) (hL : ∀ e ∈ L, EntOk P w K mg base (cvOf K exs) k e) : ∀ e ∈ t.ent tb L :: L, EntOk P w K mg base (cvOf K exs) (k + 1) e := by
  have T : Top P w K mg (cvOf K exs) (exOf exs) gl := top_of (tb := tb) X G c cg
  obtain ⟨i, hi, e⟩ := List.mem_iff_getElem.mp hfn
  obtain ⟨fd, F⟩ := c.def_ i (d := t.dd) (by rw [List.getElem?_eq_getElem hi, e])
  have F : FunD K t.q t.q (defArgs t.st) (defBody t.st) (defScope t.st) (t.dfl.map (He.Dv.v K)) [] (He.ga K t.x) fd := F
  have hg := He.glo_ok X G (fact_of c (f := .glo t.x) (by
    unfold facts
    exact List.mem_append_right _ (List.mem_map.mpr ⟨t.x, hx, rfl⟩)))
  unfold itB at hB
  simp only [Bool.and_eq_true, decide_eq_true_eq] at hB
  obtain ⟨h1, h2, h3, h4⟩ := hB
  exact ents_cons hL (ent_ok T hw hL F hg (binds_of hb F) h1 h2 h3 h4)
/-- a def with its last arguments left out -/
theorem stepD {base : Heap} {L : List Ent} {k n id' : Nat} {dd : List D} {F0 : List D → List Cell → R D} (t : Dt) (c : He.SaysD (facts exs xs) fn K) (X : K.In h) (G : h.Ns mainGlobals mg) (hx : t.x ∈ xs) (hfn : t.dd ∈ fn) (hmem : (⟨t.id, t.x, t.ps, F0, []⟩ : Ent) ∈ L) (hne : t.dfl ≠ []) (hn : t.ps.length = n + dd.length) (hdl : t.dfl.length = dd.length)
    (hr : ∀ H B as, Rps K H B as dd (t.dfl.map (He.Dv.v K)))
    (hb : ∀ (T : Addr) (kV doc pm : Value) (an : Option Addr) (cdv ct : Value) (us its : List Value), us.length = n → its.length = t.dfl.length →
      ∃ k, bindArgs (PySem.W.fnOf t.q t.q (defArgs t.st) (defBody t.st) (defScope t.st) (.ref T) kV doc pm an cdv ct) ⟨us, []⟩ = seqItems? (.ref T) >>= k ∧ k (some its.toArray) = pure (t.ps.zip (us ++ its)))
    (hL : ∀ e ∈ L, EntOk P w K mg base (cvOf K exs) k e) : ∀ e ∈ ⟨id', t.x, t.ps, F0, dd⟩ :: L, EntOk P w K mg base (cvOf K exs) (k + 1) e := by
  obtain ⟨i, hi, e⟩ := List.mem_iff_getElem.mp hfn
  obtain ⟨fd, F⟩ := c.def_ i (d := t.dd) (by rw [List.getElem?_eq_getElem hi, e])
  have F : FunD K t.q t.q (defArgs t.st) (defBody t.st) (defScope t.st) (t.dfl.map (He.Dv.v K)) [] (He.ga K t.x) fd := F
  have hg := He.glo_ok X G (fact_of c (f := .glo t.x) (by
    unfold facts
    exact List.mem_append_right _ (List.mem_map.mpr ⟨t.x, hx, rfl⟩)))
  obtain ⟨fa', fd', dvs, dss, g1, ⟨o, g0, g0'⟩, g2, g3, gv, gr, gl, g4, g5⟩ := hL _ hmem
  have g1 : mg t.x = some (.ref fa') := g1
  rw [hg] at g1
  cases g1
  have e2 : fd' = fd := by
    obtain ⟨oc, od, dV, kV, doc, pm, an, cdv, ct, osl, e, l, _⟩ := F.ex
    rw [g0] at l
    cases l
    cases g0'
    rfl
  subst e2
  obtain ⟨ds, h1, h2⟩ := FunD.binds1 (ps := t.ps) F n 0 (fun z => hne (List.map_eq_nil_iff.mp z)) (by rw [List.length_map, Nat.sub_zero]; omega) (fun T kV doc pm an cdv ct us its hu hi => by
    rw [List.length_map] at hi
    rw [List.drop_zero]
    exact hb T kV doc pm an cdv ct us its hu hi)
  rw [List.drop_zero] at h1
  exact ents_cons hL (EntOk.mono ⟨_, fd', _, ds, hg, ⟨o, g0, g0'⟩, g2, h2, h1, hr, by show dd.length ≤ t.ps.length; omega, g4, g5⟩ (Nat.le_succ k))
/-- the def that tells an error's word -/
def wB (t : Dt) (exs : List (Nat × Str)) : Bool := scopeB t.N t.ps (defScope t.st) && (decide (t.d.ps = 1) && (decide (t.d.n = t.N.length) && okSs t.d.body (ctxW exs t.N (defScope t.st)) (defBody t.st)))
theorem word_ok {base : Heap} {p : Str} {ks : Nat} (t : Dt) (X : K.In h) (G : h.Ns mainGlobals mg) (c : He.SaysD (facts exs xs) fn K) (cg : topB gl exs tb K = true) (hx : t.x ∈ xs) (hfn : t.dd ∈ fn) (hb : BindsE t) (hn : t.x = ("_law_word" : Str)) (hp : t.ps = [p])
    (hB : wB t exs = true) (hS : exs.lookup ks = some ("SmoothError" : Str)) (hev : ∀ k x, tb.lookup k = some x → ∀ a, ∃ M, evD (wordPhi exs k a) t.d [.exo a] [] = .ok (.str x) M) : WdOk P w K mg base (cvOf K exs) tb := by
  intro _
  have T : Top P w K mg (cvOf K exs) (exOf exs) gl := top_of (tb := tb) X G c cg
  obtain ⟨i, hi, e⟩ := List.mem_iff_getElem.mp hfn
  obtain ⟨fd, F⟩ := c.def_ i (d := t.dd) (by rw [List.getElem?_eq_getElem hi, e])
  have F : FunD K t.q t.q (defArgs t.st) (defBody t.st) (defScope t.st) (t.dfl.map (He.Dv.v K)) [] (He.ga K t.x) fd := F
  have hg := He.glo_ok X G (fact_of c (f := .glo t.x) (by
    unfold facts
    exact List.mem_append_right _ (List.mem_map.mpr ⟨t.x, hx, rfl⟩)))
  have gx : ∀ k n, exs.lookup k = some n → mg n = some (.ref (He.ga K n)) ∧ cvOf K exs k = .ref (He.ga K n) := fun k n hk => by
    have hm := look_of_mem hk
    refine ⟨He.glo_ok X G (fact_of c (f := .glo n) (by
      unfold facts
      exact List.mem_append_left _ (List.mem_append_right _ (List.mem_map.mpr ⟨(k, n), hm, rfl⟩)))), ?_⟩
    unfold cvOf
    rw [hk]
  unfold wB at hB
  simp only [Bool.and_eq_true, decide_eq_true_eq] at hB
  obtain ⟨h1, h2, h3, h4⟩ := hB
  rw [hp] at h1
  have wd : ∀ k x, tb.lookup k = some x → ∃ n, exs.lookup k = some n ∧ excB K (He.ga K n) = true ∧ PySem.W.kitOne K (.ref (He.ga K n)) (.type "ValueError") = some true ∧ PySem.W.exmOne K (.ref (He.ga K n)) (.ref (He.ga K "SmoothError")) = some true ∧
      ∀ q ∈ exs, PySem.W.kitOne K (.ref (He.ga K n)) (.ref (He.ga K q.2)) = some (subN exs k q.1) := fun k x hk => by
    have hm := look_of_mem hk
    unfold topB at cg
    simp only [Bool.and_eq_true] at cg
    have q := List.all_eq_true.mp cg.2.2 (k, x) hm
    have q : wordB K exs k = true := q
    unfold wordB at q
    split at q
    · rename_i n e
      simp only [Bool.and_eq_true, decide_eq_true_eq] at q
      exact ⟨n, e, q.1, q.2.1, q.2.2.1, fun z hz => of_decide_eq_true (List.all_eq_true.mp q.2.2.2 z hz)⟩
    · cases q
  have hbd := binds_of hb F
  rw [hp] at hbd
  rw [← hn]
  refine ⟨.ref (He.ga K "SmoothError"), He.ga K t.x, fd, p, (gx ks _ hS).1, hg, F.kp, hbd, fnP_word T.bi F h1 h2 h3 h4 (fun k x hk => ?_) hev, fun k x hk => ?_⟩
  · obtain ⟨n, e1, e2, e3, e4, e5⟩ := wd k x hk
    exact ⟨He.ga K n, (gx k n e1).2, excB_ok e2, e3, fun j y hy => ⟨_, (gx j y hy).1, ⟨_, rfl⟩, e5 (j, y) (look_of_mem hy)⟩⟩
  · obtain ⟨n, e1, e2, e3, e4, e5⟩ := wd k x hk
    rw [(gx k n e1).2]
    exact e4
end
/-- the law's end over the defs -/
theorem law_end {l : PySem.W.OpenLaw} {n k : Nat} {q : Program} {loose : List Str} {XP : (Str → Option Value) → Heap → Prop} {d : DefRec} {N : Nat} {exs : List (Nat × Str)} {xs : List Str} {fn : List He.DefD} {gl : List (Str × D)} {tb : List (Nat × Str)} {x : Str}
    (t : Dt) (L : List Ent) (hn : l.most = some n) (hn2 : n ≤ sizeLine) (hdf : d.params.defaults = []) (hr : Room k callerA) (hdn : d.name = t.x) (hx : t.x ∈ xs) (hfn : t.dd ∈ fn) (hb : BindsE t) (hp : t.ps = [x]) (hdl : t.dfl = [])
    (hE : ∀ (w : World) (K : PySem.W.Frag) (h : Heap) (mg : Str → Option Value) (base : Heap), K.In h → h.Ns mainGlobals mg → He.SaysD (facts exs xs) fn K → topB gl exs tb K = true → ∀ e ∈ t.ent tb L :: L, EntOk l.prog w K mg base (cvOf K exs) k e)
    (hlaw : ∀ ns : List Int, ns.length ≤ n → ∃ M, evD (lookW tb L) t.d [.fro (ns.map D.int)] [] = .ok (.bl true) M) :
    PySem.W.WalkO q loose XP (hookS N (facts exs xs) fn (topB gl exs tb)).says l.row.toRowW d [] (fun f vs => PySem.call f vs) := by
  refine Att.attach_call hn hdf fun w s₀ s₁ mg mb fa o pm cd doc a vs ns G Y ho hd hcd hmg hobj hints hlen hg => ?_
  obtain ⟨K, KX, c, cg⟩ := Y
  have hmg2 : mg t.x = some (.ref fa) := by
    rw [← hdn]
    exact hmg
  obtain ⟨i, hi, e⟩ := List.mem_iff_getElem.mp hfn
  obtain ⟨fd, F⟩ := c.def_ i (d := t.dd) (by rw [List.getElem?_eq_getElem hi, e])
  have F : FunD K t.q t.q (defArgs t.st) (defBody t.st) (defScope t.st) (t.dfl.map (He.Dv.v K)) [] (He.ga K t.x) fd := F
  have hga := He.glo_ok KX G.T.g (fact_of c (f := .glo t.x) (by
    unfold facts
    exact List.mem_append_right _ (List.mem_map.mpr ⟨t.x, hx, rfl⟩)))
  have hfa : He.ga K t.x = fa := by
    rw [hga] at hmg2
    cases hmg2
    rfl
  rw [hfa, hdl, List.map_nil] at F
  have hF : ∀ base : Heap, K.In base → base.Ns mainGlobals mg → FnOk l.prog w K mg base (L2N.CX l.prog w) k fa fd [x] (spD K (cvOf K exs) (evD (lookW tb L) t.d) 1) := fun base _ _ => by
    obtain ⟨fa', fd', _, _, g1, ⟨o, g0, g0'⟩, g2, g3, _, _, _, g4, g5⟩ := hE w K _ mg base KX G.T.g c cg (t.ent tb L) List.mem_cons_self
    have g1 : mg t.x = some (.ref fa') := g1
    rw [hmg2] at g1
    cases g1
    have g5 : FnOk l.prog w K mg base (L2N.CX l.prog w) k fa fd' t.ps (spD K (cvOf K exs) (evD (lookW tb L) t.d) t.ps.length) := g5
    rw [hp] at g5
    have e2 : fd' = fd := by
      obtain ⟨oc, od, dV, kV, doc, pm, an, cdv, ct, osl, e, l, _⟩ := F.ex
      rw [g0] at l
      cases l
      cases g0'
      rfl
    rw [← e2]
    exact g5
  refine law_call KX G.T.g G.T.b G.T.builtins G.T.nolimit hg hobj hints (Nat.le_trans hlen hn2) hr hF (fun s v => ?_) (fun H hO hS => law_sp' hO hS (hlaw ns hlen)) fun H e s' => cx_none
  have hb : BindsE t := hb
  have hb := hb.resolve_right fun z => z.1 hdl
  have := FunD.bindsA (ps := t.ps) F hb.2 s [v] (by rw [hp]; rfl)
  rw [hp] at this
  exact this
end
end Sg

/-! SgV: what an evaluation ends with, by rules from the left. -/
namespace Sg
noncomputable section
open PySem PySem.Spec
def V {α : Type} (r : R α) (Q : α → List Cell → Prop) (X : Nat → List Cell → Prop) : Prop := match r with
  | .ok a M => Q a M
  | .exc c M => X c M
  | .bad => False
def VQ (r : Qr) (Q : Fl → St → List Cell → Prop) (X : Nat → List Cell → Prop) : Prop := match r with
  | .ok f σ M => Q f σ M
  | .exc c _ M => X c M
  | .bad => False
section
variable {α β : Type} {Φ : Phi} {σ : St} {M : List Cell} {X : Nat → List Cell → Prop}
theorem V_ok {a : α} {Q} : V (.ok a M) Q X = Q a M := rfl
theorem V_exc {c : Nat} {Q : α → List Cell → Prop} : V (.exc c M) Q X = X c M := rfl
theorem V_bad {Q : α → List Cell → Prop} : V .bad Q X = False := rfl
theorem VQ_ok {a : Fl} {Q} : VQ (.ok a σ M) Q X = Q a σ M := rfl
theorem VQ_exc {c : Nat} {Q} : VQ (.exc c σ M) Q X = X c M := rfl
theorem VQ_bad {Q} : VQ .bad Q X = False := rfl
theorem V_bind {r : R α} {f : α → List Cell → R β} {Q} : V (r.bind f) Q X = V r (fun a M1 => V (f a M1) Q X) X := by cases r <;> rfl
theorem V_st {r : R α} {f : α → List Cell → Qr} {Q} : VQ (r.st σ f) Q X = V r (fun a M1 => VQ (f a M1) Q X) X := by cases r <;> rfl
theorem V_nox {r : R α} {Q} : V r.nox Q X = V r Q (fun _ _ => False) := by cases r <;> rfl
theorem V_mono {r : R α} {Q Q' : α → List Cell → Prop} {X' : Nat → List Cell → Prop} (h : V r Q X) (hq : ∀ a M, Q a M → Q' a M) (hx : ∀ c M, X c M → X' c M) : V r Q' X' := by
  cases r with
  | ok a M => exact hq _ _ h
  | exc c M => exact hx _ _ h
  | bad => exact h
theorem VQ_mono {r : Qr} {Q Q' : Fl → St → List Cell → Prop} {X' : Nat → List Cell → Prop} (h : VQ r Q X) (hq : ∀ f σ M, Q f σ M → Q' f σ M) (hx : ∀ c M, X c M → X' c M) : VQ r Q' X' := by
  cases r with
  | ok a M => exact hq _ _ _ h
  | exc c M => exact hx _ _ h
  | bad => exact h
/-! expressions -/
variable {Q : D → List Cell → Prop}
def gv (σ : St) (i : Nat) (Q : D → Prop) : Prop := match σ, i with
  | some d :: _, 0 => Q d
  | _ :: r, i + 1 => gv r i Q
  | _, _ => False
theorem gv_eq : ∀ {σ : St} {i : Nat} {Q : D → Prop}, (match σ[i]? with | some (some d) => Q d | _ => False) = gv σ i Q
  | [], i, Q => by cases i <;> rfl
  | none :: r, 0, Q => rfl
  | some d :: r, 0, Q => rfl
  | x :: r, i + 1, Q => by
    rw [List.getElem?_cons_succ, gv_eq (σ := r)]
    cases x <;> rfl
theorem V_var {i : Nat} : V (evE Φ (.var i) σ M) Q X = gv σ i (fun d => Q d M) := by
  rw [← gv_eq, evE]
  cases σ[i]? with
  | none => rfl
  | some o => cases o <;> rfl
theorem gv0 {d : D} {r : St} {Q : D → Prop} : gv (some d :: r) 0 Q = Q d := rfl
theorem gv1 {x : Option D} {r : St} {Q : D → Prop} : gv (x :: r) 1 Q = gv r 0 Q := by cases x <;> rfl
theorem gv2 {x y : Option D} {r : St} {Q : D → Prop} : gv (x :: y :: r) 2 Q = gv r 0 Q := by cases x <;> cases y <;> rfl
theorem gvs {x : Option D} {r : St} {i : Nat} {Q : D → Prop} : gv (x :: r) (i + 1) Q = gv r i Q := by cases x <;> rfl
theorem V_c {d : D} : V (evE Φ (.c d) σ M) Q X = Q d M := rfl
theorem V_glob {x : Str} {d : D} : V (evE Φ (.glob x d) σ M) Q X = Q d M := rfl
theorem V_bin {m op a b} : V (evE Φ (.bin m op a b) σ M) Q X = V (evE Φ a σ M) (fun x M1 => V (evE Φ b σ M1) (fun y M2 => V (bop m op x y M2) Q X) X) X := by rw [evE, V_bind]; simp only [V_bind]
theorem V_un {op a} : V (evE Φ (.un op a) σ M) Q X = V (evE Φ a σ M) (fun x M1 => V (uop op x M1) Q X) X := by rw [evE, V_bind]
theorem V_cmp {op a b} : V (evE Φ (.cmp op a b) σ M) Q X = V (evE Φ a σ M) (fun x M1 => V (evE Φ b σ M1) (fun y M2 => V (cop op x y M2) Q X) X) X := by rw [evE, V_bind]; simp only [V_bind]
theorem V_chain {o1 o2 a b c} : V (evE Φ (.chain o1 o2 a b c) σ M) Q X = V (evE Φ a σ M) (fun x M1 => V (evE Φ b σ M1) (fun y M2 => V (cop o1 x y M2) (fun k M3 => V (toBl k M3) (fun k M3 =>
    if k = true then V (evE Φ c σ M3) (fun z M4 => V (cop o2 y z M4) Q X) X else Q (.bl false) M3) X) X) X) X := by
  rw [evE, V_bind]
  simp only [V_bind]
  congr 1; funext x M1; congr 1; funext y M2; congr 1; funext k M3; congr 1; funext k M3
  cases k <;> simp [V_ok, V_bind]
theorem V_toBl {k : Bool} {Q : Bool → List Cell → Prop} : V (toBl (.bl k) M) Q X = Q k M := rfl
theorem V_bop {op es} : V (evE Φ (.bop op es) σ M) Q X = V (evB Φ op es σ M) Q X := rfl
theorem V_B1 {op a} : V (evB Φ op (.cons a .nil) σ M) Q X = V (evE Φ a σ M) Q X := rfl
theorem V_And {a b r} : V (evB Φ .And (.cons a (.cons b r)) σ M) Q X = V (evE Φ a σ M) (fun k M1 => V (toBl k M1) (fun k M1 => if k = true then V (evB Φ .And (.cons b r) σ M1) Q X else Q (.bl false) M1) X) X := by
  rw [evB, V_bind, V_bind]
  congr 1; funext k M1; congr 1; funext k M3
  cases k <;> simp [V_ok]
theorem V_Or {a b r} : V (evB Φ .Or (.cons a (.cons b r)) σ M) Q X = V (evE Φ a σ M) (fun k M1 => V (toBl k M1) (fun k M1 => if k = true then Q (.bl true) M1 else V (evB Φ .Or (.cons b r) σ M1) Q X) X) X := by
  rw [evB, V_bind, V_bind]
  congr 1; funext k M1; congr 1; funext k M3
  cases k <;> simp [V_ok]
theorem V_ite {c a b} : V (evE Φ (.ite c a b) σ M) Q X = V (evE Φ c σ M) (fun k M1 => V (toBl k M1) (fun k M1 => if k = true then V (evE Φ a σ M1) Q X else V (evE Φ b σ M1) Q X) X) X := by
  rw [evE, V_bind, V_bind]
  congr 1; funext k M1; congr 1; funext k M3
  cases k <;> simp
theorem V_tup {es} : V (evE Φ (.tup es) σ M) Q X = V (evEs Φ es σ M) (fun ds M1 => ds.length ≤ LIM ∧ Q (.tup ds) M1) X := by
  rw [evE, V_bind]
  congr 1; funext ds M1
  split <;> simp [V_ok, V_bad, *]
theorem V_lst {m es} : V (evE Φ (.lst m es) σ M) Q X = V (evEs Φ es σ M) (fun ds M1 => V (new m ds M1) Q X) X := by rw [evE, V_bind]
theorem V_idx {a b} : V (evE Φ (.idx a b) σ M) Q X = V (evE Φ a σ M) (fun x M1 => V (evE Φ b σ M1) (fun y M2 => V (idxD x y M2) Q X) X) X := by rw [evE, V_bind]; simp only [V_bind]
theorem V_slc {m a lo hi} : V (evE Φ (.slc m a lo hi) σ M) Q X = V (evE Φ a σ M) (fun x M1 => V (evO Φ lo σ M1) (fun l M2 => V (evO Φ hi σ M2) (fun h M3 => V (slcD m x l h M3) Q X) X) X) X := by rw [evE, V_bind]; simp only [V_bind]
theorem V_call {f mode es} : V (evE Φ (.call f mode es) σ M) Q X = V (evEs Φ es σ M) (fun ds M1 => V (callD Φ f mode ds M1) Q X) X := by rw [evE, V_bind]
theorem V_bi {f es} : V (evE Φ (.bi f es) σ M) Q X = V (evEs Φ es σ M) (fun ds M1 => V (bi f ds M1) Q X) X := by rw [evE, V_bind]
def W_isiR (t : Ty) (x : D) (M : List Cell) : R D := match isi t x M with
  | some k => .ok (.bl k) M
  | none => .bad
theorem V_isi {a t} : V (evE Φ (.isi a t) σ M) Q X = V (evE Φ a σ M) (fun x M1 => V (W_isiR t x M1) Q X) X := by
  rw [evE, V_bind]
  rfl
def methR (f : Mt) (x : D) (M : List Cell) (k : List Cell → R (List D)) : R D := match content M x with
  | some _ => (k M).bind fun ds M2 => meth f x ds M2
  | none => .bad
theorem V_meth {f a es} : V (evE Φ (.meth f a es) σ M) Q X = V (evE Φ a σ M) (fun x M1 => (content M1 x).isSome ∧ V (evEs Φ es σ M1) (fun ds M2 => V (meth f x ds M2) Q X) X) X := by
  rw [evE, V_bind]
  congr 1; funext x M1
  cases h : content M1 x with
  | none => simp [V_bad]
  | some _ => simp [V_bind]
def compS (Φ : Phi) (σ : St) (own : List Nat) (t : T) (c : O) (e : E) (x : D) (M2 : List Cell) : R (Option D) := (evT Φ t x (wipeD σ own) M2).bind fun σ1 M3 =>
  (evC Φ c σ1 M3).bind fun k M4 => if k then (evE Φ e σ1 M4).bind fun y M5 => .ok (some y) M5 else .ok none M4
theorem V_comp {m own t it c e} : V (evE Φ (.comp m own t it c e) σ M) Q X = V (evIt Φ it σ M) (fun xs M1 => V (compL (compS Φ σ own t c e) xs M1) (fun ys M2 => V (new m ys M2) Q X) X) X := by
  rw [evE, V_bind]
  simp only [V_bind]
  rfl
theorem V_compS {own : List Nat} {t : T} {c : O} {e : E} {x : D} {Q : Option D → List Cell → Prop} : V (compS Φ σ own t c e x M) Q X = V (evT Φ t x (wipeD σ own) M) (fun σ1 M3 => V (evC Φ c σ1 M3) (fun k M4 => if k = true then V (evE Φ e σ1 M4) (fun y M5 => Q (some y) M5) X else Q none M4) X) X := by
  unfold compS
  rw [V_bind]
  simp only [V_bind]
  congr 1; funext σ1 M3; congr 1; funext k M4
  cases k <;> simp [V_ok, V_bind]
theorem V_Ono {Q : Option Int → List Cell → Prop} : V (evO Φ .no σ M) Q X = Q none M := rfl
def asI (d : D) (Q : Int → Prop) : Prop := match d with
  | .int i => Q i
  | _ => False
theorem asI_int {i : Int} {Q : Int → Prop} : asI (.int i) Q = Q i := rfl
theorem V_Oso {e} {Q : Option Int → List Cell → Prop} : V (evO Φ (.so e) σ M) Q X = V (evE Φ e σ M) (fun d M1 => asI d fun i => Q (some i) M1) X := by
  rw [evO, V_bind]
  congr 1; funext d M1
  cases d <;> rfl
theorem V_Cno {Q : Bool → List Cell → Prop} : V (evC Φ .no σ M) Q X = Q true M := rfl
theorem V_Cso {e} {Q : Bool → List Cell → Prop} : V (evC Φ (.so e) σ M) Q X = V (evE Φ e σ M) (fun k M1 => V (toBl k M1) Q X) X := by rw [evC, V_bind]
theorem V_nil {Q : List D → List Cell → Prop} : V (evEs Φ .nil σ M) Q X = Q [] M := rfl
theorem V_cons {e es} {Q : List D → List Cell → Prop} : V (evEs Φ (.cons e es) σ M) Q X = V (evE Φ e σ M) (fun d M1 => V (evEs Φ es σ M1) (fun ds M2 => Q (d :: ds) M2) X) X := by
  rw [evEs, V_bind]
  simp only [V_bind]
  rfl
/-! what is walked -/
variable {QL : List D → List Cell → Prop}
def valR (d : D) (M : List Cell) : R (List D) := match seqOf M d with
  | some xs => .ok xs (stop1 d M)
  | none => .bad
def lstR (f : List D → List D) (d : D) (M : List Cell) : R (List D) := match listOf M d with
  | some xs => .ok (f xs) (stop1 d M)
  | none => .bad
def zipR (d e : D) (M : List Cell) : R (List D) := match listOf M d, listOf M e with
  | some xs, some ys => .ok (zipD xs ys) (stop1 e (stop1 d M))
  | _, _ => .bad
theorem V_val {e} : V (evIt Φ (.val e) σ M) QL X = V (evE Φ e σ M) (fun d M1 => V (valR d M1) QL X) X := by rw [evIt, V_bind]; rfl
theorem V_rng1 {a} : V (evIt Φ (.rng1 a) σ M) QL X = V (evE Φ a σ M) (fun d M1 => asI d fun j => B62 j ∧ QL (upTo 0 j.toNat) M1) X := by
  rw [evIt, V_bind]
  congr 1; funext d M1
  cases d <;> first | rfl | skip
  simp only [asI]
  split <;> simp [V_ok, V_bad, *]
theorem V_rng2 {a b} : V (evIt Φ (.rng2 a b) σ M) QL X = V (evE Φ a σ M) (fun d M1 => V (evE Φ b σ M1) (fun e M2 => asI d fun i => asI e fun j => (B62 i ∧ B62 j) ∧ QL (upTo i (j - i).toNat) M2) X) X := by
  rw [evIt, V_bind]
  simp only [V_bind]
  congr 1; funext d M1; congr 1; funext e M2
  cases d <;> cases e <;> first | rfl | skip
  simp only [asI]
  split <;> simp [V_ok, V_bad, *]
theorem V_rng3 {a b c} : V (evIt Φ (.rng3 a b c) σ M) QL X = V (evE Φ a σ M) (fun d M1 => V (evE Φ b σ M1) (fun e M2 => V (evE Φ c σ M2) (fun g M3 => asI d fun i => asI e fun j => asI g fun k => (k = -1 ∧ B62 i ∧ B62 j) ∧ QL (upBy i (-1) (i - j).toNat) M3) X) X) X := by
  rw [evIt, V_bind]
  simp only [V_bind]
  congr 1; funext d M1; congr 1; funext e M2; congr 1; funext g M3
  cases d <;> cases e <;> cases g <;> first | rfl | skip
  simp only [asI]
  split <;> simp [V_ok, V_bad, *]
theorem V_zip {a b} : V (evIt Φ (.zip a b) σ M) QL X = V (evE Φ a σ M) (fun d M1 => V (evE Φ b σ M1) (fun e M2 => V (zipR d e M2) QL X) X) X := by
  rw [evIt, V_bind]
  simp only [V_bind]
  rfl
theorem V_enum {a} : V (evIt Φ (.enum a) σ M) QL X = V (evE Φ a σ M) (fun d M1 => V (lstR (enumD 0) d M1) QL X) X := by rw [evIt, V_bind]; rfl
theorem V_rev {a} : V (evIt Φ (.rev a) σ M) QL X = V (evE Φ a σ M) (fun d M1 => V (lstR List.reverse d M1) QL X) X := by rw [evIt, V_bind]; rfl
/-! targets -/
variable {QS : St → List Cell → Prop}
theorem V_Tv {i : Nat} {d : D} : V (evT Φ (.var i) d σ M) QS X = QS (σ.set i (some d)) M := rfl
theorem V_Tt {ts : Ts} {xs : List D} : V (evT Φ (.tup ts) (.tup xs) σ M) QS X = V (evTs Φ ts xs σ M) QS X := rfl
def setR (x y d : D) (σ : St) (M : List Cell) : R St := match setD x y d M with
  | some M3 => .ok σ M3
  | none => .bad
theorem V_Ti {o i : E} {d : D} : V (evT Φ (.idx o i) d σ M) QS X = V (evE Φ o σ M) (fun x M1 => V (evE Φ i σ M1) (fun y M2 => V (setR x y d σ M2) QS X) (fun _ _ => False)) (fun _ _ => False) := by
  rw [evT, V_bind, V_nox]
  simp only [V_bind, V_nox]
  rfl
theorem V_Tn : V (evTs Φ .nil [] σ M) QS X = QS σ M := rfl
theorem V_Tc {t ts d ds} : V (evTs Φ (.cons t ts) (d :: ds) σ M) QS X = V (evT Φ t d σ M) (fun σ1 M1 => V (evTs Φ ts ds σ1 M1) QS X) X := by rw [evTs, V_bind]
/-! statements -/
variable {QF : Fl → St → List Cell → Prop}
def Kv (Φ : Phi) (ss : Ss) (Q : Fl → St → List Cell → Prop) (X : Nat → List Cell → Prop) (f : Fl) (σ : St) (M : List Cell) : Prop := match f with
  | .nx => VQ (evSs Φ ss σ M) Q X
  | f => Q f σ M
theorem Kv_nx {ss} : Kv Φ ss QF X .nx σ M = VQ (evSs Φ ss σ M) QF X := rfl
theorem Kv_rt {ss d} : Kv Φ ss QF X (.rt d) σ M = QF (.rt d) σ M := rfl
theorem Kv_bk {ss} : Kv Φ ss QF X .bk σ M = QF .bk σ M := rfl
theorem Kv_ct {ss} : Kv Φ ss QF X .ct σ M = QF .ct σ M := rfl
theorem U_nil : VQ (evSs Φ .nil σ M) QF X = QF .nx σ M := rfl
theorem U_cons {s ss} : VQ (evSs Φ (.cons s ss) σ M) QF X = VQ (evS Φ s σ M) (Kv Φ ss QF X) X := by
  rw [evSs]
  cases evS Φ s σ M with
  | ok f σ M => cases f <;> rfl
  | exc c σ M => rfl
  | bad => rfl
theorem U_expr {e} : VQ (evS Φ (.expr e) σ M) QF X = V (evE Φ e σ M) (fun _ M1 => QF .nx σ M1) X := by rw [evS, V_st]; rfl
theorem U_asg {t e} : VQ (evS Φ (.asg t e) σ M) QF X = V (evE Φ e σ M) (fun d M1 => V (evT Φ t d σ M1) (fun σ1 M2 => QF .nx σ1 M2) (fun _ _ => False)) X := by
  rw [evS, V_st]
  simp only [V_st, V_nox]
  rfl
def augv (i : Nat) (op : Operator) (x : D) (σ : St) (y : D) (M : List Cell) (Q : St → List Cell → Prop) (X : Nat → List Cell → Prop) : Prop := match x, y with
  | .int a, .int b => V (bopI op (.int a) (.int b) M) (fun z M2 => Q (σ.set i (some z)) M2) X
  | _, _ => False
theorem augv_int {i op a b QS} : augv i op (.int a) σ (.int b) M QS X = V (bopI op (.int a) (.int b) M) (fun z M2 => QS (σ.set i (some z)) M2) X := rfl
theorem U_aug {i op e} : VQ (evS Φ (.aug i op e) σ M) QF X = gv σ i (fun x => V (evE Φ e σ M) (fun y M1 => augv i op x σ y M1 (QF .nx) X) X) := by
  rw [← gv_eq, evS]
  cases σ[i]? with
  | none => rfl
  | some o =>
    cases o with
    | none => rfl
    | some x =>
      show VQ (R.st _ _ _) QF X = V _ _ _
      rw [V_st]
      congr 1; funext y M1
      cases x <;> cases y <;> first | rfl | skip
      simp only [augv, V_st]
      rfl
theorem U_ite {c a b} : VQ (evS Φ (.ite c a b) σ M) QF X = V (evE Φ c σ M) (fun k M1 => V (toBl k M1) (fun k M1 => if k = true then VQ (evSs Φ a σ M1) QF X else VQ (evSs Φ b σ M1) QF X) X) X := by
  rw [evS, V_st, V_bind]
  congr 1; funext k M1; congr 1; funext k M3
  cases k <;> simp
def forS (Φ : Phi) (t : T) (b : Ss) (x : D) (σ1 : St) (M2 : List Cell) : Qr := (evT Φ t x σ1 M2).nox.st σ1 fun σ2 M3 => evSs Φ b σ2 M3
theorem V_forS {t b x} : VQ (forS Φ t b x σ M) QF X = V (evT Φ t x σ M) (fun σ2 M3 => VQ (evSs Φ b σ2 M3) QF X) (fun _ _ => False) := by
  unfold forS
  rw [V_st, V_nox]
theorem U_for {t it b} : VQ (evS Φ (.for t it b) σ M) QF X = V (evIt Φ it σ M) (fun xs M1 => VQ (forL (forS Φ t b) xs σ M1) QF X) X := by rw [evS, V_st]; rfl
theorem U_whl {c b} : VQ (evS Φ (.whl c b) σ M) QF X = VQ (whlL (evE Φ c) (evSs Φ b) FUEL σ M) QF X := rfl
theorem U_ret {e} : VQ (evS Φ (.ret (.so e)) σ M) QF X = V (evE Φ e σ M) (fun d M1 => QF (.rt d) σ M1) X := by rw [evS, V_st]; rfl
theorem U_ret0 : VQ (evS Φ (.ret .no) σ M) QF X = QF (.rt .non) σ M := rfl
theorem U_pass : VQ (evS Φ .pass σ M) QF X = QF .nx σ M := rfl
theorem U_brk : VQ (evS Φ .brk σ M) QF X = QF .bk σ M := rfl
theorem U_cont : VQ (evS Φ .cont σ M) QF X = QF .ct σ M := rfl
theorem U_raise {c} : VQ (evS Φ (.raise c) σ M) QF X = X c M := rfl
/-- behind the body -/
def retQ (Q : D → List Cell → Prop) (f : Fl) (_ : St) (M : List Cell) : Prop := match f with
  | .nx => Q .non M
  | .rt x => Q x M
  | _ => False
theorem retQ_nx : retQ Q .nx σ M = Q .non M := rfl
theorem retQ_rt {d} : retQ Q (.rt d) σ M = Q d M := rfl
theorem V_evD {ps n : Nat} {b : Ss} {ds : List D} : V (evD Φ ⟨ps, n, b⟩ ds M) Q X = (ds.length = ps ∧ VQ (evSs Φ b (start n ds) M) (retQ Q) X) := by
  unfold evD
  by_cases h : ds.length = ps
  · simp only [h, if_true, true_and]
    cases evSs Φ b (start n ds) M with
    | ok f σ M => cases f <;> rfl
    | exc c σ M => rfl
    | bad => rfl
  · simp [h, V_bad]
/-! the operations -/
theorem V_add {m : Bool} {i j : Int} : V (bop m .Add (.int i) (.int j) M) Q X = Q (.int (i + j)) M := rfl
theorem V_sub {m : Bool} {i j : Int} : V (bop m .Sub (.int i) (.int j) M) Q X = Q (.int (i - j)) M := rfl
theorem V_mul {m : Bool} {i j : Int} : V (bop m .Mult (.int i) (.int j) M) Q X = (mulOk i j = true ∧ Q (.int (i * j)) M) := by
  show V (if mulOk i j = true then _ else _) Q X = _
  split <;> simp [V_ok, V_bad, *]
theorem V_mulI {i j : Int} : V (bopI .Mult (.int i) (.int j) M) Q X = (mulOk i j = true ∧ Q (.int (i * j)) M) := V_mul (m := true)
theorem V_addI {i j : Int} : V (bopI .Add (.int i) (.int j) M) Q X = Q (.int (i + j)) M := rfl
theorem V_subI {i j : Int} : V (bopI .Sub (.int i) (.int j) M) Q X = Q (.int (i - j)) M := rfl
theorem V_neg {i : Int} : V (uop .USub (.int i) M) Q X = Q (.int (-i)) M := rfl
theorem V_not {b : Bool} : V (uop .Not (.bl b) M) Q X = Q (.bl (!b)) M := rfl
theorem V_lt {i j : Int} : V (cop .Lt (.int i) (.int j) M) Q X = Q (.bl (decide (i < j))) M := rfl
theorem V_le {i j : Int} : V (cop .LtE (.int i) (.int j) M) Q X = Q (.bl (decide (i ≤ j))) M := rfl
theorem V_gt {i j : Int} : V (cop .Gt (.int i) (.int j) M) Q X = Q (.bl (decide (j < i))) M := rfl
theorem V_ge {i j : Int} : V (cop .GtE (.int i) (.int j) M) Q X = Q (.bl (decide (j ≤ i))) M := rfl
def eqR (a b : D) (M : List Cell) : R D := match eqD M a b with
  | some k => .ok (.bl k) M
  | none => .bad
def neR (a b : D) (M : List Cell) : R D := match eqD M a b with
  | some k => .ok (.bl (!k)) M
  | none => .bad
theorem V_eq {a b : D} : V (cop .Eq a b M) Q X = V (eqR a b M) Q X := by cases a <;> cases b <;> rfl
theorem V_ne {a b : D} : V (cop .NotEq a b M) Q X = V (neR a b M) Q X := by cases a <;> cases b <;> rfl
theorem V_is {a : D} : V (cop .Is a .non M) Q X = Q (.bl (isNon a)) M := by cases a <;> rfl
theorem V_isnot {a : D} : V (cop .IsNot a .non M) Q X = Q (.bl (!isNon a)) M := by cases a <;> rfl
theorem V_new0 {xs : List D} : V (new false xs M) Q X = (xs.length ≤ LIM ∧ Q (.lst xs) M) := by
  unfold new
  split <;> simp [V_ok, V_bad, *]
theorem V_new1 {xs : List D} : V (new true xs M) Q X = (xs.length ≤ LIM ∧ Q (.ref M.length) (M ++ [⟨true, .lst xs⟩])) := by
  unfold new
  split <;> simp [V_ok, V_bad, *]
theorem V_abs {i : Int} : V (bi .abs [.int i] M) Q X = Q (.int i.natAbs) M := by
  show Q (.int (if i < 0 then -i else i)) M = _
  have : (if i < 0 then -i else i) = (i.natAbs : Int) := by split <;> omega
  rw [this]
theorem V_max2 {i j : Int} : V (bi .max2 [.int i, .int j] M) Q X = Q (.int (max i j)) M := by
  show Q (.int (if j > i then j else i)) M = _
  have : (if j > i then j else i) = max i j := by split <;> omega
  rw [this]
theorem V_min2 {i j : Int} : V (bi .min2 [.int i, .int j] M) Q X = Q (.int (min i j)) M := by
  show Q (.int (if j < i then j else i)) M = _
  have : (if j < i then j else i) = min i j := by split <;> omega
  rw [this]
theorem V_fdiv {m : Bool} {i j : Int} : V (bop m .FloorDiv (.int i) (.int j) M) Q X = ((j ≠ 0 ∧ j.natAbs.log2 < 9000) ∧ Q (.int (i.fdiv j)) M) := by
  show V (if 0 < j ∧ j.natAbs.log2 < 9000 then _ else _) Q X = _
  split
  · rename_i h
    have h0 : j ≠ 0 := by omega
    rw [V_ok, Int.fdiv_eq_ediv_of_nonneg _ (by omega)]
    simp [h0, h.2]
  · split <;> simp [V_ok, V_bad, *]
theorem V_div {m : Bool} {i j : Int} (h : 0 < j) (h2 : j.natAbs.log2 < 9000) : V (bop m .FloorDiv (.int i) (.int j) M) Q X = Q (.int (i / j)) M := by
  show V (if 0 < j ∧ j.natAbs.log2 < 9000 then _ else _) Q X = _
  rw [if_pos ⟨h, h2⟩]; rfl
theorem V_mod {m : Bool} {i j : Int} (h : 0 < j) : V (bop m .Mod (.int i) (.int j) M) Q X = Q (.int (i % j)) M := by
  show V (if 0 < j then _ else _) Q X = _
  rw [if_pos h]; rfl
theorem V_pow {m : Bool} {i j : Int} : V (bop m .Pow (.int i) (.int j) M) Q X = ((0 ≤ j ∧ j ≤ 1000000 ∧ i.natAbs < 2 ^ 64) ∧ Q (.int (i ^ j.toNat)) M) := by
  show V (if 0 ≤ j ∧ Le6 j ∧ i.natAbs < 2 ^ 64 then _ else _) Q X = ((0 ≤ j ∧ Le6 j ∧ i.natAbs < 2 ^ 64) ∧ _)
  split <;> simp [V_ok, V_bad, *]
end
end
end Sg

/-! SgW: the same, the continuations kept from simp. -/
namespace Sg
noncomputable section
open PySem PySem.Spec
/-- keeps simp out of a continuation -/
abbrev Pin {α β : Type} (_ : α → β → Prop) : Type := Unit
abbrev Pin3 {α β γ : Type} (_ : α → β → γ → Prop) : Type := Unit
def W {α : Type} (r : R α) (Q : α → List Cell → Prop) (X : Nat → List Cell → Prop) (_ : Pin Q := ()) (_ : Pin X := ()) : Prop := V r Q X
def WQ (r : Qr) (Q : Fl → St → List Cell → Prop) (X : Nat → List Cell → Prop) (_ : Pin3 Q := ()) (_ : Pin X := ()) : Prop := VQ r Q X
section
variable {α β : Type} {Φ : Phi} {σ : St} {M : List Cell} {X : Nat → List Cell → Prop}
theorem W_ok {a : α} {Q} : W (.ok a M) Q X = Q a M := V_ok
theorem W_exc {c : Nat} {Q : α → List Cell → Prop} : W (.exc c M) Q X = X c M := V_exc
theorem W_bad {Q : α → List Cell → Prop} : W .bad Q X = False := V_bad
theorem WQ_ok {a : Fl} {Q} : WQ (.ok a σ M) Q X = Q a σ M := VQ_ok
theorem WQ_exc {c : Nat} {Q} : WQ (.exc c σ M) Q X = X c M := VQ_exc
theorem WQ_bad {Q} : WQ .bad Q X = False := VQ_bad
theorem W_bind {r : R α} {f : α → List Cell → R β} {Q} : W (r.bind f) Q X = W r (fun a M1 => W (f a M1) Q X) X := V_bind
theorem W_st {r : R α} {f : α → List Cell → Qr} {Q} : WQ (r.st σ f) Q X = W r (fun a M1 => WQ (f a M1) Q X) X := V_st
theorem W_nox {r : R α} {Q} : W r.nox Q X = W r Q (fun _ _ => False) := V_nox
theorem W_mono {r : R α} {Q Q' : α → List Cell → Prop} {X' : Nat → List Cell → Prop} (h : W r Q X) (hq : ∀ a M, Q a M → Q' a M) (hx : ∀ c M, X c M → X' c M) : W r Q' X' := V_mono h hq hx
theorem WQ_mono {r : Qr} {Q Q' : Fl → St → List Cell → Prop} {X' : Nat → List Cell → Prop} (h : WQ r Q X) (hq : ∀ f σ M, Q f σ M → Q' f σ M) (hx : ∀ c M, X c M → X' c M) : WQ r Q' X' := VQ_mono h hq hx
/-! expressions -/
variable {Q : D → List Cell → Prop}
theorem W_var {i : Nat} : W (evE Φ (.var i) σ M) Q X = gv σ i (fun d => Q d M) := V_var
theorem W_c {d : D} : W (evE Φ (.c d) σ M) Q X = Q d M := V_c
theorem W_glob {x : Str} {d : D} : W (evE Φ (.glob x d) σ M) Q X = Q d M := V_glob
theorem W_bin {m op a b} : W (evE Φ (.bin m op a b) σ M) Q X = W (evE Φ a σ M) (fun x M1 => W (evE Φ b σ M1) (fun y M2 => W (bop m op x y M2) Q X) X) X := V_bin
theorem W_un {op a} : W (evE Φ (.un op a) σ M) Q X = W (evE Φ a σ M) (fun x M1 => W (uop op x M1) Q X) X := V_un
theorem W_cmp {op a b} : W (evE Φ (.cmp op a b) σ M) Q X = W (evE Φ a σ M) (fun x M1 => W (evE Φ b σ M1) (fun y M2 => W (cop op x y M2) Q X) X) X := V_cmp
theorem W_chain {o1 o2 a b c} : W (evE Φ (.chain o1 o2 a b c) σ M) Q X = W (evE Φ a σ M) (fun x M1 => W (evE Φ b σ M1) (fun y M2 => W (cop o1 x y M2) (fun k M3 => W (toBl k M3) (fun k M3 =>
    if k = true then W (evE Φ c σ M3) (fun z M4 => W (cop o2 y z M4) Q X) X else Q (.bl false) M3) X) X) X) X := V_chain
theorem W_toBl {k : Bool} {Q : Bool → List Cell → Prop} : W (toBl (.bl k) M) Q X = Q k M := V_toBl
theorem W_bop {op es} : W (evE Φ (.bop op es) σ M) Q X = W (evB Φ op es σ M) Q X := V_bop
theorem W_B1 {op a} : W (evB Φ op (.cons a .nil) σ M) Q X = W (evE Φ a σ M) Q X := V_B1
theorem W_And {a b r} : W (evB Φ .And (.cons a (.cons b r)) σ M) Q X = W (evE Φ a σ M) (fun k M1 => W (toBl k M1) (fun k M1 => if k = true then W (evB Φ .And (.cons b r) σ M1) Q X else Q (.bl false) M1) X) X := V_And
theorem W_Or {a b r} : W (evB Φ .Or (.cons a (.cons b r)) σ M) Q X = W (evE Φ a σ M) (fun k M1 => W (toBl k M1) (fun k M1 => if k = true then Q (.bl true) M1 else W (evB Φ .Or (.cons b r) σ M1) Q X) X) X := V_Or
theorem W_ite {c a b} : W (evE Φ (.ite c a b) σ M) Q X = W (evE Φ c σ M) (fun k M1 => W (toBl k M1) (fun k M1 => if k = true then W (evE Φ a σ M1) Q X else W (evE Φ b σ M1) Q X) X) X := V_ite
theorem W_tup {es} : W (evE Φ (.tup es) σ M) Q X = W (evEs Φ es σ M) (fun ds M1 => ds.length ≤ LIM ∧ Q (.tup ds) M1) X := V_tup
theorem W_lst {m es} : W (evE Φ (.lst m es) σ M) Q X = W (evEs Φ es σ M) (fun ds M1 => W (new m ds M1) Q X) X := V_lst
theorem W_idx {a b} : W (evE Φ (.idx a b) σ M) Q X = W (evE Φ a σ M) (fun x M1 => W (evE Φ b σ M1) (fun y M2 => W (idxD x y M2) Q X) X) X := V_idx
theorem W_slc {m a lo hi} : W (evE Φ (.slc m a lo hi) σ M) Q X = W (evE Φ a σ M) (fun x M1 => W (evO Φ lo σ M1) (fun l M2 => W (evO Φ hi σ M2) (fun h M3 => W (slcD m x l h M3) Q X) X) X) X := V_slc
theorem W_call {f mode es} : W (evE Φ (.call f mode es) σ M) Q X = W (evEs Φ es σ M) (fun ds M1 => W (callD Φ f mode ds M1) Q X) X := V_call
theorem W_bi {f es} : W (evE Φ (.bi f es) σ M) Q X = W (evEs Φ es σ M) (fun ds M1 => W (bi f ds M1) Q X) X := V_bi
theorem W_isi {a t} : W (evE Φ (.isi a t) σ M) Q X = W (evE Φ a σ M) (fun x M1 => W (W_isiR t x M1) Q X) X := V_isi
theorem W_meth {f a es} : W (evE Φ (.meth f a es) σ M) Q X = W (evE Φ a σ M) (fun x M1 => (content M1 x).isSome ∧ W (evEs Φ es σ M1) (fun ds M2 => W (meth f x ds M2) Q X) X) X := V_meth
theorem W_comp {m own t it c e} : W (evE Φ (.comp m own t it c e) σ M) Q X = W (evIt Φ it σ M) (fun xs M1 => W (compL (compS Φ σ own t c e) xs M1) (fun ys M2 => W (new m ys M2) Q X) X) X := V_comp
theorem W_compS {own : List Nat} {t : T} {c : O} {e : E} {x : D} {Q : Option D → List Cell → Prop} : W (compS Φ σ own t c e x M) Q X = W (evT Φ t x (wipeD σ own) M) (fun σ1 M3 => W (evC Φ c σ1 M3) (fun k M4 => if k = true then W (evE Φ e σ1 M4) (fun y M5 => Q (some y) M5) X else Q none M4) X) X := V_compS
theorem W_Ono {Q : Option Int → List Cell → Prop} : W (evO Φ .no σ M) Q X = Q none M := V_Ono
theorem W_Oso {e} {Q : Option Int → List Cell → Prop} : W (evO Φ (.so e) σ M) Q X = W (evE Φ e σ M) (fun d M1 => asI d fun i => Q (some i) M1) X := V_Oso
theorem W_Cno {Q : Bool → List Cell → Prop} : W (evC Φ .no σ M) Q X = Q true M := V_Cno
theorem W_Cso {e} {Q : Bool → List Cell → Prop} : W (evC Φ (.so e) σ M) Q X = W (evE Φ e σ M) (fun k M1 => W (toBl k M1) Q X) X := V_Cso
theorem W_nil {Q : List D → List Cell → Prop} : W (evEs Φ .nil σ M) Q X = Q [] M := V_nil
theorem W_cons {e es} {Q : List D → List Cell → Prop} : W (evEs Φ (.cons e es) σ M) Q X = W (evE Φ e σ M) (fun d M1 => W (evEs Φ es σ M1) (fun ds M2 => Q (d :: ds) M2) X) X := V_cons
/-! what is walked -/
variable {QL : List D → List Cell → Prop}
theorem W_val {e} : W (evIt Φ (.val e) σ M) QL X = W (evE Φ e σ M) (fun d M1 => W (valR d M1) QL X) X := V_val
theorem W_rng1 {a} : W (evIt Φ (.rng1 a) σ M) QL X = W (evE Φ a σ M) (fun d M1 => asI d fun j => B62 j ∧ QL (upTo 0 j.toNat) M1) X := V_rng1
theorem W_rng2 {a b} : W (evIt Φ (.rng2 a b) σ M) QL X = W (evE Φ a σ M) (fun d M1 => W (evE Φ b σ M1) (fun e M2 => asI d fun i => asI e fun j => (B62 i ∧ B62 j) ∧ QL (upTo i (j - i).toNat) M2) X) X := V_rng2
theorem W_rng3 {a b c} : W (evIt Φ (.rng3 a b c) σ M) QL X = W (evE Φ a σ M) (fun d M1 => W (evE Φ b σ M1) (fun e M2 => W (evE Φ c σ M2) (fun g M3 => asI d fun i => asI e fun j => asI g fun k => (k = -1 ∧ B62 i ∧ B62 j) ∧ QL (upBy i (-1) (i - j).toNat) M3) X) X) X := V_rng3
theorem W_zip {a b} : W (evIt Φ (.zip a b) σ M) QL X = W (evE Φ a σ M) (fun d M1 => W (evE Φ b σ M1) (fun e M2 => W (zipR d e M2) QL X) X) X := V_zip
theorem W_enum {a} : W (evIt Φ (.enum a) σ M) QL X = W (evE Φ a σ M) (fun d M1 => W (lstR (enumD 0) d M1) QL X) X := V_enum
theorem W_rev {a} : W (evIt Φ (.rev a) σ M) QL X = W (evE Φ a σ M) (fun d M1 => W (lstR List.reverse d M1) QL X) X := V_rev
/-! targets -/
variable {QS : St → List Cell → Prop}
theorem W_Tv {i : Nat} {d : D} : W (evT Φ (.var i) d σ M) QS X = QS (σ.set i (some d)) M := V_Tv
theorem W_Tt {ts : Ts} {xs : List D} : W (evT Φ (.tup ts) (.tup xs) σ M) QS X = W (evTs Φ ts xs σ M) QS X := V_Tt
theorem W_Ti {o i : E} {d : D} : W (evT Φ (.idx o i) d σ M) QS X = W (evE Φ o σ M) (fun x M1 => W (evE Φ i σ M1) (fun y M2 => W (setR x y d σ M2) QS X) (fun _ _ => False)) (fun _ _ => False) := V_Ti
theorem W_Tn : W (evTs Φ .nil [] σ M) QS X = QS σ M := V_Tn
theorem W_Tc {t ts d ds} : W (evTs Φ (.cons t ts) (d :: ds) σ M) QS X = W (evT Φ t d σ M) (fun σ1 M1 => W (evTs Φ ts ds σ1 M1) QS X) X := V_Tc
/-! statements -/
variable {QF : Fl → St → List Cell → Prop}
def Kq (Φ : Phi) (ss : Ss) (Q : Fl → St → List Cell → Prop) (X : Nat → List Cell → Prop) (f : Fl) (σ : St) (M : List Cell) : Prop := match f with
  | .nx => WQ (evSs Φ ss σ M) Q X
  | f => Q f σ M
theorem Kq_nx {ss} : Kq Φ ss QF X .nx σ M = WQ (evSs Φ ss σ M) QF X := rfl
theorem Kq_rt {ss d} : Kq Φ ss QF X (.rt d) σ M = QF (.rt d) σ M := rfl
theorem Kq_bk {ss} : Kq Φ ss QF X .bk σ M = QF .bk σ M := rfl
theorem Kq_ct {ss} : Kq Φ ss QF X .ct σ M = QF .ct σ M := rfl
theorem Q_nil : WQ (evSs Φ .nil σ M) QF X = QF .nx σ M := U_nil
theorem Q_cons {s ss} : WQ (evSs Φ (.cons s ss) σ M) QF X = WQ (evS Φ s σ M) (Kq Φ ss QF X) X := U_cons
theorem Q_expr {e} : WQ (evS Φ (.expr e) σ M) QF X = W (evE Φ e σ M) (fun _ M1 => QF .nx σ M1) X := U_expr
theorem Q_asg {t e} : WQ (evS Φ (.asg t e) σ M) QF X = W (evE Φ e σ M) (fun d M1 => W (evT Φ t d σ M1) (fun σ1 M2 => QF .nx σ1 M2) (fun _ _ => False)) X := U_asg
def aug (i : Nat) (op : Operator) (x : D) (σ : St) (y : D) (M : List Cell) (Q : St → List Cell → Prop) (X : Nat → List Cell → Prop) : Prop := match x, y with
  | .int a, .int b => W (bopI op (.int a) (.int b) M) (fun z M2 => Q (σ.set i (some z)) M2) X
  | _, _ => False
theorem aug_int {i op a b QS} : aug i op (.int a) σ (.int b) M QS X = W (bopI op (.int a) (.int b) M) (fun z M2 => QS (σ.set i (some z)) M2) X := augv_int
theorem Q_aug {i op e} : WQ (evS Φ (.aug i op e) σ M) QF X = gv σ i (fun x => W (evE Φ e σ M) (fun y M1 => aug i op x σ y M1 (QF .nx) X) X) := U_aug
theorem Q_ite {c a b} : WQ (evS Φ (.ite c a b) σ M) QF X = W (evE Φ c σ M) (fun k M1 => W (toBl k M1) (fun k M1 => if k = true then WQ (evSs Φ a σ M1) QF X else WQ (evSs Φ b σ M1) QF X) X) X := U_ite
theorem W_forS {t b x} : WQ (forS Φ t b x σ M) QF X = W (evT Φ t x σ M) (fun σ2 M3 => WQ (evSs Φ b σ2 M3) QF X) (fun _ _ => False) := V_forS
theorem Q_for {t it b} : WQ (evS Φ (.for t it b) σ M) QF X = W (evIt Φ it σ M) (fun xs M1 => WQ (forL (forS Φ t b) xs σ M1) QF X) X := U_for
theorem Q_whl {c b} : WQ (evS Φ (.whl c b) σ M) QF X = WQ (whlL (evE Φ c) (evSs Φ b) FUEL σ M) QF X := U_whl
theorem Q_ret {e} : WQ (evS Φ (.ret (.so e)) σ M) QF X = W (evE Φ e σ M) (fun d M1 => QF (.rt d) σ M1) X := U_ret
theorem Q_ret0 : WQ (evS Φ (.ret .no) σ M) QF X = QF (.rt .non) σ M := U_ret0
theorem Q_pass : WQ (evS Φ .pass σ M) QF X = QF .nx σ M := U_pass
theorem Q_brk : WQ (evS Φ .brk σ M) QF X = QF .bk σ M := U_brk
theorem Q_cont : WQ (evS Φ .cont σ M) QF X = QF .ct σ M := U_cont
theorem Q_raise {c} : WQ (evS Φ (.raise c) σ M) QF X = X c M := U_raise
/-- behind the body -/
theorem W_evD {ps n : Nat} {b : Ss} {ds : List D} : W (evD Φ ⟨ps, n, b⟩ ds M) Q X = (ds.length = ps ∧ WQ (evSs Φ b (start n ds) M) (retQ Q) X) := V_evD
/-! the operations -/
theorem W_add {m : Bool} {i j : Int} : W (bop m .Add (.int i) (.int j) M) Q X = Q (.int (i + j)) M := V_add
theorem W_sub {m : Bool} {i j : Int} : W (bop m .Sub (.int i) (.int j) M) Q X = Q (.int (i - j)) M := V_sub
theorem W_mul {m : Bool} {i j : Int} : W (bop m .Mult (.int i) (.int j) M) Q X = (mulOk i j = true ∧ Q (.int (i * j)) M) := V_mul
theorem W_mulI {i j : Int} : W (bopI .Mult (.int i) (.int j) M) Q X = (mulOk i j = true ∧ Q (.int (i * j)) M) := V_mulI
theorem W_addI {i j : Int} : W (bopI .Add (.int i) (.int j) M) Q X = Q (.int (i + j)) M := V_addI
theorem W_subI {i j : Int} : W (bopI .Sub (.int i) (.int j) M) Q X = Q (.int (i - j)) M := V_subI
theorem W_neg {i : Int} : W (uop .USub (.int i) M) Q X = Q (.int (-i)) M := V_neg
theorem W_not {b : Bool} : W (uop .Not (.bl b) M) Q X = Q (.bl (!b)) M := V_not
theorem W_lt {i j : Int} : W (cop .Lt (.int i) (.int j) M) Q X = Q (.bl (decide (i < j))) M := V_lt
theorem W_le {i j : Int} : W (cop .LtE (.int i) (.int j) M) Q X = Q (.bl (decide (i ≤ j))) M := V_le
theorem W_gt {i j : Int} : W (cop .Gt (.int i) (.int j) M) Q X = Q (.bl (decide (j < i))) M := V_gt
theorem W_ge {i j : Int} : W (cop .GtE (.int i) (.int j) M) Q X = Q (.bl (decide (j ≤ i))) M := V_ge
theorem W_eq {a b : D} : W (cop .Eq a b M) Q X = W (eqR a b M) Q X := V_eq
theorem W_ne {a b : D} : W (cop .NotEq a b M) Q X = W (neR a b M) Q X := V_ne
theorem W_is {a : D} : W (cop .Is a .non M) Q X = Q (.bl (isNon a)) M := V_is
theorem W_isnot {a : D} : W (cop .IsNot a .non M) Q X = Q (.bl (!isNon a)) M := V_isnot
theorem W_new0 {xs : List D} : W (new false xs M) Q X = (xs.length ≤ LIM ∧ Q (.lst xs) M) := V_new0
theorem W_new1 {xs : List D} : W (new true xs M) Q X = (xs.length ≤ LIM ∧ Q (.ref M.length) (M ++ [⟨true, .lst xs⟩])) := V_new1
theorem W_abs {i : Int} : W (bi .abs [.int i] M) Q X = Q (.int i.natAbs) M := V_abs
theorem W_max2 {i j : Int} : W (bi .max2 [.int i, .int j] M) Q X = Q (.int (max i j)) M := V_max2
theorem W_min2 {i j : Int} : W (bi .min2 [.int i, .int j] M) Q X = Q (.int (min i j)) M := V_min2
theorem W_fdiv {m : Bool} {i j : Int} : W (bop m .FloorDiv (.int i) (.int j) M) Q X = ((j ≠ 0 ∧ j.natAbs.log2 < 9000) ∧ Q (.int (i.fdiv j)) M) := V_fdiv
theorem W_div {m : Bool} {i j : Int} (h : 0 < j) (h2 : j.natAbs.log2 < 9000) : W (bop m .FloorDiv (.int i) (.int j) M) Q X = Q (.int (i / j)) M := V_div h h2
theorem W_mod {m : Bool} {i j : Int} (h : 0 < j) : W (bop m .Mod (.int i) (.int j) M) Q X = Q (.int (i % j)) M := V_mod h
theorem W_pow {m : Bool} {i j : Int} : W (bop m .Pow (.int i) (.int j) M) Q X = ((0 ≤ j ∧ j ≤ 1000000 ∧ i.natAbs < 2 ^ 64) ∧ Q (.int (i ^ j.toNat)) M) := V_pow
end
end
end Sg

/-! SgT: loops by invariants, sizes, calls. -/
namespace Sg
noncomputable section
open PySem PySem.Spec L2
/-! ### sizes -/
theorem log2_lt {n m : Nat} (h : n < 2 ^ m) : n.log2 ≤ m := by
  rcases Nat.eq_zero_or_pos n with e | e
  · subst e
    simp
  · have := (Nat.log2_lt (Nat.ne_of_gt e)).mpr h
    omega
/-- less than 2 ^ m -/
def Lt2 (i : Int) (m : Nat) : Prop := i.natAbs < 2 ^ m
theorem Lt2.mono {i : Int} {m n : Nat} (h : Lt2 i m) (k : m ≤ n) : Lt2 i n := Nat.lt_of_lt_of_le h (Nat.pow_le_pow_right (by decide) k)
theorem Lt2.neg {i : Int} {m : Nat} (h : Lt2 i m) : Lt2 (-i) m := by
  unfold Lt2 at *
  omega
theorem Lt2.add {i j : Int} {m : Nat} (h : Lt2 i m) (k : Lt2 j m) : Lt2 (i + j) (m + 1) := by
  unfold Lt2 at *
  rw [Nat.pow_succ]
  omega
theorem Lt2.sub {i j : Int} {m : Nat} (h : Lt2 i m) (k : Lt2 j m) : Lt2 (i - j) (m + 1) := by
  unfold Lt2 at *
  rw [Nat.pow_succ]
  omega
theorem Lt2.mul {i j : Int} {m n : Nat} (h : Lt2 i m) (k : Lt2 j n) : Lt2 (i * j) (m + n) := by
  unfold Lt2 at *
  rw [Int.natAbs_mul, Nat.pow_add]
  exact Nat.mul_lt_mul'' h k
theorem Lt2.le {i j : Int} {m : Nat} (h : Lt2 j m) (k : i.natAbs ≤ j.natAbs) : Lt2 i m := Nat.lt_of_le_of_lt k h
theorem lt2_zero {m : Nat} : Lt2 0 m := Nat.two_pow_pos m
theorem mulOk_of {i j : Int} {m n : Nat} (h : Lt2 i m) (k : Lt2 j n) (s : m + n < 1000000) : mulOk i j = true := by
  unfold mulOk
  have h1 := log2_lt h
  have h2 := log2_lt k
  rw [decide_eq_true_eq]
  omega
def dvOk (j : Int) : Bool := decide (j.natAbs.log2 < 9000)
theorem dvOk_of {j : Int} {m : Nat} (h : Lt2 j m) (s : m < 9000) : dvOk j = true := by
  unfold dvOk
  have h1 := log2_lt h
  rw [decide_eq_true_eq]
  omega
theorem lt2_lit {i : Int} (h : i.natAbs < 2037035976334486086268445688409378161051468393665936250636140449354381299763336706183397376) : Lt2 i 300 := by
  have e : (2037035976334486086268445688409378161051468393665936250636140449354381299763336706183397376 : Nat) = 2 ^ 300 := by decide
  rw [e] at h
  exact h
theorem mulOk_lit {i j : Int} (h : i.natAbs < 2037035976334486086268445688409378161051468393665936250636140449354381299763336706183397376) (k : j.natAbs < 2037035976334486086268445688409378161051468393665936250636140449354381299763336706183397376) : mulOk i j = true := mulOk_of (lt2_lit h) (lt2_lit k) (by decide)
section
variable {α : Type} {Φ : Phi} {σ : St} {M : List Cell} {X : Nat → List Cell → Prop} {Q : D → List Cell → Prop}
theorem W_div_lit {m : Bool} {i j : Int} (h : 0 < j) (k : j.natAbs < 2037035976334486086268445688409378161051468393665936250636140449354381299763336706183397376) : W (bop m .FloorDiv (.int i) (.int j) M) Q X = Q (.int (i / j)) M :=
  W_div h (of_decide_eq_true (dvOk_of (lt2_lit k) (by decide)))
theorem W_div_ok {m : Bool} {i j : Int} (h : 0 < j) (k : dvOk j = true) : W (bop m .FloorDiv (.int i) (.int j) M) Q X = Q (.int (i / j)) M := W_div h (of_decide_eq_true k)
theorem W_divI_ok {i j : Int} (h : 0 < j) (k : dvOk j = true) : W (bopI .FloorDiv (.int i) (.int j) M) Q X = Q (.int (i / j)) M := W_div (m := true) h (of_decide_eq_true k)
theorem W_divI_lit {i j : Int} (h : 0 < j) (k : j.natAbs < 2037035976334486086268445688409378161051468393665936250636140449354381299763336706183397376) : W (bopI .FloorDiv (.int i) (.int j) M) Q X = Q (.int (i / j)) M := W_divI_ok h (dvOk_of (lt2_lit k) (by decide))
theorem W_modI {i j : Int} (h : 0 < j) : W (bopI .Mod (.int i) (.int j) M) Q X = Q (.int (i % j)) M := W_mod (m := true) h
/-! ### tuples, lists by their place -/
theorem W_t0 {x : D} {r : List D} : W (idxD (.tup (x :: r)) (.int 0) M) Q X = Q x M := by
  have e : atI (x :: r) 0 = some x := atI_nat (j := 0) rfl
  show V (match atI (x :: r) 0 with | some d => R.ok d M | none => R.bad) Q X = _
  rw [e]; rfl
theorem W_t1 {x y : D} {r : List D} : W (idxD (.tup (x :: y :: r)) (.int 1) M) Q X = Q y M := by
  show V (idxD (.tup (x :: y :: r)) (.int 1) M) Q X = _
  have e : atI (x :: y :: r) 1 = some y := atI_nat (j := 1) rfl
  show V (match atI (x :: y :: r) 1 with | some d => R.ok d M | none => R.bad) Q X = _
  rw [e]; rfl
theorem W_t2 {x y z : D} {r : List D} : W (idxD (.tup (x :: y :: z :: r)) (.int 2) M) Q X = Q z M := by
  have e : atI (x :: y :: z :: r) 2 = some z := atI_nat (j := 2) rfl
  show V (match atI (x :: y :: z :: r) 2 with | some d => R.ok d M | none => R.bad) Q X = _
  rw [e]; rfl
theorem W_t3 {x y z a : D} {r : List D} : W (idxD (.tup (x :: y :: z :: a :: r)) (.int 3) M) Q X = Q a M := by
  have e : atI (x :: y :: z :: a :: r) 3 = some a := atI_nat (j := 3) rfl
  show V (match atI (x :: y :: z :: a :: r) 3 with | some d => R.ok d M | none => R.bad) Q X = _
  rw [e]; rfl
theorem W_l0 {x : D} {r : List D} : W (idxD (.lst (x :: r)) (.int 0) M) Q X = Q x M := W_t0
theorem W_l1 {x y : D} {r : List D} : W (idxD (.lst (x :: y :: r)) (.int 1) M) Q X = Q y M := W_t1
theorem W_l2 {x y z : D} {r : List D} : W (idxD (.lst (x :: y :: z :: r)) (.int 2) M) Q X = Q z M := W_t2
theorem W_l3 {x y z a : D} {r : List D} : W (idxD (.lst (x :: y :: z :: a :: r)) (.int 3) M) Q X = Q a M := W_t3
theorem W_at {a : D} {xs : List D} {i : Int} {d : D} (h : seqOf M a = some xs) (e : atI xs i = some d) : W (idxD a (.int i) M) Q X = Q d M := by
  show V (idxD a (.int i) M) Q X = _
  unfold idxD
  simp only [h, e]
  rfl
theorem W_nth {xs : List D} {i : Nat} {d : D} (e : xs[i]? = some d) : W (idxD (.lst xs) (.int i) M) Q X = Q d M := W_at (a := .lst xs) rfl (atI_nat e)
theorem W_nthM {β : Type} {f : β → D} {xs : List β} {i : Nat} (h : i < xs.length) : W (idxD (.lst (xs.map f)) (.int i) M) Q X = Q (f xs[i]) M := W_nth (by rw [List.getElem?_map, List.getElem?_eq_getElem h]; rfl)
theorem W_l4 {x y z a b : D} {r : List D} : W (idxD (.lst (x :: y :: z :: a :: b :: r)) (.int 4) M) Q X = Q b M := W_at (a := .lst (x :: y :: z :: a :: b :: r)) rfl (atI_nat (j := 4) rfl)
theorem W_l5 {x y z a b c : D} {r : List D} : W (idxD (.lst (x :: y :: z :: a :: b :: c :: r)) (.int 5) M) Q X = Q c M := W_at (a := .lst (x :: y :: z :: a :: b :: c :: r)) rfl (atI_nat (j := 5) rfl)
theorem W_l6 {x y z a b c d : D} {r : List D} : W (idxD (.lst (x :: y :: z :: a :: b :: c :: d :: r)) (.int 6) M) Q X = Q d M := W_at (a := .lst (x :: y :: z :: a :: b :: c :: d :: r)) rfl (atI_nat (j := 6) rfl)
theorem W_l7 {x y z a b c d e : D} {r : List D} : W (idxD (.lst (x :: y :: z :: a :: b :: c :: d :: e :: r)) (.int 7) M) Q X = Q e M := W_at (a := .lst (x :: y :: z :: a :: b :: c :: d :: e :: r)) rfl (atI_nat (j := 7) rfl)
theorem W_l8 {x y z a b c d e f : D} {r : List D} : W (idxD (.lst (x :: y :: z :: a :: b :: c :: d :: e :: f :: r)) (.int 8) M) Q X = Q f M := W_at (a := .lst (x :: y :: z :: a :: b :: c :: d :: e :: f :: r)) rfl (atI_nat (j := 8) rfl)
theorem W_l9 {x y z a b c d e f g : D} {r : List D} : W (idxD (.lst (x :: y :: z :: a :: b :: c :: d :: e :: f :: g :: r)) (.int 9) M) Q X = Q g M := W_at (a := .lst (x :: y :: z :: a :: b :: c :: d :: e :: f :: g :: r)) rfl (atI_nat (j := 9) rfl)
theorem W_lenL {xs : List D} : W (bi .len [.lst xs] M) Q X = Q (.int xs.length) M := rfl
theorem W_lenT {xs : List D} : W (bi .len [.tup xs] M) Q X = Q (.int xs.length) M := rfl
theorem W_lenF {xs : List D} : W (bi .len [.fro xs] M) Q X = Q (.int xs.length) M := rfl
theorem W_nthF {xs : List D} {i : Nat} {d : D} (e : xs[i]? = some d) : W (idxD (.fro xs) (.int i) M) Q X = Q d M := W_at (a := .fro xs) rfl (atI_nat e)
/-! ### loops -/
/-- what is asked behind a loop's turn -/
def lpQ (Q : Fl → St → List Cell → Prop) (N : St → List Cell → Prop) (f : Fl) (σ : St) (M : List Cell) : Prop := match f with
  | .nx => N σ M
  | .ct => N σ M
  | .bk => Q .nx σ M
  | .rt d => Q (.rt d) σ M
variable {QF : Fl → St → List Cell → Prop} {N : St → List Cell → Prop}
theorem lp_nx : lpQ QF N .nx σ M = N σ M := rfl
theorem lp_ct : lpQ QF N .ct σ M = N σ M := rfl
theorem lp_bk : lpQ QF N .bk σ M = QF .nx σ M := rfl
theorem lp_rt {d : D} : lpQ QF N (.rt d) σ M = QF (.rt d) σ M := rfl
theorem VQ_turn {q : Qr} {f : St → List Cell → Qr} : VQ (q.turn f) QF X = VQ q (lpQ QF fun σ M => VQ (f σ M) QF X) X := by
  cases q with
  | ok fl σ M => cases fl <;> rfl
  | exc c σ M => rfl
  | bad => rfl
theorem lpQ_mono {N' : St → List Cell → Prop} {f : Fl} (h : lpQ QF N f σ M) (k : ∀ σ M, N σ M → N' σ M) : lpQ QF N' f σ M := by
  cases f <;> first | exact k _ _ h | exact h
/-- a for: I i: what holds ahead of turn i -/
theorem for_inv {step : D → St → List Cell → Qr} : ∀ {xs : List D} {σ : St} {M : List Cell} (I : Nat → St → List Cell → Prop), I 0 σ M →
    (∀ i x σ M, xs[i]? = some x → I i σ M → WQ (step x σ M) (lpQ QF (I (i + 1))) X) → (∀ σ M, I xs.length σ M → QF .nx σ M) → WQ (forL step xs σ M) QF X
  | [], σ, M, I, h0, _, he => he _ _ h0
  | x :: xs, σ, M, I, h0, hs, he => by
    show VQ (Qr.turn _ _) QF X
    rw [VQ_turn]
    refine VQ_mono (hs 0 x σ M rfl h0) (fun f σ' M' h => lpQ_mono h fun σ2 M2 h2 => ?_) fun _ _ h => h
    exact for_inv (fun i => I (i + 1)) h2 (fun i x σ M hx hi => hs (i + 1) x σ M (by rw [List.getElem?_cons_succ]; exact hx) hi) he
theorem for_map {β : Type} {f : β → D} {step : D → St → List Cell → Qr} {xs : List β} {σ : St} {M : List Cell} (I : Nat → St → List Cell → Prop) (h0 : I 0 σ M)
    (hs : ∀ i (h : i < xs.length) σ M, I i σ M → WQ (step (f xs[i]) σ M) (lpQ QF (I (i + 1))) X) (he : ∀ σ M, I xs.length σ M → QF .nx σ M) : WQ (forL step (xs.map f) σ M) QF X := by
  refine for_inv I h0 (fun i x σ M hx hi => ?_) (fun σ M h => he σ M (by rw [List.length_map] at h; exact h))
  rw [List.getElem?_map] at hx
  cases e : xs[i]? with
  | none => rw [e] at hx; cases hx
  | some y =>
    rw [e] at hx
    obtain ⟨h, e2⟩ := List.getElem?_eq_some_iff.mp e
    have e3 : f y = x := Option.some.inj hx
    have := hs i h σ M hi
    rw [e2, e3] at this
    exact this
theorem upTo_eq {lo : Int} {n : Nat} : upTo lo n = (List.range n).map fun i : Nat => D.int (lo + (i : Int)) := rfl
theorem for_upTo {lo : Int} {n : Nat} {step : D → St → List Cell → Qr} {σ : St} {M : List Cell} (I : Nat → St → List Cell → Prop) (h0 : I 0 σ M)
    (hs : ∀ i, i < n → ∀ σ M, I i σ M → WQ (step (.int (lo + i)) σ M) (lpQ QF (I (i + 1))) X) (he : ∀ σ M, I n σ M → QF .nx σ M) : WQ (forL step (upTo lo n) σ M) QF X := by
  rw [upTo_eq]
  refine for_map I h0 (fun i h σ M hi => ?_) (fun σ M h => he σ M (by rw [List.length_range] at h; exact h))
  rw [List.getElem_range]
  rw [List.length_range] at h
  exact hs i h σ M hi
theorem for_up0 {n : Nat} {step : D → St → List Cell → Qr} {σ : St} {M : List Cell} (I : Nat → St → List Cell → Prop) (h0 : I 0 σ M)
    (hs : ∀ i, i < n → ∀ σ M, I i σ M → WQ (step (.int i) σ M) (lpQ QF (I (i + 1))) X) (he : ∀ σ M, I n σ M → QF .nx σ M) : WQ (forL step (upTo 0 n) σ M) QF X :=
  for_upTo I h0 (fun i h σ M hi => by rw [Int.zero_add]; exact hs i h σ M hi) he
/-- a while: I n: what holds with at most n turns to come -/
theorem whl_inv {test : St → List Cell → R D} {body : St → List Cell → Qr} (I : Nat → St → List Cell → Prop)
    (hs : ∀ n σ M, I n σ M → W (test σ M) (fun k M1 => W (toBl k M1) (fun k M1 => if k = true then WQ (body σ M1) (lpQ QF fun σ' M' => ∃ m, m < n ∧ I m σ' M') X else QF .nx σ M1) X) X) :
    ∀ {F n : Nat} {σ : St} {M : List Cell}, n < F → I n σ M → WQ (whlL test body F σ M) QF X
  | 0, n, σ, M, h, _ => absurd h (Nat.not_lt_zero _)
  | F + 1, n, σ, M, h, hi => by
    have h1 : V (test σ M) (fun k M1 => V (toBl k M1) (fun k M1 => if k = true then VQ (body σ M1) (lpQ QF fun σ' M' => ∃ m, m < n ∧ I m σ' M') X else QF .nx σ M1) X) X := hs n σ M hi
    show VQ (whlL test body (F + 1) σ M) QF X
    unfold whlL
    rw [V_st, V_bind]
    have key : ∀ k M1, (if k = true then VQ (body σ M1) (lpQ QF fun σ' M' => ∃ m, m < n ∧ I m σ' M') X else QF .nx σ M1) → VQ (if k = true then (body σ M1).turn fun σ2 M2 => whlL test body F σ2 M2 else .ok .nx σ M1) QF X := fun k M1 hk => by
      cases k with
      | false => exact hk
      | true =>
        show VQ (Qr.turn _ _) QF X
        rw [VQ_turn]
        exact VQ_mono hk (fun f σ' M' h2 => lpQ_mono h2 fun σ2 M2 ⟨m, hm, h3⟩ => whl_inv I hs (F := F) (n := m) (by omega) h3) fun _ _ h => h
    revert h1
    cases test σ M with
    | ok d M1 =>
      intro h1
      show V (toBl d M1) _ X
      have h2 : V (toBl d M1) (fun k M1 => if k = true then VQ (body σ M1) (lpQ QF fun σ' M' => ∃ m, m < n ∧ I m σ' M') X else QF .nx σ M1) X := h1
      revert h2
      cases toBl d M1 with
      | ok k M2 => exact key k M2
      | exc c M2 => exact fun h => h
      | bad => exact fun h => h
    | exc c M1 => exact fun h => h
    | bad => exact fun h => h
theorem whl_fuel {test : St → List Cell → R D} {body : St → List Cell → Qr} {n : Nat} (I : Nat → St → List Cell → Prop) (h0 : I n σ M) (hn : n < 2 ^ 20000)
    (hs : ∀ n σ M, I n σ M → W (test σ M) (fun k M1 => W (toBl k M1) (fun k M1 => if k = true then WQ (body σ M1) (lpQ QF fun σ' M' => ∃ m, m < n ∧ I m σ' M') X else QF .nx σ M1) X) X) :
    WQ (whlL test body FUEL σ M) QF X := whl_inv I hs (by unfold FUEL; exact hn) h0
/-! ### a statement with what holds behind it -/
def midQ (N : St → List Cell → Prop) (Q : Fl → St → List Cell → Prop) (f : Fl) (σ : St) (M : List Cell) : Prop := match f with
  | .nx => N σ M
  | f => Q f σ M
theorem mid_nx : midQ N QF .nx σ M = N σ M := rfl
theorem mid_ct : midQ N QF .ct σ M = QF .ct σ M := rfl
theorem mid_bk : midQ N QF .bk σ M = QF .bk σ M := rfl
theorem mid_rt {d : D} : midQ N QF (.rt d) σ M = QF (.rt d) σ M := rfl
theorem seq_mid {s : S} {ss : Ss} (N : St → List Cell → Prop) (h : WQ (evS Φ s σ M) (midQ N QF) X) (k : ∀ σ' M', N σ' M' → WQ (evSs Φ ss σ' M') QF X) : WQ (evSs Φ (.cons s ss) σ M) QF X := by
  rw [Q_cons]
  refine VQ_mono h (fun f σ' M' hf => ?_) fun _ _ h => h
  cases f with
  | nx => exact k σ' M' hf
  | _ => exact hf
/-! ### comprehensions -/
theorem comp_inv {step : D → List Cell → R (Option D)} {g : D → Option D} : ∀ {xs : List D}, (∀ x ∈ xs, W (step x M) (fun y M' => y = g x ∧ M' = M) fun _ _ => False) → compL step xs M = .ok (xs.filterMap g) M
  | [], _ => rfl
  | x :: xs, h => by
    have h1 : V (step x M) (fun y M' => y = g x ∧ M' = M) fun _ _ => False := h x List.mem_cons_self
    have h2 := comp_inv (step := step) (g := g) (xs := xs) fun y hy => h y (List.mem_cons_of_mem _ hy)
    unfold compL
    revert h1
    cases step x M with
    | ok y M1 =>
      intro h1
      obtain ⟨rfl, rfl⟩ := h1
      simp only [R.nox_ok, R.bind_ok, h2, List.filterMap_cons]
      cases g x <;> rfl
    | exc c M1 => exact fun h => h.elim
    | bad => exact fun h => h.elim
theorem W_compM {β : Type} {f g : β → D} {step : D → List Cell → R (Option D)} {xs : List β} {QL : List D → List Cell → Prop}
    (h : ∀ x ∈ xs, W (step (f x) M) (fun y M' => y = some (g x) ∧ M' = M) fun _ _ => False) (hq : QL (xs.map g) M) : W (compL step (xs.map f) M) QL X := by
  have key : ∀ ys : List β, (∀ x ∈ ys, x ∈ xs) → compL step (ys.map f) M = .ok (ys.map g) M := fun ys => by
    induction ys with
    | nil => exact fun _ => rfl
    | cons y ys ih =>
      intro hy
      have h1 : V (step (f y) M) (fun z M' => z = some (g y) ∧ M' = M) fun _ _ => False := h y (hy y List.mem_cons_self)
      have h2 := ih fun z hz => hy z (List.mem_cons_of_mem _ hz)
      rw [List.map_cons, compL]
      revert h1
      cases step (f y) M with
      | ok z M1 =>
        intro h1
        obtain ⟨rfl, rfl⟩ := h1
        simp only [R.nox_ok, R.bind_ok, h2, List.map_cons]
      | exc c M1 => exact fun h => h.elim
      | bad => exact fun h => h.elim
  show V _ QL X
  rw [key xs fun _ h => h]
  exact hq
theorem W_compL {g : D → D} {step : D → List Cell → R (Option D)} {xs : List D} {QL : List D → List Cell → Prop}
    (h : ∀ x ∈ xs, W (step x M) (fun y M' => y = some (g x) ∧ M' = M) fun _ _ => False) (hq : QL (xs.map g) M) : W (compL step xs M) QL X := by
  have := W_compM (f := id) (g := g) (step := step) (xs := xs) (X := X) (QL := QL) h hq
  rw [List.map_id] at this
  exact this
/-! ### calls -/
/-- the call of trees: it returns r -/
abbrev Rt (Φ : Phi) (f : Nat) (ds : List D) (r : D) : Prop := ∀ M, callD Φ f 0 ds M = .ok r M
abbrev Xc (Φ : Phi) (f : Nat) (ds : List D) (c : Nat) : Prop := ∀ M, callD Φ f 0 ds M = .exc c M
theorem rt_of {Φ Φ' : Phi} {f : Nat} {d : Df} {ds : List D} {r : D} (e : Φ' f = evD Φ d) (hi : isImms ds = true) (h : W (evD Φ d ds []) (fun x M => imm M x = some r) fun _ _ => False) : Rt Φ' f ds r := fun M => by
  unfold callD
  have h : V (evD Φ d ds []) (fun x M => imm M x = some r) fun _ _ => False := h
  simp only [hi, if_true, e]
  revert h
  cases evD Φ d ds [] with
  | ok x M1 =>
    intro h
    have h : imm M1 x = some r := h
    simp only [h]
  | exc c M1 => exact fun h => h.elim
  | bad => exact fun h => h.elim
theorem xc_of {Φ Φ' : Phi} {f : Nat} {d : Df} {ds : List D} {c : Nat} (e : Φ' f = evD Φ d) (hi : isImms ds = true) (h : W (evD Φ d ds []) (fun _ _ => False) fun c' _ => c' = c) : Xc Φ' f ds c := fun M => by
  unfold callD
  have h : V (evD Φ d ds []) (fun _ _ => False) fun c' _ => c' = c := h
  simp only [hi, if_true, e]
  revert h
  cases evD Φ d ds [] with
  | ok x M1 => exact fun h => h.elim
  | exc c' M1 =>
    intro h
    have h : c' = c := h
    rw [h]
  | bad => exact fun h => h.elim
theorem W_rt {f : Nat} {ds : List D} {r : D} (h : Rt Φ f ds r) : W (callD Φ f 0 ds M) Q X = Q r M := by
  show V _ Q X = _
  rw [h M]; rfl
theorem W_xc {f : Nat} {ds : List D} {c : Nat} (h : Xc Φ f ds c) : W (callD Φ f 0 ds M) Q X = X c M := by
  show V _ Q X = _
  rw [h M]; rfl
/-- a call whose value is a tree: mode 0 and imm of a tree -/
theorem imm_nil {d : D} (h : isImm d = true) : imm M d = some d := imm_of h
/-! ### == -/
theorem eqR_of {a b : D} {k : Bool} (h : eqD M a b = some k) : W (eqR a b M) Q X = Q (.bl k) M := by
  show V (eqR a b M) Q X = _
  unfold eqR
  rw [h]; rfl
theorem neR_of {a b : D} {k : Bool} (h : eqD M a b = some k) : W (neR a b M) Q X = Q (.bl (!k)) M := by
  show V (neR a b M) Q X = _
  unfold neR
  rw [h]; rfl
theorem imm_int {i : Int} : imm M (.int i) = some (.int i) := imm_of rfl
theorem eqD_int {i j : Int} : eqD M (.int i) (.int j) = some (decide (i = j)) := by
  unfold eqD
  rw [imm_int, imm_int]
  simp only [Option.bind_some, toPy]
  rw [if_pos ⟨rfl, rfl⟩]
  rfl
theorem W_eqI {i j : Int} : W (eqR (.int i) (.int j) M) Q X = Q (.bl (decide (i = j))) M := eqR_of eqD_int
theorem W_neI {i j : Int} : W (neR (.int i) (.int j) M) Q X = Q (.bl (!decide (i = j))) M := neR_of eqD_int
/-! ### what the small heap holds -/
def mcell (M : List Cell) (i : Nat) (P : List D → Prop) : Prop := match M, i with
  | ⟨true, .lst xs⟩ :: _, 0 => P xs
  | _ :: r, i + 1 => mcell r i P
  | _, _ => False
theorem mcell0 {xs : List D} {r : List Cell} {P : List D → Prop} : mcell (⟨true, .lst xs⟩ :: r) 0 P = P xs := rfl
theorem mcells {c : Cell} {r : List Cell} {i : Nat} {P : List D → Prop} : mcell (c :: r) (i + 1) P = mcell r i P := by
  obtain ⟨m, d⟩ := c
  cases m <;> cases d <;> rfl
theorem mcell_eq : ∀ {M : List Cell} {i : Nat} {P : List D → Prop}, (match M[i]? with | some ⟨true, .lst xs⟩ => P xs | _ => False) = mcell M i P
  | [], i, P => by cases i <;> rfl
  | ⟨m, d⟩ :: r, 0, P => by cases m <;> cases d <;> rfl
  | ⟨m, d⟩ :: r, i + 1, P => by
    rw [List.getElem?_cons_succ, mcell_eq (M := r)]
    exact mcells.symm
theorem W_append {i : Nat} {d : D} : W (meth .append (.ref i) [d] M) Q X = mcell M i fun xs => xs.length < LIM ∧ Q .non (M.set i ⟨true, .lst (xs ++ [d])⟩) := by
  rw [← mcell_eq]
  show V (match M[i]? with
    | some ⟨true, .lst xs⟩ => if xs.length < LIM then R.ok .non (M.set i ⟨true, .lst (xs ++ [d])⟩) else .bad
    | _ => .bad) Q X = _
  cases M[i]? with
  | none => rfl
  | some c =>
    obtain ⟨m, dd⟩ := c
    cases m with
    | false => rfl
    | true =>
      cases dd <;> first | rfl | skip
      rename_i xs
      show V (if xs.length < LIM then _ else _) Q X = (xs.length < LIM ∧ _)
      split <;> simp [V, *]
theorem content_ref0 {m : Bool} {xs : List D} : content (⟨m, .lst xs⟩ :: M) (.ref 0) = some xs := rfl
theorem content_refs {c : Cell} {i : Nat} : content (c :: M) (.ref (i + 1)) = content M (.ref i) := rfl
theorem content_lst {xs : List D} : content M (.lst xs) = some xs := rfl
theorem imm_cell {i : Nat} {m : Bool} {xs : List D} (h : M[i]? = some ⟨m, .lst xs⟩) (k : isImm (.lst xs) = true) : imm M (.ref i) = some (.lst xs) := by
  unfold imm
  have hl : i < M.length := by
    rcases Nat.lt_or_ge i M.length with h1 | h1
    · exact h1
    · rw [List.getElem?_eq_none h1] at h
      cases h
  cases e : M.length with
  | zero => omega
  | succ n =>
    unfold immF
    rw [mapRef, h]
    exact immF_of k
theorem isImms_map {β : Type} {f : β → D} (h : ∀ x, isImm (f x) = true) : ∀ xs : List β, isImms (xs.map f) = true
  | [] => rfl
  | x :: xs => by
    rw [List.map_cons, isImms, h x, isImms_map h xs]
    rfl
theorem isImms_mem {ds : List D} (h : ∀ x ∈ ds, isImm x = true) : isImms ds = true := by
  induction ds with
  | nil => rfl
  | cons x xs ih =>
    rw [isImms, h x List.mem_cons_self, ih fun y hy => h y (List.mem_cons_of_mem _ hy)]
    rfl
theorem isImms_append {ds es : List D} : isImms (ds ++ es) = (isImms ds && isImms es) := by
  induction ds with
  | nil => rfl
  | cons x xs ih => rw [List.cons_append, isImms, isImms, ih, Bool.and_assoc]
variable {QL : List D → List Cell → Prop}
theorem valR_lst {xs : List D} : W (valR (.lst xs) M) QL X = QL xs M := rfl
theorem valR_tup {xs : List D} : W (valR (.tup xs) M) QL X = QL xs M := rfl
theorem valR_fro {xs : List D} : W (valR (.fro xs) M) QL X = QL xs M := rfl
theorem valR_ref {xs : List D} {i : Nat} {m : Bool} (h : M[i]? = some ⟨m, .lst xs⟩) : W (valR (.ref i) M) QL X = QL xs (M.set i ⟨false, .lst xs⟩) := by
  show V _ QL X = _
  have e1 : seqOf M (.ref i) = some xs := by
    show listOf M (.ref i) = some xs
    show (match M[i]? with
      | some ⟨_, .lst xs⟩ => some xs
      | _ => none) = some xs
    rw [h]
  have e2 : stop1 (.ref i) M = M.set i ⟨false, .lst xs⟩ := by
    show (match M[i]? with
      | some ⟨_, .lst xs⟩ => M.set i ⟨false, .lst xs⟩
      | _ => M) = _
    rw [h]
  unfold valR
  rw [e1, e2]
  rfl
theorem lstR_lst {f : List D → List D} {xs : List D} : W (lstR f (.lst xs) M) QL X = QL (f xs) M := rfl
theorem lstR_fro {f : List D → List D} {xs : List D} : W (lstR f (.fro xs) M) QL X = QL (f xs) M := rfl
theorem zipR_lst {xs ys : List D} : W (zipR (.lst xs) (.lst ys) M) QL X = QL (zipD xs ys) M := rfl
/-! ### enumerate -/
theorem enumD_get : ∀ {xs : List D} {n i : Nat}, (enumD n xs)[i]? = (xs[i]?).map fun x => .tup [.int ((n + i : Nat) : Int), x]
  | [], n, i => rfl
  | x :: xs, n, 0 => rfl
  | x :: xs, n, i + 1 => by
    rw [enumD, List.getElem?_cons_succ, List.getElem?_cons_succ, enumD_get, show n + 1 + i = n + (i + 1) by omega]
theorem enumD_len : ∀ {xs : List D} {n : Nat}, (enumD n xs).length = xs.length
  | [], n => rfl
  | x :: xs, n => by rw [enumD, List.length_cons, List.length_cons, enumD_len]
theorem for_enum {β : Type} {f : β → D} {step : D → St → List Cell → Qr} {xs : List β} {σ : St} {M : List Cell} (I : Nat → St → List Cell → Prop) (h0 : I 0 σ M)
    (hs : ∀ i (h : i < xs.length) σ M, I i σ M → WQ (step (.tup [.int i, f xs[i]]) σ M) (lpQ QF (I (i + 1))) X) (he : ∀ σ M, I xs.length σ M → QF .nx σ M) : WQ (forL step (enumD 0 (xs.map f)) σ M) QF X := by
  refine for_inv I h0 (fun i x σ M hx hi => ?_) (fun σ M h => he σ M (by rw [enumD_len, List.length_map] at h; exact h))
  rw [enumD_get, List.getElem?_map] at hx
  cases e : xs[i]? with
  | none => rw [e] at hx; cases hx
  | some y =>
    rw [e] at hx
    obtain ⟨h, e2⟩ := List.getElem?_eq_some_iff.mp e
    have e3 : D.tup [.int ((0 + i : Nat) : Int), f y] = x := Option.some.inj hx
    have := hs i h σ M hi
    rw [Nat.zero_add] at e3
    rw [e2, e3] at this
    exact this
/-! ### some value -/
theorem rt_ex {Φ Φ' : Phi} {f : Nat} {d : Df} {ds : List D} {P : D → Prop} (e : Φ' f = evD Φ d) (hi : isImms ds = true) (h : W (evD Φ d ds []) (fun x M => ∃ r, imm M x = some r ∧ P r) fun _ _ => False) : ∃ r, P r ∧ Rt Φ' f ds r := by
  have h2 : V (evD Φ d ds []) (fun x M => ∃ r, imm M x = some r ∧ P r) fun _ _ => False := h
  cases q : evD Φ d ds [] with
  | ok x M1 =>
    rw [q] at h2
    obtain ⟨r, h3, h4⟩ := h2
    refine ⟨r, h4, rt_of e hi ?_⟩
    show V (evD Φ d ds []) _ _
    rw [q]
    exact h3
  | exc c M1 =>
    rw [q] at h2
    exact h2.elim
  | bad =>
    rw [q] at h2
    exact h2.elim
theorem isi_int_int {i : Int} : W (W_isiR .int (.int i) M) Q X = Q (.bl true) M := rfl
theorem isi_int_bool {i : Int} : W (W_isiR .bool (.int i) M) Q X = Q (.bl false) M := rfl
theorem isi_int_str {i : Int} : W (W_isiR .str (.int i) M) Q X = Q (.bl false) M := rfl
theorem isi_int_list {i : Int} : W (W_isiR .list (.int i) M) Q X = Q (.bl false) M := rfl
theorem isi_int_tuple {i : Int} : W (W_isiR .tuple (.int i) M) Q X = Q (.bl false) M := rfl
theorem isi_bl_int {b : Bool} : W (W_isiR .int (.bl b) M) Q X = Q (.bl true) M := rfl
theorem isi_bl_bool {b : Bool} : W (W_isiR .bool (.bl b) M) Q X = Q (.bl true) M := rfl
theorem isi_bl_str {b : Bool} : W (W_isiR .str (.bl b) M) Q X = Q (.bl false) M := rfl
theorem isi_bl_list {b : Bool} : W (W_isiR .list (.bl b) M) Q X = Q (.bl false) M := rfl
theorem isi_bl_tuple {b : Bool} : W (W_isiR .tuple (.bl b) M) Q X = Q (.bl false) M := rfl
theorem isi_str_int {x : Str} : W (W_isiR .int (.str x) M) Q X = Q (.bl false) M := rfl
theorem isi_str_bool {x : Str} : W (W_isiR .bool (.str x) M) Q X = Q (.bl false) M := rfl
theorem isi_str_str {x : Str} : W (W_isiR .str (.str x) M) Q X = Q (.bl true) M := rfl
theorem isi_str_list {x : Str} : W (W_isiR .list (.str x) M) Q X = Q (.bl false) M := rfl
theorem isi_str_tuple {x : Str} : W (W_isiR .tuple (.str x) M) Q X = Q (.bl false) M := rfl
theorem isi_tup_int {xs : List D} : W (W_isiR .int (.tup xs) M) Q X = Q (.bl false) M := rfl
theorem isi_tup_bool {xs : List D} : W (W_isiR .bool (.tup xs) M) Q X = Q (.bl false) M := rfl
theorem isi_tup_str {xs : List D} : W (W_isiR .str (.tup xs) M) Q X = Q (.bl false) M := rfl
theorem isi_tup_list {xs : List D} : W (W_isiR .list (.tup xs) M) Q X = Q (.bl false) M := rfl
theorem isi_tup_tuple {xs : List D} : W (W_isiR .tuple (.tup xs) M) Q X = Q (.bl true) M := rfl
theorem isi_lst_int {xs : List D} : W (W_isiR .int (.lst xs) M) Q X = Q (.bl false) M := rfl
theorem isi_lst_bool {xs : List D} : W (W_isiR .bool (.lst xs) M) Q X = Q (.bl false) M := rfl
theorem isi_lst_str {xs : List D} : W (W_isiR .str (.lst xs) M) Q X = Q (.bl false) M := rfl
theorem isi_lst_list {xs : List D} : W (W_isiR .list (.lst xs) M) Q X = Q (.bl true) M := rfl
theorem isi_lst_tuple {xs : List D} : W (W_isiR .tuple (.lst xs) M) Q X = Q (.bl false) M := rfl
theorem isi_non_int  : W (W_isiR .int (.non) M) Q X = Q (.bl false) M := rfl
theorem isi_non_bool  : W (W_isiR .bool (.non) M) Q X = Q (.bl false) M := rfl
theorem isi_non_str  : W (W_isiR .str (.non) M) Q X = Q (.bl false) M := rfl
theorem isi_non_list  : W (W_isiR .list (.non) M) Q X = Q (.bl false) M := rfl
theorem isi_non_tuple  : W (W_isiR .tuple (.non) M) Q X = Q (.bl false) M := rfl
/-! ### sizes, once more -/
theorem Lt2.add' {i j : Int} {m n : Nat} (h : Lt2 i m) (k : Lt2 j n) : Lt2 (i + j) (m + n + 1) := (h.mono (Nat.le_add_right m n)).add (k.mono (Nat.le_add_left n m))
theorem Lt2.sub' {i j : Int} {m n : Nat} (h : Lt2 i m) (k : Lt2 j n) : Lt2 (i - j) (m + n + 1) := (h.mono (Nat.le_add_right m n)).sub (k.mono (Nat.le_add_left n m))
theorem Lt2.mod {i j : Int} {m : Nat} (h : 0 < j) (k : Lt2 j m) : Lt2 (i % j) m := by
  unfold Lt2 at *
  have h1 := Int.emod_nonneg i (Int.ne_of_gt h)
  have h2 := Int.emod_lt_of_pos i h
  omega
theorem Lt2.ediv {a b : Int} {m : Nat} (h : Lt2 a m) : Lt2 (a / b) m := by
  unfold Lt2 at *
  exact Nat.lt_of_le_of_lt (Int.natAbs_ediv_le_natAbs a b) h
theorem lt2_nat {i m : Nat} (h : i < 2 ^ m) : Lt2 (i : Int) m := by
  unfold Lt2
  rw [Int.natAbs_natCast]
  exact h
theorem W_intB {b : Bool} : W (bi .int [.bl b] M) Q X = Q (.int (if b = true then 1 else 0)) M := rfl
theorem W_intI {i : Int} : W (bi .int [.int i] M) Q X = Q (.int i) M := rfl
theorem W_listL {m : Bool} {xs : List D} : W (bi (.list m) [.lst xs] M) Q X = W (new m xs M) Q X := rfl
theorem W_listT {m : Bool} {xs : List D} : W (bi (.list m) [.tup xs] M) Q X = W (new m xs M) Q X := rfl
theorem W_addL {m : Bool} {xs ys : List D} : W (bop m .Add (.lst xs) (.lst ys) M) Q X = W (new m (xs ++ ys) M) Q X := rfl
theorem W_slcL {m : Bool} {xs : List D} {lo hi : Option Int} : W (slcD m (.lst xs) lo hi M) Q X = W (new m (cutL xs lo hi) M) Q X := rfl
theorem W_addT {m : Bool} {x y : D} {xs ys : List D} : W (bop m .Add (.tup (x :: xs)) (.tup (y :: ys)) M) Q X = (xs.length + 1 + (ys.length + 1) ≤ LIM ∧ Q (.tup (x :: xs ++ y :: ys)) M) := by
  show V (if (x :: xs).length + (y :: ys).length ≤ LIM then R.ok (.tup (x :: xs ++ y :: ys)) M else R.bad) Q X = _
  rw [List.length_cons, List.length_cons]
  split <;> simp [V, *]
/-- a law's end -/
theorem law_of {r : R D} (h : W r (fun d _ => d = .bl true) fun _ _ => False) : ∃ M, r = .ok (.bl true) M := by
  have h : V r (fun d _ => d = .bl true) fun _ _ => False := h
  cases r with
  | ok d M =>
    have h : d = .bl true := h
    exact ⟨M, by rw [h]⟩
  | exc c M => exact h.elim
  | bad => exact h.elim
end
end
end Sg

/-! SgEq: == of data without truths is equality; fractions as data. -/
namespace Sg
noncomputable section
open PySem PySem.Spec L2
def pu0 : D → Bool
  | .non => true
  | .int _ => true
  | .str x => PyData.strOk x
  | _ => false
/-- no truth, no place; at most so deep -/
def pu : Nat → D → Bool
  | 0, d => pu0 d
  | n + 1, .tup xs => xs.all (pu n)
  | n + 1, .lst xs => xs.all (pu n)
  | _ + 1, d => pu0 d
theorem toPys_cons {x : D} {xs : List D} : toPys (x :: xs) = (toPy x).bind fun a => (toPys xs).map fun b => a :: b := by rw [toPys]
/-- what is asked of == 's data -/
def Dat (n : Nat) (d : D) (x : PyData) : Prop := toPy d = some x ∧ x.canLay0 = true ∧ x.depth ≤ n ∧ isImm d = true
theorem pu0_dat {d : D} (h : pu0 d = true) : ∃ x, Dat 0 d x := by
  cases d <;> first | (cases h; done) | skip
  · exact ⟨.none, rfl, rfl, Nat.le_refl _, rfl⟩
  · rename_i i
    exact ⟨.int i, rfl, rfl, Nat.le_refl _, rfl⟩
  · rename_i x
    exact ⟨.str x, rfl, h, Nat.le_refl _, rfl⟩
theorem pu_dats {n : Nat} (ih : ∀ d, pu n d = true → ∃ x, Dat n d x) : ∀ {xs : List D}, xs.all (pu n) = true → ∃ ys, toPys xs = some ys ∧ PyData.canLayAll0 ys = true ∧ PyData.depthAll ys ≤ n ∧ isImms xs = true
  | [], _ => ⟨[], rfl, rfl, Nat.zero_le _, rfl⟩
  | x :: xs, h => by
    rw [List.all_cons, Bool.and_eq_true] at h
    obtain ⟨y, h1, h2, h3, h4⟩ := ih x h.1
    obtain ⟨ys, k1, k2, k3, k4⟩ := pu_dats ih h.2
    refine ⟨y :: ys, ?_, ?_, ?_, ?_⟩
    · rw [toPys_cons, h1, k1]; rfl
    · rw [PyData.canLayAll0, h2, k2]; rfl
    · rw [PyData.depthAll]
      omega
    · rw [isImms, h4, k4]; rfl
theorem pu_dat : ∀ {n : Nat} {d : D}, pu n d = true → ∃ x, Dat n d x
  | 0, d, h => pu0_dat h
  | n + 1, d, h => by
    have low : pu0 d = true → ∃ x, Dat (n + 1) d x := fun h => by
      obtain ⟨x, h1, h2, h3, h4⟩ := pu0_dat h
      exact ⟨x, h1, h2, by omega, h4⟩
    cases d with
    | tup xs =>
      obtain ⟨ys, h1, h2, h3, h4⟩ := pu_dats (fun d => pu_dat) (show xs.all (pu n) = true from h)
      refine ⟨.tuple ys, ?_, ?_, ?_, ?_⟩
      · rw [toPy, h1]; rfl
      · rw [PyData.canLay0]; exact h2
      · rw [PyData.depth]; omega
      · rw [isImm]; exact h4
    | lst xs =>
      obtain ⟨ys, h1, h2, h3, h4⟩ := pu_dats (fun d => pu_dat) (show xs.all (pu n) = true from h)
      refine ⟨.list ys, ?_, ?_, ?_, ?_⟩
      · rw [toPy, h1]; rfl
      · rw [PyData.canLay0]; exact h2
      · rw [PyData.depth]; omega
      · rw [isImm]; exact h4
    | non => exact low h
    | int i => exact low h
    | str x => exact low h
    | bl b => cases h
    | fro xs => cases h
    | dct t ks vs => cases h
    | exo a => cases h
    | ktp xs => cases h
    | ref i => cases h
theorem eqv_list {n : Nat} (ih : ∀ a b x y, pu n a = true → pu n b = true → toPy a = some x → toPy b = some y → (PyData.eqv x y = true ↔ a = b)) :
    ∀ {as bs : List D} {xs ys : List PyData}, as.all (pu n) = true → bs.all (pu n) = true → toPys as = some xs → toPys bs = some ys → (PyData.eqvAll xs ys = true ↔ as = bs)
  | [], [], xs, ys, _, _, h1, h2 => by
    cases h1; cases h2
    rw [PyData.eqvAll]
    exact ⟨fun _ => rfl, fun _ => rfl⟩
  | [], b :: bs, xs, ys, _, hb, h1, h2 => by
    cases h1
    rw [toPys_cons] at h2
    cases e1 : toPy b with
    | none => rw [e1] at h2; cases h2
    | some y =>
      cases e2 : toPys bs with
      | none => rw [e1, e2] at h2; cases h2
      | some zs =>
        rw [e1, e2] at h2
        cases h2
        rw [PyData.eqvAll]
        exact ⟨fun z => (nomatch z), fun z => (nomatch z)⟩
  | a :: as, [], xs, ys, _, hb, h2, h1 => by
    cases h1
    rw [toPys_cons] at h2
    cases e1 : toPy a with
    | none => rw [e1] at h2; cases h2
    | some y =>
      cases e2 : toPys as with
      | none => rw [e1, e2] at h2; cases h2
      | some zs =>
        rw [e1, e2] at h2
        cases h2
        rw [PyData.eqvAll]
        exact ⟨fun z => (nomatch z), fun z => (nomatch z)⟩
  | a :: as, b :: bs, xs, ys, ha, hb, h1, h2 => by
    rw [List.all_cons, Bool.and_eq_true] at ha hb
    rw [toPys_cons] at h1 h2
    cases e1 : toPy a with
    | none => rw [e1] at h1; cases h1
    | some x =>
      cases e2 : toPys as with
      | none => rw [e1, e2] at h1; cases h1
      | some us =>
        cases e3 : toPy b with
        | none => rw [e3] at h2; cases h2
        | some y =>
          cases e4 : toPys bs with
          | none => rw [e3, e4] at h2; cases h2
          | some vs =>
            rw [e1, e2] at h1
            rw [e3, e4] at h2
            cases h1; cases h2
            rw [PyData.eqvAll, Bool.and_eq_true, ih a b x y ha.1 hb.1 e1 e3, eqv_list ih ha.2 hb.2 e2 e4, List.cons.injEq]
theorem eqv_iff : ∀ {n : Nat} {a b : D} {x y : PyData}, pu n a = true → pu n b = true → toPy a = some x → toPy b = some y → (PyData.eqv x y = true ↔ a = b) := fun {n} => by
  induction n with
  | zero =>
    intro a b x y ha hb h1 h2
    cases a <;> first | (cases ha; done) | skip
    all_goals cases b <;> first | (cases hb; done) | skip
    all_goals (cases h1; cases h2; rw [PyData.eqv]; simp)
  | succ n ih =>
    intro a b x y ha hb h1 h2
    have lst : ∀ {as bs : List D} {xs ys : List PyData}, as.all (pu n) = true → bs.all (pu n) = true → toPys as = some xs → toPys bs = some ys → (PyData.eqvAll xs ys = true ↔ as = bs) := eqv_list fun a b x y => ih
    cases a <;> first | (cases ha; done) | skip
    all_goals cases b <;> first | (cases hb; done) | skip
    all_goals (try rw [toPy] at h1); (try rw [toPy] at h2)
    case tup.tup as bs =>
      cases e1 : toPys as with
      | none => rw [e1] at h1; cases h1
      | some us =>
        cases e2 : toPys bs with
        | none => rw [e2] at h2; cases h2
        | some vs =>
          rw [e1] at h1; rw [e2] at h2
          cases h1; cases h2
          rw [PyData.eqv, lst ha hb e1 e2, D.tup.injEq]
    case lst.lst as bs =>
      cases e1 : toPys as with
      | none => rw [e1] at h1; cases h1
      | some us =>
        cases e2 : toPys bs with
        | none => rw [e2] at h2; cases h2
        | some vs =>
          rw [e1] at h1; rw [e2] at h2
          cases h1; cases h2
          rw [PyData.eqv, lst ha hb e1 e2, D.lst.injEq]
    all_goals first
      | (cases h1; cases h2; rw [PyData.eqv]; simp; done)
      | (cases e1 : toPys _ with
         | none => first | (rw [e1] at h1; cases h1; done) | (rw [e1] at h2; cases h2; done)
         | some us =>
           first
           | (rw [e1] at h1; cases h1; cases h2; rw [PyData.eqv]; simp; done)
           | (rw [e1] at h2; cases h1; cases h2; rw [PyData.eqv]; simp; done)
           | (rw [e1] at h1; cases h1
              cases e2 : toPys _ with
              | none => rw [e2] at h2; cases h2
              | some vs =>
                rw [e2] at h2; cases h2
                rw [PyData.eqv]; simp))
theorem eqD_pu {M : List Cell} {n : Nat} {a b : D} (ha : pu n a = true) (hb : pu n b = true) (hn : n ≤ 64) : ∃ k, eqD M a b = some k ∧ (k = true ↔ a = b) := by
  obtain ⟨x, h1, h2, h3, h4⟩ := pu_dat ha
  obtain ⟨y, k1, k2, k3, k4⟩ := pu_dat hb
  refine ⟨PyData.eqv x y, ?_, eqv_iff ha hb h1 k1⟩
  unfold eqD
  rw [imm_of h4, imm_of k4]
  simp only [Option.bind_some, h1, k1]
  rw [if_pos]
  unfold SeqAt.shaped
  rw [h2, k2, decide_eq_true (Nat.le_trans h3 hn), decide_eq_true (Nat.le_trans k3 hn)]
  exact ⟨rfl, rfl⟩
/-- of two data of one kind -/
theorem eqD_enc {M : List Cell} {α : Type} [DecidableEq α] {f : α → D} (n : Nat) (hp : ∀ x, pu n (f x) = true) (hi : ∀ x y, f x = f y → x = y) (hn : n ≤ 64) (a b : α) : eqD M (f a) (f b) = some (decide (a = b)) := by
  obtain ⟨k, h1, h2⟩ := eqD_pu (M := M) (hp a) (hp b) hn
  rw [h1]
  congr 1
  cases k with
  | true => exact (decide_eq_true (hi _ _ (h2.mp rfl))).symm
  | false => exact (decide_eq_false fun e => by
      have := h2.mpr (by rw [e])
      cases this).symm
/-! ### fractions -/
def qD (q : Rat) : D := .tup [.int q.num, .int (q.den : Nat)]
theorem isImm_qD (q : Rat) : isImm (qD q) = true := rfl
theorem pu_qD (q : Rat) : pu 1 (qD q) = true := rfl
theorem qD_inj (a b : Rat) (h : qD a = qD b) : a = b := by
  unfold qD at h
  simp only [D.tup.injEq, List.cons.injEq, D.int.injEq, and_true] at h
  exact Rat.ext h.1 (Int.ofNat.inj h.2)
def rowD (r : List Rat) : D := .lst (r.map qD)
def tabD (t : List (List Rat)) : D := .lst (t.map rowD)
theorem map_inj {α β : Type} {f : α → β} (h : ∀ x y, f x = f y → x = y) : ∀ {xs ys : List α}, xs.map f = ys.map f → xs = ys
  | [], [], _ => rfl
  | [], _ :: _, e => by cases e
  | _ :: _, [], e => by cases e
  | x :: xs, y :: ys, e => by
    rw [List.map_cons, List.map_cons, List.cons.injEq] at e
    rw [h _ _ e.1, map_inj h e.2]
theorem pu_map {α : Type} {f : α → D} {n : Nat} (h : ∀ x, pu n (f x) = true) (xs : List α) : (xs.map f).all (pu n) = true := by
  rw [List.all_eq_true]
  intro d hd
  obtain ⟨x, _, rfl⟩ := List.mem_map.mp hd
  exact h x
theorem isImm_rowD (r : List Rat) : isImm (rowD r) = true := isImms_map isImm_qD r
theorem isImm_tabD (t : List (List Rat)) : isImm (tabD t) = true := isImms_map isImm_rowD t
theorem pu_rowD (r : List Rat) : pu 2 (rowD r) = true := pu_map pu_qD r
theorem pu_tabD (t : List (List Rat)) : pu 3 (tabD t) = true := pu_map pu_rowD t
theorem rowD_inj (a b : List Rat) (h : rowD a = rowD b) : a = b := map_inj qD_inj (D.lst.inj h)
theorem tabD_inj (a b : List (List Rat)) (h : tabD a = tabD b) : a = b := map_inj rowD_inj (D.lst.inj h)
/-! ### places as numbers, rows of whole numbers -/
def natD (n : Nat) : D := .int (n : Nat)
def natsD (ns : List Nat) : D := .lst (ns.map natD)
def intsD (ns : List Int) : D := .lst (ns.map D.int)
theorem isImm_natsD (ns : List Nat) : isImm (natsD ns) = true := isImms_map (fun _ => rfl) ns
theorem isImm_intsD (ns : List Int) : isImm (intsD ns) = true := isImms_map (fun _ => rfl) ns
theorem pu_natsD (r : List Nat) : pu 1 (natsD r) = true := pu_map (fun _ => rfl) r
theorem pu_intsD (r : List Int) : pu 1 (intsD r) = true := pu_map (fun _ => rfl) r
theorem natsD_inj (a b : List Nat) (h : natsD a = natsD b) : a = b := map_inj (fun x y e => Int.ofNat.inj (D.int.inj e)) (D.lst.inj h)
theorem intsD_inj (a b : List Int) (h : intsD a = intsD b) : a = b := map_inj (fun x y e => D.int.inj e) (D.lst.inj h)
section
variable {M : List Cell} {X : Nat → List Cell → Prop} {Q : D → List Cell → Prop}
theorem W_eqQ {a b : Rat} : W (eqR (qD a) (qD b) M) Q X = Q (.bl (decide (a = b))) M := eqR_of (eqD_enc 1 pu_qD qD_inj (by decide) a b)
theorem W_neQ {a b : Rat} : W (neR (qD a) (qD b) M) Q X = Q (.bl (!decide (a = b))) M := neR_of (eqD_enc 1 pu_qD qD_inj (by decide) a b)
theorem W_eqR {a b : List Rat} : W (eqR (rowD a) (rowD b) M) Q X = Q (.bl (decide (a = b))) M := eqR_of (eqD_enc 2 pu_rowD rowD_inj (by decide) a b)
theorem W_neR {a b : List Rat} : W (neR (rowD a) (rowD b) M) Q X = Q (.bl (!decide (a = b))) M := neR_of (eqD_enc 2 pu_rowD rowD_inj (by decide) a b)
theorem W_eqT {a b : List (List Rat)} : W (eqR (tabD a) (tabD b) M) Q X = Q (.bl (decide (a = b))) M := eqR_of (eqD_enc 3 pu_tabD tabD_inj (by decide) a b)
theorem W_neT {a b : List (List Rat)} : W (neR (tabD a) (tabD b) M) Q X = Q (.bl (!decide (a = b))) M := neR_of (eqD_enc 3 pu_tabD tabD_inj (by decide) a b)
theorem W_q0 {q : Rat} : W (idxD (qD q) (.int 0) M) Q X = Q (.int q.num) M := W_t0
theorem W_q1 {q : Rat} : W (idxD (qD q) (.int 1) M) Q X = Q (.int (q.den : Nat)) M := W_t1
theorem W_lenQ {q : Rat} : W (bi .len [qD q] M) Q X = Q (.int 2) M := rfl
theorem W_lenRow {r : List Rat} : W (bi .len [rowD r] M) Q X = Q (.int (r.length : Nat)) M := by
  rw [rowD, W_lenL, List.length_map]
theorem W_lenTab {r : List (List Rat)} : W (bi .len [tabD r] M) Q X = Q (.int (r.length : Nat)) M := by
  rw [tabD, W_lenL, List.length_map]
theorem W_nthRow {r : List Rat} {i : Nat} (h : i < r.length) : W (idxD (rowD r) (.int (i : Nat)) M) Q X = Q (qD r[i]) M := W_nthM h
theorem W_nthTab {r : List (List Rat)} {i : Nat} (h : i < r.length) : W (idxD (tabD r) (.int (i : Nat)) M) Q X = Q (rowD r[i]) M := W_nthM h
theorem isi_q_t {q : Rat} : W (W_isiR .tuple (qD q) M) Q X = Q (.bl true) M := rfl
theorem isi_q_i {q : Rat} : W (W_isiR .int (qD q) M) Q X = Q (.bl false) M := rfl
theorem isi_q_b {q : Rat} : W (W_isiR .bool (qD q) M) Q X = Q (.bl false) M := rfl
theorem isi_q_l {q : Rat} : W (W_isiR .list (qD q) M) Q X = Q (.bl false) M := rfl
theorem isi_row_l {q : List Rat} : W (W_isiR .list (rowD q) M) Q X = Q (.bl true) M := rfl
theorem isi_tab_l {q : List (List Rat)} : W (W_isiR .list (tabD q) M) Q X = Q (.bl true) M := rfl
variable {QL : List D → List Cell → Prop}
theorem valR_row {r : List Rat} : W (valR (rowD r) M) QL X = QL (r.map qD) M := rfl
theorem valR_tab {r : List (List Rat)} : W (valR (tabD r) M) QL X = QL (r.map rowD) M := rfl
theorem lstR_row {f : List D → List D} {r : List Rat} : W (lstR f (rowD r) M) QL X = QL (f (r.map qD)) M := rfl
theorem lstR_tab {f : List D → List D} {r : List (List Rat)} : W (lstR f (tabD r) M) QL X = QL (f (r.map rowD)) M := rfl
theorem valR_nats {r : List Nat} : W (valR (natsD r) M) QL X = QL (r.map natD) M := rfl
theorem valR_ints {r : List Int} : W (valR (intsD r) M) QL X = QL (r.map D.int) M := rfl
theorem lstR_nats {f : List D → List D} {r : List Nat} : W (lstR f (natsD r) M) QL X = QL (f (r.map natD)) M := rfl
theorem lstR_ints {f : List D → List D} {r : List Int} : W (lstR f (intsD r) M) QL X = QL (f (r.map D.int)) M := rfl
theorem W_lenNats {r : List Nat} : W (bi .len [natsD r] M) Q X = Q (.int (r.length : Nat)) M := by
  rw [natsD, W_lenL, List.length_map]
theorem W_lenInts {r : List Int} : W (bi .len [intsD r] M) Q X = Q (.int (r.length : Nat)) M := by
  rw [intsD, W_lenL, List.length_map]
theorem isi_nats_l {r : List Nat} : W (W_isiR .list (natsD r) M) Q X = Q (.bl true) M := rfl
theorem isi_ints_l {r : List Int} : W (W_isiR .list (intsD r) M) Q X = Q (.bl true) M := rfl
theorem W_eqNs {a b : List Nat} : W (eqR (natsD a) (natsD b) M) Q X = Q (.bl (decide (a = b))) M := eqR_of (eqD_enc 1 pu_natsD natsD_inj (by decide) a b)
theorem W_neNs {a b : List Nat} : W (neR (natsD a) (natsD b) M) Q X = Q (.bl (!decide (a = b))) M := neR_of (eqD_enc 1 pu_natsD natsD_inj (by decide) a b)
theorem W_eqIs {a b : List Int} : W (eqR (intsD a) (intsD b) M) Q X = Q (.bl (decide (a = b))) M := eqR_of (eqD_enc 1 pu_intsD intsD_inj (by decide) a b)
theorem W_neIs {a b : List Int} : W (neR (intsD a) (intsD b) M) Q X = Q (.bl (!decide (a = b))) M := neR_of (eqD_enc 1 pu_intsD intsD_inj (by decide) a b)
theorem W_listRow {m : Bool} {r : List Rat} : W (bi (.list m) [rowD r] M) Q X = W (new m (r.map qD) M) Q X := rfl
theorem W_listTab {m : Bool} {r : List (List Rat)} : W (bi (.list m) [tabD r] M) Q X = W (new m (r.map rowD) M) Q X := rfl
theorem W_listNats {m : Bool} {r : List Nat} : W (bi (.list m) [natsD r] M) Q X = W (new m (r.map natD) M) Q X := rfl
theorem W_listInts {m : Bool} {r : List Int} : W (bi (.list m) [intsD r] M) Q X = W (new m (r.map D.int) M) Q X := rfl
theorem q01 : D.tup [.int 0, .int 1] = qD 0 := rfl
theorem q11 : D.tup [.int 1, .int 1] = qD 1 := rfl
end
end
end Sg

/-! SgNew: lists that were made anew and may be written to: rows, tables. -/
namespace Sg
noncomputable section
open PySem PySem.Spec L2
/-- d is the place of a list of these, that may be written to -/
def RowAt (M : List Cell) (d : D) (xs : List D) : Prop := ∃ p, d = .ref p ∧ M[p]? = some ⟨true, .lst xs⟩
/-- d is the place of a list of such places -/
def TabAt (M : List Cell) (d : D) (t : List (List D)) : Prop := ∃ (p : Nat) (rs : List Nat), d = .ref p ∧ M[p]? = some ⟨true, .lst (rs.map D.ref)⟩ ∧ rs.length = t.length ∧ ∀ (i : Nat) (r : Nat) (row : List D), rs[i]? = some r → t[i]? = some row → M[r]? = some ⟨true, .lst row⟩
theorem get_lt {α : Type} {xs : List α} {i : Nat} {x : α} (h : xs[i]? = some x) : i < xs.length := (List.getElem?_eq_some_iff.mp h).1
theorem isFlats_all {ds : List D} (h : ∀ d ∈ ds, isFlat d = true) : isFlats ds = true := by
  induction ds with
  | nil => rfl
  | cons x xs ih => rw [isFlats, h x List.mem_cons_self, ih fun y hy => h y (List.mem_cons_of_mem _ hy)]; rfl
mutual
theorem flat_imm : (d : D) → isFlat d = true → isImm d = true
  | .non, _ => rfl
  | .bl _, _ => rfl
  | .int _, _ => rfl
  | .str _, _ => rfl
  | .tup xs, h => by
    rw [isFlat] at h
    rw [isImm]
    exact flats_imm xs h
  | .ktp xs, h => by
    rw [isFlat] at h
    rw [isImm]
    exact flats_imm xs h
  | .lst _, h => by rw [isFlat] at h; cases h
  | .fro _, h => by rw [isFlat] at h; cases h
  | .dct _ _ _, h => by rw [isFlat] at h; cases h
  | .exo _, h => by rw [isFlat] at h; cases h
  | .ref _, h => by rw [isFlat] at h; cases h
theorem flats_imm : (ds : List D) → isFlats ds = true → isImms ds = true
  | [], _ => rfl
  | x :: xs, h => by
    rw [isFlats, Bool.and_eq_true] at h
    rw [isImms, flat_imm x h.1, flats_imm xs h.2]
    rfl
end
theorem immF_ref {n i : Nat} {M : List Cell} {m : Bool} {xs : List D} (h : M[i]? = some ⟨m, .lst xs⟩) : immF (n + 1) M (.ref i) = immF n M (.lst xs) := by
  show mapRef _ (.ref i) = _
  rw [mapRef, h]
theorem RowAt.imm {M : List Cell} {d : D} {xs : List D} (h : RowAt M d xs) (k : isImms xs = true) : imm M d = some (.lst xs) := by
  obtain ⟨p, rfl, h⟩ := h
  exact imm_cell h (by rw [isImm]; exact k)
theorem flat_ref {i : Nat} {d : D} (h : isFlat d = true) : d ≠ .ref i := fun e => by
  subst e
  cases h
theorem TabAt.imm {M : List Cell} {d : D} {t : List (List D)} (h : TabAt M d t) (k : ∀ r ∈ t, ∀ x ∈ r, isFlat x = true) : imm M d = some (.lst (t.map D.lst)) := by
  obtain ⟨p, rs, rfl, h1, hl, h2⟩ := h
  have hp := get_lt h1
  have key : ∀ (n : Nat) (ss : List Nat) (u : List (List D)), ss.length = u.length → (∀ (i : Nat) (r : Nat) (row : List D), ss[i]? = some r → u[i]? = some row → M[r]? = some (Cell.mk true (.lst row))) → (∀ r ∈ u, ∀ x ∈ r, isFlat x = true) →
      mapRefs (fun i => match M[i]? with
        | some ⟨_, .non⟩ => none
        | some c => immF n M c.d
        | none => none) (ss.map D.ref) = some (u.map D.lst) := fun n ss => by
    induction ss with
    | nil =>
      intro u hl _ _
      cases u with
      | nil => rfl
      | cons _ _ => cases hl
    | cons s ss ih =>
      intro u hl hu hf
      cases u with
      | nil => cases hl
      | cons r u =>
        have e1 := hu 0 s r rfl rfl
        rw [List.map_cons, mapRefs, mapRef, e1]
        show (immF n M (.lst r)).bind _ = _
        rw [immF_of (by rw [isImm]; exact flats_imm r (isFlats_all (hf r List.mem_cons_self)))]
        rw [Option.bind_some, ih u (by simpa using hl) (fun i r row a b => hu (i + 1) r row (by simpa using a) (by simpa using b)) fun r hr => hf r (List.mem_cons_of_mem _ hr)]
        rfl
  unfold Sg.imm
  cases e : M.length with
  | zero => omega
  | succ n =>
    rw [immF_ref h1]
    cases rs with
    | nil =>
      cases t with
      | nil => exact immF_of rfl
      | cons _ _ => cases hl
    | cons s ss =>
      cases t with
      | nil => cases hl
      | cons r u =>
        have e1 := h2 0 s r rfl rfl
        have hs := get_lt e1
        have hn : n ≠ 0 := fun z => by
          have : s = p := by omega
          rw [this, h1] at e1
          have e2 : (s :: ss).map D.ref = r := by
            injection e1 with e1
            injection e1 with _ e1
            exact D.lst.inj e1
          have := k r List.mem_cons_self (.ref s) (by rw [← e2]; exact List.mem_cons_self)
          cases this
        obtain ⟨m, rfl⟩ : ∃ m, n = m + 1 := ⟨n - 1, by omega⟩
        exact congrArg (Option.map D.lst) (key m (s :: ss) (r :: u) hl h2 k)
theorem fresh_flat {n : Nat} {M : List Cell} {d : D} (h : isFlat d = true) (hn : match d with | .tup xs => ∃ m, n = m + 1 ∧ ∀ x ∈ xs, freshF m M x = true | _ => True) : freshF n M d = true := by
  cases n with
  | zero => cases d <;> exact h
  | succ n =>
    cases d with
    | tup xs =>
      obtain ⟨m, e, hm⟩ := hn
      have e : n = m := by omega
      subst e
      show xs.all (freshF n M) = true
      rw [List.all_eq_true]
      exact hm
    | ref i => cases h
    | _ => exact h
/-- a row's, a table's elements: numbers, texts, or tuples of such -/
def isAtom : D → Bool
  | .non => true
  | .bl _ => true
  | .int _ => true
  | .str _ => true
  | _ => false
def isElem : D → Bool
  | .tup xs => xs.all isAtom
  | d => isAtom d
theorem atom_flat {d : D} (h : isAtom d = true) : isFlat d = true := by cases d <;> first | rfl | cases h
theorem elem_flat {d : D} (h : isElem d = true) : isFlat d = true := by
  cases d with
  | tup xs =>
    rw [isFlat]
    exact isFlats_all fun x hx => atom_flat (List.all_eq_true.mp h x hx)
  | _ => exact atom_flat h
theorem atom_fresh {n : Nat} {M : List Cell} {d : D} (h : isAtom d = true) : freshF n M d = true := by
  cases d <;> first | (cases h; done) | skip
  all_goals cases n <;> rfl
theorem elem_fresh {n : Nat} {M : List Cell} {d : D} (h : isElem d = true) : freshF (n + 1) M d = true := by
  cases d with
  | tup xs =>
    show xs.all (freshF n M) = true
    rw [List.all_eq_true]
    exact fun x hx => atom_fresh (List.all_eq_true.mp h x hx)
  | _ => exact atom_fresh h
theorem RowAt.fresh {n : Nat} {M : List Cell} {d : D} {xs : List D} (h : RowAt M d xs) (k : ∀ x ∈ xs, isElem x = true) : freshF (n + 2) M d = true := by
  obtain ⟨p, rfl, h⟩ := h
  show (match M[p]? with
    | some ⟨_, .lst xs⟩ => xs.all (freshF (n + 1) M)
    | _ => false) = true
  rw [h]
  show xs.all (freshF (n + 1) M) = true
  rw [List.all_eq_true]
  exact fun x hx => elem_fresh (k x hx)
theorem TabAt.fresh {n : Nat} {M : List Cell} {d : D} {t : List (List D)} (h : TabAt M d t) (k : ∀ r ∈ t, ∀ x ∈ r, isElem x = true) : freshF (n + 3) M d = true := by
  obtain ⟨p, rs, rfl, h1, hl, h2⟩ := h
  show (match M[p]? with
    | some ⟨_, .lst xs⟩ => xs.all (freshF (n + 2) M)
    | _ => false) = true
  rw [h1]
  show (rs.map D.ref).all (freshF (n + 2) M) = true
  rw [List.all_eq_true]
  intro x hx
  obtain ⟨r, hr, rfl⟩ := List.mem_map.mp hx
  obtain ⟨i, hi⟩ := List.getElem?_of_mem hr
  have hit : i < t.length := by
    have := get_lt hi
    omega
  have e := h2 i r t[i] hi (List.getElem?_eq_getElem hit)
  exact RowAt.fresh ⟨r, rfl, e⟩ (k _ (List.getElem_mem hit))
theorem atoms_frs : ∀ {ys : List D}, ys.all isAtom = true → isFrs ys = true
  | [], _ => rfl
  | y :: ys, h => by
    rw [List.all_cons, Bool.and_eq_true] at h
    rw [isFrs, atoms_frs h.2, Bool.and_true]
    cases y <;> first | rfl | cases h.1
theorem atoms_sh {k : Nat} : ∀ {ys : List D}, ys.all isAtom = true → shDs k ys = ys
  | [], _ => rfl
  | y :: ys, h => by
    rw [List.all_cons, Bool.and_eq_true] at h
    rw [shDs, atoms_sh h.2]
    congr 1
    cases y <;> first | rfl | cases h.1
theorem elems_frs : ∀ {xs : List D}, (∀ x ∈ xs, isElem x = true) → isFrs xs = true
  | [], _ => rfl
  | x :: xs, k => by
    rw [isFrs, elems_frs fun y hy => k y (List.mem_cons_of_mem _ hy), Bool.and_true]
    have h := k x List.mem_cons_self
    cases x with
    | tup ys =>
      rw [isFr]
      exact atoms_frs h
    | ktp _ => cases h
    | lst _ => cases h
    | fro _ => cases h
    | dct _ _ _ => cases h
    | exo _ => cases h
    | _ => rfl
theorem elems_sh {k : Nat} : ∀ {xs : List D}, (∀ x ∈ xs, isElem x = true) → shDs k xs = xs
  | [], _ => rfl
  | x :: xs, h => by
    rw [shDs, elems_sh fun y hy => h y (List.mem_cons_of_mem _ hy)]
    congr 1
    have h := h x List.mem_cons_self
    cases x with
    | tup ys =>
      rw [shD, atoms_sh h]
    | ktp _ => cases h
    | ref _ => cases h
    | _ => rfl
theorem refs_frs : ∀ rs : List Nat, isFrs (rs.map D.ref) = true
  | [] => rfl
  | r :: rs => by rw [List.map_cons, isFrs, refs_frs rs]; rfl
theorem refs_sh {k : Nat} : ∀ rs : List Nat, shDs k (rs.map D.ref) = (rs.map (k + ·)).map D.ref
  | [] => rfl
  | r :: rs => by rw [List.map_cons, shDs, refs_sh rs]; rfl
theorem imp_cell {M M1 : List Cell} {i : Nat} {m : Bool} {xs : List D} (h : M1[i]? = some ⟨m, .lst xs⟩) (k : isFrs xs = true) : (M ++ M1.map (shC M.length))[M.length + i]? = some ⟨m, .lst (shDs M.length xs)⟩ := by
  rw [List.getElem?_append_right (Nat.le_add_right _ _), Nat.add_sub_cancel_left, List.getElem?_map, h]
  show some (shC M.length ⟨m, .lst xs⟩) = _
  congr 1
  exact if_pos k
theorem RowAt.imp {M M1 : List Cell} {d : D} {xs : List D} (h : RowAt M1 d xs) (k : ∀ x ∈ xs, isElem x = true) : RowAt (M ++ M1.map (shC M.length)) (shD M.length d) xs := by
  obtain ⟨p, rfl, h⟩ := h
  refine ⟨M.length + p, rfl, ?_⟩
  rw [imp_cell h (elems_frs k), elems_sh k]
theorem TabAt.imp {M M1 : List Cell} {d : D} {t : List (List D)} (h : TabAt M1 d t) (k : ∀ r ∈ t, ∀ x ∈ r, isElem x = true) : TabAt (M ++ M1.map (shC M.length)) (shD M.length d) t := by
  obtain ⟨p, rs, rfl, h1, hl, h2⟩ := h
  refine ⟨M.length + p, rs.map (M.length + ·), rfl, ?_, by rw [List.length_map]; exact hl, fun i r row a b => ?_⟩
  · rw [imp_cell h1 (refs_frs rs), refs_sh]
  · rw [List.getElem?_map] at a
    cases e : rs[i]? with
    | none => rw [e] at a; cases a
    | some r0 =>
      rw [e] at a
      cases a
      have hr := k row (List.mem_of_getElem? b)
      rw [imp_cell (h2 i r0 row e b) (elems_frs hr), elems_sh hr]
/-! ### calls that make tables, rows -/
/-- a call of trees makes this table anew -/
def MkT (Φ : Phi) (f : Nat) (ds : List D) (t : List (List D)) : Prop := ∃ d M1, Φ f ds [] = .ok d M1 ∧ TabAt M1 d t
def MkR (Φ : Phi) (f : Nat) (ds : List D) (t : List D) : Prop := ∃ d M1, Φ f ds [] = .ok d M1 ∧ RowAt M1 d t
section
variable {Φ : Phi} {f : Nat} {ds es : List D} {t : List (List D)} {r : List D} {M : List Cell} {Q : D → List Cell → Prop} {X : Nat → List Cell → Prop}
theorem MkT.rt (h : MkT Φ f ds t) (hi : isImms ds = true) (k : ∀ r ∈ t, ∀ x ∈ r, isElem x = true) : Rt Φ f ds (.lst (t.map D.lst)) := fun M => by
  obtain ⟨d, M1, e, h⟩ := h
  unfold callD
  simp only [hi, if_true, e, h.imm fun r hr x hx => elem_flat (k r hr x hx)]
theorem MkT.call1 (h : MkT Φ f es t) (hi : imms M ds = some es) (k : ∀ r ∈ t, ∀ x ∈ r, isElem x = true) : callD Φ f 1 ds M = .ok (.lst (t.map D.lst)) M := by
  obtain ⟨d, M1, e, h⟩ := h
  unfold callD
  simp only [hi, e, h.imm fun r hr x hx => elem_flat (k r hr x hx)]
  rw [h.fresh (n := 5) k, Bool.or_true, if_pos rfl]
theorem TabAt.fr {M1 : List Cell} {d : D} (h : TabAt M1 d t) : isFr d = true := by
  obtain ⟨p, rs, rfl, _⟩ := h
  rfl
theorem RowAt.fr {M1 : List Cell} {d : D} (h : RowAt M1 d r) : isFr d = true := by
  obtain ⟨p, rfl, _⟩ := h
  rfl
theorem MkT.call2 (h : MkT Φ f es t) (hi : imms M ds = some es) (k : ∀ r ∈ t, ∀ x ∈ r, isElem x = true) : ∃ d M', callD Φ f 2 ds M = .ok d (M ++ M') ∧ TabAt (M ++ M') d t := by
  obtain ⟨d, M1, e, h⟩ := h
  refine ⟨shD M.length d, M1.map (shC M.length), ?_, h.imp k⟩
  unfold callD
  simp only [hi, e]
  rw [if_pos h.fr]
theorem MkR.rt (h : MkR Φ f ds r) (hi : isImms ds = true) (k : ∀ x ∈ r, isElem x = true) : Rt Φ f ds (.lst r) := fun M => by
  obtain ⟨d, M1, e, h⟩ := h
  unfold callD
  simp only [hi, if_true, e, h.imm (flats_imm _ (isFlats_all fun x hx => elem_flat (k x hx)))]
theorem MkR.call1 (h : MkR Φ f es r) (hi : imms M ds = some es) (k : ∀ x ∈ r, isElem x = true) : callD Φ f 1 ds M = .ok (.lst r) M := by
  obtain ⟨d, M1, e, h⟩ := h
  unfold callD
  simp only [hi, e, h.imm (flats_imm _ (isFlats_all fun x hx => elem_flat (k x hx)))]
  rw [h.fresh (n := 6) k, Bool.or_true, if_pos rfl]
theorem MkR.call2 (h : MkR Φ f es r) (hi : imms M ds = some es) (k : ∀ x ∈ r, isElem x = true) : ∃ d M', callD Φ f 2 ds M = .ok d (M ++ M') ∧ RowAt (M ++ M') d r := by
  obtain ⟨d, M1, e, h⟩ := h
  refine ⟨shD M.length d, M1.map (shC M.length), ?_, h.imp k⟩
  unfold callD
  simp only [hi, e]
  rw [if_pos h.fr]
theorem mkT_of {Φ' : Phi} {d : Df} (e : Φ' f = evD Φ d) (h : W (evD Φ d ds []) (fun x M => TabAt M x t) fun _ _ => False) : MkT Φ' f ds t := by
  have h : V (evD Φ d ds []) (fun x M => TabAt M x t) fun _ _ => False := h
  cases q : evD Φ d ds [] with
  | ok x M1 =>
    rw [q] at h
    exact ⟨x, M1, by rw [e, q], h⟩
  | exc c M1 => rw [q] at h; exact h.elim
  | bad => rw [q] at h; exact h.elim
theorem mkR_of {Φ' : Phi} {d : Df} (e : Φ' f = evD Φ d) (h : W (evD Φ d ds []) (fun x M => RowAt M x r) fun _ _ => False) : MkR Φ' f ds r := by
  have h : V (evD Φ d ds []) (fun x M => RowAt M x r) fun _ _ => False := h
  cases q : evD Φ d ds [] with
  | ok x M1 =>
    rw [q] at h
    exact ⟨x, M1, by rw [e, q], h⟩
  | exc c M1 => rw [q] at h; exact h.elim
  | bad => rw [q] at h; exact h.elim
/-! ### comprehensions that make rows -/
theorem W_compRows {α : Type} {fe : α → D} {g : α → List D} {step : D → List Cell → R (Option D)} {QL : List D → List Cell → Prop} : ∀ {xs : List α} {M : List Cell},
    (∀ x ∈ xs, ∀ M, W (step (fe x) M) (fun y M' => y = some (.ref M.length) ∧ M' = M ++ [⟨true, .lst (g x)⟩]) fun _ _ => False) →
    QL ((List.range' M.length xs.length).map D.ref) (M ++ xs.map fun x => ⟨true, .lst (g x)⟩) → W (compL step (xs.map fe) M) QL X := fun {xs M} h hq => by
  have key : ∀ (ys : List α) (M : List Cell), (∀ x ∈ ys, x ∈ xs) → compL step (ys.map fe) M = .ok ((List.range' M.length ys.length).map D.ref) (M ++ ys.map fun x => ⟨true, .lst (g x)⟩) := fun ys => by
    induction ys with
    | nil =>
      intro M _
      rw [List.map_nil, List.map_nil, List.append_nil]
      rfl
    | cons y ys ih =>
      intro M hy
      have h1 : V (step (fe y) M) (fun z M' => z = some (.ref M.length) ∧ M' = M ++ [⟨true, .lst (g y)⟩]) fun _ _ => False := h y (hy y List.mem_cons_self) M
      rw [List.map_cons, compL]
      revert h1
      cases step (fe y) M with
      | ok z M1 =>
        intro h1
        obtain ⟨rfl, rfl⟩ := h1
        have h2 := ih (M ++ [⟨true, .lst (g y)⟩]) fun z hz => hy z (List.mem_cons_of_mem _ hz)
        simp only [R.nox_ok, R.bind_ok, h2, List.length_append, List.length_cons, List.length_nil, List.map_cons, List.append_assoc, List.cons_append, List.nil_append, List.range'_succ]
      | exc c M1 => exact fun h => h.elim
      | bad => exact fun h => h.elim
  show V _ QL X
  rw [key xs M fun _ h => h]
  exact hq
/-- the table that a comprehension of rows makes -/
theorem tabAt_rows {α : Type} {g : α → List D} {xs : List α} : TabAt (M ++ (xs.map fun x => ⟨true, .lst (g x)⟩) ++ [⟨true, .lst ((List.range' M.length xs.length).map D.ref)⟩]) (.ref (M ++ xs.map fun x => (⟨true, .lst (g x)⟩ : Cell)).length) (xs.map g) := by
  refine ⟨_, List.range' M.length xs.length, rfl, ?_, by rw [List.length_range', List.length_map], fun i r row a b => ?_⟩
  · rw [List.getElem?_append_right (Nat.le_refl _), Nat.sub_self]
    rfl
  · rw [List.getElem?_map] at b
    cases e : xs[i]? with
    | none => rw [e] at b; cases b
    | some x =>
      rw [e] at b
      cases b
      have hi := get_lt e
      rw [List.getElem?_range' hi] at a
      have e2 : M.length + i = r := by
        have := Option.some.inj a
        omega
      subst e2
      rw [List.append_assoc, List.getElem?_append_right (Nat.le_add_right _ _), Nat.add_sub_cancel_left, List.getElem?_append_left (by rw [List.length_map]; exact hi), List.getElem?_map, e]
      rfl
/-- a call of what is a tree by now, a flat result -/
theorem Rt.call1 {v : D} (h : Rt Φ f es v) (hi : imms M ds = some es) (he : isImms es = true) (hf : isFlat v = true) : callD Φ f 1 ds M = .ok v M := by
  have h0 := h []
  unfold callD at h0
  simp only [he, if_true] at h0
  unfold callD
  simp only [hi]
  cases e : Φ f es [] with
  | ok d M1 =>
    rw [e] at h0
    simp only at h0 ⊢
    cases e2 : imm M1 d with
    | none => rw [e2] at h0; cases h0
    | some d' =>
      rw [e2] at h0
      simp only at h0 ⊢
      cases h0
      rw [hf, Bool.true_or, if_pos rfl]
  | exc c M1 => rw [e] at h0; cases h0
  | bad => rw [e] at h0; cases h0
theorem W_pop {i : Nat} {xs : List D} {y : D} (h : M[i]? = some ⟨true, .lst xs⟩) (hy : xs[xs.length - 1]? = some y) : W (meth .pop (.ref i) [] M) Q X = Q y (M.set i ⟨true, .lst xs.dropLast⟩) := by
  show V (meth .pop (.ref i) [] M) Q X = _
  unfold meth
  simp only [h, hy]
  rfl
theorem W_neSelf {n : Nat} {a : D} (h : pu n a = true) (hn : n ≤ 64) : W (neR a a M) Q X = Q (.bl false) M := by
  obtain ⟨k, h1, h2⟩ := eqD_pu (M := M) h h hn
  rw [neR_of h1, h2.mpr rfl]
  rfl
theorem W_eqSelf {n : Nat} {a : D} (h : pu n a = true) (hn : n ≤ 64) : W (eqR a a M) Q X = Q (.bl true) M := by
  obtain ⟨k, h1, h2⟩ := eqD_pu (M := M) h h hn
  rw [eqR_of h1, h2.mpr rfl]
/-! ### by what values are by now; a list that may be written to, walked -/
theorem W_snap {σ : St} {e : E} : W (evE Φ (.snap e) σ M) Q X = W (evE Φ e (σ.map fun o => o.bind (imm M)) []) (fun d _ => isFlat d = true ∧ Q d M) (fun c _ => X c M) := by
  show V (match evE Φ e (σ.map fun o => o.bind (imm M)) [] with
    | .ok d _ => if isFlat d = true then .ok d M else .bad
    | .exc c _ => .exc c M
    | .bad => .bad) Q X = V _ _ _
  cases evE Φ e (σ.map fun o => o.bind (imm M)) [] with
  | ok d M1 =>
    show V (if isFlat d = true then R.ok d M else .bad) Q X = (isFlat d = true ∧ Q d M)
    split <;> simp [V, *]
  | exc c M1 => rfl
  | bad => rfl
theorem W_rep {σ : St} {m : Bool} {a b : E} : W (evE Φ (.rep m a b) σ M) Q X = W (evE Φ a σ M) (fun x M1 => W (evE Φ b σ M1) (fun y M2 => W (repD m x y M2) Q X) X) X := by
  show W ((evE Φ a σ M).bind fun x M1 => (evE Φ b σ M1).bind fun y M2 => repD m x y M2) Q X = _
  rw [W_bind]
  congr 1
  funext x M1
  exact W_bind
theorem W_repL {m : Bool} {xs : List D} {k : Int} : W (repD m (.lst xs) (.int k) M) Q X = ((0 ≤ k ∧ Lt62 k ∧ xs.length * k.toNat ≤ LIM) ∧ W (new m (List.replicate k.toNat xs).flatten M) Q X) := by
  show V (if 0 ≤ k ∧ Lt62 k ∧ xs.length * k.toNat ≤ LIM then new m (List.replicate k.toNat xs).flatten M else .bad) Q X = _
  by_cases h : 0 ≤ k ∧ Lt62 k ∧ xs.length * k.toNat ≤ LIM
  · rw [if_pos h]
    exact propext ⟨fun q => ⟨h, q⟩, fun q => q.2⟩
  · rw [if_neg h]
    exact propext ⟨fun q => q.elim, fun q => absurd q.1 h⟩
/-- a loop over the list at a place -/
def liveQ (Φ : Phi) (t : T) (b : Ss) (d : D) (σ : St) (M : List Cell) (QF : Fl → St → List Cell → Prop) (X : Nat → List Cell → Prop) : Prop := match d with
  | .ref i => match M[i]? with
    | some ⟨true, .lst xs⟩ => WQ (forV i xs (forS Φ t b) xs σ M) QF X
    | _ => False
  | _ => False
theorem Q_forL {t : T} {e : E} {b : Ss} {σ : St} {QF : Fl → St → List Cell → Prop} : WQ (evS Φ (.forL t e b) σ M) QF X = W (evE Φ e σ M) (fun d M1 => liveQ Φ t b d σ M1 QF X) X := by
  show VQ (R.st (evE Φ e σ M) σ _) QF X = _
  rw [V_st]
  show V (evE Φ e σ M) _ X = V (evE Φ e σ M) _ X
  congr 1
  funext d M1
  cases d with
  | ref i =>
    unfold liveQ
    dsimp only
    cases M1[i]? with
    | none => rfl
    | some c =>
      obtain ⟨m, dd⟩ := c
      cases m <;> cases dd <;> rfl
  | _ => rfl
theorem live_ref {t : T} {b : Ss} {σ : St} {QF : Fl → St → List Cell → Prop} {i : Nat} {xs : List D} (h : M[i]? = some ⟨true, .lst xs⟩) : liveQ Φ t b (.ref i) σ M QF X = WQ (forV i xs (forS Φ t b) xs σ M) QF X := by
  unfold liveQ
  simp only [h]
theorem for_live {N : Prop} {step : D → St → List Cell → Qr} {QF : Fl → St → List Cell → Prop} {i : Nat} {ys : List D} (hb : beqXs ys ys = true) (I : Nat → St → List Cell → Prop) (hc : ∀ k σ M, k ≤ ys.length → I k σ M → M[i]? = some ⟨true, .lst ys⟩)
    (hs : ∀ k (h : k < ys.length) σ M, I k σ M → WQ (step ys[k] σ M) (lpQ QF (I (k + 1))) X) (he : ∀ σ M, I ys.length σ M → QF .nx σ M) :
    ∀ (n k : Nat) (σ : St) (M : List Cell), k + n = ys.length → I k σ M → WQ (forV i ys step (ys.drop k) σ M) QF X
  | 0, k, σ, M, e, h => by
    have hk : k = ys.length := by omega
    have hh : holds i ys M = true := by
      unfold holds
      rw [hc k σ M (by omega) h]
      exact hb
    rw [List.drop_eq_nil_of_le (by omega)]
    show VQ (if holds i ys M = true then .ok .nx σ M else .bad) QF X
    rw [if_pos hh]
    subst hk
    exact he σ M h
  | n + 1, k, σ, M, e, h => by
    have hk : k < ys.length := by omega
    have hh : holds i ys M = true := by
      unfold holds
      rw [hc k σ M (by omega) h]
      exact hb
    rw [List.drop_eq_getElem_cons hk]
    show VQ (if holds i ys M = true then (step ys[k] σ M).turn fun σ1 M1 => forV i ys step (ys.drop (k + 1)) σ1 M1 else .bad) QF X
    rw [if_pos hh, VQ_turn]
    exact VQ_mono (hs k hk σ M h) (fun f σ' M' h2 => lpQ_mono h2 fun σ2 M2 h3 => for_live (N := N) hb I hc hs he n (k + 1) σ2 M2 (by omega) h3) fun _ _ h => h
theorem beqXs_refs : ∀ rs : List Nat, beqXs (rs.map D.ref) (rs.map D.ref) = true
  | [] => rfl
  | r :: rs => by
    rw [List.map_cons, beqXs, beqXs_refs rs, beqX, beq_self_eq_true]
    rfl
end
end
end Sg

/-! SgTry: errors that are caught; ranges backwards, lists of ranges, lists backwards. -/
namespace Sg
noncomputable section
open PySem PySem.Spec
/-! ### the slots stay as many -/
def LenP (n : Nat) (q : Qr) : Prop := match q with
  | .ok _ σ _ => σ.length = n
  | .exc _ σ _ => σ.length = n
  | .bad => True
def LenR (n : Nat) (q : R St) : Prop := match q with
  | .ok σ _ => σ.length = n
  | _ => True
section
variable {Φ : Phi} {n : Nat}
theorem lenP_st {α : Type} {r : R α} {σ : St} {f : α → List Cell → Qr} (hσ : σ.length = n) (h : ∀ a M, r = .ok a M → LenP n (f a M)) : LenP n (r.st σ f) := by
  cases r with
  | ok a M => exact h a M rfl
  | exc c M => exact hσ
  | bad => trivial
theorem lenR_bind {α : Type} {r : R α} {f : α → List Cell → R St} (h : ∀ a M, r = .ok a M → LenR n (f a M)) : LenR n (r.bind f) := by
  cases r with
  | ok a M => exact h a M rfl
  | exc c M => trivial
  | bad => trivial
theorem lenR_nox {r : R St} (h : LenR n r) {σ : St} {M : List Cell} (e : r.nox = .ok σ M) : σ.length = n := by
  cases r with
  | ok a M => cases e; exact h
  | exc c M => cases e
  | bad => cases e
theorem lenR_ok {r : R St} (h : LenR n r) {σ : St} {M : List Cell} (e : r = .ok σ M) : σ.length = n := by
  subst e
  exact h
theorem lenP_seq {q : Qr} {f : St → List Cell → Qr} (h : LenP n q) (k : ∀ σ M, σ.length = n → LenP n (f σ M)) : LenP n (q.seq f) := by
  cases q with
  | ok fl σ M => cases fl <;> first | exact k σ M h | exact h
  | exc c σ M => exact h
  | bad => trivial
theorem lenP_turn {q : Qr} {f : St → List Cell → Qr} (h : LenP n q) (k : ∀ σ M, σ.length = n → LenP n (f σ M)) : LenP n (q.turn f) := by
  cases q with
  | ok fl σ M => cases fl <;> first | exact k σ M h | exact h
  | exc c σ M => exact h
  | bad => trivial
theorem lenP_look {q : Qr} {f : Nat → St → List Cell → Qr} (h : LenP n q) (k : ∀ c σ M, σ.length = n → LenP n (f c σ M)) : LenP n (q.look f) := by
  cases q with
  | ok fl σ M => exact h
  | exc c σ M => exact k c σ M h
  | bad => trivial
mutual
theorem evT_ln : (t : T) → (d : D) → (σ : St) → (M : List Cell) → σ.length = n → LenR n (evT Φ t d σ M)
  | .var i, d, σ, M, h => by
    show (σ.set i (some d)).length = n
    rw [List.length_set]
    exact h
  | .tup ts, d, σ, M, h => by
    cases d <;> first | exact evTs_ln ts _ σ M h | trivial
  | .idx o i, d, σ, M, h => by
    show LenR n ((evE Φ o σ M).nox.bind fun x M1 => (evE Φ i σ M1).nox.bind fun y M2 => match setD x y d M2 with
      | some M3 => .ok σ M3
      | none => .bad)
    refine lenR_bind fun x M1 _ => lenR_bind fun y M2 _ => ?_
    split
    · exact h
    · trivial
theorem evTs_ln : (ts : Ts) → (ds : List D) → (σ : St) → (M : List Cell) → σ.length = n → LenR n (evTs Φ ts ds σ M)
  | .nil, [], σ, M, h => h
  | .nil, _ :: _, σ, M, h => trivial
  | .cons t ts, [], σ, M, h => trivial
  | .cons t ts, d :: ds, σ, M, h => by
    show LenR n ((evT Φ t d σ M).bind fun σ1 M1 => evTs Φ ts ds σ1 M1)
    exact lenR_bind fun σ1 M1 e => evTs_ln ts ds σ1 M1 (lenR_ok (evT_ln t d σ M h) e)
end
theorem forL_len {step : D → St → List Cell → Qr} (h : ∀ x σ M, σ.length = n → LenP n (step x σ M)) : ∀ (xs : List D) (σ : St) (M : List Cell), σ.length = n → LenP n (forL step xs σ M)
  | [], σ, M, hσ => hσ
  | x :: xs, σ, M, hσ => lenP_turn (h x σ M hσ) fun σ1 M1 h1 => forL_len h xs σ1 M1 h1
theorem forV_len {i : Nat} {ys : List D} {step : D → St → List Cell → Qr} (h : ∀ x σ M, σ.length = n → LenP n (step x σ M)) : ∀ (xs : List D) (σ : St) (M : List Cell), σ.length = n → LenP n (forV i ys step xs σ M)
  | [], σ, M, hσ => by
    unfold forV
    split
    · exact hσ
    · trivial
  | x :: xs, σ, M, hσ => by
    unfold forV
    split
    · exact lenP_turn (h x σ M hσ) fun σ1 M1 h1 => forV_len h xs σ1 M1 h1
    · trivial
theorem whlL_len {test : St → List Cell → R D} {body : St → List Cell → Qr} (h : ∀ σ M, σ.length = n → LenP n (body σ M)) : ∀ (k : Nat) (σ : St) (M : List Cell), σ.length = n → LenP n (whlL test body k σ M)
  | 0, σ, M, hσ => trivial
  | k + 1, σ, M, hσ => by
    unfold whlL
    refine lenP_st hσ fun b M1 _ => ?_
    split
    · exact lenP_turn (h σ M1 hσ) fun σ1 M2 h1 => whlL_len h k σ1 M2 h1
    · exact hσ
mutual
theorem evS_len : (s : S) → (σ : St) → (M : List Cell) → σ.length = n → LenP n (evS Φ s σ M)
  | .expr e, σ, M, h => lenP_st h fun _ _ _ => h
  | .asg t e, σ, M, h => lenP_st h fun d M1 _ => lenP_st h fun σ1 M2 e => lenR_nox (evT_ln t d σ M1 h) e
  | .par i j a b, σ, M, h => lenP_st h fun x M1 _ => lenP_st h fun y M2 _ => by
    show ((σ.set i (some x)).set j (some y)).length = n
    rw [List.length_set, List.length_set]
    exact h
  | .aug i op e, σ, M, h => by
    unfold evS
    split
    · refine lenP_st h fun y M1 _ => ?_
      split
      · refine lenP_st h fun z M2 _ => ?_
        show (σ.set i (some z)).length = n
        rw [List.length_set]
        exact h
      · trivial
    · trivial
  | .dset o i v, σ, M, h => lenP_st h fun z M1 _ => lenP_st h fun x M2 _ => lenP_st h fun y M3 _ => by
    split
    · exact h
    · trivial
  | .ite c a b, σ, M, h => lenP_st h fun k M1 _ => by
    split
    · exact evSs_len a σ M1 h
    · exact evSs_len b σ M1 h
  | .whl c b, σ, M, h => whlL_len (fun σ M h => evSs_len b σ M h) _ σ M h
  | .for t it b, σ, M, h => lenP_st h fun xs M1 _ => forL_len (fun x σ M h => lenP_st h fun σ2 M3 e => evSs_len b σ2 M3 (lenR_nox (evT_ln t x σ M h) e)) xs σ M1 h
  | .forL t e b, σ, M, h => lenP_st h fun d M1 _ => by
    split
    · split
      · exact forV_len (fun x σ M h => lenP_st h fun σ2 M3 e => evSs_len b σ2 M3 (lenR_nox (evT_ln t x σ M h) e)) _ σ M1 h
      · trivial
    · trivial
  | .ret (.so e), σ, M, h => lenP_st h fun _ _ _ => h
  | .ret .no, σ, M, h => h
  | .pass, σ, M, h => h
  | .brk, σ, M, h => h
  | .cont, σ, M, h => h
  | .raise c, σ, M, h => h
  | .tryW i b w, σ, M, h => lenP_look (evSs_len b σ M h) fun c σ1 M1 h1 => by
    split
    · split
      · split
        · show (σ1.set i none).length = n
          rw [List.length_set]
          exact h1
        · trivial
      · trivial
    · trivial
  | .tryN k b d, σ, M, h => lenP_look (evSs_len b σ M h) fun c σ1 M1 h1 => by
    split
    · exact h1
    · trivial
  | .hole, σ, M, h => trivial
theorem evSs_len : (ss : Ss) → (σ : St) → (M : List Cell) → σ.length = n → LenP n (evSs Φ ss σ M)
  | .nil, σ, M, h => h
  | .cons s ss, σ, M, h => lenP_seq (evS_len s σ M h) fun σ1 M1 h1 => evSs_len ss σ1 M1 h1
end
end
/-! ### the rules -/
section
variable {Φ : Phi} {σ : St} {M : List Cell} {X : Nat → List Cell → Prop} {QF : Fl → St → List Cell → Prop} {Q : D → List Cell → Prop} {QL : List D → List Cell → Prop}
/-- an error is caught, its word returned -/
theorem Q_tryW {i : Nat} {b : Ss} {w : Tw} (hi : i < σ.length) (h : WQ (evSs Φ b σ M) QF (fun c M1 => ∃ x M', Φ 0 [.int (c : Nat)] [] = .ok (.str x) M' ∧ ∀ σ', W (twR w x M1) (fun d M2 => QF (.rt d) σ' M2) (fun _ _ => False))) :
    WQ (evS Φ (.tryW i b w) σ M) QF X := by
  have hl := evSs_len (Φ := Φ) (n := σ.length) b σ M rfl
  have h : VQ (evSs Φ b σ M) QF (fun c M1 => ∃ x M', Φ 0 [.int (c : Nat)] [] = .ok (.str x) M' ∧ ∀ σ', W (twR w x M1) (fun d M2 => QF (.rt d) σ' M2) (fun _ _ => False)) := h
  show VQ ((evSs Φ b σ M).look fun c σ1 M1 => match Φ 0 [.int (c : Nat)] [] with
    | .ok (.str x) _ => if i < σ1.length then (match twR w x M1 with
      | .ok d M2 => .ok (.rt d) (σ1.set i none) M2
      | _ => .bad) else .bad
    | _ => .bad) QF X
  revert hl h
  cases evSs Φ b σ M with
  | ok f σ1 M1 => exact fun _ h => h
  | exc c σ1 M1 =>
    intro hl h
    obtain ⟨x, M', e, q⟩ := h
    show VQ (match Φ 0 [.int (c : Nat)] [] with
      | .ok (.str x) _ => if i < σ1.length then (match twR w x M1 with
        | .ok d M2 => .ok (.rt d) (σ1.set i none) M2
        | _ => .bad) else .bad
      | _ => .bad) QF X
    have hl : σ1.length = σ.length := hl
    rw [e]
    show VQ (if i < σ1.length then (match twR w x M1 with
      | .ok d M2 => .ok (.rt d) (σ1.set i none) M2
      | _ => .bad) else .bad) QF X
    rw [if_pos (by omega)]
    have q : V (twR w x M1) (fun d M2 => QF (.rt d) (σ1.set i none) M2) (fun _ _ => False) := q _
    revert q
    cases twR w x M1 with
    | ok d M2 => exact fun q => q
    | exc c M2 => exact fun q => q.elim
    | bad => exact fun q => q.elim
  | bad => exact fun _ h => h
theorem tw_word {x : Str} : W (twR .word x M) Q X = Q (.str x) M := rfl
theorem tw_lword {x : Str} : W (twR .lword x M) Q X = Q (.lst [.str x]) M := rfl
theorem tw_weq {x y : Str} : W (twR (.weq y) x M) Q X = W (eqR (.str x) (.str y) M) Q X := W_eq
theorem eqD_str {x y : Str} (hx : PyData.strOk x = true) (hy : PyData.strOk y = true) : ∃ k, eqD M (.str x) (.str y) = some k ∧ (k = true ↔ x = y) := by
  obtain ⟨k, h1, h2⟩ := eqD_pu (M := M) (n := 0) (a := .str x) (b := .str y) hx hy (by decide)
  exact ⟨k, h1, h2.trans ⟨fun e => D.str.inj e, fun e => by rw [e]⟩⟩
theorem W_eqS {x y : Str} (hx : PyData.strOk x = true) (hy : PyData.strOk y = true) : W (eqR (.str x) (.str y) M) Q X = Q (.bl (decide (x = y))) M := by
  obtain ⟨k, h1, h2⟩ := eqD_str (M := M) hx hy
  rw [eqR_of h1]
  congr 2
  cases k with
  | true => exact (decide_eq_true (h2.mp rfl)).symm
  | false => exact (decide_eq_false fun e => by cases h2.mpr e).symm
theorem W_neS {x y : Str} (hx : PyData.strOk x = true) (hy : PyData.strOk y = true) : W (neR (.str x) (.str y) M) Q X = Q (.bl (!decide (x = y))) M := by
  obtain ⟨k, h1, h2⟩ := eqD_str (M := M) hx hy
  rw [neR_of h1]
  congr 3
  cases k with
  | true => exact (decide_eq_true (h2.mp rfl)).symm
  | false => exact (decide_eq_false fun e => by cases h2.mpr e).symm
theorem W_eqB {x y : Bool} : W (eqR (.bl x) (.bl y) M) Q X = Q (.bl (decide (x = y))) M := by
  have e : eqD M (.bl x) (.bl y) = some (decide (x = y)) := by
    unfold eqD
    rw [imm_of (d := .bl x) rfl, imm_of (d := .bl y) rfl]
    simp only [Option.bind_some, toPy]
    rw [if_pos ⟨rfl, rfl⟩]
    cases x <;> cases y <;> rfl
  rw [eqR_of e]
theorem W_neB {x y : Bool} : W (neR (.bl x) (.bl y) M) Q X = Q (.bl (!decide (x = y))) M := by
  have e : eqD M (.bl x) (.bl y) = some (decide (x = y)) := by
    unfold eqD
    rw [imm_of (d := .bl x) rfl, imm_of (d := .bl y) rfl]
    simp only [Option.bind_some, toPy]
    rw [if_pos ⟨rfl, rfl⟩]
    cases x <;> cases y <;> rfl
  rw [neR_of e]
/-- an error of one class is caught -/
theorem Q_tryN {k : Nat} {b : Ss} {d : D} (h : WQ (evSs Φ b σ M) QF (fun c M1 => c = k ∧ ∀ σ', QF (.rt d) σ' M1)) : WQ (evS Φ (.tryN k b d) σ M) QF X := by
  have h : VQ (evSs Φ b σ M) QF (fun c M1 => c = k ∧ ∀ σ', QF (.rt d) σ' M1) := h
  show VQ ((evSs Φ b σ M).look fun c σ1 M1 => if c = k then .ok (.rt d) σ1 M1 else .bad) QF X
  revert h
  cases evSs Φ b σ M with
  | ok f σ1 M1 => exact fun h => h
  | exc c σ1 M1 =>
    rintro ⟨rfl, q⟩
    show VQ (if c = c then .ok (.rt d) σ1 M1 else .bad) QF X
    rw [if_pos rfl]
    exact q _
  | bad => exact fun h => h
theorem W_addC {m : Bool} {a b : D} {xs ys : List D} (h1 : content M a = some xs) (h2 : content M b = some ys) : W (bop m .Add a b M) Q X = W (new m (xs ++ ys) M) Q X := by
  show V (bop m .Add a b M) Q X = _
  unfold bop
  rw [h1, h2]
  rfl
theorem W_compF {step : D → List Cell → R (Option D)} {g : D → Option D} {xs : List D} (h : ∀ x ∈ xs, W (step x M) (fun y M' => y = g x ∧ M' = M) fun _ _ => False) : W (compL step xs M) QL X = QL (xs.filterMap g) M := by
  show V _ QL X = _
  rw [comp_inv h]
  rfl
theorem W_idxR {i : Nat} {m : Bool} {xs : List D} {j : Int} {d : D} (h : M[i]? = some ⟨m, .lst xs⟩) (e : L2.atI xs j = some d) : W (idxD (.ref i) (.int j) M) Q X = Q d M := by
  refine W_at (xs := xs) ?_ e
  show (match M[i]? with | some ⟨_, .lst xs⟩ => some xs | _ => none) = some xs
  rw [h]
/-! is an error of a class -/
def exoR (Φ : Phi) (k : Nat) (d : D) (M : List Cell) : R D := match d with
  | .exo a => Φ 0 [.exo a, .int k] M
  | _ => .bad
theorem exoR_exo {a k : Nat} : W (exoR Φ k (.exo a) M) Q X = W (Φ 0 [.exo a, .int k] M) Q X := rfl
theorem W_xis {i k : Nat} : W (evE Φ (.xis i k) σ M) Q X = gv σ i (fun d => W (exoR Φ k d M) Q X) := by
  show V (evE Φ (.xis i k) σ M) Q X = _
  rw [← gv_eq, evE]
  cases σ[i]? with
  | none => rfl
  | some o =>
    cases o with
    | none => rfl
    | some d => cases d <;> rfl
/-! lists of ranges, backwards -/
theorem W_lrng {m : Bool} {a : E} : W (evE Φ (.lrng m a) σ M) Q X = W (evE Φ a σ M) (fun d M1 => W (lrngD m (.int 0) d M1) Q X) X := W_bind
theorem W_lrng2 {m : Bool} {a b : E} : W (evE Φ (.lrng2 m a b) σ M) Q X = W (evE Φ a σ M) (fun d M1 => W (evE Φ b σ M1) (fun e M2 => W (lrngD m d e M2) Q X) X) X := by
  show W ((evE Φ a σ M).bind fun d M1 => (evE Φ b σ M1).bind fun e M2 => lrngD m d e M2) Q X = _
  rw [W_bind]
  congr 1
  funext d M1
  exact W_bind
theorem W_lrngD {m : Bool} {i j : Int} : W (lrngD m (.int i) (.int j) M) Q X = ((B62 i ∧ B62 j) ∧ W (new m (upTo i (j - i).toNat) M) Q X) := by
  show V (if B62 i ∧ B62 j then new m (upTo i (j - i).toNat) M else .bad) Q X = (_ ∧ V _ Q X)
  split <;> simp [V_bad, *]
theorem W_rvl {m sl : Bool} {a : E} : W (evE Φ (.rvl m sl a) σ M) Q X = W (evE Φ a σ M) (fun d M1 => W (rvlD m d M1) Q X) X := W_bind
theorem W_rvlL {m : Bool} {xs : List D} : W (rvlD m (.lst xs) M) Q X = W (new m xs.reverse M) Q X := rfl
theorem W_rvlF {m : Bool} {xs : List D} : W (rvlD m (.fro xs) M) Q X = W (new m xs.reverse M) Q X := rfl
theorem W_rvlR {m mm : Bool} {i : Nat} {xs : List D} (h : M[i]? = some ⟨mm, .lst xs⟩) : W (rvlD m (.ref i) M) Q X = W (new m xs.reverse M) Q X := by
  show V (match content M (.ref i) with | some xs => new m xs.reverse M | none => .bad) Q X = _
  have e : content M (.ref i) = some xs := by
    show (match M[i]? with | some ⟨_, .lst xs⟩ => some xs | _ => none) = some xs
    rw [h]
  rw [e]
  rfl
/-- n - 1, .., 0, each more by lo -/
def dnTo (lo : Int) (n : Nat) : List D := upBy (lo + (n : Nat) - 1) (-1) n
theorem W_revR {a : E} : W (evIt Φ (.revR a) σ M) QL X = W (evE Φ a σ M) (fun d M1 => asI d fun j => B62 j ∧ QL (dnTo 0 j.toNat) M1) X := by
  show V (evIt Φ (.revR a) σ M) QL X = V _ _ X
  rw [evIt, V_bind]
  congr 1; funext d M1
  cases d <;> first | rfl | skip
  rename_i j
  show V (if B62 j then R.ok (upBy (0 + ((j - 0).toNat : Nat) - 1) (-1) (j - 0).toNat) M1 else .bad) QL X = (B62 j ∧ QL (dnTo 0 j.toNat) M1)
  rw [Int.sub_zero]
  split <;> simp [V_ok, V_bad, dnTo, *]
theorem W_revR2 {a b : E} : W (evIt Φ (.revR2 a b) σ M) QL X = W (evE Φ a σ M) (fun d M1 => W (evE Φ b σ M1) (fun e M2 => asI d fun i => asI e fun j => (B62 i ∧ B62 j) ∧ QL (dnTo i (j - i).toNat) M2) X) X := by
  show V (evIt Φ (.revR2 a b) σ M) QL X = V _ _ X
  rw [evIt, V_bind]
  congr 1; funext d M1
  show V (R.bind _ _) QL X = V _ _ X
  rw [V_bind]
  congr 1; funext e M2
  cases d <;> cases e <;> first | rfl | skip
  rename_i i j
  show V (if B62 i ∧ B62 j then R.ok (upBy (i + ((j - i).toNat : Nat) - 1) (-1) (j - i).toNat) M2 else .bad) QL X = ((B62 i ∧ B62 j) ∧ QL (dnTo i (j - i).toNat) M2)
  split <;> simp [V_ok, V_bad, dnTo, *]
theorem for_dn {lo : Int} {n : Nat} {step : D → St → List Cell → Qr} (I : Nat → St → List Cell → Prop) (h0 : I 0 σ M)
    (hs : ∀ i, i < n → ∀ σ M, I i σ M → WQ (step (.int (lo + ((n - 1 - i : Nat) : Int))) σ M) (lpQ QF (I (i + 1))) X) (he : ∀ σ M, I n σ M → QF .nx σ M) : WQ (forL step (dnTo lo n) σ M) QF X := by
  have e0 : dnTo lo n = (List.range n).map fun i : Nat => D.int (lo + (n : Nat) - 1 + (i : Nat) * (-1)) := rfl
  rw [e0]
  refine for_map I h0 (fun i h σ M hi => ?_) (fun σ M h => he σ M (by rw [List.length_range] at h; exact h))
  rw [List.getElem_range]
  rw [List.length_range] at h
  have e : lo + (n : Nat) - 1 + (i : Nat) * (-1) = lo + ((n - 1 - i : Nat) : Int) := by omega
  rw [e]
  exact hs i h σ M hi
theorem dnTo_eq {lo : Int} {n : Nat} : dnTo lo n = (upTo lo n).reverse := by
  refine List.ext_getElem? fun i => ?_
  unfold dnTo upBy upTo
  rw [← List.map_reverse, List.getElem?_map, List.getElem?_map]
  by_cases h : i < n
  · rw [List.getElem?_range h, List.getElem?_reverse (by rw [List.length_range]; exact h), List.length_range, List.getElem?_range (by omega)]
    simp only [Option.map_some]
    congr 2
    omega
  · rw [List.getElem?_eq_none (by rw [List.length_range]; omega), List.getElem?_eq_none (by rw [List.length_reverse, List.length_range]; omega)]
    rfl
end
end
end Sg

/-! SgDct: rules for dicts, for tuples that may be keys. -/
namespace Sg
noncomputable section
open PySem PySem.Spec
section
variable {Φ : Phi} {σ : St} {M : List Cell} {X : Nat → List Cell → Prop} {QF : Fl → St → List Cell → Prop} {Q : D → List Cell → Prop} {QL : List D → List Cell → Prop}
theorem W_ktup {es} : W (evE Φ (.ktup es) σ M) Q X = W (evEs Φ es σ M) (fun ds M1 => ds.length ≤ LIM ∧ Q (.ktp ds) M1) X := by
  show V (evE Φ (.ktup es) σ M) Q X = V _ _ X
  rw [evE, V_bind]
  congr 1; funext ds M1
  split <;> simp [V_ok, V_bad, *]
theorem W_dnew {t : Bool} : W (evE Φ (.dnew t) σ M) Q X = Q (.ref M.length) (M ++ [⟨true, .dct t [] []⟩]) := rfl
theorem W_dlit {ks vs : List D} : W (evE Φ (.dlit ks vs) σ M) Q X = Q (.ref M.length) (M ++ [⟨true, .dct false ks vs⟩]) := rfl
theorem W_dun {e : E} : W (evE Φ (.dun e) σ M) Q X = W (evE Φ e σ M) (fun d M1 => Q (.ref M1.length) (M1 ++ [⟨true, .dct true [.ktp []] [d]⟩])) X := W_bind
theorem W_dget {a b : E} : W (evE Φ (.dget a b) σ M) Q X = W (evE Φ a σ M) (fun x M1 => W (evE Φ b σ M1) (fun y M2 => W (dgetD x y M2) Q X) X) X := by
  show W ((evE Φ a σ M).bind fun x M1 => (evE Φ b σ M1).bind fun y M2 => dgetD x y M2) Q X = _
  rw [W_bind]
  congr 1
  funext d M1
  exact W_bind
theorem W_dgetd {a b c : E} : W (evE Φ (.dgetd a b c) σ M) Q X = W (evE Φ a σ M) (fun x M1 => (dctOf M1 x).isSome ∧ W (evE Φ b σ M1) (fun y M2 => W (evE Φ c σ M2) (fun z M3 => W (dgetdD x y z M3) Q X) X) X) X := by
  show V ((evE Φ a σ M).bind fun x M1 => match dctOf M1 x with
    | some _ => (evE Φ b σ M1).bind fun y M2 => (evE Φ c σ M2).bind fun z M3 => dgetdD x y z M3
    | none => .bad) Q X = V _ _ X
  rw [V_bind]
  congr 1
  funext d M1
  cases h : dctOf M1 d with
  | none => simp [V_bad]
  | some _ =>
    simp only [Option.isSome_some, true_and]
    show V _ Q X = V _ _ X
    rw [V_bind]
    congr 1
    funext e M2
    exact W_bind
theorem W_din {ng : Bool} {a b : E} : W (evE Φ (.din ng a b) σ M) Q X = W (evE Φ a σ M) (fun x M1 => W (evE Φ b σ M1) (fun y M2 => W (dinD ng x y M2) Q X) X) X := by
  show W ((evE Φ a σ M).bind fun x M1 => (evE Φ b σ M1).bind fun y M2 => dinD ng x y M2) Q X = _
  rw [W_bind]
  congr 1
  funext d M1
  exact W_bind
theorem W_dlst {m : Bool} {a : E} : W (evE Φ (.dlst m a) σ M) Q X = W (evE Φ a σ M) (fun x M1 => W (dlstD m x M1) Q X) X := W_bind
def keysR (d : D) (M : List Cell) : R (List D) := match lockD d M with
  | some (_, ks, _, M2) => .ok ks M2
  | none => .bad
def valsR (d : D) (M : List Cell) : R (List D) := match lockD d M with
  | some (false, _, vs, M2) => .ok vs M2
  | _ => .bad
theorem W_keys {a : E} : W (evIt Φ (.keys a) σ M) QL X = W (evE Φ a σ M) (fun d M1 => W (keysR d M1) QL X) X := by
  show V (evIt Φ (.keys a) σ M) QL X = V _ _ X
  rw [evIt, V_bind]
  rfl
theorem W_vals {a : E} : W (evIt Φ (.vals a) σ M) QL X = W (evE Φ a σ M) (fun d M1 => W (valsR d M1) QL X) X := by
  show V (evIt Φ (.vals a) σ M) QL X = V _ _ X
  rw [evIt, V_bind]
  rfl
/-! by the place -/
theorem dct_place {i : Nat} {m t : Bool} {ks vs : List D} (h : M[i]? = some ⟨m, .dct t ks vs⟩) : dctOf M (.ref i) = some (t, ks, vs) := by
  show (match M[i]? with
    | some ⟨_, .dct t ks vs⟩ => some (t, ks, vs)
    | _ => none) = _
  rw [h]
theorem W_dgetD {a b v : D} {t : Bool} {ks vs : List D} (h : dctOf M a = some (t, ks, vs)) (hk : isKey t b = true) (e : dLook b ks vs = some v) : W (dgetD a b M) Q X = Q v M := by
  show V (dgetD a b M) Q X = _
  unfold dgetD
  rw [h]
  dsimp only
  rw [if_pos hk, e]
  rfl
theorem W_dgetdD {a b x : D} {t : Bool} {ks vs : List D} (h : dctOf M a = some (t, ks, vs)) (hk : isKey t b = true) : W (dgetdD a b x M) Q X = Q ((dLook b ks vs).getD x) M := by
  show V (dgetdD a b x M) Q X = _
  unfold dgetdD
  rw [h]
  dsimp only
  rw [if_pos hk]
  rfl
theorem W_dinD {ng : Bool} {a b : D} {t : Bool} {ks vs : List D} (h : dctOf M b = some (t, ks, vs)) (hk : isKey t a = true) : W (dinD ng a b M) Q X = Q (.bl (if ng then !(dLook a ks vs).isSome else (dLook a ks vs).isSome)) M := by
  show V (dinD ng a b M) Q X = _
  unfold dinD
  rw [h]
  dsimp only
  rw [if_pos hk]
  rfl
theorem W_dlstD {m t : Bool} {i : Nat} {ks vs : List D} (h : M[i]? = some ⟨true, .dct t ks vs⟩) : W (dlstD m (.ref i) M) Q X = W (new m ks M) Q X := by
  show V (match M[i]? with
    | some ⟨true, .dct _ ks _⟩ => new m ks M
    | _ => .bad) Q X = _
  rw [h]
  rfl
theorem W_keysR {i : Nat} {m t : Bool} {ks vs : List D} (h : M[i]? = some ⟨m, .dct t ks vs⟩) : W (keysR (.ref i) M) QL X = QL ks (M.set i ⟨false, .dct t ks vs⟩) := by
  have e : lockD (.ref i) M = some (t, ks, vs, M.set i ⟨false, .dct t ks vs⟩) := by
    show (match M[i]? with
      | some ⟨_, .dct t ks vs⟩ => some (t, ks, vs, M.set i ⟨false, .dct t ks vs⟩)
      | _ => none) = _
    rw [h]
  show V (keysR (.ref i) M) QL X = _
  unfold keysR
  rw [e]
  rfl
theorem W_valsR {i : Nat} {m : Bool} {ks vs : List D} (h : M[i]? = some ⟨m, .dct false ks vs⟩) : W (valsR (.ref i) M) QL X = QL vs (M.set i ⟨false, .dct false ks vs⟩) := by
  have e : lockD (.ref i) M = some (false, ks, vs, M.set i ⟨false, .dct false ks vs⟩) := by
    show (match M[i]? with
      | some ⟨_, .dct t ks vs⟩ => some (t, ks, vs, M.set i ⟨false, .dct t ks vs⟩)
      | _ => none) = _
    rw [h]
  show V (valsR (.ref i) M) QL X = _
  unfold valsR
  rw [e]
  rfl
def dsetR (x y z : D) (M : List Cell) : R Unit := match dsetD x y z M with
  | some M4 => .ok () M4
  | none => .bad
theorem Q_dset {o i v : E} : WQ (evS Φ (.dset o i v) σ M) QF X = W (evE Φ v σ M) (fun z M1 => W (evE Φ o σ M1) (fun x M2 => W (evE Φ i σ M2) (fun y M3 => W (dsetR x y z M3) (fun _ M4 => QF .nx σ M4) X) X) X) X := by
  show VQ (evS Φ (.dset o i v) σ M) QF X = V _ _ X
  rw [evS, V_st]
  congr 1; funext z M1
  rw [V_st]
  show V _ _ X = V _ _ X
  congr 1; funext x M2
  rw [V_st]
  show V _ _ X = V _ _ X
  congr 1; funext y M3
  show VQ (match dsetD x y z M3 with
    | some M4 => .ok .nx σ M4
    | none => .bad) QF X = V (dsetR x y z M3) _ X
  unfold dsetR
  cases dsetD x y z M3 <;> rfl
theorem W_dsetR {p : Nat} {t : Bool} {ks vs : List D} {y z : D} {QU : Unit → List Cell → Prop} (h : M[p]? = some ⟨true, .dct t ks vs⟩) (hk : isKey t y = true) (hl : ks.length < LIM) : W (dsetR (.ref p) y z M) QU X = QU () (M.set p ⟨true, .dct t (dPutK y ks) (dPutV y z ks vs)⟩) := by
  have e : dsetD (.ref p) y z M = some (M.set p ⟨true, .dct t (dPutK y ks) (dPutV y z ks vs)⟩) := by
    show (match M[p]? with
      | some ⟨true, .dct t ks vs⟩ => if isKey t y = true ∧ ks.length < LIM then some (M.set p ⟨true, .dct t (dPutK y ks) (dPutV y z ks vs)⟩) else none
      | _ => none) = _
    rw [h]
    dsimp only
    rw [if_pos ⟨hk, hl⟩]
  show V (dsetR (.ref p) y z M) QU X = _
  unfold dsetR
  rw [e]
  rfl
/-! tuples that may be keys -/
theorem W_addK {xs ys : List D} : W (bop true .Add (.ktp xs) (.ktp ys) M) Q X = (xs.length + ys.length ≤ LIM ∧ Q (.ktp (xs ++ ys)) M) := by
  show V (if xs.length + ys.length ≤ LIM then R.ok (.ktp (xs ++ ys)) M else .bad) Q X = _
  split <;> simp [V_ok, V_bad, *]
theorem W_slcK {m : Bool} {xs : List D} {lo hi : Option Int} : W (slcD m (.ktp xs) lo hi M) Q X = Q (.ktp (cutL xs lo hi)) M := rfl
theorem W_lenK {xs : List D} : W (bi .len [.ktp xs] M) Q X = Q (.int xs.length) M := rfl
theorem W_ktL {xs : List D} : W (bi .ktuple [.lst xs] M) Q X = (xs.length ≤ LIM ∧ Q (.ktp xs) M) := by
  show V (if xs.length ≤ LIM then R.ok (.ktp xs) M else .bad) Q X = _
  split <;> simp [V_ok, V_bad, *]
theorem W_ktK {xs : List D} : W (bi .ktuple [.ktp xs] M) Q X = Q (.ktp xs) M := rfl
theorem W_ktR {i : Nat} {m : Bool} {xs : List D} (h : M[i]? = some ⟨m, .lst xs⟩) : W (bi .ktuple [.ref i] M) Q X = (xs.length ≤ LIM ∧ Q (.ktp xs) M) := by
  show V (match content M (.ref i) with
    | some xs => if xs.length ≤ LIM then R.ok (.ktp xs) M else .bad
    | none => .bad) Q X = _
  have e : content M (.ref i) = some xs := by
    show (match M[i]? with | some ⟨_, .lst xs⟩ => some xs | _ => none) = some xs
    rw [h]
  rw [e]
  dsimp only
  split <;> simp [V_ok, V_bad, *]
theorem W_nthK {xs : List D} {i : Nat} {d : D} (e : xs[i]? = some d) : W (idxD (.ktp xs) (.int i) M) Q X = Q d M := W_at (a := .ktp xs) rfl (L2.atI_nat e)
theorem W_atK {xs : List D} {i : Int} {d : D} (e : L2.atI xs i = some d) : W (idxD (.ktp xs) (.int i) M) Q X = Q d M := W_at (a := .ktp xs) rfl e
theorem valR_ktp {xs : List D} : W (valR (.ktp xs) M) QL X = QL xs M := rfl
end
/-! ### what a table holds: a function on its keys -/
open Classical in
theorem dLook_put {k v x : D} (heq : ∀ a ∈ [k, x], beqX a a = true) (hbe : ∀ a b : D, beqX a b = true → a = b) : ∀ {ks vs : List D}, ks.length = vs.length → dLook x (dPutK k ks) (dPutV k v ks vs) = if x = k then some v else dLook x ks vs := fun {ks vs} hl => by
  have hkk : beqX k k = true := heq k (by simp)
  have hxx : beqX x x = true := heq x (by simp)
  have app : ∀ {ks vs : List D}, ks.length = vs.length → dHas k ks = false → dLook x (ks ++ [k]) (vs ++ [v]) = if x = k then some v else dLook x ks vs := fun {ks} => by
    induction ks with
    | nil =>
      intro vs hl _
      cases vs with
      | cons _ _ => cases hl
      | nil =>
        show (if beqX k x = true then some v else none) = if x = k then some v else none
        by_cases e : x = k
        · subst e
          rw [if_pos hxx, if_pos rfl]
        · rw [if_neg fun z => e (hbe _ _ z).symm, if_neg e]
    | cons y ks ih =>
      intro vs hl hh
      cases vs with
      | nil => cases hl
      | cons w vs =>
        unfold dHas at hh
        rw [List.any_cons, Bool.or_eq_false_iff] at hh
        have ih := ih (vs := vs) (Nat.succ.inj hl) hh.2
        show (if beqX y x = true then some w else dLook x (ks ++ [k]) (vs ++ [v])) = if x = k then some v else (if beqX y x = true then some w else dLook x ks vs)
        rw [ih]
        by_cases e : x = k
        · subst e
          rw [if_neg (by rw [hh.1]; decide)]
          simp
        · simp [e]
  have rep : ∀ {ks vs : List D}, ks.length = vs.length → dHas k ks = true → dLook x ks (dRepl k v ks vs) = if x = k then some v else dLook x ks vs := fun {ks} => by
    induction ks with
    | nil => intro vs _ h; cases h
    | cons y ks ih =>
      intro vs hl hh
      cases vs with
      | nil => cases hl
      | cons w vs =>
        show (if beqX y x = true then some (if beqX y k then v else w) else dLook x ks (dRepl k v ks vs)) = if x = k then some v else (if beqX y x = true then some w else dLook x ks vs)
        by_cases e1 : beqX y x = true
        · have := hbe _ _ e1
          subst this
          rw [if_pos e1, if_pos e1]
          by_cases e2 : y = k
          · subst e2
            rw [if_pos hkk, if_pos rfl]
          · rw [if_neg fun z => e2 (hbe _ _ z), if_neg e2]
        · rw [if_neg e1, if_neg e1]
          by_cases e2 : dHas k ks = true
          · exact ih (Nat.succ.inj hl) e2
          · have hy : beqX y k = true := by
              unfold dHas at hh e2
              rw [List.any_cons, Bool.or_eq_true] at hh
              exact hh.resolve_right e2
            have hyk := hbe _ _ hy
            have hxk : x ≠ k := fun z => e1 (by rw [z]; exact hy)
            rw [if_neg hxk]
            have e3 : dRepl k v ks vs = vs := by
              clear ih hh e1 hl
              induction ks generalizing vs with
              | nil => cases vs <;> rfl
              | cons z ks ih2 =>
                cases vs with
                | nil => rfl
                | cons u vs =>
                  unfold dHas at e2
                  rw [List.any_cons, Bool.or_eq_true, not_or] at e2
                  show (if beqX z k then v else u) :: dRepl k v ks vs = _
                  rw [if_neg e2.1, ih2 _ e2.2]
            rw [e3]
  unfold dPutK dPutV
  by_cases h : dHas k ks = true
  · rw [if_pos h, if_pos h]
    exact rep hl h
  · rw [if_neg h, if_neg h]
    exact app hl (Bool.eq_false_iff.mpr h)
theorem dPut_len {k v : D} : ∀ {ks vs : List D}, ks.length = vs.length → (dPutK k ks).length = (dPutV k v ks vs).length := fun {ks vs} h => by
  have rep : ∀ {ks vs : List D}, ks.length = vs.length → (dRepl k v ks vs).length = vs.length := fun {ks} => by
    induction ks with
    | nil => intro vs _; cases vs <;> rfl
    | cons y ks ih =>
      intro vs hl
      cases vs with
      | nil => rfl
      | cons w vs =>
        show (dRepl k v ks vs).length + 1 = _
        rw [ih (Nat.succ.inj hl)]; rfl
  unfold dPutK dPutV
  split
  · rw [rep h, h]
  · rw [List.length_append, List.length_append, h]; rfl
end
end Sg

local macro_rules | `(tactic| walk_at "sg") => `(tactic| try simp (config := {dsimp := false}) only [
  ↓Sg.W_ok, ↓Sg.W_exc, ↓Sg.W_bad, ↓Sg.WQ_ok, ↓Sg.WQ_exc, ↓Sg.WQ_bad, ↓Sg.W_bind, ↓Sg.W_st, ↓Sg.W_nox, ↓Sg.W_var,
  ↓Sg.W_c, ↓Sg.W_glob, ↓Sg.W_bin, ↓Sg.W_un, ↓Sg.W_cmp, ↓Sg.W_chain, ↓Sg.W_toBl, ↓Sg.W_bop, ↓Sg.W_B1, ↓Sg.W_And,
  ↓Sg.W_Or, ↓Sg.W_ite, ↓Sg.W_tup, ↓Sg.W_lst, ↓Sg.W_idx, ↓Sg.W_slc, ↓Sg.W_call, ↓Sg.W_bi, ↓Sg.W_isi, ↓Sg.W_meth,
  ↓Sg.W_comp, ↓Sg.W_compS, ↓Sg.W_Ono, ↓Sg.W_Oso, ↓Sg.W_Cno, ↓Sg.W_Cso, ↓Sg.W_nil, ↓Sg.W_cons, ↓Sg.W_val, ↓Sg.W_rng1,
  ↓Sg.W_rng2, ↓Sg.W_rng3, ↓Sg.W_zip, ↓Sg.W_enum, ↓Sg.W_rev, ↓Sg.W_Tv, ↓Sg.W_Tt, ↓Sg.W_Ti, ↓Sg.W_Tn, ↓Sg.W_Tc,
  ↓Sg.Kq_nx, ↓Sg.Kq_rt, ↓Sg.Kq_bk, ↓Sg.Kq_ct, ↓Sg.Q_nil, ↓Sg.Q_cons, ↓Sg.Q_expr, ↓Sg.Q_asg, ↓Sg.aug_int, ↓Sg.Q_aug,
  ↓Sg.Q_ite, ↓Sg.W_forS, ↓Sg.Q_for, ↓Sg.Q_whl, ↓Sg.Q_ret, ↓Sg.Q_ret0, ↓Sg.Q_pass, ↓Sg.Q_brk, ↓Sg.Q_cont, ↓Sg.Q_raise, ↓Sg.Q_forL, ↓Sg.W_rep,
  ↓Sg.W_evD, ↓Sg.W_add, ↓Sg.W_sub, ↓Sg.W_mul, ↓Sg.W_mulI, ↓Sg.W_addI, ↓Sg.W_subI, ↓Sg.W_neg, ↓Sg.W_not, ↓Sg.W_lt,
  ↓Sg.W_le, ↓Sg.W_gt, ↓Sg.W_ge, ↓Sg.W_eq, ↓Sg.W_ne, ↓Sg.W_is, ↓Sg.W_isnot, ↓Sg.W_new0, ↓Sg.W_new1, ↓Sg.W_abs,
  ↓Sg.W_max2, ↓Sg.W_min2, ↓Sg.W_pow, Sg.gv0, Sg.gv1, Sg.gv2, Sg.gvs, Sg.asI_int, Sg.retQ_nx,
  Sg.retQ_rt, decide_eq_true_eq, List.set_cons_zero, List.set_cons_succ, if_true, if_false, Bool.false_eq_true, List.length_cons, List.length_nil, true_and,
  and_true, Bool.not_eq_true', decide_eq_false_iff_not, Nat.zero_add, Nat.reduceAdd, Nat.reduceSub, Nat.reduceLeDiff, Sg.LIM, ↓Sg.W_t0, ↓Sg.W_t1, ↓Sg.W_t2, ↓Sg.W_t3, ↓Sg.W_l0, ↓Sg.W_l1, ↓Sg.W_l2, ↓Sg.W_l3, ↓Sg.W_l4, ↓Sg.W_l5, ↓Sg.W_l6, ↓Sg.W_l7, ↓Sg.W_l8, ↓Sg.W_l9, ↓Sg.W_mod, ↓Sg.W_div_lit, ↓Sg.W_div_ok, ↓Sg.W_modI,
  ↓Sg.W_divI_lit, ↓Sg.W_divI_ok, ↓Sg.W_lenL, ↓Sg.W_lenT, ↓Sg.W_lenF, ↓Sg.W_eqI, ↓Sg.W_neI, Sg.mid_nx, Sg.mid_ct, Sg.mid_bk, Sg.mid_rt, Sg.lp_nx, Sg.lp_ct, Sg.lp_bk, Sg.lp_rt, Sg.mulOk_lit,
  Sg.start, Sg.wipeD, List.map_cons, List.map_nil, List.cons_append, List.nil_append, List.replicate_succ, List.replicate_zero, Int.natAbs_natCast, ne_eq, Int.reduceLT, Int.reduceLE, Int.reduceAbs, Nat.reduceLT, Int.reducePow, Int.reduceToNat, Int.reduceEq, Int.reduceMul, Int.reduceSub, Int.reduceAdd,
  Int.reduceNeg, Int.reduceDiv, Int.reduceMod, not_false_eq_true, not_true_eq_false, Nat.reduceEqDiff, Nat.reducePow, Nat.reduceMul, Int.natAbs_neg, Bool.not_true, Bool.not_false, decide_true, decide_false, or_self, and_self, ↓Sg.W_eqQ, ↓Sg.W_neQ, ↓Sg.W_eqR, ↓Sg.W_neR, ↓Sg.W_eqT, ↓Sg.W_neT, ↓Sg.W_q0, ↓Sg.W_q1, ↓Sg.W_lenQ, ↓Sg.W_lenRow, ↓Sg.W_lenTab, ↓Sg.isi_q_t, ↓Sg.isi_q_i, ↓Sg.isi_q_b, ↓Sg.isi_q_l, ↓Sg.isi_row_l, ↓Sg.isi_tab_l, ↓Sg.valR_row, ↓Sg.valR_tab, ↓Sg.lstR_row, ↓Sg.lstR_tab, ↓Sg.valR_nats, ↓Sg.valR_ints, ↓Sg.lstR_nats, ↓Sg.lstR_ints, ↓Sg.W_lenNats, ↓Sg.W_lenInts, ↓Sg.isi_nats_l, ↓Sg.isi_ints_l, ↓Sg.W_intB, ↓Sg.W_intI, ↓Sg.W_listL, ↓Sg.W_listT, ↓Sg.W_addL, ↓Sg.W_slcL, ↓Sg.W_addT, ↓Sg.W_listRow, ↓Sg.W_listTab, ↓Sg.W_listNats, ↓Sg.W_listInts, ↓Sg.W_eqNs, ↓Sg.W_neNs, ↓Sg.W_eqIs, ↓Sg.W_neIs,
  ↓Sg.W_eqB, ↓Sg.W_neB, ↓Sg.W_xis, ↓Sg.W_dnew, ↓Sg.W_dlit, ↓Sg.W_dun, ↓Sg.W_dget, ↓Sg.W_din, ↓Sg.W_dlst, ↓Sg.W_keys, ↓Sg.W_vals, ↓Sg.Q_dset, ↓Sg.W_ktup, ↓Sg.exoR_exo, ↓Sg.W_lrng, ↓Sg.W_lrng2, ↓Sg.W_lrngD, ↓Sg.W_rvl, ↓Sg.W_rvlL, ↓Sg.W_rvlF, ↓Sg.W_revR, ↓Sg.W_revR2, ↓Sg.tw_word, ↓Sg.tw_lword, ↓Sg.tw_weq, ↓Sg.W_append, Sg.mcell0, Sg.mcells, Sg.content_ref0, Sg.content_refs, Sg.content_lst, Option.isSome_some, ↓Sg.valR_lst, ↓Sg.valR_tup, ↓Sg.valR_fro, ↓Sg.lstR_lst, ↓Sg.lstR_fro, ↓Sg.zipR_lst,
  ↓Sg.isi_int_int, ↓Sg.isi_int_bool, ↓Sg.isi_int_str, ↓Sg.isi_int_list, ↓Sg.isi_int_tuple, ↓Sg.isi_bl_int, ↓Sg.isi_bl_bool, ↓Sg.isi_bl_str, ↓Sg.isi_bl_list, ↓Sg.isi_bl_tuple, ↓Sg.isi_str_int, ↓Sg.isi_str_bool, ↓Sg.isi_str_str, ↓Sg.isi_str_list, ↓Sg.isi_str_tuple, ↓Sg.isi_tup_int, ↓Sg.isi_tup_bool, ↓Sg.isi_tup_str, ↓Sg.isi_tup_list, ↓Sg.isi_tup_tuple, ↓Sg.isi_lst_int, ↓Sg.isi_lst_bool, ↓Sg.isi_lst_str, ↓Sg.isi_lst_list, ↓Sg.isi_lst_tuple, ↓Sg.isi_non_int, ↓Sg.isi_non_bool, ↓Sg.isi_non_str, ↓Sg.isi_non_list, ↓Sg.isi_non_tuple])
local macro_rules | `(tactic| walk_at "sgh") => `(tactic| try simp (config := {dsimp := false}) only [
  ↓Sg.W_ok, ↓Sg.W_exc, ↓Sg.W_bad, ↓Sg.WQ_ok, ↓Sg.WQ_exc, ↓Sg.WQ_bad, ↓Sg.W_bind, ↓Sg.W_st, ↓Sg.W_nox, ↓Sg.W_var,
  ↓Sg.W_c, ↓Sg.W_glob, ↓Sg.W_bin, ↓Sg.W_un, ↓Sg.W_cmp, ↓Sg.W_chain, ↓Sg.W_toBl, ↓Sg.W_bop, ↓Sg.W_B1, ↓Sg.W_And,
  ↓Sg.W_Or, ↓Sg.W_ite, ↓Sg.W_tup, ↓Sg.W_lst, ↓Sg.W_idx, ↓Sg.W_slc, ↓Sg.W_call, ↓Sg.W_bi, ↓Sg.W_isi, ↓Sg.W_meth,
  ↓Sg.W_comp, ↓Sg.W_compS, ↓Sg.W_Ono, ↓Sg.W_Oso, ↓Sg.W_Cno, ↓Sg.W_Cso, ↓Sg.W_nil, ↓Sg.W_cons, ↓Sg.W_val, ↓Sg.W_rng1,
  ↓Sg.W_rng2, ↓Sg.W_rng3, ↓Sg.W_zip, ↓Sg.W_enum, ↓Sg.W_rev, ↓Sg.W_Tv, ↓Sg.W_Tt, ↓Sg.W_Ti, ↓Sg.W_Tn, ↓Sg.W_Tc,
  ↓Sg.Kq_nx, ↓Sg.Kq_rt, ↓Sg.Kq_bk, ↓Sg.Kq_ct, ↓Sg.Q_nil, ↓Sg.Q_cons, ↓Sg.Q_expr, ↓Sg.Q_asg, ↓Sg.aug_int, ↓Sg.Q_aug,
  ↓Sg.Q_ite, ↓Sg.W_forS, ↓Sg.Q_for, ↓Sg.Q_whl, ↓Sg.Q_ret, ↓Sg.Q_ret0, ↓Sg.Q_pass, ↓Sg.Q_brk, ↓Sg.Q_cont, ↓Sg.Q_raise, ↓Sg.Q_forL, ↓Sg.W_rep,
  ↓Sg.W_evD, ↓Sg.W_add, ↓Sg.W_sub, ↓Sg.W_mul, ↓Sg.W_mulI, ↓Sg.W_addI, ↓Sg.W_subI, ↓Sg.W_neg, ↓Sg.W_not, ↓Sg.W_lt,
  ↓Sg.W_le, ↓Sg.W_gt, ↓Sg.W_ge, ↓Sg.W_eq, ↓Sg.W_ne, ↓Sg.W_is, ↓Sg.W_isnot, ↓Sg.W_new0, ↓Sg.W_new1, ↓Sg.W_abs,
  ↓Sg.W_max2, ↓Sg.W_min2, ↓Sg.W_pow, Sg.gv0, Sg.gv1, Sg.gv2, Sg.gvs, Sg.asI_int, Sg.retQ_nx,
  Sg.retQ_rt, decide_eq_true_eq, List.set_cons_zero, List.set_cons_succ, if_true, if_false, Bool.false_eq_true, List.length_cons, List.length_nil, true_and,
  and_true, Bool.not_eq_true', decide_eq_false_iff_not, Nat.zero_add, Nat.reduceAdd, Nat.reduceSub, Nat.reduceLeDiff, Sg.LIM, ↓Sg.W_t0, ↓Sg.W_t1, ↓Sg.W_t2, ↓Sg.W_t3, ↓Sg.W_l0, ↓Sg.W_l1, ↓Sg.W_l2, ↓Sg.W_l3, ↓Sg.W_l4, ↓Sg.W_l5, ↓Sg.W_l6, ↓Sg.W_l7, ↓Sg.W_l8, ↓Sg.W_l9, ↓Sg.W_mod, ↓Sg.W_div_lit, ↓Sg.W_div_ok, ↓Sg.W_modI,
  ↓Sg.W_divI_lit, ↓Sg.W_divI_ok, ↓Sg.W_lenL, ↓Sg.W_lenT, ↓Sg.W_lenF, ↓Sg.W_eqI, ↓Sg.W_neI, Sg.mid_nx, Sg.mid_ct, Sg.mid_bk, Sg.mid_rt, Sg.lp_nx, Sg.lp_ct, Sg.lp_bk, Sg.lp_rt, Sg.mulOk_lit,
  Sg.start, Sg.wipeD, List.map_cons, List.map_nil, List.cons_append, List.nil_append, List.replicate_succ, List.replicate_zero, Int.natAbs_natCast, ne_eq, Int.reduceLT, Int.reduceLE, Int.reduceAbs, Nat.reduceLT, Int.reducePow, Int.reduceToNat, Int.reduceEq, Int.reduceMul, Int.reduceSub, Int.reduceAdd,
  Int.reduceNeg, Int.reduceDiv, Int.reduceMod, not_false_eq_true, not_true_eq_false, Nat.reduceEqDiff, Nat.reducePow, Nat.reduceMul, Int.natAbs_neg, Bool.not_true, Bool.not_false, decide_true, decide_false, or_self, and_self, ↓Sg.W_eqQ, ↓Sg.W_neQ, ↓Sg.W_eqR, ↓Sg.W_neR, ↓Sg.W_eqT, ↓Sg.W_neT, ↓Sg.W_q0, ↓Sg.W_q1, ↓Sg.W_lenQ, ↓Sg.W_lenRow, ↓Sg.W_lenTab, ↓Sg.isi_q_t, ↓Sg.isi_q_i, ↓Sg.isi_q_b, ↓Sg.isi_q_l, ↓Sg.isi_row_l, ↓Sg.isi_tab_l, ↓Sg.valR_row, ↓Sg.valR_tab, ↓Sg.lstR_row, ↓Sg.lstR_tab, ↓Sg.valR_nats, ↓Sg.valR_ints, ↓Sg.lstR_nats, ↓Sg.lstR_ints, ↓Sg.W_lenNats, ↓Sg.W_lenInts, ↓Sg.isi_nats_l, ↓Sg.isi_ints_l, ↓Sg.W_intB, ↓Sg.W_intI, ↓Sg.W_listL, ↓Sg.W_listT, ↓Sg.W_addL, ↓Sg.W_slcL, ↓Sg.W_addT, ↓Sg.W_listRow, ↓Sg.W_listTab, ↓Sg.W_listNats, ↓Sg.W_listInts, ↓Sg.W_eqNs, ↓Sg.W_neNs, ↓Sg.W_eqIs, ↓Sg.W_neIs,
  ↓Sg.W_eqB, ↓Sg.W_neB, ↓Sg.W_xis, ↓Sg.W_dnew, ↓Sg.W_dlit, ↓Sg.W_dun, ↓Sg.W_dget, ↓Sg.W_din, ↓Sg.W_dlst, ↓Sg.W_keys, ↓Sg.W_vals, ↓Sg.Q_dset, ↓Sg.W_ktup, ↓Sg.exoR_exo, ↓Sg.W_lrng, ↓Sg.W_lrng2, ↓Sg.W_lrngD, ↓Sg.W_rvl, ↓Sg.W_rvlL, ↓Sg.W_rvlF, ↓Sg.W_revR, ↓Sg.W_revR2, ↓Sg.tw_word, ↓Sg.tw_lword, ↓Sg.tw_weq, ↓Sg.W_append, Sg.mcell0, Sg.mcells, Sg.content_ref0, Sg.content_refs, Sg.content_lst, Option.isSome_some, ↓Sg.valR_lst, ↓Sg.valR_tup, ↓Sg.valR_fro, ↓Sg.lstR_lst, ↓Sg.lstR_fro, ↓Sg.zipR_lst,
  ↓Sg.isi_int_int, ↓Sg.isi_int_bool, ↓Sg.isi_int_str, ↓Sg.isi_int_list, ↓Sg.isi_int_tuple, ↓Sg.isi_bl_int, ↓Sg.isi_bl_bool, ↓Sg.isi_bl_str, ↓Sg.isi_bl_list, ↓Sg.isi_bl_tuple, ↓Sg.isi_str_int, ↓Sg.isi_str_bool, ↓Sg.isi_str_str, ↓Sg.isi_str_list, ↓Sg.isi_str_tuple, ↓Sg.isi_tup_int, ↓Sg.isi_tup_bool, ↓Sg.isi_tup_str, ↓Sg.isi_tup_list, ↓Sg.isi_tup_tuple, ↓Sg.isi_lst_int, ↓Sg.isi_lst_bool, ↓Sg.isi_lst_str, ↓Sg.isi_lst_list, ↓Sg.isi_lst_tuple, ↓Sg.isi_non_int, ↓Sg.isi_non_bool, ↓Sg.isi_non_str, ↓Sg.isi_non_list, ↓Sg.isi_non_tuple, *])
local macro_rules | `(tactic| walk_at "lt2") => `(tactic| first | assumption | exact Sg.lt2_lit (by decide) | exact Sg.Lt2.mod (by decide) (Sg.lt2_lit (by decide)) | (apply Sg.Lt2.mul <;> walk_at "lt2") | (apply Sg.Lt2.add' <;> walk_at "lt2") | (apply Sg.Lt2.sub' <;> walk_at "lt2") | (apply Sg.Lt2.neg; walk_at "lt2") | (apply Sg.Lt2.ediv; walk_at "lt2"))
local macro_rules | `(tactic| walk_at "mo") => `(tactic| (apply Sg.mulOk_of; (walk_at "lt2"); (walk_at "lt2"); decide))

/-! SpFrac: fractions. -/
namespace Sg
open PySem
/-- divisor(one, other, rest) -/
def b1 : Df := ⟨2, 3, .cons (.asg (.var 0) (.bi .abs (.cons (.var 0) .nil))) (.cons (.asg (.var 1) (.bi .abs (.cons (.var 1) .nil))) (.cons (.whl (.cmp .Gt (.var 1) (.c (.int 0))) (.cons (.asg (.var 2) (.bin false .Mod (.var 0) (.var 1))) (.cons (.asg (.var 0) (.var 1)) (.cons (.asg (.var 1) (.var 2)) .nil)))) (.cons (.ret (.so (.var 0))) .nil)))⟩
/-- fraction(top, bottom, common) -/
def b2 : Df := ⟨2, 3, .cons (.ite (.cmp .Eq (.var 1) (.c (.int 0))) (.cons (.raise 1) .nil) .nil) (.cons (.asg (.var 2) (.call 1 0 (.cons (.var 0) (.cons (.var 1) .nil)))) (.cons (.ite (.cmp .Lt (.var 1) (.c (.int 0))) (.cons (.asg (.var 2) (.un .USub (.var 2))) .nil) .nil) (.cons (.ret (.so (.tup (.cons (.bin false .FloorDiv (.var 0) (.var 2)) (.cons (.bin false .FloorDiv (.var 1) (.var 2)) .nil))))) .nil)))⟩
/-- sum_of(one, other) -/
def b3 : Df := ⟨2, 2, .cons (.ret (.so (.call 2 0 (.cons (.bin false .Add (.bin false .Mult (.idx (.var 0) (.c (.int 0))) (.idx (.var 1) (.c (.int 1)))) (.bin false .Mult (.idx (.var 1) (.c (.int 0))) (.idx (.var 0) (.c (.int 1))))) (.cons (.bin false .Mult (.idx (.var 0) (.c (.int 1))) (.idx (.var 1) (.c (.int 1)))) .nil))))) .nil⟩
/-- rest_of(one, other) -/
def b4 : Df := ⟨2, 2, .cons (.ret (.so (.call 2 0 (.cons (.bin false .Sub (.bin false .Mult (.idx (.var 0) (.c (.int 0))) (.idx (.var 1) (.c (.int 1)))) (.bin false .Mult (.idx (.var 1) (.c (.int 0))) (.idx (.var 0) (.c (.int 1))))) (.cons (.bin false .Mult (.idx (.var 0) (.c (.int 1))) (.idx (.var 1) (.c (.int 1)))) .nil))))) .nil⟩
/-- product_of(one, other) -/
def b5 : Df := ⟨2, 2, .cons (.ret (.so (.call 2 0 (.cons (.bin false .Mult (.idx (.var 0) (.c (.int 0))) (.idx (.var 1) (.c (.int 0)))) (.cons (.bin false .Mult (.idx (.var 0) (.c (.int 1))) (.idx (.var 1) (.c (.int 1)))) .nil))))) .nil⟩
/-- quotient_of(one, other) -/
def b25 : Df := ⟨2, 2, .cons (.ret (.so (.call 2 0 (.cons (.bin false .Mult (.idx (.var 0) (.c (.int 0))) (.idx (.var 1) (.c (.int 1)))) (.cons (.bin false .Mult (.idx (.var 0) (.c (.int 1))) (.idx (.var 1) (.c (.int 0)))) .nil))))) .nil⟩
/-! ### divisor -/
def Sp1 (Φ : Phi) : Prop := ∀ a b : Int, Lt2 b 19999 → Rt Φ 1 [.int a, .int b] (.int (Int.gcd a b : Nat))
theorem gcd_loop {Φ : Phi} {c : E} {bd : Ss} {QF : Fl → St → List Cell → Prop} {X : Nat → List Cell → Prop} {M : List Cell} (a b : Nat) (hb : b < 2 ^ 19999) (hc : c = .cmp .Gt (.var 1) (.c (.int 0)))
    (hd : bd = .cons (.asg (.var 2) (.bin false .Mod (.var 0) (.var 1))) (.cons (.asg (.var 0) (.var 1)) (.cons (.asg (.var 1) (.var 2)) .nil)))
    (hq : ∀ r, QF .nx [some (.int (Nat.gcd a b : Nat)), some (.int 0), r] M) :
    WQ (whlL (evE Φ c) (evSs Φ bd) FUEL [some (.int a), some (.int b), none] M) QF X := by
  subst hc hd
  refine whl_fuel (n := b) (fun n σ M' => M' = M ∧ ∃ x r, σ = [some (.int (x : Nat)), some (.int (n : Nat)), r] ∧ Nat.gcd x n = Nat.gcd a b) ⟨rfl, a, none, rfl, rfl⟩ (by omega) ?_
  rintro n σ M' ⟨rfl, x, r, rfl, hg⟩
  walk_at "sg"
  by_cases h : n = 0
  · subst h
    rw [if_neg (by decide)]
    rw [Nat.gcd_zero_right] at hg
    rw [hg]
    exact hq r
  · have h0 : (0 : Int) < n := by omega
    rw [if_pos h0]
    walk_at "sgh"
    refine ⟨x % n, Nat.mod_lt _ (by omega), n, some (D.int ((x : Int) % n)), ?_, ?_⟩
    · rw [Int.natCast_emod]
    · rw [← hg, Nat.gcd_comm n, Nat.gcd_comm x n, ← Nat.gcd_rec]
theorem sp1 {Φ Φ' : Phi} (e : Φ' 1 = evD Φ b1) : Sp1 Φ' := fun a b hb => rt_of e rfl (by
  unfold b1
  walk_at "sg"
  refine gcd_loop _ _ (by unfold Lt2 at hb; omega) rfl rfl fun r => ?_
  walk_at "sg"
  exact imm_of rfl)
/-! ### fraction -/
def Sz (q : Rat) (m : Nat) : Prop := Lt2 q.num m ∧ Lt2 (q.den : Nat) m
theorem Sz.mono {q : Rat} {m n : Nat} (h : Sz q m) (k : m ≤ n) : Sz q n := ⟨h.1.mono k, h.2.mono k⟩
theorem Lt2.dvd {a b : Int} {m : Nat} (h : Lt2 b m) (hb : b ≠ 0) (k : a ∣ b) : Lt2 a m := by
  unfold Lt2 at *
  exact Nat.lt_of_le_of_lt (Nat.le_of_dvd (by omega) (Int.natAbs_dvd_natAbs.mpr k)) h
theorem Lt2.div {a b : Int} {m : Nat} (h : Lt2 a m) : Lt2 (a / b) m := by
  unfold Lt2 at *
  exact Nat.lt_of_le_of_lt (Int.natAbs_ediv_le_natAbs a b) h
theorem sz_divInt {a b : Int} {m n k : Nat} (ha : Lt2 a m) (hb : Lt2 b n) (h1 : m ≤ k) (h2 : n ≤ k) (h3 : 1 ≤ k) : Sz (Rat.divInt a b) k := by
  constructor
  · rw [Rat.num_divInt]
    refine Lt2.div (Lt2.mono ?_ h1)
    unfold Lt2 at *
    rw [Int.natAbs_mul]
    rcases Int.lt_trichotomy b 0 with h | h | h
    · rw [Int.sign_eq_neg_one_of_neg h, show Int.natAbs (-1) = 1 from rfl, Nat.one_mul]
      exact ha
    · subst h
      simp
      omega
    · rw [Int.sign_eq_one_of_pos h, show Int.natAbs 1 = 1 from rfl, Nat.one_mul]
      exact ha
  · rw [Rat.den_divInt]
    split
    · exact Nat.lt_of_lt_of_le (by decide : (1 : Nat) < 2 ^ 1) (Nat.pow_le_pow_right (by decide) h3)
    · refine Lt2.mono ?_ h2
      unfold Lt2 at *
      rw [Int.natAbs_natCast]
      exact Nat.lt_of_le_of_lt (Nat.div_le_self _ _) hb
theorem Sz.pos {q : Rat} {m : Nat} (h : Sz q m) : 1 ≤ m := by
  rcases Nat.eq_zero_or_pos m with e | e
  · subst e
    have h2 := h.2
    have h3 := q.den_pos
    unfold Lt2 at h2
    rw [Int.natAbs_natCast] at h2
    omega
  · exact e
theorem rat_add (a b : Rat) : a + b = Rat.divInt (a.num * b.den + b.num * a.den) (a.den * b.den) := by
  have h1 : (a.den : Int) ≠ 0 := by have := a.den_pos; omega
  have h2 : (b.den : Int) ≠ 0 := by have := b.den_pos; omega
  have := Rat.divInt_add_divInt a.num b.num h1 h2
  rw [Rat.num_divInt_den, Rat.num_divInt_den] at this
  exact this
theorem rat_sub (a b : Rat) : a - b = Rat.divInt (a.num * b.den - b.num * a.den) (a.den * b.den) := by
  have h1 : (a.den : Int) ≠ 0 := by have := a.den_pos; omega
  have h2 : (b.den : Int) ≠ 0 := by have := b.den_pos; omega
  have := Rat.divInt_sub_divInt a.num b.num h1 h2
  rw [Rat.num_divInt_den, Rat.num_divInt_den] at this
  exact this
theorem rat_mul (a b : Rat) : a * b = Rat.divInt (a.num * b.num) (a.den * b.den) := by
  have := Rat.divInt_mul_divInt a.num b.num (d₁ := a.den) (d₂ := b.den)
  rw [Rat.num_divInt_den, Rat.num_divInt_den] at this
  exact this
theorem rat_div (a b : Rat) : a / b = Rat.divInt (a.num * b.den) (a.den * b.num) := by
  rw [Rat.div_def]
  have h := Rat.inv_divInt b.num b.den
  rw [Rat.num_divInt_den] at h
  rw [h]
  have := Rat.divInt_mul_divInt a.num b.den (d₁ := a.den) (d₂ := b.num)
  rw [Rat.num_divInt_den] at this
  exact this
theorem Sz.add {a b : Rat} {m n : Nat} (h : Sz a m) (k : Sz b n) : Sz (a + b) (m + n + 1) := by
  rw [rat_add]
  have h1 := (h.1.mul k.2)
  have h2 := (k.1.mul h.2)
  rw [Nat.add_comm n m] at h2
  have := h.pos
  exact sz_divInt (h1.add h2) (h.2.mul k.2) (Nat.le_refl _) (by omega) (by omega)
theorem Sz.sub {a b : Rat} {m n : Nat} (h : Sz a m) (k : Sz b n) : Sz (a - b) (m + n + 1) := by
  rw [rat_sub]
  have h1 := (h.1.mul k.2)
  have h2 := (k.1.mul h.2)
  rw [Nat.add_comm n m] at h2
  have := h.pos
  exact sz_divInt (h1.sub h2) (h.2.mul k.2) (Nat.le_refl _) (by omega) (by omega)
theorem Sz.mul {a b : Rat} {m n : Nat} (h : Sz a m) (k : Sz b n) : Sz (a * b) (m + n) := by
  rw [rat_mul]
  have := h.pos
  exact sz_divInt (h.1.mul k.1) (h.2.mul k.2) (Nat.le_refl _) (Nat.le_refl _) (by omega)
theorem Sz.div {a b : Rat} {m n : Nat} (h : Sz a m) (k : Sz b n) : Sz (a / b) (m + n) := by
  rw [rat_div]
  have := h.pos
  exact sz_divInt (h.1.mul k.2) (h.2.mul k.1) (Nat.le_refl _) (Nat.le_refl _) (by omega)
theorem Sz.neg {a : Rat} {m : Nat} (h : Sz a m) : Sz (-a) m := ⟨by rw [Rat.neg_num]; exact h.1.neg, by rw [Rat.neg_den]; exact h.2⟩
theorem qD_pos {a b : Int} (hb : 0 < b) : qD (Rat.divInt a b) = .tup [.int (a / (Int.gcd a b : Nat)), .int (b / (Int.gcd a b : Nat))] := by
  unfold qD
  rw [Rat.num_divInt, Rat.den_divInt, Int.sign_eq_one_of_pos hb, Int.one_mul, Int.gcd_comm, if_neg (by omega)]
  congr 3
  rw [Int.natCast_ediv, Int.natAbs_of_nonneg (by omega)]
theorem qD_neg {a b : Int} (hb : b < 0) : qD (Rat.divInt a b) = .tup [.int (-(a / (Int.gcd a b : Nat))), .int (-(b / (Int.gcd a b : Nat)))] := by
  have h1 : ((Int.gcd a b : Nat) : Int) ∣ a := Int.gcd_dvd_left ..
  have h2 : ((Int.gcd a b : Nat) : Int) ∣ b := Int.gcd_dvd_right ..
  rw [← Rat.neg_divInt_neg, qD_pos (by omega), Int.gcd_neg, Int.neg_gcd, Int.neg_ediv_of_dvd h1, Int.neg_ediv_of_dvd h2]
def Sp2 (Φ : Phi) : Prop := (∀ a b : Int, b ≠ 0 → Lt2 b 8999 → Rt Φ 2 [.int a, .int b] (qD (Rat.divInt a b))) ∧ ∀ a : Int, Xc Φ 2 [.int a, .int 0] 1
theorem sp2 {Φ Φ' : Phi} (e : Φ' 2 = evD Φ b2) (h1 : Sp1 Φ) : Sp2 Φ' := by
  constructor
  · intro a b hb hs
    refine rt_of e rfl ?_
    have hg := h1 a b (hs.mono (by decide))
    have g0 : ((Int.gcd a b : Nat) : Int) ≠ 0 := by
      have := Int.gcd_pos_of_ne_zero_right a hb
      omega
    have g1 : 0 < ((Int.gcd a b : Nat) : Int) := by omega
    have d1 : ((Int.gcd a b : Nat) : Int) ∣ a := Int.gcd_dvd_left ..
    have d2 : ((Int.gcd a b : Nat) : Int) ∣ b := Int.gcd_dvd_right ..
    have hdv : dvOk ((Int.gcd a b : Nat) : Int) = true := dvOk_of (hs.dvd hb d2) (by decide)
    have hdn : (-((Int.gcd a b : Nat) : Int)).natAbs.log2 < 9000 := by
      rw [Int.natAbs_neg]
      exact of_decide_eq_true hdv
    unfold b2
    walk_at "sg"
    rw [if_neg hb]
    simp only [hg]
    walk_at "sg"
    split
    · rename_i hb0
      rw [W_fdiv]
      refine ⟨⟨by omega, hdn⟩, ?_⟩
      walk_at "sg"
      rw [W_fdiv]
      refine ⟨⟨by omega, hdn⟩, ?_⟩
      walk_at "sg"
      rw [imm_of rfl, qD_neg hb0]
      have f1 : ∀ x : Int, ((Int.gcd a b : Nat) : Int) ∣ x → x.fdiv (-((Int.gcd a b : Nat) : Int)) = -(x / ((Int.gcd a b : Nat) : Int)) := fun x hx => by
        rw [Int.fdiv_eq_ediv_of_dvd (Int.neg_dvd.mpr hx), Int.ediv_neg]
      rw [f1 a d1, f1 b d2]
    · rename_i hb0
      walk_at "sgh"
      rw [imm_of rfl, qD_pos (by omega)]
  · intro a
    refine xc_of e rfl ?_
    unfold b2
    walk_at "sg"
def Sp3 (Φ : Phi) : Prop := ∀ (a b : Rat) (m n : Nat), Sz a m → Sz b n → m + n < 8999 → Rt Φ 3 [qD a, qD b] (qD (a + b))
def Sp4 (Φ : Phi) : Prop := ∀ (a b : Rat) (m n : Nat), Sz a m → Sz b n → m + n < 8999 → Rt Φ 4 [qD a, qD b] (qD (a - b))
def Sp5 (Φ : Phi) : Prop := ∀ (a b : Rat) (m n : Nat), Sz a m → Sz b n → m + n < 8999 → Rt Φ 5 [qD a, qD b] (qD (a * b))
def Sp25 (Φ : Phi) : Prop := (∀ (a b : Rat) (m n : Nat), Sz a m → Sz b n → m + n < 8999 → b ≠ 0 → Rt Φ 25 [qD a, qD b] (qD (a / b))) ∧ ∀ (a : Rat) (m : Nat), Sz a m → m < 8999 → Xc Φ 25 [qD a, qD 0] 1
theorem den_ne (a : Rat) : ((a.den : Nat) : Int) ≠ 0 := by have := a.den_pos; omega
theorem sp3 {Φ Φ' : Phi} (e : Φ' 3 = evD Φ b3) (h2 : Sp2 Φ) : Sp3 Φ' := fun a b m n ha hb h => rt_of e rfl (by
  have q1 := mulOk_of ha.1 hb.2 (by omega)
  have q2 := mulOk_of hb.1 ha.2 (by omega)
  have q3 := mulOk_of ha.2 hb.2 (by omega)
  have hf := h2.1 (a.num * b.den + b.num * a.den) (a.den * b.den) (Int.mul_ne_zero (den_ne a) (den_ne b)) ((ha.2.mul hb.2).mono (by omega))
  rw [← rat_add] at hf
  unfold b3 qD
  walk_at "sgh"
  exact imm_of rfl)
theorem sp4 {Φ Φ' : Phi} (e : Φ' 4 = evD Φ b4) (h2 : Sp2 Φ) : Sp4 Φ' := fun a b m n ha hb h => rt_of e rfl (by
  have q1 := mulOk_of ha.1 hb.2 (by omega)
  have q2 := mulOk_of hb.1 ha.2 (by omega)
  have q3 := mulOk_of ha.2 hb.2 (by omega)
  have hf := h2.1 (a.num * b.den - b.num * a.den) (a.den * b.den) (Int.mul_ne_zero (den_ne a) (den_ne b)) ((ha.2.mul hb.2).mono (by omega))
  rw [← rat_sub] at hf
  unfold b4 qD
  walk_at "sgh"
  exact imm_of rfl)
theorem sp5 {Φ Φ' : Phi} (e : Φ' 5 = evD Φ b5) (h2 : Sp2 Φ) : Sp5 Φ' := fun a b m n ha hb h => rt_of e rfl (by
  have q1 := mulOk_of ha.1 hb.1 (by omega)
  have q3 := mulOk_of ha.2 hb.2 (by omega)
  have hf := h2.1 (a.num * b.num) (a.den * b.den) (Int.mul_ne_zero (den_ne a) (den_ne b)) ((ha.2.mul hb.2).mono (by omega))
  rw [← rat_mul] at hf
  unfold b5 qD
  walk_at "sgh"
  exact imm_of rfl)
theorem sp25 {Φ Φ' : Phi} (e : Φ' 25 = evD Φ b25) (h2 : Sp2 Φ) : Sp25 Φ' := by
  constructor
  · intro a b m n ha hb h h0
    have q1 := mulOk_of ha.1 hb.2 (by omega)
    have q3 := mulOk_of ha.2 hb.1 (by omega)
    have hn : b.num ≠ 0 := fun z => h0 (Rat.num_eq_zero.mp z)
    have hf := h2.1 (a.num * b.den) (a.den * b.num) (Int.mul_ne_zero (den_ne a) hn) ((ha.2.mul hb.1).mono (by omega))
    rw [← rat_div] at hf
    refine rt_of e rfl ?_
    unfold b25 qD
    walk_at "sgh"
    exact imm_of rfl
  · intro a m ha hm
    have q1 := mulOk_of ha.1 (j := ((0 : Rat).den : Nat)) (n := 1) (lt2_nat (m := 1) (by decide)) (by omega)
    have q3 := mulOk_of ha.2 (j := (0 : Rat).num) (n := 1) lt2_zero (by omega)
    have hf := h2.2 (a.num * ((0 : Rat).den : Nat))
    have hz : (a.den : Int) * (0 : Rat).num = 0 := by
      exact Int.mul_zero _
    refine xc_of e rfl ?_
    unfold b25 qD
    walk_at "sgh"
end Sg

/-! SpLaw: what most laws' texts begin with. -/
namespace Sg
open PySem
/-- _law_cell(_law_script, _law_k) -/
def b6 : Df := ⟨2, 2, .cons (.ite (.cmp .Lt (.var 1) (.bi .len (.cons (.var 0) .nil))) (.cons (.ret (.so (.idx (.var 0) (.var 1)))) .nil) .nil) (.cons (.ret (.so (.c (.int 0)))) .nil)⟩
/-- _law_numbers(_law_cell_here, _law_bases, _law_row, _law_base, _law_k, _law_mixed) -/
def b7 : Df := ⟨2, 6, .cons (.asg (.var 2) (.lst true .nil)) (.cons (.ite (.cmp .GtE (.bi .abs (.cons (.var 0) .nil)) (.bin false .Pow (.c (.int 10)) (.c (.int 18)))) (.cons (.for (.var 3) (.val (.var 1)) (.cons (.expr (.meth .append (.var 2) (.cons (.bin false .Mod (.var 0) (.var 3)) .nil))) (.cons (.asg (.var 0) (.bin false .FloorDiv (.var 0) (.var 3))) .nil))) (.cons (.ret (.so (.var 2))) .nil)) .nil) (.cons (.for (.tup (.cons (.var 4) (.cons (.var 3) .nil))) (.enum (.var 1)) (.cons (.asg (.var 5) (.bin false .Mod (.bin false .Add (.bin false .Add (.bin false .Add (.bin false .Mult (.var 0) (.c (.int 48271))) (.bin false .Mult (.bin false .Mult (.var 4) (.var 4)) (.c (.int 69621)))) (.bin false .Mult (.var 4) (.c (.int 16807)))) (.c (.int 11))) (.c (.int 2147483647)))) (.cons (.expr (.meth .append (.var 2) (.cons (.bin false .Mod (.bin false .FloorDiv (.bin false .Mod (.bin false .Add (.bin false .Add (.bin false .Mult (.var 5) (.c (.int 40692))) (.var 0)) (.bin false .Mult (.c (.int 31)) (.var 4))) (.c (.int 2147483399))) (.c (.int 7))) (.var 3)) .nil))) .nil))) (.cons (.ret (.so (.var 2))) .nil)))⟩
/-- _law_divisor(_law_one, _law_other, _law_rest) -/
def b8 : Df := ⟨2, 3, .cons (.asg (.var 0) (.bi .abs (.cons (.var 0) .nil))) (.cons (.asg (.var 1) (.bi .abs (.cons (.var 1) .nil))) (.cons (.whl (.cmp .Gt (.var 1) (.c (.int 0))) (.cons (.asg (.var 2) (.bin false .Mod (.var 0) (.var 1))) (.cons (.asg (.var 0) (.var 1)) (.cons (.asg (.var 1) (.var 2)) .nil)))) (.cons (.ret (.so (.var 0))) .nil)))⟩
/-- _law_made(_law_top, _law_bottom, _law_common) -/
def b9 : Df := ⟨2, 3, .cons (.asg (.var 2) (.call 8 0 (.cons (.var 0) (.cons (.var 1) .nil)))) (.cons (.ret (.so (.tup (.cons (.bin false .FloorDiv (.var 0) (.var 2)) (.cons (.bin false .FloorDiv (.var 1) (.var 2)) .nil))))) .nil)⟩
/-- _law_number(_law_kind, _law_part, _law_top) -/
def b10 : Df := ⟨2, 3, .cons (.ite (.cmp .Eq (.var 0) (.c (.int 1))) (.cons (.ret (.so (.tup (.cons (.bin false .Sub (.bin false .Mod (.var 1) (.c (.int 5))) (.c (.int 2))) (.cons (.c (.int 1)) .nil))))) .nil) .nil) (.cons (.ite (.cmp .Eq (.var 0) (.c (.int 3))) (.cons (.asg (.var 2) (.bin false .Mult (.bin false .Mod (.bin false .FloorDiv (.var 1) (.c (.int 2))) (.bin false .Pow (.c (.int 10)) (.c (.int 40)))) (.bin false .Sub (.c (.int 1)) (.bin false .Mult (.c (.int 2)) (.bin false .Mod (.var 1) (.c (.int 2))))))) (.cons (.ret (.so (.call 9 0 (.cons (.var 2) (.cons (.bin false .Add (.c (.int 1)) (.bin false .Mod (.bin false .FloorDiv (.var 1) (.bin false .Mult (.c (.int 2)) (.bin false .Pow (.c (.int 10)) (.c (.int 40))))) (.bin false .Sub (.bin false .Pow (.c (.int 10)) (.c (.int 40))) (.c (.int 1))))) .nil))))) .nil)) .nil) (.cons (.ite (.cmp .Eq (.var 0) (.c (.int 2))) (.cons (.ret (.so (.call 9 0 (.cons (.bin false .Mod (.var 1) (.c (.int 10))) (.cons (.bin false .Add (.c (.int 1)) (.bin false .Mod (.bin false .FloorDiv (.var 1) (.c (.int 10))) (.c (.int 6)))) .nil))))) .nil) .nil) (.cons (.ret (.so (.call 9 0 (.cons (.bin false .Sub (.bin false .Mod (.var 1) (.c (.int 19))) (.c (.int 9))) (.cons (.bin false .Add (.c (.int 1)) (.bin false .Mod (.bin false .FloorDiv (.var 1) (.c (.int 19))) (.c (.int 6)))) .nil))))) .nil)))⟩
/-- _law_whole(_law_thing) -/
def b11 : Df := ⟨1, 1, .cons (.ret (.so (.bop .And (.cons (.isi (.var 0) .int) (.cons (.un .Not (.isi (.var 0) .bool)) .nil))))) .nil⟩
/-- _law_is_number(_law_found, _law_top, _law_bottom) -/
def b12 : Df := ⟨3, 3, .cons (.ite (.bop .Or (.cons (.un .Not (.isi (.var 0) .tuple)) (.cons (.cmp .NotEq (.bi .len (.cons (.var 0) .nil)) (.c (.int 2))) (.cons (.un .Not (.call 11 0 (.cons (.idx (.var 0) (.c (.int 0))) .nil))) (.cons (.un .Not (.call 11 0 (.cons (.idx (.var 0) (.c (.int 1))) .nil))) .nil))))) (.cons (.ret (.so (.c (.bl false)))) .nil) .nil) (.cons (.ite (.bop .Or (.cons (.cmp .Lt (.idx (.var 0) (.c (.int 1))) (.c (.int 1))) (.cons (.cmp .NotEq (.call 8 0 (.cons (.idx (.var 0) (.c (.int 0))) (.cons (.idx (.var 0) (.c (.int 1))) .nil))) (.c (.int 1))) .nil))) (.cons (.ret (.so (.c (.bl false)))) .nil) .nil) (.cons (.ret (.so (.cmp .Eq (.bin false .Mult (.idx (.var 0) (.c (.int 0))) (.var 2)) (.bin false .Mult (.var 1) (.idx (.var 0) (.c (.int 1))))))) .nil))⟩
/-- _law_two(_law_cell_here, _law_parts) -/
def b13 : Df := ⟨1, 2, .cons (.asg (.var 1) (.call 7 0 (.cons (.var 0) (.cons (.lst false (.cons (.c (.int 4)) (.cons (.c (.int 4)) (.cons (.bin false .Mult (.bin false .Mult (.c (.int 2)) (.bin false .Pow (.c (.int 10)) (.c (.int 40)))) (.bin false .Pow (.c (.int 10)) (.c (.int 40)))) (.cons (.bin false .Mult (.bin false .Mult (.c (.int 2)) (.bin false .Pow (.c (.int 10)) (.c (.int 40)))) (.bin false .Pow (.c (.int 10)) (.c (.int 40)))) .nil))))) .nil)))) (.cons (.ret (.so (.tup (.cons (.call 10 0 (.cons (.idx (.var 1) (.c (.int 0))) (.cons (.idx (.var 1) (.c (.int 2))) .nil))) (.cons (.call 10 0 (.cons (.idx (.var 1) (.c (.int 1))) (.cons (.idx (.var 1) (.c (.int 3))) .nil))) .nil))))) .nil)⟩
/-! ### a cell of the script -/
def cellOf (ns : List Int) (k : Nat) : Int := (ns[k]?).getD 0
def Sp6 (Φ : Phi) : Prop := ∀ (ns : List Int) (k : Nat), Rt Φ 6 [.fro (ns.map D.int), .int (k : Nat)] (.int (cellOf ns k))
theorem isImms_ints (ns : List Int) : isImms (ns.map D.int) = true := isImms_map (fun _ => rfl) ns
theorem sp6 {Φ Φ' : Phi} (e : Φ' 6 = evD Φ b6) : Sp6 Φ' := fun ns k => rt_of e (by simp only [isImms, isImm, isImms_ints, Bool.and_true]) (by
  unfold b6
  walk_at "sg"
  rw [List.length_map]
  by_cases h : k < ns.length
  · rw [if_pos (by omega)]
    walk_at "sg"
    rw [W_nthF (d := .int (cellOf ns k)) (by
      unfold cellOf
      rw [List.getElem?_map, List.getElem?_eq_getElem h]; rfl)]
    walk_at "sg"
    exact imm_of rfl
  · rw [if_neg (by omega)]
    walk_at "sg"
    unfold cellOf
    rw [List.getElem?_eq_none (by omega)]
    exact imm_of rfl)
/-! ### numbers of a cell -/
/-- each from 0 on, less than its base -/
def InB : List Int → List Int → Prop
  | [], [] => True
  | x :: xs, b :: bs => (0 ≤ x ∧ x < b) ∧ InB xs bs
  | _, _ => False
theorem InB.app {x b : Int} (hx : 0 ≤ x ∧ x < b) : ∀ {xs bs : List Int}, InB xs bs → InB (xs ++ [x]) (bs ++ [b])
  | [], [], _ => ⟨hx, trivial⟩
  | [], _ :: _, h => h.elim
  | _ :: _, [], h => h.elim
  | _ :: _, _ :: _, h => ⟨h.1, InB.app hx h.2⟩
theorem InB.len : ∀ {xs bs : List Int}, InB xs bs → xs.length = bs.length
  | [], [], _ => rfl
  | [], _ :: _, h => h.elim
  | _ :: _, [], h => h.elim
  | _ :: _, _ :: _, h => congrArg Nat.succ h.2.len
theorem InB.get : ∀ {xs bs : List Int} {i : Nat} (h : i < xs.length) (h' : i < bs.length), InB xs bs → 0 ≤ xs[i] ∧ xs[i] < bs[i]
  | [], _, _, h, _, _ => absurd h (Nat.not_lt_zero _)
  | _ :: _, [], _, _, h, _ => absurd h (Nat.not_lt_zero _)
  | _ :: _, _ :: _, 0, _, _, k => k.1
  | _ :: xs, _ :: bs, i + 1, h, h', k => InB.get (xs := xs) (bs := bs) (Nat.lt_of_succ_lt_succ h) (Nat.lt_of_succ_lt_succ h') k.2
def Sp7 (Φ : Phi) : Prop := ∀ (c : Int) (bs : List Int), (∀ b ∈ bs, 0 < b ∧ Lt2 b 8999) → bs.length ≤ 100000 → ∃ xs : List Int, InB xs bs ∧ Rt Φ 7 [.int c, .lst (bs.map D.int)] (.lst (xs.map D.int))
theorem take_snoc {α : Type} {xs : List α} {i : Nat} (h : i < xs.length) : xs.take (i + 1) = xs.take i ++ [xs[i]] := by
  rw [List.take_add_one, List.getElem?_eq_getElem h]; rfl
theorem sp7 {Φ Φ' : Phi} (e : Φ' 7 = evD Φ b7) : Sp7 Φ' := fun c bs hb hl => by
  have key : ∃ r, (∃ xs : List Int, r = .lst (xs.map D.int) ∧ InB xs bs) ∧ Rt Φ' 7 [.int c, .lst (bs.map D.int)] r := by
    refine rt_ex e (by simp only [isImms, isImm, isImms_ints, Bool.and_true]) ?_
    unfold b7
    walk_at "sg"
    split
    · refine for_map (fun i σ M => ∃ c' r xs, σ = [some (.int c'), some (.lst (bs.map D.int)), some (.ref 0), r, none, none] ∧ M = [⟨true, .lst (xs.map D.int)⟩] ∧ InB xs (bs.take i)) ⟨c, none, [], rfl, rfl, trivial⟩ ?_ ?_
      · rintro i h σ M ⟨c', r, xs, rfl, rfl, hx⟩
        obtain ⟨h0, h1⟩ := hb bs[i] (List.getElem_mem h)
        have h2 := dvOk_of h1 (by decide)
        walk_at "sgh"
        have hl2 := hx.len
        rw [List.length_take] at hl2
        rw [List.length_map]
        refine ⟨by omega, _, _, xs ++ [c' % bs[i]], rfl, ?_, ?_⟩
        · rw [List.map_append]; rfl
        · rw [take_snoc h]
          exact hx.app ⟨Int.emod_nonneg _ (by omega), Int.emod_lt_of_pos _ h0⟩
      · rintro σ M ⟨c', r, xs, rfl, rfl, hx⟩
        walk_at "sg"
        rw [List.take_length] at hx
        exact ⟨_, imm_cell rfl (by rw [isImm, isImms_ints]), xs, rfl, hx⟩
    · rename_i hc
      have hc : Lt2 c 60 := by
        unfold Lt2
        have h : ¬ ((1000000000000000000 : Int) ≤ (c.natAbs : Int)) := hc
        omega
      refine for_enum (fun i σ M => ∃ r3 r4 r5 xs, σ = [some (.int c), some (.lst (bs.map D.int)), some (.ref 0), r3, r4, r5] ∧ M = [⟨true, .lst (xs.map D.int)⟩] ∧ InB xs (bs.take i)) ⟨none, none, none, [], rfl, rfl, trivial⟩ ?_ ?_
      · rintro i h σ M ⟨r3, r4, r5, xs, rfl, rfl, hx⟩
        obtain ⟨h0, h1⟩ := hb bs[i] (List.getElem_mem h)
        have hi : Lt2 (i : Int) 17 := lt2_nat (by omega)
        have h2 := dvOk_of h1 (by decide)
        have hl2 := hx.len
        rw [List.length_take] at hl2
        walk_at "sgh"
        refine ⟨by walk_at "mo", by walk_at "mo", by walk_at "mo", by walk_at "mo", by walk_at "mo", by walk_at "mo", ?_⟩
        rw [List.length_map]
        refine ⟨by omega, _, _, _, xs ++ [_], rfl, by rw [List.map_append]; rfl, ?_⟩
        rw [take_snoc h]
        exact hx.app ⟨Int.emod_nonneg _ (by omega), Int.emod_lt_of_pos _ h0⟩
      · rintro σ M ⟨r3, r4, r5, xs, rfl, rfl, hx⟩
        walk_at "sg"
        rw [List.take_length] at hx
        exact ⟨_, imm_cell rfl (by rw [isImm, isImms_ints]), xs, rfl, hx⟩
  obtain ⟨r, ⟨xs, rfl, h1⟩, h2⟩ := key
  exact ⟨xs, h1, h2⟩
/-! ### the law's own fractions -/
def Sp8 (Φ : Phi) : Prop := ∀ a b : Int, Lt2 b 19999 → Rt Φ 8 [.int a, .int b] (.int (Int.gcd a b : Nat))
theorem sp8 {Φ Φ' : Phi} (e : Φ' 8 = evD Φ b8) : Sp8 Φ' := fun a b hb => rt_of e rfl (by
  unfold b8
  walk_at "sg"
  refine gcd_loop _ _ (by unfold Lt2 at hb; omega) rfl rfl fun r => ?_
  walk_at "sg"
  exact imm_of rfl)
def Sp9 (Φ : Phi) : Prop := ∀ a b : Int, 0 < b → Lt2 b 8999 → Rt Φ 9 [.int a, .int b] (qD (Rat.divInt a b))
theorem sp9 {Φ Φ' : Phi} (e : Φ' 9 = evD Φ b9) (h8 : Sp8 Φ) : Sp9 Φ' := fun a b hb hs => rt_of e rfl (by
  have hg := h8 a b (hs.mono (by decide))
  have g1 : 0 < ((Int.gcd a b : Nat) : Int) := by
    have := Int.gcd_pos_of_ne_zero_right a (Int.ne_of_gt hb)
    omega
  have d2 : ((Int.gcd a b : Nat) : Int) ∣ b := Int.gcd_dvd_right ..
  have hdv : dvOk ((Int.gcd a b : Nat) : Int) = true := dvOk_of (hs.dvd (by omega) d2) (by decide)
  unfold b9
  walk_at "sgh"
  rw [imm_of rfl, qD_pos hb])
theorem emod_lt' {a b : Int} (h : 0 < b) : 0 ≤ a % b ∧ a % b < b := ⟨Int.emod_nonneg _ (by omega), Int.emod_lt_of_pos _ h⟩
/-- how great the numbers of a kind are -/
def kN (k : Int) : Nat := if k = 3 then 135 else 5
theorem kN_le (k : Int) : kN k ≤ 400 := by
  unfold kN
  split <;> decide
def Sp10 (Φ : Phi) : Prop := ∀ k p : Int, 0 ≤ p → ∃ q : Rat, Sz q (kN k) ∧ Rt Φ 10 [.int k, .int p] (qD q)
theorem sp10 {Φ Φ' : Phi} (e : Φ' 10 = evD Φ b10) (h9 : Sp9 Φ) : Sp10 Φ' := fun k p hp => by
  have key : ∃ r, (∃ q : Rat, r = qD q ∧ Sz q (kN k)) ∧ Rt Φ' 10 [.int k, .int p] r := by
    refine rt_ex e rfl ?_
    unfold b10
    walk_at "sg"
    split
    · rename_i hk
      rw [show kN k = 5 by rw [hk]; rfl]
      have h1 := @emod_lt' p 5 (by decide)
      have h2 : ((Rat.divInt (p % 5 - 2) 1).den : Int) = 1 := by
        rw [Rat.den_divInt]
        simp
      have h3 : (Rat.divInt (p % 5 - 2) 1).num = p % 5 - 2 := by
        rw [Rat.num_divInt]
        simp
      refine ⟨_, imm_of rfl, Rat.divInt (p % 5 - 2) 1, ?_, ?_⟩
      · unfold qD
        rw [h2, h3]
      · refine sz_divInt (m := 3) (n := 1) ?_ (lt2_nat (i := 1) (by decide)) (by decide) (by decide) (by decide)
        unfold Lt2
        omega
    · split
      · rename_i hk
        rw [show kN k = 135 by rw [hk]; rfl]
        have h1 := @emod_lt' (p / 2) 10000000000000000000000000000000000000000 (by decide)
        have h2 := @emod_lt' p 2 (by decide)
        have h3 := @emod_lt' (p / 20000000000000000000000000000000000000000) 9999999999999999999999999999999999999999 (by decide)
        have hm : Lt2 (p / 2 % 10000000000000000000000000000000000000000 * (1 - 2 * (p % 2))) 135 := by
          have a1 : Lt2 (p / 2 % 10000000000000000000000000000000000000000) 133 := by
            unfold Lt2
            omega
          have a2 : Lt2 (1 - 2 * (p % 2)) 2 := by
            unfold Lt2
            omega
          exact a1.mul a2
        have hb : Lt2 (1 + p / 20000000000000000000000000000000000000000 % 9999999999999999999999999999999999999999) 133 := by
          unfold Lt2
          omega
        have hf := h9 (p / 2 % 10000000000000000000000000000000000000000 * (1 - 2 * (p % 2))) (1 + p / 20000000000000000000000000000000000000000 % 9999999999999999999999999999999999999999) (by omega) (hb.mono (by decide))
        walk_at "sgh"
        refine ⟨by walk_at "mo", by walk_at "mo", ?_⟩
        walk_at "sgh"
        exact ⟨_, imm_of rfl, _, rfl, sz_divInt hm hb (by decide) (by decide) (by decide)⟩
      · rename_i hk3
        rw [show kN k = 5 by unfold kN; rw [if_neg hk3]]
        split
        · have h1 := @emod_lt' p 10 (by decide)
          have h3 := @emod_lt' (p / 10) 6 (by decide)
          have hf := h9 (p % 10) (1 + p / 10 % 6) (by omega) (Lt2.mono (m := 3) (by unfold Lt2; omega) (by decide))
          walk_at "sgh"
          refine ⟨_, imm_of rfl, _, rfl, sz_divInt (m := 4) (n := 3) ?_ ?_ (by decide) (by decide) (by decide)⟩ <;> (unfold Lt2; omega)
        · have h1 := @emod_lt' p 19 (by decide)
          have h3 := @emod_lt' (p / 19) 6 (by decide)
          have hf := h9 (p % 19 - 9) (1 + p / 19 % 6) (by omega) (Lt2.mono (m := 3) (by unfold Lt2; omega) (by decide))
          walk_at "sgh"
          refine ⟨_, imm_of rfl, _, rfl, sz_divInt (m := 4) (n := 3) ?_ ?_ (by decide) (by decide) (by decide)⟩ <;> (unfold Lt2; omega)
  obtain ⟨r, ⟨q, rfl, h1⟩, h2⟩ := key
  exact ⟨q, h1, h2⟩
/-! ### what is a whole number, a given fraction -/
def isIntD : D → Bool
  | .int _ => true
  | _ => false
def plainD : D → Bool
  | .fro _ => false
  | .dct _ _ _ => false
  | .exo _ => false
  | .ktp _ => false
  | .ref _ => false
  | _ => true
def Sp11 (Φ : Phi) : Prop := ∀ d : D, isImm d = true → plainD d = true → Rt Φ 11 [d] (.bl (isIntD d))
theorem sp11 {Φ Φ' : Phi} (e : Φ' 11 = evD Φ b11) : Sp11 Φ' := fun d hi hp => rt_of e (by simp only [isImms, hi, Bool.and_true]) (by
  unfold b11
  cases d <;> first | (cases hp; done) | skip
  all_goals walk_at "sg"
  all_goals exact imm_of rfl)
def Sp12 (Φ : Phi) : Prop := ∀ (q : Rat) (t b : Int) (m n : Nat), Sz q m → Lt2 t n → Lt2 b n → m < 19999 → m + n < 1000000 → Rt Φ 12 [qD q, .int t, .int b] (.bl (decide (q.num * b = t * q.den)))
theorem sp12 {Φ Φ' : Phi} (e : Φ' 12 = evD Φ b12) (h8 : Sp8 Φ) (h11 : Sp11 Φ) : Sp12 Φ' := fun q t b m n hq ht hb hm hn => rt_of e rfl (by
  have a1 : Rt Φ 11 [.int q.num] (.bl true) := h11 (.int q.num) rfl rfl
  have a2 : Rt Φ 11 [.int (q.den : Nat)] (.bl true) := h11 (.int (q.den : Nat)) rfl rfl
  have a3 := h8 q.num (q.den : Nat) (hq.2.mono (by omega))
  have a4 : Int.gcd q.num (q.den : Nat) = 1 := q.reduced
  rw [a4] at a3
  have a5 : ¬ ((q.den : Nat) : Int) < 1 := by
    have := q.den_pos
    omega
  have a6 := mulOk_of hq.1 hb hn
  have a7 := mulOk_of ht hq.2 (by omega)
  unfold b12
  walk_at "sgh"
  simp only [decide_true, Bool.not_true, Bool.false_eq_true, if_false, Int.natCast_one]
  walk_at "sgh"
  exact imm_of rfl)
theorem divInt_cross {a b : Int} (hb : b ≠ 0) : (Rat.divInt a b).num * b = a * (Rat.divInt a b).den := by
  have h := Rat.num_divInt_den (Rat.divInt a b)
  exact (Rat.divInt_eq_divInt_iff (den_ne _) hb).mp h
theorem cross_divInt {q : Rat} {a b : Int} (hb : b ≠ 0) (h : q.num * b = a * q.den) : q = Rat.divInt a b := by
  rw [← Rat.num_divInt_den q]
  exact (Rat.divInt_eq_divInt_iff (den_ne _) hb).mpr h
/-- _law_rest(_law_cell_here, _law_used) -/
def b32 : Df := ⟨2, 2, .cons (.ite (.cmp .GtE (.bi .abs (.cons (.var 0) .nil)) (.bin false .Pow (.c (.int 10)) (.c (.int 18)))) (.cons (.ret (.so (.bin false .FloorDiv (.var 0) (.var 1)))) .nil) .nil) (.cons (.ret (.so (.bin false .Add (.var 0) (.var 1)))) .nil)⟩
/-- _law_table(_law_cell_here, _law_many, _law_wide, _law_kind, _law_base, _law_parts, _law_i, _law_k, _law_j) -/
def b36 : Df := ⟨4, 9, .cons (.asg (.var 4) (.idx (.lst false (.cons (.c (.int 114)) (.cons (.c (.int 5)) (.cons (.c (.int 60)) (.cons (.bin false .Mult (.bin false .Mult (.c (.int 2)) (.bin false .Pow (.c (.int 10)) (.c (.int 40)))) (.bin false .Pow (.c (.int 10)) (.c (.int 40)))) .nil))))) (.var 3))) (.cons (.asg (.var 5) (.call 7 0 (.cons (.var 0) (.cons (.comp false [7] (.var 7) (.rng1 (.bin false .Mult (.var 1) (.var 2))) .no (.var 4)) .nil)))) (.cons (.ret (.so (.comp false [6] (.var 6) (.rng1 (.var 1)) .no (.comp false [8] (.var 8) (.rng1 (.var 2)) .no (.call 10 0 (.cons (.var 3) (.cons (.idx (.var 5) (.bin false .Add (.bin false .Mult (.var 2) (.var 6)) (.var 8))) .nil))))))) .nil))⟩
/-- _law_size(_law_cell_here, _law_parts) -/
def b37 : Df := ⟨1, 2, .cons (.asg (.var 1) (.call 7 0 (.cons (.var 0) (.cons (.lst false (.cons (.c (.int 8)) (.cons (.c (.int 4)) (.cons (.c (.int 4)) (.cons (.c (.int 7)) (.cons (.c (.int 7)) .nil)))))) .nil)))) (.cons (.ite (.cmp .Eq (.idx (.var 1) (.c (.int 0))) (.c (.int 1))) (.cons (.ret (.so (.tup (.cons (.bin false .Add (.c (.int 1)) (.idx (.var 1) (.c (.int 3)))) (.cons (.bin false .Add (.c (.int 1)) (.idx (.var 1) (.c (.int 4)))) .nil))))) .nil) .nil) (.cons (.ret (.so (.tup (.cons (.bin false .Add (.c (.int 1)) (.idx (.var 1) (.c (.int 1)))) (.cons (.bin false .Add (.c (.int 1)) (.idx (.var 1) (.c (.int 2)))) .nil))))) .nil))⟩
def Sp32 (Φ : Phi) : Prop := ∀ (c : Int) (n : Nat), 0 < n → n < 2 ^ 200 → ∃ c' : Int, Rt Φ 32 [.int c, .int (n : Nat)] (.int c')
theorem sp32 {Φ Φ' : Phi} (e : Φ' 32 = evD Φ b32) : Sp32 Φ' := fun c n h0 hn => by
  have key : ∃ r, (∃ c', r = .int c') ∧ Rt Φ' 32 [.int c, .int (n : Nat)] r := by
    refine rt_ex e rfl ?_
    have h1 : (0 : Int) < (n : Nat) := by omega
    have h2 := dvOk_of (lt2_nat hn) (by decide)
    unfold b32
    walk_at "sg"
    split
    · walk_at "sgh"
      exact ⟨_, imm_of rfl, _, rfl⟩
    · exact ⟨_, imm_of rfl, _, rfl⟩
  obtain ⟨r, ⟨c', rfl⟩, h⟩ := key
  exact ⟨c', h⟩
def Sp37 (Φ : Phi) : Prop := ∀ c : Int, ∃ m n : Nat, (1 ≤ m ∧ m ≤ 7 ∧ 1 ≤ n ∧ n ≤ 7) ∧ Rt Φ 37 [.int c] (.tup [.int (m : Nat), .int (n : Nat)])
theorem sp37 {Φ Φ' : Phi} (e : Φ' 37 = evD Φ b37) (h7 : Sp7 Φ) : Sp37 Φ' := fun c => by
  obtain ⟨xs, hx, hr⟩ := h7 c [8, 4, 4, 7, 7] (by
    intro b hb
    simp only [List.mem_cons, List.mem_nil_iff, or_false] at hb
    rcases hb with rfl | rfl | rfl | rfl | rfl
    all_goals exact ⟨by decide, (lt2_lit (by decide)).mono (by decide)⟩) (by decide)
  match xs, hx with
  | [x0, x1, x2, x3, x4], hx =>
    obtain ⟨h0, h1, h2, h3, h4, _⟩ := hx
    have hr : Rt Φ 7 [.int c, .lst [.int 8, .int 4, .int 4, .int 7, .int 7]] (.lst [.int x0, .int x1, .int x2, .int x3, .int x4]) := hr
    by_cases hx0 : x0 = 1
    · refine ⟨(1 + x3).toNat, (1 + x4).toNat, by omega, rt_of e rfl ?_⟩
      rw [Int.toNat_of_nonneg (by omega), Int.toNat_of_nonneg (by omega)]
      unfold b37
      walk_at "sgh"
      exact imm_of rfl
    · refine ⟨(1 + x1).toNat, (1 + x2).toNat, by omega, rt_of e rfl ?_⟩
      rw [Int.toNat_of_nonneg (by omega), Int.toNat_of_nonneg (by omega)]
      unfold b37
      walk_at "sgh"
      exact imm_of rfl
end Sg

/-! P02: the law of sums, rests, products. -/
namespace Sg
open PySem
/-- _law_asked(_law_one, _law_other, _law_bottom) -/
def b14 : Df := ⟨2, 3, .cons (.asg (.var 2) (.bin false .Mult (.idx (.var 0) (.c (.int 1))) (.idx (.var 1) (.c (.int 1))))) (.cons (.ite (.un .Not (.call 12 0 (.cons (.call 3 0 (.cons (.var 0) (.cons (.var 1) .nil))) (.cons (.bin false .Add (.bin false .Mult (.idx (.var 0) (.c (.int 0))) (.idx (.var 1) (.c (.int 1)))) (.bin false .Mult (.idx (.var 1) (.c (.int 0))) (.idx (.var 0) (.c (.int 1))))) (.cons (.var 2) .nil))))) (.cons (.ret (.so (.c (.bl false)))) .nil) .nil) (.cons (.ite (.un .Not (.call 12 0 (.cons (.call 4 0 (.cons (.var 0) (.cons (.var 1) .nil))) (.cons (.bin false .Sub (.bin false .Mult (.idx (.var 0) (.c (.int 0))) (.idx (.var 1) (.c (.int 1)))) (.bin false .Mult (.idx (.var 1) (.c (.int 0))) (.idx (.var 0) (.c (.int 1))))) (.cons (.var 2) .nil))))) (.cons (.ret (.so (.c (.bl false)))) .nil) .nil) (.cons (.ret (.so (.call 12 0 (.cons (.call 5 0 (.cons (.var 0) (.cons (.var 1) .nil))) (.cons (.bin false .Mult (.idx (.var 0) (.c (.int 0))) (.idx (.var 1) (.c (.int 0)))) (.cons (.var 2) .nil)))))) .nil)))⟩
/-- law(_law_script, _law_k, _law_one, _law_other) -/
def b15 : Df := ⟨1, 4, .cons (.for (.var 1) (.rng1 (.bi .max2 (.cons (.c (.int 1)) (.cons (.bi .min2 (.cons (.c (.int 40)) (.cons (.bi .len (.cons (.var 0) .nil)) .nil))) .nil)))) (.cons (.asg (.tup (.cons (.var 2) (.cons (.var 3) .nil))) (.call 13 0 (.cons (.call 6 0 (.cons (.var 0) (.cons (.var 1) .nil))) .nil))) (.cons (.ite (.bop .Or (.cons (.un .Not (.call 14 0 (.cons (.var 2) (.cons (.var 3) .nil)))) (.cons (.un .Not (.call 14 0 (.cons (.var 3) (.cons (.var 2) .nil)))) .nil))) (.cons (.ret (.so (.c (.bl false)))) .nil) .nil) (.cons (.ite (.bop .Or (.cons (.cmp .NotEq (.call 4 0 (.cons (.var 2) (.cons (.var 2) .nil))) (.tup (.cons (.c (.int 0)) (.cons (.c (.int 1)) .nil)))) (.cons (.cmp .NotEq (.call 3 0 (.cons (.var 2) (.cons (.tup (.cons (.c (.int 0)) (.cons (.c (.int 1)) .nil))) .nil))) (.var 2)) (.cons (.cmp .NotEq (.call 5 0 (.cons (.tup (.cons (.c (.int 1)) (.cons (.c (.int 1)) .nil))) (.cons (.var 2) .nil))) (.var 2)) .nil)))) (.cons (.ret (.so (.c (.bl false)))) .nil) .nil) (.cons (.ite (.bop .Or (.cons (.cmp .NotEq (.call 5 0 (.cons (.var 3) (.cons (.tup (.cons (.c (.int 0)) (.cons (.c (.int 1)) .nil))) .nil))) (.tup (.cons (.c (.int 0)) (.cons (.c (.int 1)) .nil)))) (.cons (.cmp .NotEq (.call 4 0 (.cons (.tup (.cons (.c (.int 0)) (.cons (.c (.int 1)) .nil))) (.cons (.var 3) .nil))) (.tup (.cons (.un .USub (.idx (.var 3) (.c (.int 0)))) (.cons (.idx (.var 3) (.c (.int 1))) .nil)))) .nil))) (.cons (.ret (.so (.c (.bl false)))) .nil) .nil) .nil))))) (.cons (.ret (.so (.c (.bl true)))) .nil)⟩
def Sp13 (Φ : Phi) : Prop := ∀ c : Int, ∃ a b : Rat, Sz a 400 ∧ Sz b 400 ∧ Rt Φ 13 [.int c] (.tup [qD a, qD b])
theorem sp13 {Φ Φ' : Phi} (e : Φ' 13 = evD Φ b13) (h7 : Sp7 Φ) (h10 : Sp10 Φ) : Sp13 Φ' := fun c => by
  obtain ⟨xs, hx, hr⟩ := h7 c [4, 4, 200000000000000000000000000000000000000000000000000000000000000000000000000000000, 200000000000000000000000000000000000000000000000000000000000000000000000000000000] (by
    intro b hb
    simp only [List.mem_cons, List.mem_nil_iff, or_false] at hb
    rcases hb with rfl | rfl | rfl | rfl
    all_goals exact ⟨by decide, (lt2_lit (by decide)).mono (by decide)⟩) (by decide)
  match xs, hx with
  | [x0, x1, x2, x3], hx =>
    obtain ⟨a, ha, h1⟩ := h10 x0 x2 hx.2.2.1.1
    obtain ⟨b, hb, h2⟩ := h10 x1 x3 hx.2.2.2.1.1
    have hr : Rt Φ 7 [.int c, .lst [.int 4, .int 4, .int 200000000000000000000000000000000000000000000000000000000000000000000000000000000, .int 200000000000000000000000000000000000000000000000000000000000000000000000000000000]] (.lst [.int x0, .int x1, .int x2, .int x3]) := hr
    refine ⟨a, b, ha.mono (kN_le _), hb.mono (kN_le _), rt_of e rfl ?_⟩
    unfold b13
    walk_at "sgh"
    exact imm_of rfl
def Sp14 (Φ : Phi) : Prop := ∀ a b : Rat, Sz a 400 → Sz b 400 → Rt Φ 14 [qD a, qD b] (.bl true)
theorem sp14 {Φ Φ' : Phi} (e : Φ' 14 = evD Φ b14) (h3 : Sp3 Φ) (h4 : Sp4 Φ) (h5 : Sp5 Φ) (h12 : Sp12 Φ) : Sp14 Φ' := fun a b ha hb => rt_of e rfl (by
  have q1 := mulOk_of ha.2 hb.2 (by decide)
  have q2 := mulOk_of ha.1 hb.2 (by decide)
  have q3 := mulOk_of hb.1 ha.2 (by decide)
  have q4 := mulOk_of ha.1 hb.1 (by decide)
  have d0 : (a.den : Int) * b.den ≠ 0 := Int.mul_ne_zero (den_ne a) (den_ne b)
  have r1 := h3 a b 400 400 ha hb (by decide)
  have r2 := h4 a b 400 400 ha hb (by decide)
  have r3 := h5 a b 400 400 ha hb (by decide)
  have s1 := h12 (a + b) (a.num * b.den + b.num * a.den) (a.den * b.den) 801 801 (ha.add hb) ((ha.1.mul hb.2).add (hb.1.mul ha.2)) ((ha.2.mul hb.2).mono (by decide)) (by decide) (by decide)
  have s2 := h12 (a - b) (a.num * b.den - b.num * a.den) (a.den * b.den) 801 801 (ha.sub hb) ((ha.1.mul hb.2).sub (hb.1.mul ha.2)) ((ha.2.mul hb.2).mono (by decide)) (by decide) (by decide)
  have s3 := h12 (a * b) (a.num * b.num) (a.den * b.den) 800 800 (ha.mul hb) (ha.1.mul hb.1) (ha.2.mul hb.2) (by decide) (by decide)
  have e1 := divInt_cross (a := a.num * b.den + b.num * a.den) d0
  have e2 := divInt_cross (a := a.num * b.den - b.num * a.den) d0
  have e3 := divInt_cross (a := a.num * b.num) d0
  rw [← rat_add] at e1
  rw [← rat_sub] at e2
  rw [← rat_mul] at e3
  rw [decide_eq_true e1] at s1
  rw [decide_eq_true e2] at s2
  rw [decide_eq_true e3] at s3
  clear e1 e2 e3
  unfold b14
  walk_at "sgh"
  exact imm_of rfl)
theorem sz0 : Sz 0 1 := ⟨lt2_zero, lt2_nat (by decide)⟩
theorem sz1 : Sz 1 1 := ⟨lt2_nat (i := 1) (by decide), lt2_nat (by decide)⟩
theorem sp15 {Φ : Phi} (h3 : Sp3 Φ) (h4 : Sp4 Φ) (h5 : Sp5 Φ) (h6 : Sp6 Φ) (h13 : Sp13 Φ) (h14 : Sp14 Φ) (ns : List Int) (hl : ns.length ≤ 63) : W (evD Φ b15 [.fro (ns.map D.int)] []) (fun d _ => d = .bl true) fun _ _ => False := by
  unfold b15
  walk_at "sg"
  rw [List.length_map]
  refine ⟨by unfold B62; omega, ?_⟩
  refine for_up0 (fun i σ M => ∃ r1 r2 r3, σ = [some (.fro (ns.map D.int)), r1, r2, r3]) ⟨none, none, none, rfl⟩ ?_ ?_
  · rintro k hk σ M ⟨r1, r2, r3, rfl⟩
    have hc := h6 ns k
    obtain ⟨a, b, ha, hb, h2⟩ := h13 (cellOf ns k)
    have g1 := h14 a b ha hb
    have g2 := h14 b a hb ha
    have g3 := h4 a a 400 400 ha ha (by decide)
    have g4 := h3 a 0 400 1 ha sz0 (by decide)
    have g5 := h5 1 a 1 400 sz1 ha (by decide)
    have g6 := h5 b 0 400 1 hb sz0 (by decide)
    have g7 := h4 0 b 1 400 sz0 hb (by decide)
    rw [Rat.sub_self] at g3
    rw [Rat.add_zero] at g4
    rw [Rat.one_mul] at g5
    rw [Rat.mul_zero] at g6
    rw [Rat.sub_eq_add_neg, Rat.zero_add] at g7
    have e1 : D.tup [.int 0, .int 1] = qD 0 := rfl
    have e3 : D.tup [.int 1, .int 1] = qD 1 := rfl
    have e2 : D.tup [.int (-b.num), .int (b.den : Nat)] = qD (-b) := by
      unfold qD
      rw [Rat.neg_num, Rat.neg_den]
    walk_at "sgh"
    all_goals exact ⟨_, _, _, rfl⟩
  · rintro σ M ⟨r1, r2, r3, rfl⟩
    walk_at "sg"
end Sg

/-! SpTab: tables, choices, parts. -/
namespace Sg
open PySem
/-- is_whole(thing) -/
def b16 : Df := ⟨1, 1, .cons (.ret (.so (.bop .And (.cons (.isi (.var 0) .int) (.cons (.un .Not (.isi (.var 0) .bool)) .nil))))) .nil⟩
/-- is_fraction(thing) -/
def b17 : Df := ⟨1, 1, .cons (.ite (.bop .Or (.cons (.un .Not (.isi (.var 0) .tuple)) (.cons (.cmp .NotEq (.bi .len (.cons (.var 0) .nil)) (.c (.int 2))) .nil))) (.cons (.ret (.so (.c (.bl false)))) .nil) .nil) (.cons (.ite (.bop .Or (.cons (.un .Not (.call 16 0 (.cons (.idx (.var 0) (.c (.int 0))) .nil))) (.cons (.un .Not (.call 16 0 (.cons (.idx (.var 0) (.c (.int 1))) .nil))) (.cons (.cmp .Lt (.idx (.var 0) (.c (.int 1))) (.c (.int 1))) .nil)))) (.cons (.ret (.so (.c (.bl false)))) .nil) .nil) (.cons (.ret (.so (.cmp .Eq (.call 1 0 (.cons (.idx (.var 0) (.c (.int 0))) (.cons (.idx (.var 0) (.c (.int 1))) .nil))) (.c (.int 1))))) .nil))⟩
/-- is_row_of(thing, many, number) -/
def b30 : Df := ⟨2, 3, .cons (.ret (.so (.bop .And (.cons (.isi (.var 0) .list) (.cons (.cmp .Eq (.bi .len (.cons (.var 0) .nil)) (.var 1)) (.cons (.bi .all (.cons (.comp false [2] (.var 2) (.val (.var 0)) .no (.call 17 0 (.cons (.var 2) .nil))) .nil)) .nil)))))) .nil⟩
/-- is_table(thing, many, row) -/
def b31 : Df := ⟨1, 3, .cons (.ite (.bop .Or (.cons (.un .Not (.isi (.var 0) .list)) (.cons (.un .Not (.chain .LtE .LtE (.c (.int 1)) (.bi .len (.cons (.var 0) .nil)) (.glob "MOST" (.int 7)))) (.cons (.un .Not (.isi (.idx (.var 0) (.c (.int 0))) .list)) .nil)))) (.cons (.ret (.so (.c (.bl false)))) .nil) .nil) (.cons (.asg (.var 1) (.bi .len (.cons (.idx (.var 0) (.c (.int 0))) .nil))) (.cons (.ret (.so (.bop .And (.cons (.chain .LtE .LtE (.c (.int 1)) (.var 1) (.glob "MOST" (.int 7))) (.cons (.bi .all (.cons (.comp false [2] (.var 2) (.val (.var 0)) .no (.call 30 0 (.cons (.var 2) (.cons (.var 1) .nil)))) .nil)) .nil))))) .nil))⟩
/-- look_table(thing) -/
def b45 : Df := ⟨1, 1, .cons (.ite (.un .Not (.call 31 0 (.cons (.var 0) .nil))) (.cons (.raise 2) .nil) .nil) .nil⟩
/-- is_choice(thing, many, last, number) -/
def b46 : Df := ⟨2, 4, .cons (.ite (.bop .Or (.cons (.un .Not (.isi (.var 0) .list)) (.cons (.cmp .Eq (.bi .len (.cons (.var 0) .nil)) (.c (.int 0))) .nil))) (.cons (.ret (.so (.c (.bl false)))) .nil) .nil) (.cons (.asg (.var 2) (.un .USub (.c (.int 1)))) (.cons (.for (.var 3) (.val (.var 0)) (.cons (.ite (.bop .Or (.cons (.un .Not (.call 16 0 (.cons (.var 3) .nil))) (.cons (.cmp .LtE (.var 3) (.var 2)) (.cons (.cmp .GtE (.var 3) (.var 1)) .nil)))) (.cons (.ret (.so (.c (.bl false)))) .nil) .nil) (.cons (.asg (.var 2) (.var 3)) .nil))) (.cons (.ret (.so (.c (.bl true)))) .nil)))⟩
/-- look_choice(thing, many) -/
def b47 : Df := ⟨2, 2, .cons (.ite (.un .Not (.call 46 0 (.cons (.var 0) (.cons (.var 1) .nil)))) (.cons (.raise 3) .nil) .nil) .nil⟩
/-- part_of(table, rows, columns, i, j) -/
def b48 : Df := ⟨3, 5, .cons (.expr (.call 45 0 (.cons (.var 0) .nil))) (.cons (.expr (.call 47 0 (.cons (.var 1) (.cons (.bi .len (.cons (.var 0) .nil)) .nil)))) (.cons (.expr (.call 47 0 (.cons (.var 2) (.cons (.bi .len (.cons (.idx (.var 0) (.c (.int 0))) .nil)) .nil)))) (.cons (.ret (.so (.comp true [3] (.var 3) (.val (.var 1)) .no (.comp true [4] (.var 4) (.val (.var 2)) .no (.idx (.idx (.var 0) (.var 3)) (.var 4)))))) .nil)))⟩
/-- turned(table, j, row) -/
def b49 : Df := ⟨1, 3, .cons (.expr (.call 45 0 (.cons (.var 0) .nil))) (.cons (.ret (.so (.comp true [1] (.var 1) (.rng1 (.bi .len (.cons (.idx (.var 0) (.c (.int 0))) .nil))) .no (.comp true [2] (.var 2) (.val (.var 0)) .no (.idx (.var 2) (.var 1)))))) .nil)⟩
/-! ### data whose numbers are not too great -/
mutual
def dOk (N : Nat) : D → Prop
  | .non => True
  | .bl _ => True
  | .int i => Lt2 i N
  | .str x => x.length ≤ LIM
  | .tup xs => dOks N xs
  | .lst xs => dOks N xs
  | .fro _ => False
  | .dct _ _ _ => False
  | .exo _ => False
  | .ktp _ => False
  | .ref _ => False
def dOks (N : Nat) : List D → Prop
  | [] => True
  | x :: xs => dOk N x ∧ dOks N xs
end
mutual
theorem dOk_imm {N : Nat} : (d : D) → dOk N d → isImm d = true
  | .non, _ => rfl
  | .bl _, _ => rfl
  | .int _, _ => rfl
  | .str _, _ => rfl
  | .tup xs, h => by rw [isImm]; exact dOks_imm xs (by rw [dOk] at h; exact h)
  | .lst xs, h => by rw [isImm]; exact dOks_imm xs (by rw [dOk] at h; exact h)
  | .fro _, h => by rw [dOk] at h; exact h.elim
  | .dct _ _ _, h => by rw [dOk] at h; exact h.elim
  | .exo _, h => by rw [dOk] at h; exact h.elim
  | .ktp _, h => by rw [dOk] at h; exact h.elim
  | .ref _, h => by rw [dOk] at h; exact h.elim
theorem dOks_imm {N : Nat} : (ds : List D) → dOks N ds → isImms ds = true
  | [], _ => rfl
  | x :: xs, h => by
    rw [dOks] at h
    rw [isImms, dOk_imm x h.1, dOks_imm xs h.2]; rfl
end
theorem dOks_mem {N : Nat} : ∀ {ds : List D}, dOks N ds → ∀ d ∈ ds, dOk N d
  | [], _, d, h => by cases h
  | x :: xs, h, d, hd => by
    rw [dOks] at h
    rcases List.mem_cons.mp hd with rfl | hd
    · exact h.1
    · exact dOks_mem h.2 d hd
theorem dOks_of {N : Nat} : ∀ {ds : List D}, (∀ d ∈ ds, dOk N d) → dOks N ds
  | [], _ => by rw [dOks]; trivial
  | x :: xs, h => by
    rw [dOks]
    exact ⟨h x List.mem_cons_self, dOks_of fun d hd => h d (List.mem_cons_of_mem _ hd)⟩
theorem dOk_plain {N : Nat} {d : D} (h : dOk N d) : plainD d = true := by
  cases d <;> first | rfl | (rw [dOk] at h; exact h.elim)
theorem dOk_q {N : Nat} {q : Rat} (h : Sz q N) : dOk N (qD q) := by
  unfold qD
  simp only [dOk, dOks, and_true]
  exact h
def SzR (N : Nat) (r : List Rat) : Prop := ∀ q ∈ r, Sz q N
def SzT (N : Nat) (t : List (List Rat)) : Prop := ∀ r ∈ t, SzR N r
theorem dOk_row {N : Nat} {r : List Rat} (h : SzR N r) : dOk N (rowD r) := by
  unfold rowD
  rw [dOk]
  exact dOks_of fun d hd => by
    obtain ⟨q, hq, rfl⟩ := List.mem_map.mp hd
    exact dOk_q (h q hq)
theorem dOk_tab {N : Nat} {t : List (List Rat)} (h : SzT N t) : dOk N (tabD t) := by
  unfold tabD
  rw [dOk]
  exact dOks_of fun d hd => by
    obtain ⟨r, hr, rfl⟩ := List.mem_map.mp hd
    exact dOk_row (h r hr)
/-! ### fractions, rows, tables known -/
def Sp16 (Φ : Phi) : Prop := ∀ d : D, isImm d = true → plainD d = true → Rt Φ 16 [d] (.bl (isIntD d))
theorem sp16 {Φ Φ' : Phi} (e : Φ' 16 = evD Φ b16) : Sp16 Φ' := fun d hi hp => rt_of e (by simp only [isImms, hi, Bool.and_true]) (by
  unfold b16
  cases d <;> first | (cases hp; done) | skip
  all_goals walk_at "sg"
  all_goals exact imm_of rfl)
def isFracD : D → Bool
  | .tup [.int a, .int b] => decide (1 ≤ b) && decide (Int.gcd a b = 1)
  | _ => false
theorem isFracD_q (q : Rat) : isFracD (qD q) = true := by
  have h1 : (1 : Int) ≤ (q.den : Nat) := by
    have := q.den_pos
    omega
  have h2 : Int.gcd q.num (q.den : Nat) = 1 := q.reduced
  show (decide _ && decide _) = true
  rw [decide_eq_true h1, decide_eq_true h2]
  rfl
def Sp17 (Φ : Phi) : Prop := ∀ d : D, dOk 8990 d → Rt Φ 17 [d] (.bl (isFracD d))
theorem isInt_cases (d : D) : (∃ i, d = .int i) ∨ (isIntD d = false ∧ ∀ i, d ≠ .int i) := by
  cases d with
  | int i => exact .inl ⟨i, rfl⟩
  | _ => exact .inr ⟨rfl, fun i h => by cases h⟩
theorem sp17 {Φ Φ' : Phi} (e : Φ' 17 = evD Φ b17) (h1 : Sp1 Φ) (h16 : Sp16 Φ) : Sp17 Φ' := fun d hd => rt_of e (by simp only [isImms, dOk_imm d hd, Bool.and_true]) (by
  unfold b17
  cases d <;> first | (rw [dOk] at hd; exact hd.elim) | skip
  case tup xs =>
    rw [dOk] at hd
    walk_at "sg"
    by_cases hl : ((xs.length : Nat) : Int) = 2
    · match xs, hl with
      | [x, y], _ =>
        rw [dOks, dOks] at hd
        have hx := h16 x (dOk_imm x hd.1) (dOk_plain hd.1)
        have hy := h16 y (dOk_imm y hd.2.1) (dOk_plain hd.2.1)
        walk_at "sgh"
        rcases isInt_cases x with ⟨a, rfl⟩ | ⟨ex, nx⟩
        · rcases isInt_cases y with ⟨b, rfl⟩ | ⟨ey, ny⟩
          · rw [show isIntD (.int a) = true from rfl, show isIntD (.int b) = true from rfl]
            walk_at "sg"
            by_cases hb : b < 1
            · rw [if_pos hb]
              walk_at "sg"
              rw [imm_of rfl]
              show _ = some (D.bl (decide _ && decide _))
              rw [decide_eq_false (show ¬ (1 ≤ b) by omega)]
              rfl
            · have hg := h1 a b (Lt2.mono (by have := hd.2.1; rw [dOk] at this; exact this) (by decide))
              walk_at "sgh"
              show _ = some (D.bl (decide _ && decide _))
              rw [decide_eq_true (show 1 ≤ b by omega), Bool.true_and, imm_of rfl]
              congr 2
              rw [decide_eq_decide]
              omega
          · rw [show isIntD (.int a) = true from rfl, ey]
            walk_at "sg"
            rw [imm_of rfl]
            cases y <;> first | rfl | exact absurd rfl (ny _)
        · rw [ex]
          walk_at "sg"
          rw [imm_of rfl]
          cases x <;> first | rfl | exact absurd rfl (nx _)
    · walk_at "sgh"
      rw [imm_of rfl]
      match xs, hl with
      | [], _ => rfl
      | [z], _ => cases z <;> rfl
      | [_, _], hl => exact absurd rfl hl
      | _ :: _ :: _ :: _, _ => simp [isFracD]
  all_goals walk_at "sg"
  all_goals exact imm_of rfl)
def rowOfD (n : Nat) : D → Bool
  | .lst xs => decide (xs.length = n) && xs.all isFracD
  | _ => false
theorem W_allB {M : List Cell} {Q : D → List Cell → Prop} {X : Nat → List Cell → Prop} {α : Type} {f : α → Bool} {xs : List α} : W (bi .all [.lst (xs.map fun x => D.bl (f x))] M) Q X = Q (.bl (xs.all f)) M := by
  have e : blsOf (xs.map fun x => D.bl (f x)) = some (xs.map f) := by
    induction xs with
    | nil => rfl
    | cons x xs ih => rw [List.map_cons, blsOf, ih]; rfl
  show V (match (content M (.lst (xs.map fun x => D.bl (f x)))).bind blsOf with
    | some r => R.ok (.bl (r.all id)) M
    | none => R.bad) Q X = _
  rw [show content M (.lst (xs.map fun x => D.bl (f x))) = some (xs.map fun x => D.bl (f x)) from rfl, Option.bind_some, e]
  show Q (.bl ((xs.map f).all id)) M = _
  rw [List.all_map]
  rfl
def Sp30 (Φ : Phi) : Prop := ∀ (d : D) (n : Nat), dOk 8990 d → (∀ xs, d = .lst xs → xs.length ≤ 15000000) → Rt Φ 30 [d, .int (n : Nat)] (.bl (rowOfD n d))
theorem sp30 {Φ Φ' : Phi} (e : Φ' 30 = evD Φ b30) (h17 : Sp17 Φ) : Sp30 Φ' := fun d n hd hl => rt_of e (by simp only [isImms, dOk_imm d hd, isImm, Bool.and_true]) (by
  unfold b30
  cases d <;> first | (rw [dOk] at hd; exact hd.elim) | skip
  case lst xs =>
    rw [dOk] at hd
    have hl := hl xs rfl
    walk_at "sg"
    by_cases hn : xs.length = n
    · rw [if_pos (by omega)]
      refine W_compL (g := fun x => D.bl (isFracD x)) (fun x hx => ?_) ?_
      · have h17x := h17 x (dOks_mem hd x hx)
        walk_at "sgh"
      · walk_at "sg"
        rw [List.length_map]
        refine ⟨by omega, ?_⟩
        rw [W_allB]
        walk_at "sg"
        rw [imm_of rfl]
        show _ = some (D.bl (decide _ && _))
        rw [decide_eq_true hn, Bool.true_and]
    · rw [if_neg (by omega)]
      rw [imm_of rfl]
      show _ = some (D.bl (decide _ && _))
      rw [decide_eq_false hn, Bool.false_and]
  all_goals walk_at "sg"
  all_goals exact imm_of rfl)
def isTabD : D → Bool
  | .lst (.lst r :: rs) => decide (rs.length + 1 ≤ 7) && (decide (1 ≤ r.length) && (decide (r.length ≤ 7) && (D.lst r :: rs).all (rowOfD r.length)))
  | _ => false
def Sp31 (Φ : Phi) : Prop := ∀ (d : D), dOk 8990 d → (∀ r rs, d = .lst (r :: rs) → ∀ x ∈ r :: rs, ∀ ys, x = .lst ys → ys.length ≤ 15000000) → (∀ xs, d = .lst xs → xs.length ≤ 15000000) → Rt Φ 31 [d] (.bl (isTabD d))
theorem sp31 {Φ Φ' : Phi} (e : Φ' 31 = evD Φ b31) (h30 : Sp30 Φ) : Sp31 Φ' := fun d hd hl hl2 => rt_of e (by simp only [isImms, dOk_imm d hd, Bool.and_true]) (by
  unfold b31
  cases d <;> first | (rw [dOk] at hd; exact hd.elim) | skip
  case lst xs =>
    rw [dOk] at hd
    have hl2 := hl2 xs rfl
    walk_at "sg"
    cases xs with
    | nil =>
      walk_at "sg"
      exact imm_of rfl
    | cons r rs =>
      have hl := hl r rs rfl
      have hmem := dOks_mem hd
      rw [dOks] at hd
      rw [if_pos (by rw [List.length_cons]; omega)]
      rw [List.length_cons] at hl2 ⊢
      by_cases h7 : rs.length + 1 ≤ 7
      · have h7' : ((rs.length + 1 : Nat) : Int) ≤ 7 := by omega
        walk_at "sgh"
        cases r with
        | lst r =>
          walk_at "sg"
          by_cases h1 : 1 ≤ r.length
          · have h1' : (1 : Int) ≤ (r.length : Nat) := by omega
            by_cases h8 : r.length ≤ 7
            · have h8' : ((r.length : Nat) : Int) ≤ 7 := by omega
              walk_at "sgh"
              refine W_compL (g := fun x => D.bl (rowOfD r.length x)) (fun x hx => ?_) ?_
              · have h30x := h30 x r.length (hmem x hx) (hl x hx)
                walk_at "sgh"
              · walk_at "sg"
                refine ⟨by rw [List.length_map]; omega, ?_⟩
                rw [show D.bl (rowOfD r.length (D.lst r)) :: rs.map (fun x => D.bl (rowOfD r.length x)) = (D.lst r :: rs).map (fun x => D.bl (rowOfD r.length x)) from rfl, W_allB]
                walk_at "sg"
                rw [imm_of rfl]
                show _ = some (D.bl (decide _ && (decide _ && (decide _ && _))))
                rw [decide_eq_true h7, decide_eq_true h1, decide_eq_true h8]
                rfl
            · have h8' : ¬ ((r.length : Nat) : Int) ≤ 7 := by omega
              walk_at "sgh"
              rw [imm_of rfl]
              show _ = some (D.bl (decide _ && (decide _ && (decide _ && _))))
              rw [decide_eq_false h8, Bool.false_and, Bool.and_false, Bool.and_false]
          · have h1' : ¬ (1 : Int) ≤ (r.length : Nat) := by omega
            walk_at "sgh"
            rw [imm_of rfl]
            show _ = some (D.bl (decide _ && (decide _ && _)))
            rw [decide_eq_false h1, Bool.false_and, Bool.and_false]
        | fro _ => rw [dOk] at hd; exact hd.1.elim
        | dct _ _ _ => rw [dOk] at hd; exact hd.1.elim
        | exo _ => rw [dOk] at hd; exact hd.1.elim
        | ktp _ => rw [dOk] at hd; exact hd.1.elim
        | ref _ => rw [dOk] at hd; exact hd.1.elim
        | _ =>
          walk_at "sg"
          exact imm_of rfl
      · have h7' : ¬ ((rs.length + 1 : Nat) : Int) ≤ 7 := by omega
        walk_at "sgh"
        rw [imm_of rfl]
        cases r <;> first | rfl | skip
        show _ = some (D.bl (decide _ && _))
        rw [decide_eq_false h7, Bool.false_and]
  all_goals walk_at "sg"
  all_goals exact imm_of rfl)
def okTb (d : D) : Prop := dOk 8990 d ∧ (∀ r rs, d = .lst (r :: rs) → ∀ x ∈ r :: rs, ∀ ys, x = .lst ys → ys.length ≤ 15000000) ∧ (∀ xs, d = .lst xs → xs.length ≤ 15000000)
def Sp45 (Φ : Phi) : Prop := ∀ d : D, okTb d → (isTabD d = true → Rt Φ 45 [d] .non) ∧ (isTabD d = false → Xc Φ 45 [d] 2)
theorem sp45 {Φ Φ' : Phi} (e : Φ' 45 = evD Φ b45) (h31 : Sp31 Φ) : Sp45 Φ' := fun d hd => by
  have h := h31 d hd.1 hd.2.1 hd.2.2
  have hi : isImms [d] = true := by simp only [isImms, dOk_imm d hd.1, Bool.and_true]
  constructor
  · intro ht
    rw [ht] at h
    refine rt_of e hi ?_
    unfold b45
    walk_at "sgh"
    exact imm_of rfl
  · intro ht
    rw [ht] at h
    refine xc_of e hi ?_
    unfold b45
    walk_at "sgh"
/-- so many fractions rows and columns -/
structure Tab (N m n : Nat) (t : List (List Rat)) : Prop where
  len : t.length = m
  row : ∀ r ∈ t, r.length = n
  m1 : 1 ≤ m
  m7 : m ≤ 7
  n1 : 1 ≤ n
  n7 : n ≤ 7
  sz : SzT N t
theorem SzR.mono {N N' : Nat} {r : List Rat} (h : SzR N r) (k : N ≤ N') : SzR N' r := fun q hq => (h q hq).mono k
theorem SzT.mono {N N' : Nat} {t : List (List Rat)} (h : SzT N t) (k : N ≤ N') : SzT N' t := fun r hr => (h r hr).mono k
theorem Tab.mono {N N' m n : Nat} {t : List (List Rat)} (h : Tab N m n t) (k : N ≤ N') : Tab N' m n t := ⟨h.len, h.row, h.m1, h.m7, h.n1, h.n7, h.sz.mono k⟩
theorem rowOfD_row {n : Nat} {r : List Rat} (h : r.length = n) : rowOfD n (rowD r) = true := by
  show (decide ((r.map qD).length = n) && (r.map qD).all isFracD) = true
  rw [List.length_map, decide_eq_true h, Bool.true_and, List.all_map, List.all_eq_true]
  intro q _
  exact isFracD_q q
theorem Tab.isTab {N m n : Nat} {t : List (List Rat)} (h : Tab N m n t) : isTabD (tabD t) = true := by
  obtain ⟨h1, h2, h3, h4, h5, h6, _⟩ := h
  cases t with
  | nil =>
    rw [List.length_nil] at h1
    omega
  | cons r rs =>
    have hr := h2 r List.mem_cons_self
    show (decide ((rs.map rowD).length + 1 ≤ 7) && (decide (1 ≤ (r.map qD).length) && (decide ((r.map qD).length ≤ 7) && ((r :: rs).map rowD).all (rowOfD (r.map qD).length)))) = true
    rw [List.length_cons] at h1
    rw [List.length_map, List.length_map, hr, decide_eq_true (by omega), decide_eq_true h5, decide_eq_true h6, Bool.true_and, Bool.true_and, Bool.true_and, List.all_map, List.all_eq_true]
    intro x hx
    exact rowOfD_row (h2 x hx)
theorem okT_lst {xs : List D} (h : dOks 8990 xs) (h1 : xs.length ≤ 15000000) (h2 : ∀ x ∈ xs, ∀ ys, x = .lst ys → ys.length ≤ 15000000) : okTb (.lst xs) := by
  refine ⟨by rw [dOk]; exact h, fun r rs e x hx => ?_, fun ys e => by cases e; exact h1⟩
  cases e
  exact h2 x hx
theorem Tab.okTb {N m n : Nat} {t : List (List Rat)} (h : Tab N m n t) (hN : N ≤ 8990) : okTb (tabD t) := by
  refine okT_lst ?_ ?_ ?_
  · have := dOk_tab (h.sz.mono hN)
    rw [tabD, dOk] at this
    exact this
  · rw [List.length_map, h.len]
    have := h.m7
    omega
  · intro x hx ys e
    obtain ⟨r, hr, rfl⟩ := List.mem_map.mp hx
    cases e
    rw [List.length_map, h.row r hr]
    have := h.n7
    omega
theorem Sp45.ok {Φ : Phi} (h : Sp45 Φ) {N m n : Nat} {t : List (List Rat)} (ht : Tab N m n t) (hN : N ≤ 8990) : Rt Φ 45 [tabD t] .non := (h _ (ht.okTb hN)).1 ht.isTab
/-! ### choices -/
def chkD (many : Int) : Int → List D → Bool
  | _, [] => true
  | last, .int i :: xs => !(decide (i ≤ last)) && (!(decide (many ≤ i)) && chkD many i xs)
  | _, _ => false
def isChoiceD (many : Int) : D → Bool
  | .lst xs => !(xs.isEmpty) && chkD many (-1) xs
  | _ => false
def Sp46 (Φ : Phi) : Prop := ∀ (d : D) (many : Int), dOk 1000000 d → Rt Φ 46 [d, .int many] (.bl (isChoiceD many d))
theorem chkD_cons {many last : Int} {x : D} {xs : List D} (h : ∀ i, x ≠ .int i) : chkD many last (x :: xs) = false := by
  cases x with
  | int i => exact absurd rfl (h i)
  | _ => rfl
theorem sp46 {Φ Φ' : Phi} (e : Φ' 46 = evD Φ b46) (h16 : Sp16 Φ) : Sp46 Φ' := fun d many hd => rt_of e (by simp only [isImms, dOk_imm d hd, isImm, Bool.and_true]) (by
  unfold b46
  cases d <;> first | (rw [dOk] at hd; exact hd.elim) | skip
  case lst xs =>
    rw [dOk] at hd
    have hmem := dOks_mem hd
    walk_at "sg"
    by_cases h0 : ((xs.length : Nat) : Int) = 0
    · have hx : xs = [] := List.length_eq_zero_iff.mp (by omega)
      subst hx
      walk_at "sg"
      exact imm_of rfl
    · have hne : xs.isEmpty = false := by
        cases xs with
        | nil => exact absurd rfl h0
        | cons _ _ => rfl
      walk_at "sgh"
      refine for_inv (fun i σ M => ∃ last r, σ = [some (.lst xs), some (.int many), some (.int last), r] ∧ M = [] ∧ chkD many last (xs.drop i) = chkD many (-1) xs) ⟨-1, none, rfl, rfl, rfl⟩ ?_ ?_
      · rintro i x σ M hx ⟨last, r, rfl, rfl, hc⟩
        obtain ⟨hi, hx2⟩ := List.getElem?_eq_some_iff.mp hx
        have hxm : x ∈ xs := by rw [← hx2]; exact List.getElem_mem hi
        have hw := h16 x (dOk_imm x (hmem x hxm)) (dOk_plain (hmem x hxm))
        rw [List.drop_eq_getElem_cons hi, hx2] at hc
        rcases isInt_cases x with ⟨a, rfl⟩ | ⟨ex, nx⟩
        · rw [show isIntD (.int a) = true from rfl] at hw
          walk_at "sgh"
          rw [chkD] at hc
          by_cases h1 : a ≤ last
          · rw [decide_eq_true h1] at hc
            walk_at "sgh"
            rw [imm_of rfl]
            show _ = some (D.bl (!xs.isEmpty && chkD many (-1) xs))
            rw [← hc, hne]
            rfl
          · rw [decide_eq_false h1] at hc
            by_cases h2 : many ≤ a
            · rw [decide_eq_true h2] at hc
              walk_at "sgh"
              rw [imm_of rfl]
              show _ = some (D.bl (!xs.isEmpty && chkD many (-1) xs))
              rw [← hc, hne]
              rfl
            · rw [decide_eq_false h2] at hc
              walk_at "sgh"
              exact ⟨a, _, rfl, hc⟩
        · rw [ex] at hw
          rw [chkD_cons nx] at hc
          walk_at "sgh"
          rw [imm_of rfl]
          show _ = some (D.bl (!xs.isEmpty && chkD many (-1) xs))
          rw [← hc, hne]
          rfl
      · rintro σ M ⟨last, r, rfl, rfl, hc⟩
        rw [List.drop_length] at hc
        walk_at "sg"
        rw [imm_of rfl]
        show _ = some (D.bl (!xs.isEmpty && chkD many (-1) xs))
        rw [← hc, hne]
        rfl
  all_goals walk_at "sg"
  all_goals exact imm_of rfl)
def Sp47 (Φ : Phi) : Prop := ∀ (d : D) (many : Int), dOk 1000000 d → (isChoiceD many d = true → Rt Φ 47 [d, .int many] .non) ∧ (isChoiceD many d = false → Xc Φ 47 [d, .int many] 3)
theorem sp47 {Φ Φ' : Phi} (e : Φ' 47 = evD Φ b47) (h46 : Sp46 Φ) : Sp47 Φ' := fun d many hd => by
  have h := h46 d many hd
  have hi : isImms [d, .int many] = true := by simp only [isImms, dOk_imm d hd, isImm, Bool.and_true]
  constructor
  · intro ht
    rw [ht] at h
    refine rt_of e hi ?_
    unfold b47
    walk_at "sgh"
    exact imm_of rfl
  · intro ht
    rw [ht] at h
    refine xc_of e hi ?_
    unfold b47
    walk_at "sgh"
/-! ### places as numbers -/
/-- rising, each less than many -/
def Choice (many : Nat) (ns : List Nat) : Prop := ns ≠ [] ∧ ns.Pairwise (· < ·) ∧ ∀ n ∈ ns, n < many
theorem chkD_nats {many : Nat} : ∀ {ns : List Nat} {last : Int}, ns.Pairwise (· < ·) → (∀ n ∈ ns, n < many) → (∀ n ∈ ns, last < (n : Nat)) → chkD many last (ns.map natD) = true
  | [], _, _, _, _ => rfl
  | n :: ns, last, hp, hm, hl => by
    rw [List.map_cons]
    show (!(decide (((n : Nat) : Int) ≤ last)) && (!(decide ((many : Int) ≤ (n : Nat))) && chkD many (n : Nat) (ns.map natD))) = true
    have h1 := hl n List.mem_cons_self
    have h2 := hm n List.mem_cons_self
    rw [List.pairwise_cons] at hp
    rw [decide_eq_false (by omega), decide_eq_false (by omega), chkD_nats hp.2 (fun k hk => hm k (List.mem_cons_of_mem _ hk)) (fun k hk => by have := hp.1 k hk; omega)]
    rfl
theorem Choice.is {many : Nat} {ns : List Nat} (h : Choice many ns) : isChoiceD many (natsD ns) = true := by
  show (!((ns.map natD).isEmpty) && chkD many (-1) (ns.map natD)) = true
  rw [chkD_nats h.2.1 h.2.2 (fun n _ => by omega), Bool.and_true]
  cases ns with
  | nil => exact absurd rfl h.1
  | cons _ _ => rfl
theorem lt2_small {n : Nat} (h : n < 16000000) {N : Nat} (hN : 24 ≤ N) : Lt2 (n : Int) N := (lt2_nat (m := 24) (by omega)).mono hN
theorem dOk_nats {many N : Nat} {ns : List Nat} (h : ∀ n ∈ ns, n < many) (hm : many ≤ 15000000) (hN : 24 ≤ N) : dOk N (natsD ns) := by
  rw [natsD, dOk]
  refine dOks_of fun d hd => ?_
  obtain ⟨n, hn, rfl⟩ := List.mem_map.mp hd
  rw [natD, dOk]
  exact lt2_small (by have := h n hn; omega) hN
/-! ### parts, the turned table -/
def ent (t : List (List Rat)) (i j : Nat) : Rat := ((t.getD i []).getD j 0)
def part (t : List (List Rat)) (rows cols : List Nat) : List (List Rat) := rows.map fun i => cols.map fun j => ent t i j
/-- a table's rows as data -/
def tabC (t : List (List Rat)) : List (List D) := t.map fun r => r.map qD
theorem tabD_C (t : List (List Rat)) : tabD t = .lst ((tabC t).map D.lst) := by
  unfold tabD tabC
  rw [List.map_map]
  rfl
theorem elemC {t : List (List Rat)} : ∀ r ∈ tabC t, ∀ x ∈ r, isElem x = true := fun r hr x hx => by
  obtain ⟨q, _, rfl⟩ := List.mem_map.mp hr
  obtain ⟨y, _, rfl⟩ := List.mem_map.mp hx
  rfl
def flip (t : List (List Rat)) : List (List Rat) := (List.range (t.getD 0 []).length).map fun j => t.map fun r => r.getD j 0
def Sp48 (Φ : Phi) : Prop := ∀ (N m n : Nat) (t : List (List Rat)) (rows cols : List Nat), Tab N m n t → N ≤ 8990 → Choice m rows → Choice n cols → MkT Φ 48 [tabD t, natsD rows, natsD cols] (tabC (part t rows cols))
theorem W_idxTab {M : List Cell} {Q : D → List Cell → Prop} {X : Nat → List Cell → Prop} {t : List (List Rat)} {i : Nat} (h : i < t.length) : W (idxD (tabD t) (.int (i : Nat)) M) Q X = Q (rowD (t.getD i [])) M := by
  rw [W_nthTab h, List.getD_eq_getElem?_getD, List.getElem?_eq_getElem h]; rfl
theorem W_idxTab0 {M : List Cell} {Q : D → List Cell → Prop} {X : Nat → List Cell → Prop} {t : List (List Rat)} (h : 0 < t.length) : W (idxD (tabD t) (.int 0) M) Q X = Q (rowD (t.getD 0 [])) M := W_idxTab (i := 0) h
theorem W_idxRow {M : List Cell} {Q : D → List Cell → Prop} {X : Nat → List Cell → Prop} {t : List Rat} {i : Nat} (h : i < t.length) : W (idxD (rowD t) (.int (i : Nat)) M) Q X = Q (qD (t.getD i 0)) M := by
  rw [W_nthRow h, List.getD_eq_getElem?_getD, List.getElem?_eq_getElem h]; rfl
theorem getD_mem {α : Type} {xs : List α} {i : Nat} {d : α} (h : i < xs.length) : xs.getD i d ∈ xs := by
  rw [List.getD_eq_getElem?_getD, List.getElem?_eq_getElem h]
  exact List.getElem_mem h
theorem Choice.len {many : Nat} {ns : List Nat} (h : Choice many ns) : ns.length ≤ many := by
  have key : ∀ (ns : List Nat) (lo : Nat), ns.Pairwise (· < ·) → (∀ n ∈ ns, n < many) → (∀ n ∈ ns, lo ≤ n) → lo ≤ many → lo + ns.length ≤ many := fun ns => by
    induction ns with
    | nil => intro lo _ _ _ h; exact h
    | cons n ns ih =>
      intro lo hp hm hl hlo
      rw [List.pairwise_cons] at hp
      have h1 := ih (n + 1) hp.2 (fun k hk => hm k (List.mem_cons_of_mem _ hk)) (fun k hk => hp.1 k hk) (hm n List.mem_cons_self)
      have h2 := hl n List.mem_cons_self
      rw [List.length_cons]
      omega
  have := key ns 0 h.2.1 h.2.2 (fun _ _ => Nat.zero_le _) (Nat.zero_le _)
  omega
theorem sp48 {Φ Φ' : Phi} (e : Φ' 48 = evD Φ b48) (h45 : Sp45 Φ) (h47 : Sp47 Φ) : Sp48 Φ' := fun N m n t rows cols ht hN hr hc => mkT_of e (by
  have a1 := h45.ok ht hN
  have a2 := (h47 (natsD rows) (m : Nat) (dOk_nats hr.2.2 (by have := ht.m7; omega) (by decide))).1 hr.is
  have a3 := (h47 (natsD cols) (n : Nat) (dOk_nats hc.2.2 (by have := ht.n7; omega) (by decide))).1 hc.is
  have hm := ht.len
  have h0 : ((t.getD 0 []).length : Nat) = n := ht.row _ (getD_mem (by have := ht.m1; omega))
  have l1 := hr.len
  have l2 := hc.len
  have m7 := ht.m7
  have n7 := ht.n7
  unfold b48
  walk_at "sgh"
  rw [W_idxTab0 (by have := ht.m1; omega)]
  walk_at "sgh"
  refine W_compRows (fe := natD) (g := fun i => cols.map fun j => qD (ent t i j)) (fun i hi M => ?_) ?_
  · have hi := hr.2.2 i hi
    walk_at "sg"
    refine W_compM (f := natD) (g := fun j => qD (ent t i j)) (fun j hj => ?_) ?_
    · have hj := hc.2.2 j hj
      unfold natD
      walk_at "sg"
      rw [W_idxTab (by omega)]
      walk_at "sg"
      rw [W_idxRow (by rw [ht.row _ (getD_mem (by omega))]; exact hj)]
      exact ⟨rfl, rfl⟩
    · walk_at "sg"
      rw [List.length_map]
      omega
  · walk_at "sg"
    rw [List.length_map, List.length_range']
    refine ⟨by omega, ?_⟩
    have := tabAt_rows (M := []) (g := fun i => cols.map fun j => qD (ent t i j)) (xs := rows)
    unfold tabC part
    rw [List.map_map, show ((fun r => List.map qD r) ∘ fun i => List.map (fun j => ent t i j) cols) = fun i => cols.map fun j => qD (ent t i j) from funext fun i => by rw [Function.comp, List.map_map]; rfl]
    exact this)
def Sp49 (Φ : Phi) : Prop := ∀ (N m n : Nat) (t : List (List Rat)), Tab N m n t → N ≤ 8990 → MkT Φ 49 [tabD t] (tabC (flip t))
theorem W_compUp {M : List Cell} {X : Nat → List Cell → Prop} {QL : List D → List Cell → Prop} {g : Nat → D} {step : D → List Cell → R (Option D)} {n : Nat}
    (h : ∀ i, i < n → W (step (.int (i : Nat)) M) (fun y M' => y = some (g i) ∧ M' = M) fun _ _ => False) (hq : QL ((List.range n).map g) M) : W (compL step (upTo 0 n) M) QL X := by
  rw [upTo_eq]
  refine W_compM (g := g) (fun i hi => ?_) hq
  rw [Int.zero_add]
  exact h i (List.mem_range.mp hi)
theorem W_compRowsUp {M : List Cell} {X : Nat → List Cell → Prop} {QL : List D → List Cell → Prop} {g : Nat → List D} {step : D → List Cell → R (Option D)} {n : Nat}
    (h : ∀ i, i < n → ∀ M, W (step (.int (i : Nat)) M) (fun y M' => y = some (.ref M.length) ∧ M' = M ++ [⟨true, .lst (g i)⟩]) fun _ _ => False)
    (hq : QL ((List.range' M.length n).map D.ref) (M ++ (List.range n).map fun x => ⟨true, .lst (g x)⟩)) : W (compL step (upTo 0 n) M) QL X := by
  rw [upTo_eq]
  refine W_compRows (g := g) (fun i hi M => ?_) (by rw [List.length_range]; exact hq)
  rw [Int.zero_add]
  exact h i (List.mem_range.mp hi) M
theorem sp49 {Φ Φ' : Phi} (e : Φ' 49 = evD Φ b49) (h45 : Sp45 Φ) : Sp49 Φ' := fun N m n t ht hN => mkT_of e (by
  have a1 := h45.ok ht hN
  have hm := ht.len
  have h0 : ((t.getD 0 []).length : Nat) = n := ht.row _ (getD_mem (by have := ht.m1; omega))
  have m7 := ht.m7
  have n7 := ht.n7
  unfold b49
  walk_at "sgh"
  rw [W_idxTab0 (by have := ht.m1; omega)]
  walk_at "sgh"
  refine ⟨by unfold B62; omega, ?_⟩
  rw [Int.toNat_natCast]
  refine W_compRowsUp (g := fun j => t.map fun r => qD (r.getD j 0)) (fun j hj M => ?_) ?_
  · walk_at "sg"
    refine W_compM (f := rowD) (g := fun r => qD (r.getD j 0)) (fun r hr => ?_) ?_
    · walk_at "sg"
      rw [W_idxRow (by rw [ht.row r hr]; exact hj)]
      exact ⟨rfl, rfl⟩
    · walk_at "sg"
      rw [List.length_map]
      omega
  · walk_at "sg"
    rw [List.length_map, List.length_range']
    refine ⟨by omega, ?_⟩
    have := tabAt_rows (M := []) (g := fun j => t.map fun r => qD (r.getD j 0)) (xs := List.range n)
    unfold tabC flip
    rw [List.length_range] at this
    rw [h0, List.map_map, show ((fun r => List.map qD r) ∘ fun j => List.map (fun r => List.getD r j 0) t) = fun j => t.map fun r => qD (r.getD j 0) from funext fun j => by rw [Function.comp, List.map_map]; rfl]
    exact this)
/-! ### the law's tables -/
theorem getD_nat {xs : List Int} {i : Nat} (h : i < xs.length) : (xs.map D.int)[i]? = some (.int (xs.getD i 0)) := by
  rw [List.getElem?_map, List.getElem?_eq_getElem h, List.getD_eq_getElem?_getD, List.getElem?_eq_getElem h]; rfl
theorem InB.getD {xs bs : List Int} {i : Nat} (h : InB xs bs) (hi : i < bs.length) : 0 ≤ xs.getD i 0 := by
  have hl := h.len
  have := h.get (i := i) (by omega) hi
  rw [List.getD_eq_getElem?_getD, List.getElem?_eq_getElem (by omega)]
  exact this.1
theorem Sp10.fn {Φ : Phi} (h : Sp10 Φ) (k : Int) : ∃ f : Int → Rat, (∀ p, Sz (f p) (kN k)) ∧ ∀ p, 0 ≤ p → Rt Φ 10 [.int k, .int p] (qD (f p)) := by
  have key : ∀ p : Int, ∃ q : Rat, Sz q (kN k) ∧ (0 ≤ p → Rt Φ 10 [.int k, .int p] (qD q)) := fun p => by
    by_cases hp : 0 ≤ p
    · obtain ⟨q, h1, h2⟩ := h k p hp
      exact ⟨q, h1, fun _ => h2⟩
    · exact ⟨0, ⟨lt2_zero, (lt2_nat (m := 1) (by decide)).mono (by unfold kN; split <;> decide)⟩, fun z => absurd z hp⟩
  exact ⟨fun p => Classical.choose (key p), fun p => (Classical.choose_spec (key p)).1, fun p => (Classical.choose_spec (key p)).2⟩
def Sp36 (Φ : Phi) : Prop := ∀ (c : Int) (m n k : Nat), 1 ≤ m → m ≤ 7 → 1 ≤ n → n ≤ 7 → k < 4 → ∃ t, Tab (kN (k : Nat)) m n t ∧ Rt Φ 36 [.int c, .int (m : Nat), .int (n : Nat), .int (k : Nat)] (tabD t)
theorem sp36 {Φ Φ' : Phi} (e : Φ' 36 = evD Φ b36) (h7 : Sp7 Φ) (h10 : Sp10 Φ) : Sp36 Φ' := fun c m n k m1 m7 n1 n7 hk => by
  obtain ⟨f, f1, f2⟩ := h10.fn (k : Nat)
  obtain ⟨base, hb, hbase⟩ : ∃ base : Int, (0 < base ∧ Lt2 base 8999) ∧ ([.int 114, .int 5, .int 60, .int 200000000000000000000000000000000000000000000000000000000000000000000000000000000] : List D)[k]? = some (.int base) := by
    match k, hk with
    | 0, _ => exact ⟨114, ⟨by decide, (lt2_lit (by decide)).mono (by decide)⟩, rfl⟩
    | 1, _ => exact ⟨5, ⟨by decide, (lt2_lit (by decide)).mono (by decide)⟩, rfl⟩
    | 2, _ => exact ⟨60, ⟨by decide, (lt2_lit (by decide)).mono (by decide)⟩, rfl⟩
    | 3, _ => exact ⟨_, ⟨by decide, (lt2_lit (by decide)).mono (by decide)⟩, rfl⟩
  have hmn : m * n ≤ 49 := Nat.mul_le_mul m7 n7
  obtain ⟨xs, hx, hr⟩ := h7 c ((List.range (m * n)).map fun _ => base) (by
    intro b hb2
    obtain ⟨_, _, rfl⟩ := List.mem_map.mp hb2
    exact hb) (by rw [List.length_map, List.length_range]; omega)
  have hxl : xs.length = m * n := by rw [hx.len, List.length_map, List.length_range]
  rw [List.map_map] at hr
  refine ⟨(List.range m).map fun i => (List.range n).map fun j => f (xs.getD (n * i + j) 0), ⟨by rw [List.length_map, List.length_range], ?_, m1, m7, n1, n7, ?_⟩, ?_⟩
  · intro r hr
    obtain ⟨i, _, rfl⟩ := List.mem_map.mp hr
    rw [List.length_map, List.length_range]
  · intro r hr q hq
    obtain ⟨i, _, rfl⟩ := List.mem_map.mp hr
    obtain ⟨j, _, rfl⟩ := List.mem_map.mp hq
    exact f1 _
  · refine rt_of e rfl ?_
    have hmo : mulOk (m : Nat) (n : Nat) = true := mulOk_of (lt2_small (by omega) (Nat.le_refl 24)) (lt2_small (by omega) (Nat.le_refl 24)) (by decide)
    unfold b36
    walk_at "sgh"
    rw [W_nth hbase]
    walk_at "sgh"
    refine ⟨by unfold B62; rw [← Int.natCast_mul]; omega, ?_⟩
    rw [← Int.natCast_mul, Int.toNat_natCast]
    refine W_compUp (g := fun _ => D.int base) (fun i _ => ?_) ?_
    · walk_at "sg"
    walk_at "sg"
    rw [List.length_map, List.length_range]
    refine ⟨by omega, ?_⟩
    rw [W_rt (show Rt Φ 7 [.int c, .lst ((List.range (m * n)).map fun _ => D.int base)] _ from hr)]
    walk_at "sg"
    refine ⟨by unfold B62; omega, ?_⟩
    rw [Int.toNat_natCast]
    refine W_compUp (g := fun i => rowD ((List.range n).map fun j => f (xs.getD (n * i + j) 0))) (fun i hi => ?_) ?_
    · walk_at "sg"
      refine ⟨by unfold B62; omega, ?_⟩
      rw [Int.toNat_natCast]
      refine W_compUp (g := fun j => qD (f (xs.getD (n * i + j) 0))) (fun j hj => ?_) ?_
      · have hmo2 : mulOk (n : Nat) (i : Nat) = true := mulOk_of (lt2_small (by omega) (Nat.le_refl 24)) (lt2_small (by omega) (Nat.le_refl 24)) (by decide)
        have hij : n * i + j < m * n := by
          have : n * (i + 1) ≤ n * m := Nat.mul_le_mul_left n hi
          rw [Nat.mul_comm m n]
          rw [Nat.mul_add] at this
          omega
        have hp := f2 (xs.getD (n * i + j) 0) (hx.getD (by rw [List.length_map, List.length_range]; exact hij))
        walk_at "sgh"
        rw [← Int.natCast_mul, ← Int.natCast_add, W_nth (getD_nat (by omega))]
        walk_at "sgh"
      · walk_at "sg"
        rw [List.length_map, List.length_range]
        refine ⟨by omega, ?_⟩
        unfold rowD
        rw [List.map_map]
        rfl
    · walk_at "sg"
      rw [List.length_map, List.length_range]
      refine ⟨by omega, ?_⟩
      rw [imm_of (by rw [isImm]; exact isImms_map (fun _ => isImm_rowD _) _)]
      unfold tabD
      rw [List.map_map]
      rfl
end Sg

/-! SpWord: the def that tells an error's word. -/
namespace Sg
open PySem
/-- _law_word(_law_e, _law_named, _law_words, _law_some, _law_k) -/
def b692 : Df := ⟨1, 5, .cons (.asg (.var 1) (.lst false (.cons (.xis 0 1) (.cons (.xis 0 2) (.cons (.xis 0 3) (.cons (.xis 0 4) .nil)))))) (.cons (.asg (.var 1) (.bin false .Add (.var 1) (.lst false (.cons (.xis 0 5) (.cons (.xis 0 6) (.cons (.xis 0 7) (.cons (.xis 0 8) .nil))))))) (.cons (.asg (.var 1) (.bin false .Add (.var 1) (.lst false (.cons (.xis 0 10) (.cons (.xis 0 9) (.cons (.xis 0 12) (.cons (.xis 0 11) .nil))))))) (.cons (.asg (.var 1) (.bin false .Add (.var 1) (.lst false (.cons (.xis 0 13) (.cons (.xis 0 16) (.cons (.xis 0 17) (.cons (.xis 0 18) .nil))))))) (.cons (.asg (.var 1) (.bin false .Add (.var 1) (.lst false (.cons (.xis 0 19) (.cons (.xis 0 14) (.cons (.xis 0 20) .nil)))))) (.cons (.asg (.var 2) (.lst true (.cons (.c (.str "NoFraction")) (.cons (.c (.str "NoTable")) (.cons (.c (.str "NoChoice")) (.cons (.c (.str "NoSquare")) (.cons (.c (.str "NoFit")) (.cons (.c (.str "NoUndoing")) (.cons (.c (.str "NoLadder")) (.cons (.c (.str "TooMany")) (.cons (.c (.str "NoPaper")) .nil))))))))))) (.cons (.asg (.var 2) (.bin true .Add (.var 2) (.lst false (.cons (.c (.str "NoRow")) (.cons (.c (.str "NoStairs")) (.cons (.c (.str "NoNumber")) (.cons (.c (.str "NoCorner")) (.cons (.c (.str "NoName")) (.cons (.c (.str "NoStep")) (.cons (.c (.str "NoWeight")) (.cons (.c (.str "NoDeed")) (.cons (.c (.str "NoText")) .nil)))))))))))) (.cons (.expr (.meth .append (.var 2) (.cons (.c (.str "NoWord")) .nil))) (.cons (.asg (.var 3) (.comp false [4] (.var 4) (.rng1 (.c (.int 19))) (.so (.idx (.var 1) (.var 4))) (.idx (.var 2) (.var 4)))) (.cons (.ite (.bop .Or (.cons (.cmp .NotEq (.bi .len (.cons (.var 3) .nil)) (.c (.int 1))) (.cons (.un .Not (.xis 0 99)) .nil))) (.cons (.ret (.so (.c (.str "else")))) .nil) .nil) (.cons (.ret (.so (.idx (.var 3) (.c (.int 0))))) .nil))))))))))⟩
def wordsL : List Str := ["NoFraction", "NoTable", "NoChoice", "NoSquare", "NoFit", "NoUndoing", "NoLadder", "TooMany", "NoPaper", "NoRow", "NoStairs", "NoNumber", "NoCorner", "NoName", "NoStep", "NoWeight", "NoDeed", "NoText", "NoWord"]
def clsL : List Int := [1, 2, 3, 4, 5, 6, 7, 8, 10, 9, 12, 11, 13, 16, 17, 18, 19, 14, 20]
theorem word_gen {Φ : Phi} {a : Nat} {g : Int → Bool} {nm : Str} (hΦ : ∀ j M, Φ 0 [.exo a, .int j] M = .ok (.bl (g j)) M) (h99 : g 99 = true) (hs : ((List.range 19).filter fun i => (clsL.map g).getD i false).map (fun i => wordsL.getD i "") = [nm]) :
    W (evD Φ b692 [.exo a] []) (fun d _ => d = .str nm) fun _ _ => False := by
  unfold b692
  walk_at "sgh"
  rw [W_addC rfl rfl]
  walk_at "sgh"
  refine ⟨by unfold B62; decide, ?_⟩
  have hb : [D.bl (g (1 : Nat)), D.bl (g (2 : Nat)), D.bl (g (3 : Nat)), D.bl (g (4 : Nat)), D.bl (g (5 : Nat)), D.bl (g (6 : Nat)), D.bl (g (7 : Nat)), D.bl (g (8 : Nat)), D.bl (g (10 : Nat)), D.bl (g (9 : Nat)), D.bl (g (12 : Nat)), D.bl (g (11 : Nat)), D.bl (g (13 : Nat)), D.bl (g (16 : Nat)),
    D.bl (g (17 : Nat)), D.bl (g (18 : Nat)), D.bl (g (19 : Nat)), D.bl (g (14 : Nat)), D.bl (g (20 : Nat))] = (clsL.map g).map D.bl := rfl
  rw [hb]
  have hl : (clsL.map g).length = 19 := by rw [List.length_map]; rfl
  generalize clsL.map g = nl at hs hl
  have hw : ∀ i < 19, (wordsL.map D.str)[i]? = some (.str (wordsL.getD i "")) := fun i hi => by
    have hl : wordsL.length = 19 := rfl
    rw [List.getElem?_map, List.getElem?_eq_getElem (by omega), List.getD_eq_getElem?_getD, List.getElem?_eq_getElem (by omega)]
    rfl
  have hn : ∀ i < 19, (nl.map D.bl)[i]? = some (.bl (nl.getD i false)) := fun i hi => by
    rw [List.getElem?_map, List.getElem?_eq_getElem (by omega), List.getD_eq_getElem?_getD, List.getElem?_eq_getElem (by omega)]
    rfl
  rw [W_compF (g := fun x => match x with
    | .int i => if nl.getD i.toNat false = true then some (.str (wordsL.getD i.toNat "")) else none
    | _ => none)]
  · have e : ((upTo 0 19).filterMap fun x => match x with
        | .int i => if nl.getD i.toNat false = true then some (D.str (wordsL.getD i.toNat "")) else none
        | _ => none) = [.str nm] := by
      have key : ∀ is : List Nat, ((is.map fun i : Nat => D.int (0 + (i : Int))).filterMap fun x => match x with
          | .int i => if nl.getD i.toNat false = true then some (D.str (wordsL.getD i.toNat "")) else none
          | _ => none) = ((is.filter fun i => nl.getD i false).map (fun i => wordsL.getD i "")).map D.str := fun is => by
        induction is with
        | nil => rfl
        | cons i is ih =>
          rw [List.map_cons, List.filterMap_cons, ih, List.filter_cons]
          have e1 : (0 + (i : Int)).toNat = i := by omega
          simp only [e1]
          split <;> simp_all
      exact (key _).trans (by rw [hs]; rfl)
    rw [e]
    walk_at "sgh"
    have h99' : g ((99 : Nat) : Int) = true := h99
    rw [h99', if_neg (by decide), if_neg (by decide)]
    trivial
  · intro x hx
    obtain ⟨i, hi, rfl⟩ := List.mem_map.mp hx
    have hi : i < 19 := List.mem_range.mp hi
    have e1 : (0 + (i : Int)) = i := by omega
    rw [e1]
    walk_at "sg"
    rw [W_nth (hn i hi)]
    walk_at "sg"
    have e2 : ((i : Nat) : Int).toNat = i := by omega
    split
    · rename_i hc
      walk_at "sg"
      rw [W_idxR rfl (L2.atI_nat (hw i hi))]
      simp only [e2, hc, if_true, and_self]
    · rename_i hc
      simp only [e2, hc, if_false, Bool.false_eq_true]
def exsW : List (Nat × Str) := [(15, "SmoothError"), (1, "NoFraction"), (2, "NoTable"), (3, "NoChoice"), (4, "NoSquare"), (5, "NoFit"),
    (6, "NoUndoing"), (7, "NoLadder"), (8, "TooMany"), (10, "NoPaper"), (9, "NoRow"), (12, "NoStairs"), (11, "NoNumber"), (13, "NoCorner"), (16, "NoName"), (17, "NoStep"), (18, "NoWeight"), (19, "NoDeed"), (14, "NoText"), (20, "NoWord")]
def tbW : List (Nat × Str) := exsW.tail
theorem word_ev : ∀ k x, tbW.lookup k = some x → ∀ a, ∃ M, evD (wordPhi exsW k a) b692 [.exo a] [] = .ok (.str x) M := fun k x h a => by
  have hm := look_of_mem h
  have hh : subN exsW k 99 = true ∧ ((List.range 19).filter fun i => (clsL.map fun j => subN exsW k j.toNat).getD i false).map (fun i => wordsL.getD i "") = [x] := by
    have key : ∀ p ∈ tbW, subN exsW p.1 99 = true ∧ ((List.range 19).filter fun i => (clsL.map fun j => subN exsW p.1 j.toNat).getD i false).map (fun i => wordsL.getD i "") = [p.2] := by decide +kernel
    exact key (k, x) hm
  have hg := word_gen (Φ := wordPhi exsW k a) (a := a) (g := fun j => subN exsW k j.toNat) (nm := x) (fun j M => if_pos rfl) hh.1 hh.2
  have hg : V (evD (wordPhi exsW k a) b692 [.exo a] []) (fun d _ => d = .str x) fun _ _ => False := hg
  cases e : evD (wordPhi exsW k a) b692 [.exo a] [] with
  | ok d M =>
    rw [e] at hg
    have hg : d = .str x := hg
    exact ⟨M, by rw [hg]⟩
  | exc c M => rw [e] at hg; exact hg.elim
  | bad => rw [e] at hg; exact hg.elim
/-- the error's word is told -/
def Sp0 (Φ : Phi) : Prop := ∀ k x, tbW.lookup k = some x → ∃ M, Φ 0 [.int (k : Nat)] [] = .ok (.str x) M
theorem sp0 {L : List Ent} : Sp0 (lookW tbW L) := fun k x h => ⟨[], by
  show (match tbW.lookup k with
    | some x => R.ok (D.str x) []
    | none => .bad) = _
  rw [h]⟩
end Sg

/-! P01: fractions made. -/
namespace Sg
open PySem
/-- _law_pair(_law_cell_here, _law_parts, _law_top, _law_bottom) -/
def b19 : Df := ⟨1, 4, .cons (.asg (.var 1) (.call 7 0 (.cons (.var 0) (.cons (.lst false (.cons (.c (.int 6)) (.cons (.bin false .Pow (.c (.int 10)) (.c (.int 40))) (.cons (.bin false .Pow (.c (.int 10)) (.c (.int 40))) (.cons (.c (.int 2)) (.cons (.c (.int 2)) (.cons (.c (.int 30)) (.cons (.c (.int 30)) .nil)))))))) .nil)))) (.cons (.asg (.var 2) (.idx (.lst false (.cons (.idx (.var 1) (.c (.int 5))) (.cons (.idx (.var 1) (.c (.int 1))) (.cons (.bin false .Mult (.idx (.var 1) (.c (.int 5))) (.idx (.var 1) (.c (.int 6)))) (.cons (.idx (.var 1) (.c (.int 1))) (.cons (.c (.int 0)) (.cons (.idx (.var 1) (.c (.int 1))) .nil))))))) (.idx (.var 1) (.c (.int 0))))) (.cons (.asg (.var 3) (.idx (.lst false (.cons (.idx (.var 1) (.c (.int 6))) (.cons (.idx (.var 1) (.c (.int 2))) (.cons (.idx (.var 1) (.c (.int 6))) (.cons (.idx (.var 1) (.c (.int 6))) (.cons (.idx (.var 1) (.c (.int 2))) (.cons (.c (.int 0)) .nil))))))) (.idx (.var 1) (.c (.int 0))))) (.cons (.ret (.so (.tup (.cons (.bin false .Mult (.var 2) (.bin false .Sub (.c (.int 1)) (.bin false .Mult (.c (.int 2)) (.idx (.var 1) (.c (.int 3)))))) (.cons (.bin false .Mult (.var 3) (.bin false .Sub (.c (.int 1)) (.bin false .Mult (.c (.int 2)) (.idx (.var 1) (.c (.int 4)))))) .nil))))) .nil)))⟩
def b695 : Df := ⟨1, 2, .cons (.tryW 1 (.cons (.expr (.call 2 0 (.cons (.var 0) (.cons (.c (.int 0)) .nil)))) .nil) (.weq "NoFraction")) (.cons (.ret (.so (.c (.bl false)))) .nil)⟩
/-- _law_is_fraction(_law_thing) -/
def b21 : Df := ⟨1, 1, .cons (.ite (.bop .Or (.cons (.un .Not (.isi (.var 0) .tuple)) (.cons (.cmp .NotEq (.bi .len (.cons (.var 0) .nil)) (.c (.int 2))) (.cons (.un .Not (.call 11 0 (.cons (.idx (.var 0) (.c (.int 0))) .nil))) (.cons (.un .Not (.call 11 0 (.cons (.idx (.var 0) (.c (.int 1))) .nil))) .nil))))) (.cons (.ret (.so (.c (.bl false)))) .nil) .nil) (.cons (.ret (.so (.bop .And (.cons (.cmp .Gt (.idx (.var 0) (.c (.int 1))) (.c (.int 0))) (.cons (.cmp .Eq (.call 8 0 (.cons (.idx (.var 0) (.c (.int 0))) (.cons (.idx (.var 0) (.c (.int 1))) .nil))) (.c (.int 1))) .nil))))) .nil)⟩
/-- _law_things(_law_top, _law_bottom, _law_cell_here, _law_things_here, _law_at) -/
def b22 : Df := ⟨3, 5, .cons (.asg (.var 3) (.lst false (.cons (.var 0) (.cons (.var 1) (.cons (.c (.bl true)) (.cons (.c .non) (.cons (.c (.str "1/2")) (.cons (.tup (.cons (.var 0) (.cons (.var 1) .nil))) (.cons (.tup (.cons (.var 1) (.cons (.var 0) .nil))) (.cons (.tup (.cons (.var 0) (.cons (.c (.bl true)) .nil))) (.cons (.tup (.cons (.c (.bl false)) (.cons (.c (.int 1)) .nil))) (.cons (.tup (.cons (.var 0) .nil)) (.cons (.tup .nil) .nil))))))))))))) (.cons (.asg (.var 3) (.bin false .Add (.var 3) (.lst false (.cons (.tup (.cons (.var 0) (.cons (.c (.int 1)) (.cons (.c (.int 1)) .nil)))) (.cons (.lst false (.cons (.var 0) (.cons (.c (.int 1)) .nil))) (.cons (.tup (.cons (.tup (.cons (.c (.int 1)) (.cons (.c (.int 1)) .nil))) (.cons (.c (.int 1)) .nil))) (.cons (.tup (.cons (.c (.int 0)) (.cons (.c (.int 1)) .nil))) (.cons (.tup (.cons (.c (.int 0)) (.cons (.c (.int 2)) .nil))) (.cons (.tup (.cons (.var 0) (.cons (.c (.int 1)) .nil))) (.cons (.tup (.cons (.bin false .Mult (.c (.int 2)) (.var 0)) (.cons (.c (.int 2)) .nil))) (.cons (.tup (.cons (.c (.int 3)) (.cons (.un .USub (.c (.int 4))) .nil))) (.cons (.tup (.cons (.c (.str "1")) (.cons (.c (.int 2)) .nil))) .nil)))))))))))) (.cons (.asg (.var 3) (.bin false .Add (.var 3) (.lst false (.cons (.tup (.cons (.c (.int 1)) (.cons (.c .non) .nil))) (.cons (.tup (.cons (.var 0) (.cons (.bi .abs (.cons (.var 1) .nil)) .nil))) (.cons (.tup (.cons (.bin false .Add (.bin false .Mult (.var 0) (.c (.int 3))) (.c (.int 1))) (.cons (.c (.int 3)) .nil))) (.cons (.tup (.cons (.un .USub (.c (.int 1))) (.cons (.c (.int 1)) .nil))) (.cons (.tup (.cons (.c (.int 4)) (.cons (.c (.int 6)) .nil))) (.cons (.lst false .nil) (.cons (.lst false (.cons (.c (.int 1)) .nil)) (.cons (.tup (.cons (.c (.int 5)) (.cons (.c (.int 5)) .nil))) (.cons (.tup (.cons (.tup .nil) (.cons (.c (.int 1)) .nil))) .nil)))))))))))) (.cons (.asg (.var 4) (.bin false .Mod (.var 2) (.bi .len (.cons (.var 3) .nil)))) (.cons (.ret (.so (.bin false .Add (.slc false (.var 3) (.so (.var 4)) .no) (.slc false (.var 3) .no (.so (.var 4)))))) .nil))))⟩
/-- _law_asked(_law_thing, _law_found) -/
def b23 : Df := ⟨1, 2, .cons (.asg (.var 1) (.lst false (.cons (.call 16 0 (.cons (.var 0) .nil)) (.cons (.call 17 0 (.cons (.var 0) .nil)) .nil)))) (.cons (.ite (.bop .Or (.cons (.un .Not (.isi (.idx (.var 1) (.c (.int 0))) .bool)) (.cons (.un .Not (.isi (.idx (.var 1) (.c (.int 1))) .bool)) .nil))) (.cons (.ret (.so (.c (.bl false)))) .nil) .nil) (.cons (.ret (.so (.cmp .Eq (.var 1) (.lst false (.cons (.call 11 0 (.cons (.var 0) .nil)) (.cons (.call 21 0 (.cons (.var 0) .nil)) .nil)))))) .nil))⟩
/-- law(_law_script, _law_k, _law_cell_here, _law_top, _law_bottom, _law_thing) -/
def b763 : Df := ⟨1, 6, .cons (.for (.var 1) (.rng1 (.bi .max2 (.cons (.c (.int 1)) (.cons (.bi .min2 (.cons (.c (.int 40)) (.cons (.bi .len (.cons (.var 0) .nil)) .nil))) .nil)))) (.cons (.asg (.var 2) (.call 6 0 (.cons (.var 0) (.cons (.var 1) .nil)))) (.cons (.asg (.tup (.cons (.var 3) (.cons (.var 4) .nil))) (.call 19 0 (.cons (.var 2) .nil))) (.cons (.ite (.bop .And (.cons (.cmp .Eq (.var 4) (.c (.int 0))) (.cons (.un .Not (.call 695 0 (.cons (.var 3) .nil))) .nil))) (.cons (.ret (.so (.c (.bl false)))) .nil) .nil) (.cons (.ite (.bop .And (.cons (.cmp .Lt (.var 4) (.c (.int 0))) (.cons (.un .Not (.call 12 0 (.cons (.call 2 0 (.cons (.var 3) (.cons (.var 4) .nil))) (.cons (.un .USub (.var 3)) (.cons (.un .USub (.var 4)) .nil))))) .nil))) (.cons (.ret (.so (.c (.bl false)))) .nil) .nil) (.cons (.ite (.bop .And (.cons (.cmp .Gt (.var 4) (.c (.int 0))) (.cons (.un .Not (.call 12 0 (.cons (.call 2 0 (.cons (.var 3) (.cons (.var 4) .nil))) (.cons (.var 3) (.cons (.var 4) .nil))))) .nil))) (.cons (.ret (.so (.c (.bl false)))) .nil) .nil) (.cons (.ite (.bop .Or (.cons (.un .Not (.call 12 0 (.cons (.call 762 0 (.cons (.var 3) .nil)) (.cons (.var 3) (.cons (.c (.int 1)) .nil))))) (.cons (.un .Not (.call 695 0 (.cons (.var 4) .nil))) .nil))) (.cons (.ret (.so (.c (.bl false)))) .nil) .nil) (.cons (.ite (.un .Not (.bi .all (.cons (.comp false [5] (.var 5) (.val (.slc false (.call 22 0 (.cons (.bin false .FloorDiv (.var 3) (.c (.int 10))) (.cons (.var 4) (.cons (.var 2) .nil)))) .no (.so (.c (.int 9))))) .no (.call 23 0 (.cons (.var 5) .nil))) .nil))) (.cons (.ret (.so (.c (.bl false)))) .nil) .nil) .nil)))))))) (.cons (.ret (.so (.bi .all (.cons (.comp false [5] (.var 5) (.val (.call 22 0 (.cons (.c (.int 1)) (.cons (.c (.int 6)) (.cons (.c (.int 0)) .nil))))) .no (.call 23 0 (.cons (.var 5) .nil))) .nil)))) .nil)⟩
/-! ### one argument alone -/
def Sp762 (Φ : Phi) : Prop := ∀ a : Int, Rt Φ 762 [.int a] (qD (Rat.divInt a 1))
theorem sp762 {Φ Φ' : Phi} (e : Φ' 762 = fun ds M => Φ 2 (ds ++ [.int 1]) M) (h2 : Sp2 Φ) : Sp762 Φ' := fun a M => by
  have h := h2.1 a 1 (by decide) ((lt2_lit (i := 1) (by decide)).mono (by decide)) M
  unfold callD at h ⊢
  have e1 : isImms [D.int a, .int 1] = true := rfl
  have e2 : isImms [D.int a] = true := rfl
  simp only [e1, e2, if_true] at h ⊢
  rw [e]
  exact h
def Sp19 (Φ : Phi) : Prop := ∀ c : Int, ∃ t b : Int, (Lt2 t 300 ∧ Lt2 b 300) ∧ Rt Φ 19 [.int c] (.tup [.int t, .int b])
theorem sp19 {Φ Φ' : Phi} (e : Φ' 19 = evD Φ b19) (h7 : Sp7 Φ) : Sp19 Φ' := fun c => by
  obtain ⟨xs, hx, hr⟩ := h7 c [6, 10 ^ 40, 10 ^ 40, 2, 2, 30, 30] (by
    intro b hb
    have : b = 6 ∨ b = 10 ^ 40 ∨ b = 2 ∨ b = 30 := by
      simp only [List.mem_cons, List.mem_nil_iff, or_false] at hb
      omega
    rcases this with rfl | rfl | rfl | rfl
    all_goals exact ⟨by decide, (lt2_lit (by decide)).mono (by decide)⟩) (by decide)
  match xs, hx with
  | [x0, x1, x2, x3, x4, x5, x6], hx =>
    simp only [InB, and_true] at hx
    obtain ⟨h0, h1, h2, h3, h4, h5, h6⟩ := hx
    have hr : Rt Φ 7 [.int c, .lst [.int 6, .int 10000000000000000000000000000000000000000, .int 10000000000000000000000000000000000000000, .int 2, .int 2, .int 30, .int 30]] (.lst [.int x0, .int x1, .int x2, .int x3, .int x4, .int x5, .int x6]) := hr
    have z1 : Lt2 x1 140 := by unfold Lt2; omega
    have z2 : Lt2 x2 140 := by unfold Lt2; omega
    have z3 : Lt2 x3 2 := by unfold Lt2; omega
    have z4 : Lt2 x4 2 := by unfold Lt2; omega
    have z5 : Lt2 x5 6 := by unfold Lt2; omega
    have z6 : Lt2 x6 6 := by unfold Lt2; omega
    have two : Lt2 2 2 := by unfold Lt2; decide
    have m56 := mulOk_of z5 z6 (by decide)
    have m3 := mulOk_of two z3 (by decide)
    have m4 := mulOk_of two z4 (by decide)
    have l3 : Lt2 (1 - 2 * x3) 6 := by unfold Lt2; omega
    have l4 : Lt2 (1 - 2 * x4) 6 := by unfold Lt2; omega
    have key : ∃ t b : Int, (Lt2 t 200 ∧ Lt2 b 200) ∧ (∀ M Q X, W (idxD (.lst [.int x5, .int x1, .int (x5 * x6), .int x1, .int 0, .int x1]) (.int x0) M) Q X = Q (.int t) M) ∧ (∀ M Q X, W (idxD (.lst [.int x6, .int x2, .int x6, .int x6, .int x2, .int 0]) (.int x0) M) Q X = Q (.int b) M) := by
      rcases (show x0 = 0 ∨ x0 = 1 ∨ x0 = 2 ∨ x0 = 3 ∨ x0 = 4 ∨ x0 = 5 by omega) with rfl | rfl | rfl | rfl | rfl | rfl
      · exact ⟨x5, x6, ⟨z5.mono (by decide), z6.mono (by decide)⟩, fun _ _ _ => W_l0, fun _ _ _ => W_l0⟩
      · exact ⟨x1, x2, ⟨z1.mono (by decide), z2.mono (by decide)⟩, fun _ _ _ => W_l1, fun _ _ _ => W_l1⟩
      · exact ⟨x5 * x6, x6, ⟨(z5.mul z6).mono (by decide), z6.mono (by decide)⟩, fun _ _ _ => W_l2, fun _ _ _ => W_l2⟩
      · exact ⟨x1, x6, ⟨z1.mono (by decide), z6.mono (by decide)⟩, fun _ _ _ => W_l3, fun _ _ _ => W_l3⟩
      · exact ⟨0, x2, ⟨lt2_zero, z2.mono (by decide)⟩, fun _ _ _ => W_l4, fun _ _ _ => W_l4⟩
      · exact ⟨x1, 0, ⟨z1.mono (by decide), lt2_zero⟩, fun _ _ _ => W_l5, fun _ _ _ => W_l5⟩
    obtain ⟨t, b, ⟨ht, hb⟩, k1, k2⟩ := key
    refine ⟨t * (1 - 2 * x3), b * (1 - 2 * x4), ⟨(ht.mul l3).mono (by decide), (hb.mul l4).mono (by decide)⟩, rt_of e rfl ?_⟩
    have q1 := mulOk_of ht l3 (by decide)
    have q2 := mulOk_of hb l4 (by decide)
    unfold b19
    walk_at "sg"
    rw [W_rt hr]
    walk_at "sg"
    refine ⟨m56, ?_⟩
    rw [k1]
    walk_at "sg"
    rw [k2]
    walk_at "sg"
    refine ⟨m3, q1, m4, q2, ?_⟩
    exact imm_of rfl
def Sp695 (Φ : Phi) : Prop := ∀ a : Int, Rt Φ 695 [.int a] (.bl true)
theorem sp695 {Φ Φ' : Phi} (e : Φ' 695 = evD Φ b695) (h0 : Sp0 Φ) (h2 : Sp2 Φ) : Sp695 Φ' := fun a => rt_of e rfl (by
  have hx := h2.2 a
  obtain ⟨M, hw⟩ := h0 1 "NoFraction" rfl
  unfold b695
  walk_at "sg"
  refine Q_tryW (by show 1 < 2; decide) ?_
  walk_at "sg"
  rw [W_xc hx]
  refine ⟨_, _, hw, fun σ' => ?_⟩
  walk_at "sg"
  rw [W_eqS (by decide +kernel) (by decide +kernel)]
  walk_at "sg"
  exact imm_of rfl)
def Sp21 (Φ : Phi) : Prop := ∀ d : D, dOk 8990 d → Rt Φ 21 [d] (.bl (isFracD d))
theorem sp21 {Φ Φ' : Phi} (e : Φ' 21 = evD Φ b21) (h8 : Sp8 Φ) (h11 : Sp11 Φ) : Sp21 Φ' := fun d hd => rt_of e (by simp only [isImms, dOk_imm d hd, Bool.and_true]) (by
  unfold b21
  cases d <;> first | (rw [dOk] at hd; exact hd.elim) | skip
  case tup xs =>
    rw [dOk] at hd
    walk_at "sg"
    by_cases hl : ((xs.length : Nat) : Int) = 2
    · match xs, hl with
      | [x, y], _ =>
        rw [dOks, dOks] at hd
        have hx := h11 x (dOk_imm x hd.1) (dOk_plain hd.1)
        have hy := h11 y (dOk_imm y hd.2.1) (dOk_plain hd.2.1)
        walk_at "sgh"
        rcases isInt_cases x with ⟨a, rfl⟩ | ⟨ex, nx⟩
        · rcases isInt_cases y with ⟨b, rfl⟩ | ⟨ey, ny⟩
          · rw [show isIntD (.int a) = true from rfl, show isIntD (.int b) = true from rfl]
            walk_at "sg"
            by_cases hb : 0 < b
            · have hg := h8 a b (Lt2.mono (by have := hd.2.1; rw [dOk] at this; exact this) (by decide))
              walk_at "sgh"
              show _ = some (D.bl (decide _ && decide _))
              rw [decide_eq_true (show 1 ≤ b by omega), Bool.true_and, imm_of rfl]
              congr 2
              rw [decide_eq_decide]
              omega
            · rw [if_neg hb]
              walk_at "sg"
              rw [imm_of rfl]
              show _ = some (D.bl (decide _ && decide _))
              rw [decide_eq_false (show ¬ (1 ≤ b) by omega)]
              rfl
          · rw [show isIntD (.int a) = true from rfl, ey]
            walk_at "sg"
            rw [imm_of rfl]
            cases y <;> first | rfl | exact absurd rfl (ny _)
        · rw [ex]
          walk_at "sg"
          rw [imm_of rfl]
          cases x <;> first | rfl | exact absurd rfl (nx _)
    · walk_at "sgh"
      rw [imm_of rfl]
      match xs, hl with
      | [], _ => rfl
      | [z], _ => cases z <;> rfl
      | [_, _], hl => exact absurd rfl hl
      | _ :: _ :: _ :: _, _ => simp [isFracD]
  all_goals walk_at "sg"
  all_goals exact imm_of rfl)
def Sp23 (Φ : Phi) : Prop := ∀ d : D, dOk 8990 d → Rt Φ 23 [d] (.bl true)
theorem W_eq2B {M : List Cell} {Q : D → List Cell → Prop} {X : Nat → List Cell → Prop} {a b : Bool} : W (eqR (.lst [.bl a, .bl b]) (.lst [.bl a, .bl b]) M) Q X = Q (.bl true) M := by
  refine eqR_of ?_
  unfold eqD
  rw [imm_of (show isImm (.lst [.bl a, .bl b]) = true from rfl)]
  cases a <;> cases b <;> rfl
theorem sp23 {Φ Φ' : Phi} (e : Φ' 23 = evD Φ b23) (h11 : Sp11 Φ) (h16 : Sp16 Φ) (h17 : Sp17 Φ) (h21 : Sp21 Φ) : Sp23 Φ' := fun d hd => rt_of e (by simp only [isImms, dOk_imm d hd, Bool.and_true]) (by
  have a1 := h11 d (dOk_imm d hd) (dOk_plain hd)
  have a2 := h16 d (dOk_imm d hd) (dOk_plain hd)
  have a3 := h17 d hd
  have a4 := h21 d hd
  unfold b23
  walk_at "sg"
  rw [W_rt a2]
  walk_at "sg"
  rw [W_rt a3]
  walk_at "sg"
  rw [W_rt a1]
  walk_at "sg"
  rw [W_rt a4]
  walk_at "sg"
  rw [W_eq2B]
  walk_at "sg"
  exact imm_of rfl)
theorem cutL_le {α : Type} {xs : List α} {lo hi : Option Int} : (cutL xs lo hi).length ≤ xs.length := by
  unfold cutL
  rw [List.length_take, List.length_drop]
  omega
theorem cutL_sub {α : Type} {xs : List α} {lo hi : Option Int} : ∀ x ∈ cutL xs lo hi, x ∈ xs := fun x hx => by
  unfold cutL at hx
  exact List.mem_of_mem_drop (List.mem_of_mem_take hx)
def Sp22 (Φ : Phi) : Prop := ∀ t b c : Int, Lt2 t 1000 → Lt2 b 1000 → ∃ ds, ((∀ d ∈ ds, dOk 8990 d) ∧ ds.length ≤ 100) ∧ Rt Φ 22 [.int t, .int b, .int c] (.lst ds)
theorem sp22 {Φ Φ' : Phi} (e : Φ' 22 = evD Φ b22) : Sp22 Φ' := fun t b c ht hb => by
  have key : ∃ r, (∃ ds, r = .lst ds ∧ (∀ d ∈ ds, dOk 8990 d) ∧ ds.length ≤ 100) ∧ Rt Φ' 22 [.int t, .int b, .int c] r := rt_ex e rfl (by
    have two : Lt2 2 2 := by unfold Lt2; decide
    have three : Lt2 3 2 := by unfold Lt2; decide
    have q1 := mulOk_of two ht (by decide)
    have q2 := mulOk_of ht three (by decide)
    have t1 : Lt2 t 8990 := ht.mono (by decide)
    have t2 : Lt2 b 8990 := hb.mono (by decide)
    have t3 : Lt2 (2 * t) 8990 := (two.mul ht).mono (by decide)
    have t4 : Lt2 (t * 3 + 1) 8990 := ((ht.mul three).add' (lt2_lit (i := 1) (by decide))).mono (by decide)
    have t5 : Lt2 (if b < 0 then -b else b) 8990 := by split; exact t2.neg; exact t2
    have lit : ∀ i : Int, i.natAbs < 10 → Lt2 i 8990 := fun i hi => (show Lt2 i 4 by unfold Lt2; omega).mono (by decide)
    unfold b22
    walk_at "sg"
    refine ⟨q1, q2, ?_⟩
    rw [W_mod (show (0 : Int) < ((29 : Nat) : Int) by decide)]
    walk_at "sg"
    have fin : ∀ (L : List D) (lo hi lo' hi' : Option Int), dOks 8990 L → L.length = 29 → (cutL L lo hi).length ≤ 16000000 ∧ (cutL L lo' hi').length ≤ 16000000 ∧ (cutL L lo hi ++ cutL L lo' hi').length ≤ 16000000 ∧
        ∃ r, imm [] (D.lst (cutL L lo hi ++ cutL L lo' hi')) = some r ∧ ∃ ds, r = .lst ds ∧ (∀ d ∈ ds, dOk 8990 d) ∧ ds.length ≤ 100 := fun L lo hi lo' hi' hL hn => by
      have a1 := cutL_le (xs := L) (lo := lo) (hi := hi)
      have a2 := cutL_le (xs := L) (lo := lo') (hi := hi')
      have hm : ∀ d ∈ cutL L lo hi ++ cutL L lo' hi', dOk 8990 d := fun d hd => by
        rcases List.mem_append.mp hd with h | h
        · exact dOks_mem hL d (cutL_sub d h)
        · exact dOks_mem hL d (cutL_sub d h)
      refine ⟨by omega, by omega, by rw [List.length_append]; omega, _, imm_of (by rw [isImm]; exact isImms_mem fun x hx => dOk_imm x (hm x hx)), _, rfl, hm, by rw [List.length_append]; omega⟩
    refine fin _ _ _ _ _ ?_ rfl
    simp only [dOks, dOk, and_true, true_and]
    repeat' apply And.intro
    all_goals first
      | exact t1
      | exact t2
      | exact t3
      | exact t4
      | exact t5
      | exact lit _ (by decide)
      | (unfold Lt2; omega)
      | decide
      | decide +kernel)
  obtain ⟨r, ⟨ds, rfl, h1, h2⟩, h3⟩ := key
  exact ⟨ds, ⟨h1, h2⟩, h3⟩
theorem sp763 {Φ : Phi} (h2 : Sp2 Φ) (h6 : Sp6 Φ) (h12 : Sp12 Φ) (h19 : Sp19 Φ) (h22 : Sp22 Φ) (h23 : Sp23 Φ) (h695 : Sp695 Φ) (h762 : Sp762 Φ) (ns : List Int) (hl : ns.length ≤ 63) :
    W (evD Φ b763 [.fro (ns.map D.int)] []) (fun d _ => d = .bl true) fun _ _ => False := by
  unfold b763
  walk_at "sg"
  rw [List.length_map]
  refine ⟨by unfold B62; omega, ?_⟩
  refine for_up0 (fun i σ M => ∃ r1 r2 r3 r4 r5, σ = [some (.fro (ns.map D.int)), r1, r2, r3, r4, r5]) ⟨none, none, none, none, none, rfl⟩ ?_ ?_
  · rintro k hk σ M ⟨r1, r2, r3, r4, r5, rfl⟩
    have hc := h6 ns k
    obtain ⟨t, b, ⟨ht, hb⟩, hp⟩ := h19 (cellOf ns k)
    obtain ⟨ds, ⟨hd, hdl⟩, ht22⟩ := h22 (t / 10) b (cellOf ns k) (ht.ediv.mono (by decide)) (hb.mono (by decide))
    have o1 : Lt2 1 8999 := (lt2_lit (i := 1) (by decide)).mono (by decide)
    have s4 := h12 (Rat.divInt t 1) t 1 8999 8999 (sz_divInt ht o1 (by decide) (by decide) (by decide)) (ht.mono (by decide)) o1 (by decide) (by decide)
    rw [decide_eq_true (divInt_cross (by decide))] at s4
    have q762 := h762 t
    have q0 := h695 t
    have q1 := h695 b
    have ecomp : ∀ d ∈ cutL ds none (some 9), Rt Φ 23 [d] (.bl true) := fun d hdm => h23 d (hd d (cutL_sub d hdm))
    rcases (show b = 0 ∨ b < 0 ∨ 0 < b by omega) with h0 | h0 | h0
    · subst h0
      walk_at "sg"
      rw [W_rt hc]
      walk_at "sg"
      rw [W_rt hp]
      walk_at "sg"
      rw [W_rt q0]
      walk_at "sg"
      rw [W_rt q762]
      walk_at "sg"
      rw [W_rt s4]
      walk_at "sg"
      rw [W_rt q1]
      walk_at "sg"
      rw [W_rt ht22]
      walk_at "sg"
      refine ⟨Nat.le_trans cutL_le (by omega), ?_⟩
      refine W_compL (g := fun _ => D.bl true) (fun x hx => ?_) ?_
      · walk_at "sg"
        rw [W_rt (ecomp x hx)]
        exact ⟨rfl, rfl⟩
      · walk_at "sg"
        rw [List.length_map]
        refine ⟨Nat.le_trans cutL_le (by omega), ?_⟩
        rw [W_allB (f := fun _ => true), List.all_eq_true.mpr fun _ _ => rfl]
        walk_at "sg"
        exact ⟨_, _, _, _, _, rfl⟩
    · have r2 := h2.1 t b (by omega) (hb.mono (by decide))
      have s1 := h12 (Rat.divInt t b) (-t) (-b) 8999 8999 (sz_divInt ht hb (by decide) (by decide) (by decide)) (ht.mono (by decide)).neg (hb.mono (by decide)).neg (by decide) (by decide)
      rw [decide_eq_true (by rw [Int.mul_neg, Int.neg_mul, divInt_cross (by omega)])] at s1
      walk_at "sg"
      rw [W_rt hc]
      walk_at "sg"
      rw [W_rt hp]
      walk_at "sg"
      rw [if_neg (show ¬ b = 0 by omega), if_pos h0, W_rt r2]
      walk_at "sg"
      rw [W_rt s1]
      walk_at "sg"
      rw [if_neg (show ¬ 0 < b by omega)]
      rw [W_rt q762]
      walk_at "sg"
      rw [W_rt s4]
      walk_at "sg"
      rw [W_rt q1]
      walk_at "sg"
      rw [W_rt ht22]
      walk_at "sg"
      refine ⟨Nat.le_trans cutL_le (by omega), ?_⟩
      refine W_compL (g := fun _ => D.bl true) (fun x hx => ?_) ?_
      · walk_at "sg"
        rw [W_rt (ecomp x hx)]
        exact ⟨rfl, rfl⟩
      · walk_at "sg"
        rw [List.length_map]
        refine ⟨Nat.le_trans cutL_le (by omega), ?_⟩
        rw [W_allB (f := fun _ => true), List.all_eq_true.mpr fun _ _ => rfl]
        walk_at "sg"
        exact ⟨_, _, _, _, _, rfl⟩
    · have r2 := h2.1 t b (by omega) (hb.mono (by decide))
      have s1 := h12 (Rat.divInt t b) t b 8999 8999 (sz_divInt ht hb (by decide) (by decide) (by decide)) (ht.mono (by decide)) (hb.mono (by decide)) (by decide) (by decide)
      rw [decide_eq_true (divInt_cross (by omega))] at s1
      walk_at "sg"
      rw [W_rt hc]
      walk_at "sg"
      rw [W_rt hp]
      walk_at "sg"
      rw [if_neg (show ¬ b = 0 by omega), if_neg (show ¬ b < 0 by omega), if_pos h0, W_rt r2]
      walk_at "sg"
      rw [W_rt s1]
      walk_at "sg"
      rw [W_rt q762]
      walk_at "sg"
      rw [W_rt s4]
      walk_at "sg"
      rw [W_rt q1]
      walk_at "sg"
      rw [W_rt ht22]
      walk_at "sg"
      refine ⟨Nat.le_trans cutL_le (by omega), ?_⟩
      refine W_compL (g := fun _ => D.bl true) (fun x hx => ?_) ?_
      · walk_at "sg"
        rw [W_rt (ecomp x hx)]
        exact ⟨rfl, rfl⟩
      · walk_at "sg"
        rw [List.length_map]
        refine ⟨Nat.le_trans cutL_le (by omega), ?_⟩
        rw [W_allB (f := fun _ => true), List.all_eq_true.mpr fun _ _ => rfl]
        walk_at "sg"
        exact ⟨_, _, _, _, _, rfl⟩
  · rintro σ M ⟨r1, r2, r3, r4, r5, rfl⟩
    obtain ⟨ds, ⟨hd, hdl⟩, ht22⟩ := h22 1 6 0 ((lt2_lit (i := 1) (by decide)).mono (by decide)) ((lt2_lit (i := 6) (by decide)).mono (by decide))
    walk_at "sg"
    rw [W_rt ht22]
    walk_at "sg"
    refine W_compL (g := fun _ => D.bl true) (fun x hx => ?_) ?_
    · walk_at "sg"
      rw [W_rt (h23 x (hd x hx))]
      exact ⟨rfl, rfl⟩
    · walk_at "sg"
      rw [List.length_map]
      refine ⟨by omega, ?_⟩
      rw [W_allB (f := fun _ => true), List.all_eq_true.mpr fun _ _ => rfl]
      walk_at "sg"
end Sg

namespace Gk01
open PySem PySem.Spec PyProof.Rows L2 Sg
/-- the text of the i-th def -/
def topS (i : Nat) : Stmt := (PySem.Challenge.pw_signsmooth_k01_fractions_made).main.body.getD i (.Pass ⟨0, 0, 0, 0⟩)
def t1 : Dt := ⟨16, "is_whole", topS 22, ["thing"], ["thing"], b16, [], "is_whole"⟩
def t2 : Dt := ⟨1, "divisor", topS 23, ["one", "other"], ["one", "other", "rest"], b1, [], "divisor"⟩
def t3 : Dt := ⟨17, "is_fraction", topS 24, ["thing"], ["thing"], b17, [], "is_fraction"⟩
def t4 : Dt := ⟨2, "fraction", topS 25, ["top", "bottom"], ["top", "bottom", "common"], b2, [.int 1], "fraction"⟩
def t6 : Dt := ⟨6, "_law_cell", topS 27, ["_law_script", "_law_k"], ["_law_script", "_law_k"], b6, [], "_law_cell"⟩
def t7 : Dt := ⟨7, "_law_numbers", topS 28, ["_law_cell_here", "_law_bases"], ["_law_cell_here", "_law_bases", "_law_row", "_law_base", "_law_k", "_law_mixed"], b7, [], "_law_numbers"⟩
def t8 : Dt := ⟨8, "_law_divisor", topS 29, ["_law_one", "_law_other"], ["_law_one", "_law_other", "_law_rest"], b8, [], "_law_divisor"⟩
def t9 : Dt := ⟨11, "_law_whole", topS 30, ["_law_thing"], ["_law_thing"], b11, [], "_law_whole"⟩
def t10 : Dt := ⟨12, "_law_is_number", topS 31, ["_law_found", "_law_top", "_law_bottom"], ["_law_found", "_law_top", "_law_bottom"], b12, [], "_law_is_number"⟩
def t11 : Dt := ⟨19, "_law_pair", topS 33, ["_law_cell_here"], ["_law_cell_here", "_law_parts", "_law_top", "_law_bottom"], b19, [], "_law_pair"⟩
def t12 : Dt := ⟨695, "_law_refused", topS 34, ["_law_top"], ["_law_top", "_law_e"], b695, [], "_law_refused"⟩
def t13 : Dt := ⟨21, "_law_is_fraction", topS 35, ["_law_thing"], ["_law_thing"], b21, [], "_law_is_fraction"⟩
def t14 : Dt := ⟨22, "_law_things", topS 36, ["_law_top", "_law_bottom", "_law_cell_here"], ["_law_top", "_law_bottom", "_law_cell_here", "_law_things_here", "_law_at"], b22, [], "_law_things"⟩
def t15 : Dt := ⟨23, "_law_asked", topS 37, ["_law_thing"], ["_law_thing", "_law_found"], b23, [], "_law_asked"⟩
def t16 : Dt := ⟨763, "law", topS 38, ["_law_script"], ["_law_script", "_law_k", "_law_cell_here", "_law_top", "_law_bottom", "_law_thing"], b763, [], "law"⟩
def tw : Dt := ⟨0, "_law_word", topS 32, ["_law_e"], ["_law_e", "_law_named", "_law_words", "_law_some", "_law_k"], b692, [], "_law_word"⟩
def exs : List (Nat × Str) := [(15, "SmoothError"), (1, "NoFraction"), (2, "NoTable"), (3, "NoChoice"), (4, "NoSquare"), (5, "NoFit"),
    (6, "NoUndoing"), (7, "NoLadder"), (8, "TooMany"), (10, "NoPaper"), (9, "NoRow"), (12, "NoStairs"),
    (11, "NoNumber"), (13, "NoCorner"), (16, "NoName"), (17, "NoStep"), (18, "NoWeight"), (19, "NoDeed"),
    (14, "NoText"), (20, "NoWord")]
def gl : List (Str × D) := []
def tb : List (Nat × Str) := [(1, "NoFraction"), (2, "NoTable"), (3, "NoChoice"), (4, "NoSquare"), (5, "NoFit"), (6, "NoUndoing"),
    (7, "NoLadder"), (8, "TooMany"), (10, "NoPaper"), (9, "NoRow"), (12, "NoStairs"), (11, "NoNumber"),
    (13, "NoCorner"), (16, "NoName"), (17, "NoStep"), (18, "NoWeight"), (19, "NoDeed"), (14, "NoText"),
    (20, "NoWord")]
def xs_0 : List Str := ["is_whole", "divisor", "is_fraction", "fraction", "_law_cell", "_law_numbers",
    "_law_divisor", "_law_whole", "_law_is_number", "_law_pair", "_law_refused", "_law_is_fraction",
    "_law_things", "_law_asked", "law", "_law_word"]
def xs : List Str := xs_0
def fn_0 : List He.DefD := [t1.dd, t2.dd, t3.dd, t4.dd, t6.dd, t7.dd,
    t8.dd, t9.dd, t10.dd, t11.dd, t12.dd, t13.dd,
    t14.dd, t15.dd, t16.dd, tw.dd]
def fn : List He.DefD := fn_0
def loose_0 : List PySem.Str := ["_law_asked", "_law_cell", "_law_divisor", "_law_is_fraction", "_law_is_number", "_law_numbers",
    "_law_pair", "_law_refused", "_law_things", "_law_whole", "_law_word", "divisor",
    "fraction", "is_fraction", "is_whole", "SmoothError", "NoFraction", "NoTable",
    "NoChoice", "NoSquare", "NoFit", "NoUndoing", "NoLadder", "TooMany",
    "NoPaper", "NoRow", "NoStairs", "NoNumber", "NoCorner", "NoName"]
def loose_1 : List PySem.Str := ["NoStep", "NoWeight", "NoDeed", "NoText", "NoWord"]
def loose : List PySem.Str := loose_0 ++ loose_1
noncomputable def Z0 : List Ent := []
noncomputable def Z1 : List Ent := t1.ent tb Z0 :: Z0
noncomputable def Z2 : List Ent := t2.ent tb Z1 :: Z1
noncomputable def Z3 : List Ent := t3.ent tb Z2 :: Z2
noncomputable def Z4 : List Ent := t4.ent tb Z3 :: Z3
noncomputable def Z5 : List Ent := ⟨762, t4.x, t4.ps, evD (lookW tb Z3) t4.d, [.int 1]⟩ :: Z4
noncomputable def Z6 : List Ent := t6.ent tb Z5 :: Z5
noncomputable def Z7 : List Ent := t7.ent tb Z6 :: Z6
noncomputable def Z8 : List Ent := t8.ent tb Z7 :: Z7
noncomputable def Z9 : List Ent := t9.ent tb Z8 :: Z8
noncomputable def Z10 : List Ent := t10.ent tb Z9 :: Z9
noncomputable def Z11 : List Ent := t11.ent tb Z10 :: Z10
noncomputable def Z12 : List Ent := t12.ent tb Z11 :: Z11
noncomputable def Z13 : List Ent := t13.ent tb Z12 :: Z12
noncomputable def Z14 : List Ent := t14.ent tb Z13 :: Z13
noncomputable def Z15 : List Ent := t15.ent tb Z14 :: Z14
noncomputable def Z16 : List Ent := t16.ent tb Z15 :: Z15
theorem bd1 : BindsE t1 := .inl ⟨rfl, fun _ _ _ _ _ _ us hl => match us, hl with | [_], _ => rfl⟩
theorem bd2 : BindsE t2 := .inl ⟨rfl, fun _ _ _ _ _ _ us hl => match us, hl with | [_, _], _ => rfl⟩
theorem bd3 : BindsE t3 := .inl ⟨rfl, fun _ _ _ _ _ _ us hl => match us, hl with | [_], _ => rfl⟩
theorem bd4 : BindsE t4 := .inr ⟨by decide, fun _ _ _ _ _ _ _ us its hl hi => match us, its, hl, hi with | [_, _], [_], _, _ => ⟨_, rfl, rfl⟩⟩
theorem bd6 : BindsE t6 := .inl ⟨rfl, fun _ _ _ _ _ _ us hl => match us, hl with | [_, _], _ => rfl⟩
theorem bd7 : BindsE t7 := .inl ⟨rfl, fun _ _ _ _ _ _ us hl => match us, hl with | [_, _], _ => rfl⟩
theorem bd8 : BindsE t8 := .inl ⟨rfl, fun _ _ _ _ _ _ us hl => match us, hl with | [_, _], _ => rfl⟩
theorem bd9 : BindsE t9 := .inl ⟨rfl, fun _ _ _ _ _ _ us hl => match us, hl with | [_], _ => rfl⟩
theorem bd10 : BindsE t10 := .inl ⟨rfl, fun _ _ _ _ _ _ us hl => match us, hl with | [_, _, _], _ => rfl⟩
theorem bd11 : BindsE t11 := .inl ⟨rfl, fun _ _ _ _ _ _ us hl => match us, hl with | [_], _ => rfl⟩
theorem bd12 : BindsE t12 := .inl ⟨rfl, fun _ _ _ _ _ _ us hl => match us, hl with | [_], _ => rfl⟩
theorem bd13 : BindsE t13 := .inl ⟨rfl, fun _ _ _ _ _ _ us hl => match us, hl with | [_], _ => rfl⟩
theorem bd14 : BindsE t14 := .inl ⟨rfl, fun _ _ _ _ _ _ us hl => match us, hl with | [_, _, _], _ => rfl⟩
theorem bd15 : BindsE t15 := .inl ⟨rfl, fun _ _ _ _ _ _ us hl => match us, hl with | [_], _ => rfl⟩
theorem bd16 : BindsE t16 := .inl ⟨rfl, fun _ _ _ _ _ _ us hl => match us, hl with | [_], _ => rfl⟩
theorem bdw : BindsE tw := .inl ⟨rfl, fun _ _ _ _ _ _ us hl => match us, hl with | [_], _ => rfl⟩
section
variable {w : World} {K : PySem.W.Frag} {h : Heap} {mg : Str → Option Value} {base : Heap}
  (X : K.In h) (G : h.Ns mainGlobals mg) (c : He.SaysD (facts exs xs) fn K) (cg : topB gl exs tb K = true)
include X G c cg
theorem sw : WdOk (PySem.Challenge.rw_signsmooth_k01_fractions_made).prog w K mg base (cvOf K exs) tb := word_ok (ks := 15) tw X G c cg (List.mem_of_getElem? (i := 15) rfl) (List.mem_of_getElem? (i := 15) rfl) bdw rfl rfl (by kernel_rfl) rfl Sg.word_ev
theorem s0 : ∀ e ∈ Z0, EntOk (PySem.Challenge.rw_signsmooth_k01_fractions_made).prog w K mg base (cvOf K exs) 0 e := fun e he => by cases he
theorem s1 : ∀ e ∈ Z1, EntOk (PySem.Challenge.rw_signsmooth_k01_fractions_made).prog w K mg base (cvOf K exs) 1 e :=
  Sg.step t1 X G c cg (sw X G c cg) (List.mem_of_getElem? (i := 0) rfl) (List.mem_of_getElem? (i := 0) rfl) bd1 (by kernel_rfl) (s0 X G c cg)
theorem s2 : ∀ e ∈ Z2, EntOk (PySem.Challenge.rw_signsmooth_k01_fractions_made).prog w K mg base (cvOf K exs) 2 e :=
  Sg.step t2 X G c cg (sw X G c cg) (List.mem_of_getElem? (i := 1) rfl) (List.mem_of_getElem? (i := 1) rfl) bd2 (by kernel_rfl) (s1 X G c cg)
theorem s3 : ∀ e ∈ Z3, EntOk (PySem.Challenge.rw_signsmooth_k01_fractions_made).prog w K mg base (cvOf K exs) 3 e :=
  Sg.step t3 X G c cg (sw X G c cg) (List.mem_of_getElem? (i := 2) rfl) (List.mem_of_getElem? (i := 2) rfl) bd3 (by kernel_rfl) (s2 X G c cg)
theorem s4 : ∀ e ∈ Z4, EntOk (PySem.Challenge.rw_signsmooth_k01_fractions_made).prog w K mg base (cvOf K exs) 4 e :=
  Sg.step t4 X G c cg (sw X G c cg) (List.mem_of_getElem? (i := 3) rfl) (List.mem_of_getElem? (i := 3) rfl) bd4 (by kernel_rfl) (s3 X G c cg)
theorem s5 : ∀ e ∈ Z5, EntOk (PySem.Challenge.rw_signsmooth_k01_fractions_made).prog w K mg base (cvOf K exs) 5 e :=
  Sg.stepD (n := 1) (id' := 762) (dd := [.int 1]) t4 c X G (List.mem_of_getElem? (i := 3) rfl) (List.mem_of_getElem? (i := 3) rfl) (List.mem_of_getElem? (i := 0) rfl) (by decide) rfl rfl (fun _ _ _ => ⟨_, _, rfl, rfl, rfl⟩) (fun _ _ _ _ _ _ _ us its hl hi => match us, its, hl, hi with | [_], [_], _, _ => ⟨_, rfl, rfl⟩) (s4 X G c cg)
theorem s6 : ∀ e ∈ Z6, EntOk (PySem.Challenge.rw_signsmooth_k01_fractions_made).prog w K mg base (cvOf K exs) 6 e :=
  Sg.step t6 X G c cg (sw X G c cg) (List.mem_of_getElem? (i := 4) rfl) (List.mem_of_getElem? (i := 4) rfl) bd6 (by kernel_rfl) (s5 X G c cg)
theorem s7 : ∀ e ∈ Z7, EntOk (PySem.Challenge.rw_signsmooth_k01_fractions_made).prog w K mg base (cvOf K exs) 7 e :=
  Sg.step t7 X G c cg (sw X G c cg) (List.mem_of_getElem? (i := 5) rfl) (List.mem_of_getElem? (i := 5) rfl) bd7 (by kernel_rfl) (s6 X G c cg)
theorem s8 : ∀ e ∈ Z8, EntOk (PySem.Challenge.rw_signsmooth_k01_fractions_made).prog w K mg base (cvOf K exs) 8 e :=
  Sg.step t8 X G c cg (sw X G c cg) (List.mem_of_getElem? (i := 6) rfl) (List.mem_of_getElem? (i := 6) rfl) bd8 (by kernel_rfl) (s7 X G c cg)
theorem s9 : ∀ e ∈ Z9, EntOk (PySem.Challenge.rw_signsmooth_k01_fractions_made).prog w K mg base (cvOf K exs) 9 e :=
  Sg.step t9 X G c cg (sw X G c cg) (List.mem_of_getElem? (i := 7) rfl) (List.mem_of_getElem? (i := 7) rfl) bd9 (by kernel_rfl) (s8 X G c cg)
theorem s10 : ∀ e ∈ Z10, EntOk (PySem.Challenge.rw_signsmooth_k01_fractions_made).prog w K mg base (cvOf K exs) 10 e :=
  Sg.step t10 X G c cg (sw X G c cg) (List.mem_of_getElem? (i := 8) rfl) (List.mem_of_getElem? (i := 8) rfl) bd10 (by kernel_rfl) (s9 X G c cg)
theorem s11 : ∀ e ∈ Z11, EntOk (PySem.Challenge.rw_signsmooth_k01_fractions_made).prog w K mg base (cvOf K exs) 11 e :=
  Sg.step t11 X G c cg (sw X G c cg) (List.mem_of_getElem? (i := 9) rfl) (List.mem_of_getElem? (i := 9) rfl) bd11 (by kernel_rfl) (s10 X G c cg)
theorem s12 : ∀ e ∈ Z12, EntOk (PySem.Challenge.rw_signsmooth_k01_fractions_made).prog w K mg base (cvOf K exs) 12 e :=
  Sg.step t12 X G c cg (sw X G c cg) (List.mem_of_getElem? (i := 10) rfl) (List.mem_of_getElem? (i := 10) rfl) bd12 (by kernel_rfl) (s11 X G c cg)
theorem s13 : ∀ e ∈ Z13, EntOk (PySem.Challenge.rw_signsmooth_k01_fractions_made).prog w K mg base (cvOf K exs) 13 e :=
  Sg.step t13 X G c cg (sw X G c cg) (List.mem_of_getElem? (i := 11) rfl) (List.mem_of_getElem? (i := 11) rfl) bd13 (by kernel_rfl) (s12 X G c cg)
theorem s14 : ∀ e ∈ Z14, EntOk (PySem.Challenge.rw_signsmooth_k01_fractions_made).prog w K mg base (cvOf K exs) 14 e :=
  Sg.step t14 X G c cg (sw X G c cg) (List.mem_of_getElem? (i := 12) rfl) (List.mem_of_getElem? (i := 12) rfl) bd14 (by kernel_rfl) (s13 X G c cg)
theorem s15 : ∀ e ∈ Z15, EntOk (PySem.Challenge.rw_signsmooth_k01_fractions_made).prog w K mg base (cvOf K exs) 15 e :=
  Sg.step t15 X G c cg (sw X G c cg) (List.mem_of_getElem? (i := 13) rfl) (List.mem_of_getElem? (i := 13) rfl) bd15 (by kernel_rfl) (s14 X G c cg)
theorem s16 : ∀ e ∈ Z16, EntOk (PySem.Challenge.rw_signsmooth_k01_fractions_made).prog w K mg base (cvOf K exs) 16 e :=
  Sg.step t16 X G c cg (sw X G c cg) (List.mem_of_getElem? (i := 14) rfl) (List.mem_of_getElem? (i := 14) rfl) bd16 (by kernel_rfl) (s15 X G c cg)
end
theorem run (w : World) : HandSHeadRun.RunEq (PySem.W.OpenLaw.row PySem.Challenge.rw_signsmooth_k01_fractions_made) (PySem.W.view (PySem.W.OpenLaw.row PySem.Challenge.rw_signsmooth_k01_fractions_made).prog [38]) (hookS 4 (facts exs xs) fn (topB gl exs tb)) (obS 4 (facts exs xs) fn (topB gl exs tb)) 20000 loose w := by
  intro os
  kernel_rfl
theorem h1 (Φ : Phi) (e : Φ 16 = evD (lookW tb Z0) b16) : Sp16 Φ := sp16 e 
theorem h2 (Φ : Phi) (e : Φ 1 = evD (lookW tb Z1) b1) : Sp1 Φ := sp1 e 
theorem h3 (Φ : Phi) (e : Φ 17 = evD (lookW tb Z2) b17) : Sp17 Φ := sp17 e (h2 (lookW tb Z2) rfl) (h1 (lookW tb Z2) rfl)
theorem h4 (Φ : Phi) (e : Φ 2 = evD (lookW tb Z3) b2) : Sp2 Φ := sp2 e (h2 (lookW tb Z3) rfl)
theorem h5 (Φ : Phi) (e : Φ 762 = fun ds M => (lookW tb Z4) 2 (ds ++ [.int 1]) M) : Sp762 Φ := sp762 e (h4 (lookW tb Z4) rfl)
theorem h6 (Φ : Phi) (e : Φ 6 = evD (lookW tb Z5) b6) : Sp6 Φ := sp6 e 
theorem h7 (Φ : Phi) (e : Φ 7 = evD (lookW tb Z6) b7) : Sp7 Φ := sp7 e 
theorem h8 (Φ : Phi) (e : Φ 8 = evD (lookW tb Z7) b8) : Sp8 Φ := sp8 e 
theorem h9 (Φ : Phi) (e : Φ 11 = evD (lookW tb Z8) b11) : Sp11 Φ := sp11 e 
theorem h10 (Φ : Phi) (e : Φ 12 = evD (lookW tb Z9) b12) : Sp12 Φ := sp12 e (h8 (lookW tb Z9) rfl) (h9 (lookW tb Z9) rfl)
theorem h11 (Φ : Phi) (e : Φ 19 = evD (lookW tb Z10) b19) : Sp19 Φ := sp19 e (h7 (lookW tb Z10) rfl)
theorem h12 (Φ : Phi) (e : Φ 695 = evD (lookW tb Z11) b695) : Sp695 Φ := sp695 e Sg.sp0 (h4 (lookW tb Z11) rfl)
theorem h13 (Φ : Phi) (e : Φ 21 = evD (lookW tb Z12) b21) : Sp21 Φ := sp21 e (h8 (lookW tb Z12) rfl) (h9 (lookW tb Z12) rfl)
theorem h14 (Φ : Phi) (e : Φ 22 = evD (lookW tb Z13) b22) : Sp22 Φ := sp22 e 
theorem h15 (Φ : Phi) (e : Φ 23 = evD (lookW tb Z14) b23) : Sp23 Φ := sp23 e (h9 (lookW tb Z14) rfl) (h1 (lookW tb Z14) rfl) (h3 (lookW tb Z14) rfl) (h13 (lookW tb Z14) rfl)
theorem hlaw (ns : List Int) (hl : ns.length ≤ 63) : ∃ M, evD (lookW tb Z15) t16.d [.fro (ns.map D.int)] [] = .ok (.bl true) M := law_of (sp763 (h4 (lookW tb Z15) rfl) (h6 (lookW tb Z15) rfl) (h10 (lookW tb Z15) rfl) (h11 (lookW tb Z15) rfl) (h14 (lookW tb Z15) rfl) (h15 (lookW tb Z15) rfl) (h12 (lookW tb Z15) rfl) (h5 (lookW tb Z15) rfl) ns hl)
end Gk01
open PySem PySem.W PySem.Calls PyProof.Rows Sg Gk01
set_option maxHeartbeats 0 in
theorem PySem.Challenge.cw_signsmooth_k01_fractions_made_holds : PySem.Challenge.rw_signsmooth_k01_fractions_made.Holds := by
  w_on; o_law
  refine HandSHeadRun.head_any (r := (PySem.W.OpenLaw.row PySem.Challenge.rw_signsmooth_k01_fractions_made)) (q := PySem.W.view (PySem.W.OpenLaw.row PySem.Challenge.rw_signsmooth_k01_fractions_made).prog [38]) (H := hookS 4 (facts exs xs) fn (topB gl exs tb)) (ob := obS 4 (facts exs xs) fn (topB gl exs tb)) (M := 20000)
    (loose := loose) (d := HandSHeadRun.topDef (PySem.W.OpenLaw.row PySem.Challenge.rw_signsmooth_k01_fractions_made).prog 38) (kwd := []) (obS_eq 4 (facts exs xs) fn (topB gl exs tb))
    (by kernel_rfl) (fun s => by kernel_rfl) Gk01.run (by kernel_rfl) (by kernel_rfl) (by kernel_rfl) (by rfl)
    (by first | assumption | decide +kernel) (by decide +kernel) ⟨rfl, rfl, rfl, rfl, rfl, by decide +kernel⟩ ?hw ?hc
  case hw => w_witness2
  case hc =>
    exact law_end t16 Z15 (n := 63) (k := 16) rfl (by decide) (by kernel_rfl) ⟨rfl, by decide, by decide⟩ (by kernel_rfl) (List.mem_of_getElem? (i := 14) rfl) (List.mem_of_getElem? (i := 14) rfl) bd16 rfl rfl
      (fun w K h mg base X G c cg => s16 X G c cg) Gk01.hlaw


import PyProof.Rows.All
import Wide.All
import OpenK.AllK
import Wide.FinOn
import HandS.ForExc
import HandS.Comp
import HandS.Iter
import HandS.Zip
import HandS.IsInst
import HandS.Wide
import HandS.Deep
import HandS.TupAny
import HandS.ExcCtx
import HandS.Hot
import HandS.HotCalls
import HandS.ExcIs
import HandS.More
import HandS.TupLe
import HandS.Text
import KE.DataCmp
import KE.DataMinMax
import KE.SortData
import HandS.Defaults
import HandS.Head0
import HandS.Head1
import HandS.Head2
import HandS.HeadEnd
import HandS.HeadHook1
import HandS.HeadHook2
import HandS.SortInts
import HandS.Base
import HandS.Call
import HandS.Exc
import HandS.CallSlots
import HandS.Flow
import HandS.RevRange
import HandS.Conv
import HandS.RevTup
import HandS.Rev
import HandS.Style
import PyProof.ListRange
import HandS.Dict
import KE.KDictDisplayH
import HandS.Sort
import PySem.Challenge.RW_signsmooth_k73_texts_of_ladders
set_option Elab.async false
set_option linter.all false
set_option maxRecDepth 100000
set_option maxHeartbeats 4000000
set_option exponentiation.threshold 30000
namespace Sg
open PySem PySem.Spec PyProof.Rows L2
noncomputable section
/-- a value: what is never written to again is a tree; what may still be written to is a place in the small heap -/
inductive D where
  | non | bl (b : Bool) | int (i : Int) | str (x : Str)
  | tup (xs : List D) | ktp (xs : List D) | lst (xs : List D) | fro (xs : List D) | dct (t : Bool) (ks : List D) (vs : List D) | ref (i : Nat) | exo (a : Nat)
  deriving Inhabited

end
end Sg

namespace Sg
noncomputable section
open PySem PySem.Spec PyProof.Rows L2
def builtins : List String := ["len", "abs", "max", "min", "sum", "all", "any", "int", "str", "list", "tuple", "sorted", "isinstance", "bool", "range", "zip", "enumerate", "reversed", "ValueError"]
def subN (exs : List (Nat × Str)) (k j : Nat) : Bool := j == 99 || (j == k || decide (exs.lookup j = some ("SmoothError" : Str)))
mutual
def litB (K : PySem.W.Frag) : D → Value → Bool
  | .non, .none => true
  | .bl b, .bool c => b == c
  | .int i, .int j _ => decide (i = j)
  | .str x, .str y _ => decide (x = y)
  | .tup ds, .ref a => (match K.lookup a with
    | some ⟨.type c, _, .seq its _, _⟩ => decide (c = "tuple") && (decide (its.size ≤ sizeLine) && litBs K ds its.toList)
    | _ => false)
  | _, _ => false
def litBs (K : PySem.W.Frag) : List D → List Value → Bool
  | [], [] => true
  | d :: ds, u :: us => litB K d u && litBs K ds us
  | _, _ => false
end
def constB (K : PySem.W.Frag) (p : Str × D) : Bool := match PySem.W.nsIn K mainGlobals p.1 with
  | some (some u) => litB K p.2 u
  | _ => false
abbrev AlS : Type := He.AlD × Bool
def hookS (n : Nat) (fa : List He.Fa) (fn : List He.DefD) (B : PySem.W.Frag → Bool) : PySem.W.Hook where
  α := AlS
  obs := fun s => (He.obsDG n fa fn s.heap.get?, B (He.frG s.heap.get? (He.asD s.heap.get? n)))
  val := fun _ => (He.valD fn, true)
  says := fun _ h => ∃ K : PySem.W.Frag, K.In h ∧ He.SaysD fa fn K ∧ B K = true
  of := fun _ _ e => ⟨_, He.frG_in, congrArg (fun z : AlS => z.1) e, congrArg (fun z : AlS => z.2) e⟩
  keeps := fun _ _ _ ⟨K, hK, c⟩ k => ⟨K, PySem.W.Frag.In.keeps hK k, c⟩
def obS (n : Nat) (fa : List He.Fa) (fn : List He.DefD) (B : PySem.W.Frag → Bool) (s : PySem.W.SharedT) : AlS :=
  (He.obsDG n fa fn (HandSHeadRun.getT s), B (He.frG (HandSHeadRun.getT s) (He.asD (HandSHeadRun.getT s) n)))
theorem obS_eq (n : Nat) (fa : List He.Fa) (fn : List He.DefD) (B : PySem.W.Frag → Bool) (s : PySem.W.SharedT) : obS n fa fn B s = (hookS n fa fn B).obs s.abs := by
  have e : HandSHeadRun.getT s = s.abs.heap.get? := funext (HandSHeadRun.getT_eq s)
  unfold obS
  rw [e]
  rfl
def excB (K : PySem.W.Frag) (D : Addr) : Bool := He.eqO (PySem.W.findIn K (.ref D) "__getattribute__") (some (some (.builtin "BaseException.__getattribute__"))) &&
  (He.eqO (PySem.W.findIn K (.ref D) "__getattr__") (some none) && (decide (PySem.W.subIn K (.ref D) (.type "BaseException") = some true) && (PySem.W.hasDictIn K D && (He.eqO (PySem.W.findIn K (.ref D) "__class__") (some (some (.builtin "object.__class__"))) &&
  (He.eqO (PySem.W.specialIn K (.builtin "object.__class__") "__get__") (some (some (.builtin "getset_descriptor.__get__"))) && (decide (PySem.W.takesIn K (.builtin "object.__class__") = some true) && decide (PySem.W.mroIn K D (.type "object") = some true)))))))
def wordB (K : PySem.W.Frag) (exs : List (Nat × Str)) (k : Nat) : Bool := match exs.lookup k with
  | some n => excB K (He.ga K n) && (decide (PySem.W.kitOne K (.ref (He.ga K n)) (.type "ValueError") = some true) && (decide (PySem.W.exmOne K (.ref (He.ga K n)) (.ref (He.ga K "SmoothError")) = some true) &&
      exs.all fun q => decide (PySem.W.kitOne K (.ref (He.ga K n)) (.ref (He.ga K q.2)) = some (subN exs k q.1))))
  | none => false
def topB (gl : List (Str × D)) (exs tb : List (Nat × Str)) (K : PySem.W.Frag) : Bool := gl.all (constB K) && ((exs.all fun p => decide (PySem.W.exmOne K (.ref (He.ga K p.2)) (.ref (He.ga K p.2)) = some true)) && tb.all fun p => wordB K exs p.1)
/-- the facts that are asked: the builtins' names free, the exceptions' classes, the defs -/
def facts (exs : List (Nat × Str)) (xs : List Str) : List He.Fa := builtins.map (fun x => He.Fa.free (x : String)) ++ exs.map (fun p => He.Fa.exc p.2) ++ exs.map (fun p => He.Fa.glo p.2) ++ xs.map He.Fa.glo
/-- what is asked of a def -/
def ddOf (x : Str) (st : Stmt) (dfl : List He.Dv) (q : Str) : He.DefD := ⟨(x, none), q, q, defArgs st, defBody st, defScope st, dfl, []⟩
end
end Sg

namespace Gk73
open PySem PySem.Spec PyProof.Rows L2 Sg
/-- the text of the i-th def -/
def topS (i : Nat) : Stmt := (PySem.Challenge.pw_signsmooth_k73_texts_of_ladders).main.body.getD i (.Pass ⟨0, 0, 0, 0⟩)
def exs : List (Nat × Str) := [(15, "SmoothError"), (7, "NoLadder"), (14, "NoText")]
def gl : List (Str × D) := [("MOST_TRACKS", .int 7), ("MOST_STEPS", .int 400), ("FIGURES", .str "0123456789"), ("WORDS", .tup [.str "down", .str "up", .str "weigh"])]
def tb : List (Nat × Str) := []
def xs_0 : List Str := ["is_whole", "divisor", "is_fraction", "is_weight", "is_step", "is_ladder",
    "look_ladder", "show_number", "show_ladder", "look_text", "read_figures", "read_whole",
    "read_number", "read_step", "ladder_written", "read_ladder", "_law_cell", "_law_numbers",
    "_law_rest", "_law_divisor", "_law_made", "_law_number", "_law_whole", "_law_is_number",
    "_law_ladder", "_law_written", "_law_like", "_law_asked", "law"]
def xs : List Str := xs_0
def fn_0 : List He.DefD := [ddOf "is_whole" (topS 5) [] "is_whole", ddOf "divisor" (topS 6) [] "divisor", ddOf "is_fraction" (topS 7) [] "is_fraction", ddOf "is_weight" (topS 11) [] "is_weight", ddOf "is_step" (topS 12) [] "is_step", ddOf "is_ladder" (topS 13) [] "is_ladder",
    ddOf "look_ladder" (topS 14) [] "look_ladder", ddOf "show_number" (topS 18) [] "show_number", ddOf "show_ladder" (topS 19) [] "show_ladder", ddOf "look_text" (topS 20) [] "look_text", ddOf "read_figures" (topS 21) [] "read_figures", ddOf "read_whole" (topS 22) [] "read_whole",
    ddOf "read_number" (topS 23) [] "read_number", ddOf "read_step" (topS 24) [] "read_step", ddOf "ladder_written" (topS 25) [] "ladder_written", ddOf "read_ladder" (topS 26) [] "read_ladder", ddOf "_law_cell" (topS 28) [] "_law_cell", ddOf "_law_numbers" (topS 29) [] "_law_numbers",
    ddOf "_law_rest" (topS 30) [] "_law_rest", ddOf "_law_divisor" (topS 31) [] "_law_divisor", ddOf "_law_made" (topS 32) [] "_law_made", ddOf "_law_number" (topS 33) [] "_law_number", ddOf "_law_whole" (topS 34) [] "_law_whole", ddOf "_law_is_number" (topS 35) [] "_law_is_number",
    ddOf "_law_ladder" (topS 36) [] "_law_ladder", ddOf "_law_written" (topS 37) [] "_law_written", ddOf "_law_like" (topS 38) [] "_law_like", ddOf "_law_asked" (topS 39) [] "_law_asked", ddOf "law" (topS 40) [] "law"]
def fn : List He.DefD := fn_0
def loose_0 : List PySem.Str := ["_law_asked", "_law_cell", "_law_divisor", "_law_is_number", "_law_ladder", "_law_like",
    "_law_made", "_law_number", "_law_numbers", "_law_rest", "_law_whole", "_law_written",
    "divisor", "is_fraction", "is_ladder", "is_step", "is_weight", "is_whole",
    "ladder_written", "look_ladder", "look_text", "read_figures", "read_ladder", "read_number",
    "read_step", "read_whole", "show_ladder", "show_number", "SmoothError", "NoLadder"]
def loose_1 : List PySem.Str := ["NoText", "MOST_TRACKS", "MOST_STEPS", "FIGURES", "WORDS"]
def loose : List PySem.Str := loose_0 ++ loose_1
theorem run (w : World) : HandSHeadRun.RunEq (PySem.W.OpenLaw.row PySem.Challenge.rw_signsmooth_k73_texts_of_ladders) (PySem.W.view (PySem.W.OpenLaw.row PySem.Challenge.rw_signsmooth_k73_texts_of_ladders).prog [40]) (hookS 2 (facts exs xs) fn (topB gl exs tb)) (obS 2 (facts exs xs) fn (topB gl exs tb)) 20000 loose w := by
  intro os
  kernel_rfl
end Gk73

namespace Sg
open PySem PySem.Spec PyProof.Rows L2
noncomputable section

structure Cell where
  m : Bool
  d : D
  deriving Inhabited

inductive R (α : Type) where
  | ok (a : α) (M : List Cell)
  | exc (c : Nat) (M : List Cell)
  | bad

def R.bind {α β : Type} (r : R α) (f : α → List Cell → R β) : R β := match r with
  | .ok a M => f a M
  | .exc c M => .exc c M
  | .bad => .bad
@[simp] theorem R.bind_ok {α β : Type} (a : α) (M : List Cell) (f : α → List Cell → R β) : (R.ok a M).bind f = f a M := rfl
@[simp] theorem R.bind_exc {α β : Type} (c : Nat) (M : List Cell) (f : α → List Cell → R β) : (R.exc c M : R α).bind f = .exc c M := rfl
@[simp] theorem R.bind_bad {α β : Type} (f : α → List Cell → R β) : (R.bad : R α).bind f = .bad := rfl

def LIM : Nat := 16000000

mutual
def isImm : D → Bool
  | .tup xs => isImms xs
  | .ktp xs => isImms xs
  | .lst xs => isImms xs
  | .fro xs => isImms xs
  | .dct _ ks vs => isImms ks && isImms vs
  | .exo _ => false
  | .ref _ => false
  | _ => true
def isImms : List D → Bool
  | [] => true
  | x :: xs => isImm x && isImms xs
end
mutual
def isFlat : D → Bool
  | .tup xs => isFlats xs
  | .ktp xs => isFlats xs
  | .lst _ => false
  | .fro _ => false
  | .dct _ _ _ => false
  | .exo _ => false
  | .ref _ => false
  | _ => true
def isFlats : List D → Bool
  | [] => true
  | x :: xs => isFlat x && isFlats xs
end
mutual
def mapRef (f : Nat → Option D) : D → Option D
  | .tup xs => (mapRefs f xs).map .tup
  | .ktp xs => (mapRefs f xs).map .ktp
  | .lst xs => (mapRefs f xs).map .lst
  | .fro xs => (mapRefs f xs).map .fro
  | .dct t ks vs => (mapRefs f ks).bind fun a => (mapRefs f vs).map fun b => .dct t a b
  | .exo _ => none
  | .ref i => f i
  | .non => some .non
  | .bl b => some (.bl b)
  | .int i => some (.int i)
  | .str x => some (.str x)
def mapRefs (f : Nat → Option D) : List D → Option (List D)
  | [] => some []
  | x :: xs => (mapRef f x).bind fun a => (mapRefs f xs).map fun b => a :: b
end
/-- the tree that a value is by now -/
def immF : Nat → List Cell → D → Option D
  | 0, _, d => if isImm d then some d else none
  | n + 1, M, d => mapRef (fun i => match M[i]? with
      | some ⟨_, .non⟩ => none
      | some c => immF n M c.d
      | none => none) d
def imm (M : List Cell) (d : D) : Option D := immF M.length M d
def imms (M : List Cell) : List D → Option (List D)
  | [] => some []
  | x :: xs => (imm M x).bind fun a => (imms M xs).map fun b => a :: b
mutual
def isImm_mapRef (f : Nat → Option D) : (d : D) → isImm d = true → mapRef f d = some d
  | .tup xs, h => by
    rw [isImm] at h
    rw [mapRef, isImm_mapRefs f xs h]; rfl
  | .ktp xs, h => by
    rw [isImm] at h
    rw [mapRef, isImm_mapRefs f xs h]; rfl
  | .lst xs, h => by
    rw [isImm] at h
    rw [mapRef, isImm_mapRefs f xs h]; rfl
  | .fro xs, h => by
    rw [isImm] at h
    rw [mapRef, isImm_mapRefs f xs h]; rfl
  | .dct t ks vs, h => by
    rw [isImm, Bool.and_eq_true] at h
    rw [mapRef, isImm_mapRefs f ks h.1, isImm_mapRefs f vs h.2]; rfl
  | .ref i, h => by rw [isImm] at h; cases h
  | .non, _ => rfl
  | .bl _, _ => rfl
  | .int _, _ => rfl
  | .str _, _ => rfl
def isImm_mapRefs (f : Nat → Option D) : (ds : List D) → isImms ds = true → mapRefs f ds = some ds
  | [], _ => rfl
  | x :: xs, h => by
    rw [isImms, Bool.and_eq_true] at h
    rw [mapRefs, isImm_mapRef f x h.1, isImm_mapRefs f xs h.2]; rfl
end
theorem immF_of {n : Nat} {M : List Cell} {d : D} (h : isImm d = true) : immF n M d = some d := by
  cases n with
  | zero => unfold immF; rw [if_pos h]
  | succ n => exact isImm_mapRef _ d h
@[simp] theorem imm_of {M : List Cell} {d : D} (h : isImm d = true) : imm M d = some d := immF_of h
theorem imms_of {M : List Cell} : ∀ {ds : List D}, isImms ds = true → imms M ds = some ds
  | [], _ => rfl
  | x :: xs, h => by
    rw [isImms, Bool.and_eq_true] at h
    rw [imms, imm_of h.1, imms_of h.2]; rfl

/-- built-in functions -/
inductive Bi where
  | len | abs | max2 | min2 | max1 | min1 | sum | all | any | int | str | list (m : Bool) | tuple | ktuple | sorted (m : Bool)
  deriving DecidableEq
/-- methods -/
inductive Mt where
  | append | extend | pop | popAt | clear | reverse | insert | index
  deriving DecidableEq
/-- methods of texts -/
inductive Tm where
  | join | split (m : Bool) | startswith | find | isdigit | partition
  deriving DecidableEq
/-- classes that isinstance is asked of -/
inductive Ty where
  | int | bool | str | list | tuple
  deriving DecidableEq

mutual
inductive E where
  | var (i : Nat)
  | c (d : D)
  | glob (x : Str) (d : D)
  | bin (m : Bool) (op : Operator) (a b : E)
  | un (op : UnaryOp) (a : E)
  | cmp (op : CmpOp) (a b : E)
  | chain (o1 o2 : CmpOp) (a b c : E)
  | bop (op : BoolOp) (es : Es)
  | ite (c a b : E)
  | tup (es : Es)
  | ktup (es : Es)
  | lst (m : Bool) (es : Es)
  | idx (a b : E)
  | slc (m : Bool) (a : E) (lo hi : O)
  | call (f : Nat) (mode : Nat) (es : Es)
  | bi (f : Bi) (es : Es)
  | isi (a : E) (t : Ty)
  | meth (f : Mt) (a : E) (es : Es)
  | tm (f : Tm) (a : E) (es : Es)
  | comp (m : Bool) (own : List Nat) (t : T) (it : It) (c : O) (e : E)
  | snap (e : E)
  | orL (a b : E)
  | rep (m : Bool) (a b : E)
  | compV (m : Bool) (own : List Nat) (t : T) (l : E) (c : O) (e : E)
  | xis (i k : Nat)
  | hole
  | lrng (m : Bool) (a : E)
  | lrng2 (m : Bool) (a b : E)
  | rvl (m sl : Bool) (a : E)
  | dnew (t : Bool)
  | dlit (ks : List D) (vs : List D)
  | dun (e : E)
  | dget (a b : E)
  | dgetd (a b c : E)
  | din (ng : Bool) (a b : E)
  | dlst (m : Bool) (a : E)
  | dmax (a : E)
  | dsum (a : E)
inductive O where
  | no
  | so (e : E)
inductive Es where
  | nil
  | cons (e : E) (es : Es)
inductive It where
  | val (e : E)
  | rng1 (a : E)
  | rng2 (a b : E)
  | rng3 (a b c : E)
  | zip (a b : E)
  | enum (a : E)
  | rev (a : E)
  | revR (a : E)
  | revR2 (a b : E)
  | keys (a : E)
  | vals (a : E)
  | chars (a : E)
inductive T where
  | var (i : Nat)
  | tup (ts : Ts)
  | idx (o i : E)
inductive Ts where
  | nil
  | cons (t : T) (ts : Ts)
end
/-- what an except suite returns: the error's word, a list of it, whether it is x -/
inductive Tw where
  | word
  | lword
  | weq (x : Str)
mutual
inductive S where
  | expr (e : E)
  | asg (t : T) (e : E)
  | par (i j : Nat) (a b : E)
  | aug (i : Nat) (op : Operator) (e : E)
  | ite (c : E) (a b : Ss)
  | whl (c : E) (b : Ss)
  | for (t : T) (it : It) (b : Ss)
  | forL (t : T) (e : E) (b : Ss)
  | forE (t : T) (e : E) (b : Ss)
  | ret (e : O)
  | pass
  | brk
  | cont
  | raise (c : Nat)
  | tryW (i : Nat) (b : Ss) (w : Tw)
  | tryN (k : Nat) (b : Ss) (d : D)
  | hole
  | dset (o i v : E)
inductive Ss where
  | nil
  | cons (s : S) (ss : Ss)
end

def content (M : List Cell) : D → Option (List D)
  | .lst xs => some xs
  | .ref i => match M[i]? with
    | some ⟨_, .lst xs⟩ => some xs
    | _ => none
  | _ => none
def listOf (M : List Cell) : D → Option (List D)
  | .fro xs => some xs
  | d => content M d
def seqOf (M : List Cell) : D → Option (List D)
  | .tup xs => some xs
  | .ktp xs => some xs
  | d => listOf M d
/-- a new list -/
def new (m : Bool) (xs : List D) (M : List Cell) : R D :=
  if xs.length ≤ LIM then (if m then .ok (.ref M.length) (M ++ [⟨true, .lst xs⟩]) else .ok (.lst xs) M) else .bad
def B62 (i : Int) : Prop := -(2 ^ 62) ≤ i ∧ i < 2 ^ 62
noncomputable instance (i : Int) : Decidable (B62 i) := Classical.propDecidable _
def Lt62 (i : Int) : Prop := i < 2 ^ 62
noncomputable instance (i : Int) : Decidable (Lt62 i) := Classical.propDecidable _
def Le6 (i : Int) : Prop := i ≤ 1000000
noncomputable instance (i : Int) : Decidable (Le6 i) := Classical.propDecidable _
def mulOk (i j : Int) : Bool := decide (i.natAbs.log2 + j.natAbs.log2 < 1000000) || decide (j.natAbs < 1000)
def bopI : Operator → D → D → List Cell → R D
  | .Add, .int i, .int j, M => .ok (.int (i + j)) M
  | .Add, .str x, .str y, M => if x.length + y.length ≤ LIM then .ok (.str (x ++ y)) M else .bad
  | .Add, .tup xs, .tup ys, M => if xs.length + ys.length ≤ LIM then .ok (.tup (xs ++ ys)) M else .bad
  | .Sub, .int i, .int j, M => .ok (.int (i - j)) M
  | .Mult, .int i, .int j, M => if mulOk i j then .ok (.int (i * j)) M else .bad
  | .FloorDiv, .int i, .int j, M => if 0 < j ∧ j.natAbs.log2 < 9000 then .ok (.int (i / j)) M else
      if j ≠ 0 ∧ (j.natAbs.log2 < 9000 ∨ i.natAbs.log2 ≤ j.natAbs.log2 + 4400) then .ok (.int (i.fdiv j)) M else .bad
  | .Mod, .int i, .int j, M => if 0 < j then .ok (.int (i % j)) M else if j ≠ 0 then .ok (.int (i.fmod j)) M else .bad
  | .Pow, .int i, .int j, M => if 0 ≤ j ∧ Le6 j ∧ i.natAbs < 2 ^ 64 then .ok (.int (i ^ j.toNat)) M else .bad
  | .LShift, .int i, .int j, M => if 0 ≤ j ∧ Le6 j ∧ i.natAbs < 2 ^ 64 then .ok (.int (i * 2 ^ j.toNat)) M else .bad
  | .RShift, .int i, .int j, M => if 0 ≤ j then .ok (.int (i / 2 ^ j.toNat)) M else .bad
  | .BitAnd, .int i, .int j, M => .ok (.int (Builtin.bitAnd i j)) M
  | .BitOr, .int i, .int j, M => .ok (.int (Builtin.bitOr i j)) M
  | .BitXor, .int i, .int j, M => .ok (.int (Builtin.bitXor i j)) M
  | _, _, _, _ => .bad
def tupK : D → Option (List D)
  | .ktp xs => some xs
  | _ => none
/-- a op b; m: a list that comes of it may be written to, a tuple that comes of it may be a key -/
def bop (m : Bool) (op : Operator) (a b : D) (M : List Cell) : R D := match op, content M a, content M b with
  | .Add, some xs, some ys => new m (xs ++ ys) M
  | _, _, _ => match tupK a, tupK b, op, m with
    | some xs, some ys, .Add, true => if xs.length + ys.length ≤ LIM then .ok (.ktp (xs ++ ys)) M else .bad
    | _, _, _, _ => bopI op a b M
/-- xs * k -/
def repD (m : Bool) (a b : D) (M : List Cell) : R D := match content M a, b with
  | some xs, .int k => if 0 ≤ k ∧ Lt62 k ∧ xs.length * k.toNat ≤ LIM then new m (List.replicate k.toNat xs).flatten M else .bad
  | _, _ => .bad
def uop : UnaryOp → D → List Cell → R D
  | .USub, .int i, M => .ok (.int (-i)) M
  | .Invert, .int i, M => .ok (.int (Builtin.bitNot i)) M
  | .Not, .bl b, M => .ok (.bl (!b)) M
  | _, _, _ => .bad
mutual
def toPy : D → Option PyData
  | .non => some .none
  | .bl b => some (.bool b)
  | .int i => some (.int i)
  | .str x => some (.str x)
  | .tup xs => (toPys xs).map .tuple
  | .ktp xs => (toPys xs).map .tuple
  | .lst xs => (toPys xs).map .list
  | .fro _ => none
  | .dct _ _ _ => none
  | .exo _ => none
  | .ref _ => none
def toPys : List D → Option (List PyData)
  | [] => some []
  | x :: xs => (toPy x).bind fun a => (toPys xs).map fun b => a :: b
end
/-- ==, of what two values are by now -/
def eqD (M : List Cell) (a b : D) : Option Bool :=
  (imm M a).bind fun a' => (imm M b).bind fun b' => (toPy a').bind fun x => (toPy b').bind fun y =>
    if SeqAt.shaped x = true ∧ SeqAt.shaped y = true then some (PyData.eqv x y) else none
def isNon : D → Bool
  | .non => true
  | _ => false
/-- x in xs, of any data, of what they are by now -/
def inG (M : List Cell) (a b : D) : Option Bool := match b with
  | .tup _ => none
  | b => (imm M a).bind fun a' => (imm M b).bind fun b' => (toPy a').bind fun x => (toPy b').bind fun y => match y with
    | .list ys => if SeqAt.shaped x = true ∧ SeqAt.shaped (.list ys) = true then some (ys.any fun z => PyData.eqv z x) else none
    | _ => none
mutual
/-- trees that their data tell -/
def plnD : D → Bool
  | .non => true
  | .bl _ => true
  | .int _ => true
  | .str _ => true
  | .tup xs => plnDs xs
  | .lst xs => plnDs xs
  | _ => false
def plnDs : List D → Bool
  | [] => true
  | x :: xs => plnD x && plnDs xs
end
mutual
def ofPy : PyData → D
  | .none => .non
  | .bool b => .bl b
  | .int i => .int i
  | .str x => .str x
  | .list xs => .lst (ofPys xs)
  | .tuple xs => .tup (ofPys xs)
  | .dict _ => .non
def ofPys : List PyData → List D
  | [] => []
  | x :: xs => ofPy x :: ofPys xs
end
def nonP : PyData → Bool
  | .none => true
  | _ => false
/-- two values that can be held against one another, by what they are by now -/
def cmpD (M : List Cell) (a b : D) : Option (PyData × PyData) :=
  (imm M a).bind fun a' => (imm M b).bind fun b' => (toPy a').bind fun x => (toPy b').bind fun y =>
    if PySem.W.alike x y = true ∧ nonP x = false ∧ x.depth ≤ 60 then some (x, y) else none
/-- the first of the least -/
def minG (xs : List D) : Option D := if plnDs xs = true then (match toPys xs with
  | some (p :: ps) => if ((p :: ps).all fun x => !nonP x && (p :: ps).all fun y => PySem.W.alike x y) = true ∧ PyData.depthAll (p :: ps) ≤ 60 then some (ofPy (PySem.W.minD p ps)) else none
  | _ => none) else none
def othP : PyData → Bool
  | .none => false
  | .tuple _ => false
  | _ => true
/-- sorted, as the data go that the items are by now -/
noncomputable def sortG (M : List Cell) (xs : List D) : Option (List D) := match (imms M xs).bind toPys with
  | some ps => if (ps.all fun x => othP x && ps.all fun y => PySem.W.alike x y) = true ∧ PyData.depthAll ps ≤ 60 then
      some (((xs.zip ps).mergeSort (PySem.W.dataLe false fun t : D × PyData => t.2)).map (·.1)) else none
  | none => none
/-- flat values -/
def flatD : D → Bool
  | .non => true
  | .bl _ => true
  | .int _ => true
  | .str _ => true
  | _ => false
def flV : D → V
  | .bl b => .bl b
  | .int i => .int i
  | .str x => .str x
  | _ => .non
/-- a in xs, all flat -/
def inF (a : D) (xs : List D) : Bool := xs.any fun y => eqV (flV y) (flV a)
/-- whether one sign is in a text -/
def signIn (a b : D) (f : Bool → R D) : R D := match a, b with
  | .str x, .str z => match x.cps.toList with
    | [c] => f (decide (c ∈ z.cps.toList))
    | _ => .bad
  | _, _ => .bad
def strsOf : List D → Option (List Str)
  | [] => some []
  | .str i :: xs => (strsOf xs).map fun r => i :: r
  | _ => none
def tmD : Tm → Str → List D → List Cell → R D
  | .join, a, [d], M => match (content M d).bind strsOf with
    | some ys => if (ys.map (·.length)).sum + ys.length * a.length ≤ LIM then .ok (.str (Txt.join a ys)) M else .bad
    | none => .bad
  | .split m, a, [.str b], M => if (b.length == 0) = false ∧ a.length + 2 ≤ LIM then new m ((Txt.split a b).map D.str) M else .bad
  | .startswith, a, [.str b], M => .ok (.bl (Txt.startswith a b)) M
  | .find, a, [.str b], M => .ok (.int (Txt.find a b)) M
  | .isdigit, a, [], M => .ok (.bl (Txt.isdigit a)) M
  | .partition, a, [.str b], M => if (b.length == 0) = false ∧ a.length ≤ LIM then .ok (.tup [.str (Txt.partition a b).1, .str (Txt.partition a b).2.1, .str (Txt.partition a b).2.2]) M else .bad
  | _, _, _, _ => .bad
def cop : CmpOp → D → D → List Cell → R D
  | .Lt, .int i, .int j, M => .ok (.bl (decide (i < j))) M
  | .LtE, .int i, .int j, M => .ok (.bl (decide (i ≤ j))) M
  | .Gt, .int i, .int j, M => .ok (.bl (decide (j < i))) M
  | .GtE, .int i, .int j, M => .ok (.bl (decide (j ≤ i))) M
  | .Is, a, .non, M => .ok (.bl (isNon a)) M
  | .IsNot, a, .non, M => .ok (.bl (!isNon a)) M
  | .Is, .bl a, .bl b, M => .ok (.bl (decide (a = b))) M
  | .IsNot, .bl a, .bl b, M => .ok (.bl (!decide (a = b))) M
  | .Eq, a, b, M => match eqD M a b with
    | some k => .ok (.bl k) M
    | none => .bad
  | .NotEq, a, b, M => match eqD M a b with
    | some k => .ok (.bl (!k)) M
    | none => .bad
  | .In, a, b, M => match seqOf M b with
    | some xs => if flatD a = true ∧ xs.all flatD = true then .ok (.bl (inF a xs)) M else (match inG M a b with
      | some k => .ok (.bl k) M
      | none => .bad)
    | none => signIn a b fun k => .ok (.bl k) M
  | .NotIn, a, b, M => match seqOf M b with
    | some xs => if flatD a = true ∧ xs.all flatD = true then .ok (.bl (!inF a xs)) M else (match inG M a b with
      | some k => .ok (.bl (!k)) M
      | none => .bad)
    | none => signIn a b fun k => .ok (.bl (!k)) M
  | .Lt, a, b, M => match cmpD M a b with
    | some p => .ok (.bl (PySem.W.dataLt p.1 p.2)) M
    | none => .bad
  | .Gt, a, b, M => match cmpD M a b with
    | some p => .ok (.bl (PySem.W.dataLt p.2 p.1)) M
    | none => .bad
  | .LtE, a, b, M => match cmpD M a b with
    | some p => .ok (.bl (!PySem.W.dataLt p.2 p.1)) M
    | none => .bad
  | .GtE, a, b, M => match cmpD M a b with
    | some p => .ok (.bl (!PySem.W.dataLt p.1 p.2)) M
    | none => .bad
  | _, _, _, _ => .bad
def intsOf : List D → Option (List Int)
  | [] => some []
  | .int i :: xs => (intsOf xs).map fun r => i :: r
  | _ => none
def blsOf : List D → Option (List Bool)
  | [] => some []
  | .bl i :: xs => (blsOf xs).map fun r => i :: r
  | _ => none
def maxI : List Int → Int
  | [] => 0
  | [x] => x
  | x :: xs => if maxI xs > x then maxI xs else x
/-- ints in order -/
def sortI (ns : List Int) : List Int := ns.mergeSort fun a b => decide (a ≤ b)
def minI : List Int → Int
  | [] => 0
  | [x] => x
  | x :: xs => if minI xs < x then minI xs else x
def bi : Bi → List D → List Cell → R D
  | .len, [d], M => match seqOf M d with
    | some xs => .ok (.int xs.length) M
    | none => match d with
      | .str x => if x.length ≤ LIM then .ok (.int x.length) M else .bad
      | _ => .bad
  | .abs, [.int i], M => .ok (.int (if i < 0 then -i else i)) M
  | .max2, [.int i, .int j], M => .ok (.int (if j > i then j else i)) M
  | .min2, [.int i, .int j], M => .ok (.int (if j < i then j else i)) M
  | .max1, [d], M => match (content M d).bind intsOf with
    | some (i :: r) => .ok (.int (maxI (i :: r))) M
    | _ => .bad
  | .min1, [d], M => match (content M d).bind intsOf with
    | some (i :: r) => .ok (.int (minI (i :: r))) M
    | _ => match (content M d).bind minG with
      | some e => .ok e M
      | none => .bad
  | .sum, [d], M => match (content M d).bind intsOf with
    | some r => .ok (.int r.sum) M
    | none => .bad
  | .all, [d], M => match (content M d).bind blsOf with
    | some r => .ok (.bl (r.all id)) M
    | none => .bad
  | .any, [d], M => match (content M d).bind blsOf with
    | some r => .ok (.bl (r.any id)) M
    | none => .bad
  | .int, [.int i], M => .ok (.int i) M
  | .int, [.bl b], M => .ok (.int (if b then 1 else 0)) M
  | .int, [.str x], M => match PySem.intText? x with
    | some n => if x.length ≤ 640 then .ok (.int n) M else .bad
    | none => .bad
  | .str, [.int i], M => if i.natAbs.log2 < 1920 then .ok (.str (toString i)) M else .bad
  | .list m, [d], M => match seqOf M d with
    | some xs => new m xs M
    | none => .bad
  | .ktuple, [d], M => match d with
    | .ktp xs => .ok (.ktp xs) M
    | _ => match content M d with
      | some xs => if xs.length ≤ LIM then .ok (.ktp xs) M else .bad
      | none => .bad
  | .tuple, [d], M => match d with
    | .tup xs => .ok (.tup xs) M
    | _ => match content M d with
      | some xs => if xs.length ≤ LIM then .ok (.tup xs) M else .bad
      | none => .bad
  | .sorted m, [d], M => match (content M d).bind intsOf with
    | some ns => new m ((sortI ns).map D.int) M
    | none => match (content M d).bind (sortG M) with
      | some ys => new m ys M
      | none => .bad
  | _, _, _ => .bad
def isi (t : Ty) (d : D) (M : List Cell) : Option Bool := match d with
  | .non => some false
  | .bl _ => some (t == .bool || t == .int)
  | .int _ => some (t == .int)
  | .str _ => some (t == .str)
  | .tup _ => some (t == .tuple)
  | .ktp _ => some (t == .tuple)
  | .lst _ => some (t == .list)
  | .fro _ => none
  | .dct _ _ _ => none
  | .exo _ => none
  | .ref i => match M[i]? with
    | some ⟨_, .lst _⟩ => some (t == .list)
    | _ => none
def meth : Mt → D → List D → List Cell → R D
  | .append, .ref i, [d], M => match M[i]? with
    | some ⟨true, .lst xs⟩ => if xs.length < LIM then .ok .non (M.set i ⟨true, .lst (xs ++ [d])⟩) else .bad
    | _ => .bad
  | .extend, .ref i, [d], M => match M[i]?, content M d with
    | some ⟨true, .lst xs⟩, some zs => if xs.length + zs.length ≤ LIM then .ok .non (M.set i ⟨true, .lst (xs ++ zs)⟩) else .bad
    | _, _ => .bad
  | .pop, .ref i, [], M => match M[i]? with
    | some ⟨true, .lst xs⟩ => match xs[xs.length - 1]? with
      | some y => .ok y (M.set i ⟨true, .lst xs.dropLast⟩)
      | none => .bad
    | _ => .bad
  | .clear, .ref i, [], M => match M[i]? with
    | some ⟨true, .lst _⟩ => .ok .non (M.set i ⟨true, .lst []⟩)
    | _ => .bad
  | .popAt, .ref i, [.int j], M => match M[i]? with
    | some ⟨true, .lst xs⟩ => if 0 ≤ j ∧ Lt62 j then (match xs[j.toNat]? with
      | some y => .ok y (M.set i ⟨true, .lst (xs.eraseIdx j.toNat)⟩)
      | none => .bad) else .bad
    | _ => .bad
  | .insert, .ref i, [.int j, d], M => match M[i]? with
    | some ⟨true, .lst xs⟩ => if xs.length < LIM ∧ 0 ≤ j ∧ Lt62 j then .ok .non (M.set i ⟨true, .lst (xs.take j.toNat ++ [d] ++ xs.drop j.toNat)⟩) else .bad
    | _ => .bad
  | .reverse, .ref i, [], M => match M[i]? with
    | some ⟨true, .lst xs⟩ => .ok .non (M.set i ⟨true, .lst xs.reverse⟩)
    | _ => .bad
  | .index, o, [d], M => match content M o with
    | some xs => if flatD d = true ∧ xs.all flatD = true then (match xs.findIdx? fun z => eqV (flV z) (flV d) with
      | some j => .ok (.int (j : Nat)) M
      | none => .bad) else .bad
    | none => .bad
  | _, _, _, _ => .bad
def idxD (a b : D) (M : List Cell) : R D := match b with
  | .int i => match seqOf M a with
    | some xs => match atI xs i with
      | some d => .ok d M
      | none => .bad
    | none => match a with
      | .str z => if z.length ≤ LIM then (match atI z.cps.toList i with
        | some c => .ok (.str ⟨#[c]⟩) M
        | none => .bad) else .bad
      | _ => .bad
  | _ => .bad
def setD (o i d : D) (M : List Cell) : Option (List Cell) := match o, i with
  | .ref p, .int k => match M[p]? with
    | some ⟨true, .lst xs⟩ => match ixN xs.length k with
      | some j => some (M.set p ⟨true, .lst (xs.set j d)⟩)
      | none => none
    | _ => none
  | _, _ => none
/-- xs[lo:hi] -/
def cutL {α : Type} (xs : List α) (lo hi : Option Int) : List α := (xs.drop (HT.sIx xs.length 0 lo)).take (HT.sIx xs.length xs.length hi - HT.sIx xs.length 0 lo)
def slcD (m : Bool) (a : D) (lo hi : Option Int) (M : List Cell) : R D := match listOf M a with
  | some xs => new m (cutL xs lo hi) M
  | none => match a with
    | .tup xs => .ok (.tup (cutL xs lo hi)) M
    | .ktp xs => .ok (.ktp (cutL xs lo hi)) M
    | .str z => if z.length ≤ LIM then .ok (.str (cutS z lo hi)) M else .bad
    | _ => .bad
/-- a list that is walked is written to no more -/
def stop1 (d : D) (M : List Cell) : List Cell := match d with
  | .ref i => match M[i]? with
    | some ⟨_, .lst xs⟩ => M.set i ⟨false, .lst xs⟩
    | _ => M
  | _ => M
def upTo (lo : Int) (n : Nat) : List D := (List.range n).map fun i => .int (lo + (i : Nat))
def upBy (lo c : Int) (n : Nat) : List D := (List.range n).map fun i => .int (lo + (i : Nat) * c)
def enumD : Nat → List D → List D
  | _, [] => []
  | n, x :: xs => .tup [.int n, x] :: enumD (n + 1) xs
def zipD : List D → List D → List D
  | x :: xs, y :: ys => .tup [x, y] :: zipD xs ys
  | _, _ => []

abbrev St := List (Option D)
abbrev Phi := Nat → List D → List Cell → R D
/-- the slots of a block's own names forgotten -/
def wipeD (σ : St) : List Nat → St
  | [] => σ
  | v :: vs => (wipeD σ vs).set v none
def R.nox {α : Type} : R α → R α
  | .ok a M => .ok a M
  | _ => .bad
@[simp] theorem R.nox_ok {α : Type} (a : α) (M : List Cell) : (R.ok a M).nox = .ok a M := rfl
@[simp] theorem R.nox_exc {α : Type} (c : Nat) (M : List Cell) : (R.exc c M : R α).nox = .bad := rfl
@[simp] theorem R.nox_bad {α : Type} : (R.bad : R α).nox = .bad := rfl
/-- a comprehension's turns; no exception leaves them -/
def compL (step : D → List Cell → R (Option D)) : List D → List Cell → R (List D)
  | [], M => .ok [] M
  | x :: xs, M => (step x M).nox.bind fun y M1 => (compL step xs M1).bind fun ys M2 => match y with
    | some y => .ok (y :: ys) M2
    | none => .ok ys M2
mutual
/-- no tree with a list within: flat, or a place, or a tuple of these -/
def isFr : D → Bool
  | .ref _ => true
  | .tup xs => isFrs xs
  | .ktp xs => isFrs xs
  | .lst _ => false
  | .fro _ => false
  | .dct _ _ _ => false
  | .exo _ => false
  | _ => true
def isFrs : List D → Bool
  | [] => true
  | x :: xs => isFr x && isFrs xs
end
/-- of places of lists of such alone -/
def freshF : Nat → List Cell → D → Bool
  | n + 1, M, .ref i => match M[i]? with
    | some ⟨_, .lst xs⟩ => xs.all (freshF n M)
    | _ => false
  | n + 1, M, .tup xs => xs.all (freshF n M)
  | _, _, d => isFlat d
mutual
def shD (k : Nat) : D → D
  | .ref i => .ref (k + i)
  | .tup xs => .tup (shDs k xs)
  | .ktp xs => .ktp (shDs k xs)
  | d => d
def shDs (k : Nat) : List D → List D
  | [] => []
  | x :: xs => shD k x :: shDs k xs
end
/-- a place taken over: what holds trees is dead -/
def shC (k : Nat) : Cell → Cell
  | ⟨m, .lst xs⟩ => if isFrs xs then ⟨m, .lst (shDs k xs)⟩ else ⟨false, .non⟩
  | ⟨m, .dct t ks xs⟩ => if isFlats ks && isFrs xs then ⟨m, .dct t ks (shDs k xs)⟩ else ⟨false, .non⟩
  | _ => ⟨false, .non⟩
/-- a call: 0: trees alone go in and come out; 1: what they are by now goes in, what comes out holds no list but new ones; 2: the same, the new lists' places are taken over; else the small heap goes along -/
def callD (Φ : Phi) (f mode : Nat) (ds : List D) (M : List Cell) : R D := match mode with
  | 0 => if isImms ds then (match Φ f ds [] with
    | .ok d M1 => (match imm M1 d with
      | some d' => .ok d' M
      | none => .bad)
    | .exc c _ => .exc c M
    | .bad => .bad) else .bad
  | 1 => match imms M ds with
    | some es => (match Φ f es [] with
      | .ok d M1 => (match imm M1 d with
        | some d' => if isFlat d' || freshF 8 M1 d then .ok d' M else .bad
        | none => .bad)
      | .exc c _ => .exc c M
      | .bad => .bad)
    | none => .bad
  | 2 => match imms M ds with
    | some es => (match Φ f es [] with
      | .ok d M1 => if isFr d then .ok (shD M.length d) (M ++ M1.map (shC M.length)) else .bad
      | .exc c _ => .exc c M
      | .bad => .bad)
    | none => .bad
  | _ => Φ f ds M

mutual
def beqX : D → D → Bool
  | .ref i, .ref j => i == j
  | .non, .non => true
  | .bl a, .bl b => a == b
  | .int a, .int b => a == b
  | .str a, .str b => decide (a = b)
  | .tup xs, .tup ys => beqXs xs ys
  | .ktp xs, .ktp ys => beqXs xs ys
  | .lst xs, .lst ys => beqXs xs ys
  | _, _ => false
def beqXs : List D → List D → Bool
  | [], [] => true
  | x :: xs, y :: ys => beqX x y && beqXs xs ys
  | _, _ => false
end
def key1 : D → Bool
  | .int _ => true
  | .str _ => true
  | _ => false
def isKey (t : Bool) (k : D) : Bool := match t, k with
  | false, k => key1 k
  | true, .ktp xs => xs.all key1
  | _, _ => false
def dLook (k : D) : List D → List D → Option D
  | x :: xs, v :: vs => if beqX x k then some v else dLook k xs vs
  | _, _ => none
def dHas (k : D) (ks : List D) : Bool := ks.any fun x => beqX x k
def dRepl (k v : D) : List D → List D → List D
  | x :: xs, w :: ws => (if beqX x k then v else w) :: dRepl k v xs ws
  | _, ws => ws
def dPutK (k : D) (ks : List D) : List D := if dHas k ks then ks else ks ++ [k]
def dPutV (k v : D) (ks vs : List D) : List D := if dHas k ks then dRepl k v ks vs else vs ++ [v]
def dctOf (M : List Cell) : D → Option (Bool × List D × List D)
  | .dct t ks vs => some (t, ks, vs)
  | .ref i => match M[i]? with
    | some ⟨_, .dct t ks vs⟩ => some (t, ks, vs)
    | _ => none
  | _ => none
/-- d[k] -/
def dgetD (a b : D) (M : List Cell) : R D := match dctOf M a with
  | some (t, ks, vs) => if isKey t b then (match dLook b ks vs with
    | some v => .ok v M
    | none => .bad) else .bad
  | none => .bad
/-- d.get(k, x) -/
def dgetdD (a b x : D) (M : List Cell) : R D := match dctOf M a with
  | some (t, ks, vs) => if isKey t b then .ok ((dLook b ks vs).getD x) M else .bad
  | none => .bad
/-- k in d -/
def dinD (ng : Bool) (a b : D) (M : List Cell) : R D := match dctOf M b with
  | some (t, ks, vs) => if isKey t a then .ok (.bl (if ng then !(dLook a ks vs).isSome else (dLook a ks vs).isSome)) M else .bad
  | none => .bad
/-- list(d) -/
def dlstD (m : Bool) (a : D) (M : List Cell) : R D := match a with
  | .ref i => match M[i]? with
    | some ⟨true, .dct _ ks _⟩ => new m ks M
    | _ => .bad
  | _ => .bad
/-- max(d.values()), sum(d.values()) -/
def dvalsD (M : List Cell) (a : D) : Option (List Int) := match dctOf M a with
  | some (false, _, vs) => intsOf vs
  | _ => none
/-- d[k] = v -/
def dsetD (o i v : D) (M : List Cell) : Option (List Cell) := match o with
  | .ref p => match M[p]? with
    | some ⟨true, .dct t ks vs⟩ => if isKey t i = true ∧ ks.length < LIM then some (M.set p ⟨true, .dct t (dPutK i ks) (dPutV i v ks vs)⟩) else none
    | _ => none
  | _ => none
/-- a dict is walked: it is written to no more -/
def lockD (a : D) (M : List Cell) : Option (Bool × List D × List D × List Cell) := match a with
  | .ref p => match M[p]? with
    | some ⟨_, .dct t ks vs⟩ => some (t, ks, vs, M.set p ⟨false, .dct t ks vs⟩)
    | _ => none
  | _ => none
/-- list(range(i, j)) -/
def lrngD (m : Bool) (a b : D) (M : List Cell) : R D := match a, b with
  | .int i, .int j => if B62 i ∧ B62 j then new m (upTo i (j - i).toNat) M else .bad
  | _, _ => .bad
/-- a list made of another one, backwards -/
def rvlD (m : Bool) (d : D) (M : List Cell) : R D := match listOf M d with
  | some xs => new m xs.reverse M
  | none => .bad
def toBl (d : D) (M : List Cell) : R Bool := match d with
  | .bl k => .ok k M
  | _ => .bad
def holds (i : Nat) (xs : List D) (M : List Cell) : Bool := match M[i]? with
  | some ⟨true, .lst ys⟩ => beqXs ys xs
  | _ => false
/-- a comprehension over a list that may be written to later -/
def compVL (i : Nat) (ys : List D) (step : D → List Cell → R (Option D)) : List D → List Cell → R (List D)
  | [], M => if holds i ys M = true then .ok [] M else .bad
  | x :: xs, M => if holds i ys M = true then (step x M).nox.bind fun y M1 => (compVL i ys step xs M1).bind fun zs M2 => match y with
    | some y => .ok (y :: zs) M2
    | none => .ok zs M2 else .bad
mutual
def evE (Φ : Phi) : E → St → List Cell → R D
  | .var i, σ, M => match σ[i]? with
    | some (some d) => .ok d M
    | _ => .bad
  | .c d, _, M => .ok d M
  | .glob _ d, _, M => .ok d M
  | .bin m op a b, σ, M => (evE Φ a σ M).bind fun x M1 => (evE Φ b σ M1).bind fun y M2 => bop m op x y M2
  | .un op a, σ, M => (evE Φ a σ M).bind fun x M1 => uop op x M1
  | .cmp op a b, σ, M => (evE Φ a σ M).bind fun x M1 => (evE Φ b σ M1).bind fun y M2 => cop op x y M2
  | .chain o1 o2 a b c, σ, M => (evE Φ a σ M).bind fun x M1 => (evE Φ b σ M1).bind fun y M2 => ((cop o1 x y M2).bind toBl).bind fun k M3 => if k = true then (evE Φ c σ M3).bind fun z M4 => cop o2 y z M4 else .ok (.bl false) M3
  | .bop op es, σ, M => evB Φ op es σ M
  | .ite c a b, σ, M => ((evE Φ c σ M).bind toBl).bind fun k M1 => if k = true then evE Φ a σ M1 else evE Φ b σ M1
  | .tup es, σ, M => (evEs Φ es σ M).bind fun ds M1 => if ds.length ≤ LIM then .ok (.tup ds) M1 else .bad
  | .ktup es, σ, M => (evEs Φ es σ M).bind fun ds M1 => if ds.length ≤ LIM then .ok (.ktp ds) M1 else .bad
  | .lst m es, σ, M => (evEs Φ es σ M).bind fun ds M1 => new m ds M1
  | .idx a b, σ, M => (evE Φ a σ M).bind fun x M1 => (evE Φ b σ M1).bind fun y M2 => idxD x y M2
  | .slc m a lo hi, σ, M => (evE Φ a σ M).bind fun x M1 => (evO Φ lo σ M1).bind fun l M2 => (evO Φ hi σ M2).bind fun h M3 => slcD m x l h M3
  | .call f mode es, σ, M => (evEs Φ es σ M).bind fun ds M1 => callD Φ f mode ds M1
  | .bi f es, σ, M => (evEs Φ es σ M).bind fun ds M1 => bi f ds M1
  | .isi a t, σ, M => (evE Φ a σ M).bind fun x M1 => match isi t x M1 with
    | some k => .ok (.bl k) M1
    | none => .bad
  | .meth f a es, σ, M => (evE Φ a σ M).bind fun x M1 => match content M1 x with
    | some _ => (evEs Φ es σ M1).bind fun ds M2 => meth f x ds M2
    | none => .bad
  | .tm f a es, σ, M => (evE Φ a σ M).bind fun x M1 => match x with
    | .str z => (evEs Φ es σ M1).bind fun ds M2 => tmD f z ds M2
    | _ => .bad
  | .comp m own t it c e, σ, M => (evIt Φ it σ M).bind fun xs M1 => (compL (fun x M2 => (evT Φ t x (wipeD σ own) M2).bind fun σ1 M3 =>
      (evC Φ c σ1 M3).bind fun k M4 => if k then (evE Φ e σ1 M4).bind fun y M5 => .ok (some y) M5 else .ok none M4) xs M1).bind fun ys M2 => new m ys M2
  | .rep m a b, σ, M => (evE Φ a σ M).bind fun x M1 => (evE Φ b σ M1).bind fun y M2 => repD m x y M2
  | .compV m own t l c e, σ, M => (evE Φ l σ M).bind fun d M1 => match d with
    | .ref i => match M1[i]? with
      | some ⟨true, .lst xs⟩ => (compVL i xs (fun x M2 => (evT Φ t x (wipeD σ own) M2).bind fun σ1 M3 =>
          (evC Φ c σ1 M3).bind fun k M4 => if k then (evE Φ e σ1 M4).bind fun y M5 => .ok (some y) M5 else .ok none M4) xs M1).bind fun ys M2 => new m ys M2
      | _ => .bad
    | _ => .bad
  | .xis i k, σ, M => match σ[i]? with
    | some (some (.exo a)) => Φ 0 [.exo a, .int k] M
    | _ => .bad
  | .orL a b, σ, M => match evE Φ a σ M with
    | .ok d M1 => (match content M1 d with
      | some [] => (match evE Φ b σ M1 with
        | .ok d2 M2 => (match content M2 d2 with
          | some _ => .ok d2 M2
          | none => .bad)
        | _ => .bad)
      | some (_ :: _) => .ok d M1
      | none => .bad)
    | _ => .bad
  | .snap e, σ, M => match evE Φ e (σ.map fun o => o.bind (imm M)) [] with
    | .ok d _ => if isFlat d = true then .ok d M else .bad
    | .exc c _ => .exc c M
    | .bad => .bad
  | .hole, _, _ => .bad
  | .lrng m a, σ, M => (evE Φ a σ M).bind fun d M1 => lrngD m (.int 0) d M1
  | .lrng2 m a b, σ, M => (evE Φ a σ M).bind fun d M1 => (evE Φ b σ M1).bind fun e M2 => lrngD m d e M2
  | .rvl m _ a, σ, M => (evE Φ a σ M).bind fun d M1 => rvlD m d M1
  | .dnew t, _, M => .ok (.ref M.length) (M ++ [⟨true, .dct t [] []⟩])
  | .dlit ks vs, _, M => .ok (.ref M.length) (M ++ [⟨true, .dct false ks vs⟩])
  | .dun e, σ, M => (evE Φ e σ M).bind fun d M1 => .ok (.ref M1.length) (M1 ++ [⟨true, .dct true [.ktp []] [d]⟩])
  | .dget a b, σ, M => (evE Φ a σ M).bind fun x M1 => (evE Φ b σ M1).bind fun y M2 => dgetD x y M2
  | .dgetd a b c, σ, M => (evE Φ a σ M).bind fun x M1 => match dctOf M1 x with
    | some _ => (evE Φ b σ M1).bind fun y M2 => (evE Φ c σ M2).bind fun z M3 => dgetdD x y z M3
    | none => .bad
  | .din ng a b, σ, M => (evE Φ a σ M).bind fun x M1 => (evE Φ b σ M1).bind fun y M2 => dinD ng x y M2
  | .dlst m a, σ, M => (evE Φ a σ M).bind fun x M1 => dlstD m x M1
  | .dmax a, σ, M => (evE Φ a σ M).bind fun x M1 => match dvalsD M1 x with
    | some (i :: r) => .ok (.int (maxI (i :: r))) M1
    | _ => .bad
  | .dsum a, σ, M => (evE Φ a σ M).bind fun x M1 => match dvalsD M1 x with
    | some r => .ok (.int r.sum) M1
    | none => .bad
def evB (Φ : Phi) (op : BoolOp) : Es → St → List Cell → R D
  | .nil, _, _ => .bad
  | .cons a .nil, σ, M => evE Φ a σ M
  | .cons a (.cons b r), σ, M => ((evE Φ a σ M).bind toBl).bind fun k M1 => match op with
    | .And => if k = true then evB Φ op (.cons b r) σ M1 else .ok (.bl false) M1
    | .Or => if k = true then .ok (.bl true) M1 else evB Φ op (.cons b r) σ M1
def evO (Φ : Phi) : O → St → List Cell → R (Option Int)
  | .no, _, M => .ok none M
  | .so e, σ, M => (evE Φ e σ M).bind fun d M1 => match d with
    | .int i => .ok (some i) M1
    | _ => .bad
def evC (Φ : Phi) : O → St → List Cell → R Bool
  | .no, _, M => .ok true M
  | .so e, σ, M => (evE Φ e σ M).bind toBl
def evEs (Φ : Phi) : Es → St → List Cell → R (List D)
  | .nil, _, M => .ok [] M
  | .cons e es, σ, M => (evE Φ e σ M).bind fun d M1 => (evEs Φ es σ M1).bind fun ds M2 => .ok (d :: ds) M2
def evIt (Φ : Phi) : It → St → List Cell → R (List D)
  | .val e, σ, M => (evE Φ e σ M).bind fun d M1 => match seqOf M1 d with
    | some xs => .ok xs (stop1 d M1)
    | none => .bad
  | .rng1 a, σ, M => (evE Φ a σ M).bind fun d M1 => match d with
    | .int j => if B62 j then .ok (upTo 0 j.toNat) M1 else .bad
    | _ => .bad
  | .rng2 a b, σ, M => (evE Φ a σ M).bind fun d M1 => (evE Φ b σ M1).bind fun e M2 => match d, e with
    | .int i, .int j => if B62 i ∧ B62 j then .ok (upTo i (j - i).toNat) M2 else .bad
    | _, _ => .bad
  | .rng3 a b c, σ, M => (evE Φ a σ M).bind fun d M1 => (evE Φ b σ M1).bind fun e M2 => (evE Φ c σ M2).bind fun g M3 => match d, e, g with
    | .int i, .int j, .int k => if k = -1 ∧ B62 i ∧ B62 j then .ok (upBy i (-1) (i - j).toNat) M3 else .bad
    | _, _, _ => .bad
  | .zip a b, σ, M => (evE Φ a σ M).bind fun d M1 => (evE Φ b σ M1).bind fun e M2 => match listOf M2 d, listOf M2 e with
    | some xs, some ys => .ok (zipD xs ys) (stop1 e (stop1 d M2))
    | _, _ => .bad
  | .enum a, σ, M => (evE Φ a σ M).bind fun d M1 => match listOf M1 d with
    | some xs => .ok (enumD 0 xs) (stop1 d M1)
    | none => .bad
  | .rev a, σ, M => (evE Φ a σ M).bind fun d M1 => match listOf M1 d with
    | some xs => .ok xs.reverse (stop1 d M1)
    | none => .bad
  | .revR a, σ, M => (evE Φ a σ M).bind fun d M1 => match d with
    | .int j => if B62 j then .ok (upBy (0 + ((j - 0).toNat : Nat) - 1) (-1) (j - 0).toNat) M1 else .bad
    | _ => .bad
  | .revR2 a b, σ, M => (evE Φ a σ M).bind fun d M1 => (evE Φ b σ M1).bind fun e M2 => match d, e with
    | .int i, .int j => if B62 i ∧ B62 j then .ok (upBy (i + ((j - i).toNat : Nat) - 1) (-1) (j - i).toNat) M2 else .bad
    | _, _ => .bad
  | .keys a, σ, M => (evE Φ a σ M).bind fun d M1 => match lockD d M1 with
    | some (_, ks, _, M2) => .ok ks M2
    | none => .bad
  | .vals a, σ, M => (evE Φ a σ M).bind fun d M1 => match lockD d M1 with
    | some (false, _, vs, M2) => .ok vs M2
    | _ => .bad
  | .chars a, σ, M => (evE Φ a σ M).bind fun d M1 => match d with
    | .str z => .ok (z.cps.toList.map fun c => D.str ⟨#[c]⟩) M1
    | _ => .bad
def evT (Φ : Phi) : T → D → St → List Cell → R St
  | .var i, d, σ, M => .ok (σ.set i (some d)) M
  | .tup ts, d, σ, M => match d with
    | .tup xs => evTs Φ ts xs σ M
    | _ => .bad
  | .idx o i, d, σ, M => (evE Φ o σ M).nox.bind fun x M1 => (evE Φ i σ M1).nox.bind fun y M2 => match setD x y d M2 with
    | some M3 => .ok σ M3
    | none => .bad
def evTs (Φ : Phi) : Ts → List D → St → List Cell → R St
  | .nil, [], σ, M => .ok σ M
  | .cons t ts, d :: ds, σ, M => (evT Φ t d σ M).bind fun σ1 M1 => evTs Φ ts ds σ1 M1
  | _, _, _, _ => .bad
end

inductive Fl where
  | nx | rt (d : D) | bk | ct
inductive Qr where
  | ok (f : Fl) (σ : St) (M : List Cell)
  | exc (c : Nat) (σ : St) (M : List Cell)
  | bad
/-- an error is looked at -/
def Qr.look (q : Qr) (f : Nat → St → List Cell → Qr) : Qr := match q with
  | .exc c σ M => f c σ M
  | .ok a σ M => .ok a σ M
  | .bad => .bad
/-- what is returned of the error's word -/
def twR (w : Tw) (x : Str) (M : List Cell) : R D := match w with
  | .word => .ok (.str x) M
  | .lword => .ok (.lst [.str x]) M
  | .weq y => cop .Eq (.str x) (.str y) M
/-- an expression's end within a statement -/
def R.st {α : Type} (r : R α) (σ : St) (f : α → List Cell → Qr) : Qr := match r with
  | .ok a M => f a M
  | .exc c M => .exc c σ M
  | .bad => .bad
@[simp] theorem R.st_ok {α : Type} (a : α) (M : List Cell) (σ : St) (f : α → List Cell → Qr) : (R.ok a M).st σ f = f a M := rfl
@[simp] theorem R.st_exc {α : Type} (c : Nat) (M : List Cell) (σ : St) (f : α → List Cell → Qr) : (R.exc c M : R α).st σ f = .exc c σ M := rfl
@[simp] theorem R.st_bad {α : Type} (σ : St) (f : α → List Cell → Qr) : (R.bad : R α).st σ f = .bad := rfl
/-- on to the next statement -/
def Qr.seq (q : Qr) (f : St → List Cell → Qr) : Qr := match q with
  | .ok .nx σ M => f σ M
  | q => q
@[simp] theorem Qr.seq_nx (σ : St) (M : List Cell) (f : St → List Cell → Qr) : (Qr.ok .nx σ M).seq f = f σ M := rfl
@[simp] theorem Qr.seq_rt (d : D) (σ : St) (M : List Cell) (f : St → List Cell → Qr) : (Qr.ok (.rt d) σ M).seq f = .ok (.rt d) σ M := rfl
@[simp] theorem Qr.seq_bk (σ : St) (M : List Cell) (f : St → List Cell → Qr) : (Qr.ok .bk σ M).seq f = .ok .bk σ M := rfl
@[simp] theorem Qr.seq_ct (σ : St) (M : List Cell) (f : St → List Cell → Qr) : (Qr.ok .ct σ M).seq f = .ok .ct σ M := rfl
@[simp] theorem Qr.seq_exc (c : Nat) (σ : St) (M : List Cell) (f : St → List Cell → Qr) : (Qr.exc c σ M).seq f = .exc c σ M := rfl
@[simp] theorem Qr.seq_bad (f : St → List Cell → Qr) : Qr.bad.seq f = .bad := rfl
/-- behind a loop's turn -/
def Qr.turn (q : Qr) (f : St → List Cell → Qr) : Qr := match q with
  | .ok .nx σ M => f σ M
  | .ok .ct σ M => f σ M
  | .ok .bk σ M => .ok .nx σ M
  | q => q
@[simp] theorem Qr.turn_nx (σ : St) (M : List Cell) (f : St → List Cell → Qr) : (Qr.ok .nx σ M).turn f = f σ M := rfl
@[simp] theorem Qr.turn_ct (σ : St) (M : List Cell) (f : St → List Cell → Qr) : (Qr.ok .ct σ M).turn f = f σ M := rfl
@[simp] theorem Qr.turn_bk (σ : St) (M : List Cell) (f : St → List Cell → Qr) : (Qr.ok .bk σ M).turn f = .ok .nx σ M := rfl
@[simp] theorem Qr.turn_rt (d : D) (σ : St) (M : List Cell) (f : St → List Cell → Qr) : (Qr.ok (.rt d) σ M).turn f = .ok (.rt d) σ M := rfl
@[simp] theorem Qr.turn_exc (c : Nat) (σ : St) (M : List Cell) (f : St → List Cell → Qr) : (Qr.exc c σ M).turn f = .exc c σ M := rfl
@[simp] theorem Qr.turn_bad (f : St → List Cell → Qr) : Qr.bad.turn f = .bad := rfl
def forL (step : D → St → List Cell → Qr) : List D → St → List Cell → Qr
  | [], σ, M => .ok .nx σ M
  | x :: xs, σ, M => (step x σ M).turn fun σ1 M1 => forL step xs σ1 M1
def forV (i : Nat) (ys : List D) (step : D → St → List Cell → Qr) : List D → St → List Cell → Qr
  | [], σ, M => if holds i ys M = true then .ok .nx σ M else .bad
  | x :: xs, σ, M => if holds i ys M = true then (step x σ M).turn fun σ1 M1 => forV i ys step xs σ1 M1 else .bad
/-- a while's turns, at most n -/
def whlL (test : St → List Cell → R D) (body : St → List Cell → Qr) : Nat → St → List Cell → Qr
  | 0, _, _ => .bad
  | n + 1, σ, M => ((test σ M).bind toBl).st σ fun k M1 => if k = true then (body σ M1).turn fun σ2 M2 => whlL test body n σ2 M2 else .ok .nx σ M1
@[irreducible] def FUEL : Nat := 2 ^ 20000
mutual
def evS (Φ : Phi) : S → St → List Cell → Qr
  | .expr e, σ, M => (evE Φ e σ M).st σ fun _ M1 => .ok .nx σ M1
  | .asg t e, σ, M => (evE Φ e σ M).st σ fun d M1 => (evT Φ t d σ M1).nox.st σ fun σ1 M2 => .ok .nx σ1 M2
  | .par i j a b, σ, M => (evE Φ a σ M).st σ fun x M1 => (evE Φ b σ M1).st σ fun y M2 => .ok .nx ((σ.set i (some x)).set j (some y)) M2
  | .aug i op e, σ, M => match σ[i]? with
    | some (some x) => (evE Φ e σ M).st σ fun y M1 => (match x, y with
      | .int a, .int b => (bopI op (.int a) (.int b) M1).st σ fun z M2 => .ok .nx (σ.set i (some z)) M2
      | _, _ => .bad)
    | _ => .bad
  | .ite c a b, σ, M => ((evE Φ c σ M).bind toBl).st σ fun k M1 => if k = true then evSs Φ a σ M1 else evSs Φ b σ M1
  | .whl c b, σ, M => whlL (fun σ1 M1 => evE Φ c σ1 M1) (fun σ1 M1 => evSs Φ b σ1 M1) FUEL σ M
  | .for t it b, σ, M => (evIt Φ it σ M).st σ fun xs M1 => forL (fun x σ1 M2 => (evT Φ t x σ1 M2).nox.st σ1 fun σ2 M3 => evSs Φ b σ2 M3) xs σ M1
  | .forL t e b, σ, M => (evE Φ e σ M).st σ fun d M1 => match d with
    | .ref i => match M1[i]? with
      | some ⟨true, .lst xs⟩ => forV i xs (fun x σ1 M2 => (evT Φ t x σ1 M2).nox.st σ1 fun σ2 M3 => evSs Φ b σ2 M3) xs σ M1
      | _ => .bad
    | _ => .bad
  | .forE t e b, σ, M => (evE Φ e σ M).st σ fun d M1 => match d with
    | .ref i => match M1[i]? with
      | some ⟨true, .lst xs⟩ => forV i xs (fun x σ1 M2 => (evT Φ t x σ1 M2).nox.st σ1 fun σ2 M3 => evSs Φ b σ2 M3) (enumD 0 xs) σ M1
      | _ => .bad
    | _ => .bad
  | .ret e, σ, M => match e with
    | .so e => (evE Φ e σ M).st σ fun d M1 => .ok (.rt d) σ M1
    | .no => .ok (.rt .non) σ M
  | .pass, σ, M => .ok .nx σ M
  | .brk, σ, M => .ok .bk σ M
  | .cont, σ, M => .ok .ct σ M
  | .raise c, σ, M => .exc c σ M
  | .tryW i b w, σ, M => (evSs Φ b σ M).look fun c σ1 M1 => match Φ 0 [.int c] [] with
    | .ok (.str x) _ => if i < σ1.length then (match twR w x M1 with
      | .ok d M2 => .ok (.rt d) (σ1.set i none) M2
      | _ => .bad) else .bad
    | _ => .bad
  | .tryN k b d, σ, M => (evSs Φ b σ M).look fun c σ1 M1 => if c = k then .ok (.rt d) σ1 M1 else .bad
  | .hole, _, _ => .bad
  | .dset o i v, σ, M => (evE Φ v σ M).st σ fun z M1 => (evE Φ o σ M1).st σ fun x M2 => (evE Φ i σ M2).st σ fun y M3 => match dsetD x y z M3 with
    | some M4 => .ok .nx σ M4
    | none => .bad
def evSs (Φ : Phi) : Ss → St → List Cell → Qr
  | .nil, σ, M => .ok .nx σ M
  | .cons s ss, σ, M => (evS Φ s σ M).seq fun σ1 M1 => evSs Φ ss σ1 M1
end
/-- a def: its parameters, all its slots, its body -/
structure Df where
  ps : Nat
  n : Nat
  body : Ss
def start (n : Nat) (ds : List D) : St := ds.map some ++ List.replicate (n - ds.length) none
def evD (Φ : Phi) (d : Df) (ds : List D) (M : List Cell) : R D :=
  if ds.length = d.ps then (match evSs Φ d.body (start d.n ds) M with
    | .ok .nx _ M1 => .ok .non M1
    | .ok (.rt x) _ M1 => .ok x M1
    | .exc c _ M1 => .exc c M1
    | _ => .bad) else .bad
end
end Sg

namespace Sg
open PySem PySem.Spec PyProof.Rows L2
abbrev St2 := L2.St

def keyOf : D → Option Key
  | .int i => some (.inl i)
  | .str x => some (.inr x)
  | _ => none
def keysOf : List D → Option (List Key)
  | [] => some []
  | x :: xs => (keyOf x).bind fun a => (keysOf xs).map fun b => a :: b
def keyT : D → Option (List Key)
  | .ktp xs => keysOf xs
  | _ => none
def keysT : List D → Option (List (List Key))
  | [] => some []
  | x :: xs => (keyT x).bind fun a => (keysT xs).map fun b => a :: b

mutual
def beqD : D → D → Bool
  | .non, .non => true
  | .bl a, .bl b => a == b
  | .int a, .int b => a == b
  | .str a, .str b => decide (a = b)
  | .tup xs, .tup ys => beqDs xs ys
  | .ktp xs, .ktp ys => beqDs xs ys
  | .lst xs, .lst ys => beqDs xs ys
  | _, _ => false
def beqDs : List D → List D → Bool
  | [], [] => true
  | x :: xs, y :: ys => beqD x y && beqDs xs ys
  | _, _ => false
end
mutual
theorem beqD_eq : (a b : D) → beqD a b = true → a = b
  | .non, b, h => by cases b <;> first | rfl | cases h
  | .bl a, b, h => by
    cases b <;> first | (rw [beqD] at h; rw [eq_of_beq h]) | cases h
  | .int a, b, h => by
    cases b <;> first | (rw [beqD] at h; rw [eq_of_beq h]) | cases h
  | .str a, b, h => by
    cases b <;> first | (rw [beqD] at h; rw [of_decide_eq_true h]) | cases h
  | .tup xs, b, h => by
    cases b <;> first | (rw [beqD] at h; rw [beqDs_eq xs _ h]) | cases h
  | .ktp xs, b, h => by
    cases b <;> first | (rw [beqD] at h; rw [beqDs_eq xs _ h]) | cases h
  | .lst xs, b, h => by
    cases b <;> first | (rw [beqD] at h; rw [beqDs_eq xs _ h]) | cases h
  | .fro _, b, h => by cases b <;> cases h
  | .dct _ _ _, b, h => by cases b <;> cases h
  | .exo _, b, h => by cases b <;> cases h
  | .ref _, b, h => by cases b <;> cases h
theorem beqDs_eq : (a b : List D) → beqDs a b = true → a = b
  | [], [], _ => rfl
  | [], _ :: _, h => by cases h
  | _ :: _, [], h => by cases h
  | x :: xs, y :: ys, h => by
    rw [beqDs, Bool.and_eq_true] at h
    rw [beqD_eq x y h.1, beqDs_eq xs ys h.2]
end
/-- a list from outside: locked, or of the written part -/
def FroK (K : PySem.W.Frag) (H : Hp) (a : Addr) (xs : List V) : Prop := (∃ o, H a = some (.frz o (.lst xs))) ∨
  ∃ (o : Obj) (its : Array Value) (n : Nat), K.lookup a = some o ∧ o.cls = .type "list" ∧ o.dict = none ∧ o.data = .seq its n ∧ its.size ≤ sizeLine ∧ Vals xs its.toList
theorem FroK.sql {K : PySem.W.Frag} {H : Hp} {a : Addr} {xs : List V} (h : FroK K H a xs) : SqL K H a xs := h.elim (fun ⟨o, e⟩ => .inl (.inr ⟨o, e⟩)) .inr
section
variable (K : PySem.W.Frag) (H : Hp) (B : Addr → Prop) (as : List Addr)
mutual
/-- v is the value d; B: where no tree's list stands; as: where the places stand -/
def Rp : D → V → Prop
  | .non, v => v = .non
  | .bl b, v => v = .bl b
  | .int i, v => v = .int i
  | .str x, v => v = .str x
  | .tup xs, v => ∃ a vs, v = .ref a ∧ SqT K H a vs ∧ Rps xs vs
  | .ktp xs, v => ∃ a vs, v = .ref a ∧ H a = some (.tup vs) ∧ Rps xs vs
  | .lst xs, v => ∃ a vs, v = .ref a ∧ H a = some (.lst vs) ∧ ¬ B a ∧ Rps xs vs
  | .fro xs, v => ∃ a vs, v = .ref a ∧ FroK K H a vs ∧ Rps xs vs
  | .dct false ks ds, v => ∃ a kvs, v = .ref a ∧ Rd H a (.dK kvs) ∧ ¬ B a ∧ keysOf ks = some (kvs.map (·.1)) ∧ Rps ds (kvs.map (·.2))
  | .dct true ks ds, v => ∃ a kvs, v = .ref a ∧ Rd H a (.dT kvs) ∧ ¬ B a ∧ keysT ks = some (kvs.map (·.1)) ∧ Rps ds (kvs.map (·.2))
  | .ref i, v => ∃ a, as[i]? = some a ∧ v = .ref a
  | .exo a, v => v = .ref a
def Rps : List D → List V → Prop
  | [], vs => vs = []
  | x :: xs, vs => ∃ v r, vs = v :: r ∧ Rp x v ∧ Rps xs r
end
/-- a cell lies at a -/
def Cp (a : Addr) : Cell → Prop
  | ⟨true, .lst xs⟩ => ∃ vs, H a = some (.lst vs) ∧ Rps K H B as xs vs
  | ⟨true, .dct false ks ds⟩ => ∃ kvs, H a = some (.dK kvs) ∧ keysOf ks = some (kvs.map (·.1)) ∧ Rps K H B as ds (kvs.map (·.2))
  | ⟨true, .dct true ks ds⟩ => ∃ kvs, H a = some (.dT kvs) ∧ keysT ks = some (kvs.map (·.1)) ∧ Rps K H B as ds (kvs.map (·.2))
  | ⟨true, _⟩ => False
  | ⟨false, .lst xs⟩ => Rp K H B as (.lst xs) (.ref a)
  | ⟨false, .dct false ks ds⟩ => ∃ o kvs, H a = some (.frz o (.dK kvs)) ∧ ¬ B a ∧ keysOf ks = some (kvs.map (·.1)) ∧ Rps K H B as ds (kvs.map (·.2))
  | ⟨false, .dct true ks ds⟩ => ∃ o kvs, H a = some (.frz o (.dT kvs)) ∧ ¬ B a ∧ keysT ks = some (kvs.map (·.1)) ∧ Rps K H B as ds (kvs.map (·.2))
  | ⟨false, .non⟩ => H a ≠ none
  | ⟨false, _⟩ => False
end
/-- a place that may be written to stands at a -/
def Live (as : List Addr) (M : List Cell) (a : Addr) : Prop := ∃ (i : Nat) (d : D), as[i]? = some a ∧ M[i]? = some (Cell.mk true d)
abbrev Av (B : Addr → Prop) (as : List Addr) (M : List Cell) : Addr → Prop := fun a => B a ∨ Live as M a
structure Sim (K : PySem.W.Frag) (H : Hp) (B : Addr → Prop) (as : List Addr) (M : List Cell) : Prop where
  len : as.length = M.length
  nd : as.Nodup
  b0 : ∀ a, B a → H a ≠ none
  dj : ∀ a ∈ as, ¬ B a
  cell : ∀ (i : Nat) (a : Addr) (c : Cell), as[i]? = some a → M[i]? = some c → Cp K H (Av B as M) as a c
/-- from one state to a later one -/
structure Go (as : List Addr) (M : List Cell) (H : Hp) (as' : List Addr) (M' : List Cell) (H' : Hp) : Prop where
  pre : as <+: as'
  keep : ∀ a o, H a = some o → ¬ Live as M a → H' a = some o
  live : ∀ a, H a ≠ none → Live as' M' a → Live as M a
  dom : ∀ a, H a ≠ none → H' a ≠ none
  new : ∀ (i : Nat) (a : Addr), as.length ≤ i → as'[i]? = some a → H a = none

theorem Cp.ne {K H B as a c} (h : Cp K H B as a c) : H a ≠ none := by
  obtain ⟨m, d⟩ := c
  intro e
  cases m <;> cases d <;> try (exact h.elim)
  · exact h e
  · obtain ⟨a', vs, e1, r, _⟩ := h
    cases e1
    rw [e] at r; cases r
  · rename_i t ks ds
    cases t
    · obtain ⟨o, vs, r, _⟩ := h
      rw [e] at r; cases r
    · obtain ⟨o, vs, r, _⟩ := h
      rw [e] at r; cases r
  · obtain ⟨vs, r, _⟩ := h
    rw [e] at r; cases r
  · rename_i t ks ds
    cases t
    · obtain ⟨vs, r, _⟩ := h
      rw [e] at r; cases r
    · obtain ⟨vs, r, _⟩ := h
      rw [e] at r; cases r
/-- what may be written to is a list or a dict -/
theorem Cp.mut {K H B as a d} (h : Cp K H B as a ⟨true, d⟩) : (∃ vs, H a = some (.lst vs)) ∨ (∃ kvs, H a = some (.dK kvs)) ∨ ∃ kvs, H a = some (.dT kvs) := by
  cases d <;> try (exact h.elim)
  · obtain ⟨vs, r, _⟩ := h
    exact .inl ⟨vs, r⟩
  · rename_i t ks ds
    cases t
    · obtain ⟨vs, r, _⟩ := h
      exact .inr (.inl ⟨vs, r⟩)
    · obtain ⟨vs, r, _⟩ := h
      exact .inr (.inr ⟨vs, r⟩)
section
variable {K : PySem.W.Frag} {H H' H'' : Hp} {B B' : Addr → Prop} {as as' as'' : List Addr} {M M' M'' : List Cell}
theorem Sim.lt {i : Nat} {a : Addr} (S : Sim K H B as M) (h : as[i]? = some a) : ∃ c, M[i]? = some c ∧ Cp K H (Av B as M) as a c := by
  have h1 : i < as.length := (List.getElem?_eq_some_iff.mp h).1
  have h2 : i < M.length := by rw [← S.len]; exact h1
  exact ⟨M[i], List.getElem?_eq_getElem h2, S.cell i a _ h (List.getElem?_eq_getElem h2)⟩
theorem Sim.at {i : Nat} {c : Cell} (S : Sim K H B as M) (h : M[i]? = some c) : ∃ a, as[i]? = some a ∧ Cp K H (Av B as M) as a c := by
  have h1 : i < M.length := (List.getElem?_eq_some_iff.mp h).1
  have h2 : i < as.length := by rw [S.len]; exact h1
  exact ⟨as[i], List.getElem?_eq_getElem h2, S.cell i _ c (List.getElem?_eq_getElem h2) h⟩
theorem Sim.dom (S : Sim K H B as M) {a : Addr} (h : a ∈ as) : H a ≠ none := by
  obtain ⟨i, hi⟩ := List.getElem?_of_mem h
  obtain ⟨c, _, q⟩ := S.lt hi
  exact q.ne
theorem Live.mem {a : Addr} (h : Live as M a) : a ∈ as := by
  obtain ⟨i, d, h, _⟩ := h
  exact List.mem_of_getElem? h
theorem Sim.mut (S : Sim K H B as M) {a : Addr} (h : Live as M a) : (∃ vs, H a = some (.lst vs)) ∨ (∃ kvs, H a = some (.dK kvs)) ∨ ∃ kvs, H a = some (.dT kvs) := by
  obtain ⟨i, d, h1, h2⟩ := h
  exact (S.cell i a _ h1 h2).mut
theorem Sim.tupNL (S : Sim K H B as M) {a : Addr} {vs : List V} (h : Rd H a (.tup vs)) : ¬ Live as M a := fun l => by
  rcases S.mut l with ⟨x, e⟩ | ⟨x, e⟩ | ⟨x, e⟩ <;> rcases h with h | ⟨o, h⟩ <;> rw [h] at e <;> cases e
theorem Sim.frzNL (S : Sim K H B as M) {a : Addr} {o : Obj} {u : HO} (h : H a = some (.frz o u)) : ¬ Live as M a := fun l => by
  rcases S.mut l with ⟨x, e⟩ | ⟨x, e⟩ | ⟨x, e⟩ <;> rw [h] at e <;> cases e
theorem Go.rd (g : Go as M H as' M' H') {a : Addr} {u : HO} (h : Rd H a u) (n : ¬ Live as M a) : Rd H' a u := by
  rcases h with h | ⟨o, h⟩
  · exact .inl (g.keep _ _ h n)
  · exact .inr ⟨o, g.keep _ _ h n⟩
theorem Rd.ne {a : Addr} {u : HO} (h : Rd H a u) : H a ≠ none := by
  rcases h with h | ⟨o, h⟩ <;> rw [h] <;> simp
theorem Go.sqt (S : Sim K H B as M) (g : Go as M H as' M' H') {a : Addr} {vs : List V} (h : SqT K H a vs) : SqT K H' a vs := by
  rcases h with h | h
  · exact .inl (g.rd h (S.tupNL h))
  · exact .inr h
theorem Go.tpl (S : Sim K H B as M) (g : Go as M H as' M' H') {a : Addr} {vs : List V} (h : H a = some (.tup vs)) : H' a = some (.tup vs) := g.keep _ _ h (S.tupNL (.inl h))
theorem Go.refl : Go as M H as M H := ⟨List.prefix_rfl, fun _ _ h _ => h, fun _ _ h => h, fun _ h => h, fun i a h1 h2 => by
  rw [List.getElem?_eq_none h1] at h2; cases h2⟩
theorem Go.trans (g : Go as M H as' M' H') (g' : Go as' M' H' as'' M'' H'') : Go as M H as'' M'' H'' := by
  have fwd : ∀ a, H a ≠ none → Live as'' M'' a → Live as M a := fun a h l => g.live a h (g'.live a (g.dom a h) l)
  refine ⟨g.pre.trans g'.pre, fun a o h n => ?_, fwd, fun a h => g'.dom a (g.dom a h), fun i a h1 h2 => ?_⟩
  · refine g'.keep a o (g.keep a o h n) fun l => n (g.live a (by rw [h]; simp) l)
  · by_cases hi : as'.length ≤ i
    · have e := g'.new i a hi h2
      cases q : H a with
      | none => rfl
      | some o => exact absurd e (g.dom a (by rw [q]; simp))
    · have hlt : i < as'.length := by omega
      obtain ⟨t, ht⟩ := g'.pre
      have : as'[i]? = some a := by
        rw [← ht, List.getElem?_append_left hlt] at h2
        exact h2
      exact g.new i a h1 this
theorem get_pre {i : Nat} {a : Addr} (p : as <+: as') (h : as[i]? = some a) : as'[i]? = some a := by
  obtain ⟨t, rfl⟩ := p
  rw [List.getElem?_append_left (List.getElem?_eq_some_iff.mp h).1]; exact h

mutual
theorem Rp.mono (hp : as <+: as') (ht : ∀ a vs, SqT K H a vs → SqT K H' a vs) (hk : ∀ a vs, H a = some (.tup vs) → H' a = some (.tup vs)) (hl : ∀ a u, H a = some u → ¬ B a → H' a = some u ∧ ¬ B' a) (hf : ∀ a o u, H a = some (.frz o u) → H' a = some (.frz o u)) : (d : D) → (v : V) → Rp K H B as d v → Rp K H' B' as' d v
  | .non, _, h => h
  | .bl _, _, h => h
  | .int _, _, h => h
  | .str _, _, h => h
  | .exo _, _, h => h
  | .tup xs, _, h => by
    obtain ⟨a, vs, e, s, r⟩ := h
    exact ⟨a, vs, e, ht _ _ s, Rps.mono hp ht hk hl hf xs vs r⟩
  | .ktp xs, _, h => by
    obtain ⟨a, vs, e, s, r⟩ := h
    exact ⟨a, vs, e, hk _ _ s, Rps.mono hp ht hk hl hf xs vs r⟩
  | .lst xs, _, h => by
    obtain ⟨a, vs, e, s, n, r⟩ := h
    obtain ⟨s', n'⟩ := hl _ _ s n
    exact ⟨a, vs, e, s', n', Rps.mono hp ht hk hl hf xs vs r⟩
  | .fro xs, _, h => by
    obtain ⟨a, vs, e, s, r⟩ := h
    exact ⟨a, vs, e, s.imp_left fun ⟨o, z⟩ => ⟨o, hf _ _ _ z⟩, Rps.mono hp ht hk hl hf xs vs r⟩
  | .dct false ks ds, _, h => by
    obtain ⟨a, kvs, e, s, n, k, r⟩ := h
    rcases s with s | ⟨o, s⟩
    · obtain ⟨s', n'⟩ := hl _ _ s n
      exact ⟨a, kvs, e, .inl s', n', k, Rps.mono hp ht hk hl hf ds _ r⟩
    · obtain ⟨s', n'⟩ := hl _ _ s n
      exact ⟨a, kvs, e, .inr ⟨o, s'⟩, n', k, Rps.mono hp ht hk hl hf ds _ r⟩
  | .dct true ks ds, _, h => by
    obtain ⟨a, kvs, e, s, n, k, r⟩ := h
    rcases s with s | ⟨o, s⟩
    · obtain ⟨s', n'⟩ := hl _ _ s n
      exact ⟨a, kvs, e, .inl s', n', k, Rps.mono hp ht hk hl hf ds _ r⟩
    · obtain ⟨s', n'⟩ := hl _ _ s n
      exact ⟨a, kvs, e, .inr ⟨o, s'⟩, n', k, Rps.mono hp ht hk hl hf ds _ r⟩
  | .ref i, _, h => by
    obtain ⟨a, e, q⟩ := h
    exact ⟨a, get_pre hp e, q⟩
theorem Rps.mono (hp : as <+: as') (ht : ∀ a vs, SqT K H a vs → SqT K H' a vs) (hk : ∀ a vs, H a = some (.tup vs) → H' a = some (.tup vs)) (hl : ∀ a u, H a = some u → ¬ B a → H' a = some u ∧ ¬ B' a) (hf : ∀ a o u, H a = some (.frz o u) → H' a = some (.frz o u)) : (ds : List D) → (vs : List V) → Rps K H B as ds vs → Rps K H' B' as' ds vs
  | [], _, h => h
  | x :: xs, _, h => by
    obtain ⟨v, r, e, h1, h2⟩ := h
    exact ⟨v, r, e, Rp.mono hp ht hk hl hf x v h1, Rps.mono hp ht hk hl hf xs r h2⟩
end
theorem Go.hl (g : Go as M H as' M' H') : ∀ a u, H a = some u → ¬ Av B as M a → H' a = some u ∧ ¬ Av B as' M' a := fun a u r n =>
  ⟨g.keep a u r fun l => n (.inr l), fun z => z.elim (fun b => n (.inl b)) fun l => n (.inr (g.live a (by rw [r]; simp) l))⟩
theorem Go.frz (S : Sim K H B as M) (g : Go as M H as' M' H') : ∀ a o u, H a = some (.frz o u) → H' a = some (.frz o u) := fun a o u h => g.keep a _ h (S.frzNL h)
theorem Go.rp (S : Sim K H B as M) (g : Go as M H as' M' H') {d : D} {v : V} (h : Rp K H (Av B as M) as d v) : Rp K H' (Av B as' M') as' d v :=
  Rp.mono g.pre (fun _ _ => g.sqt S) (fun _ _ => g.tpl S) g.hl (g.frz S) d v h
theorem Go.rps (S : Sim K H B as M) (g : Go as M H as' M' H') {d : List D} {v : List V} (h : Rps K H (Av B as M) as d v) : Rps K H' (Av B as' M') as' d v :=
  Rps.mono g.pre (fun _ _ => g.sqt S) (fun _ _ => g.tpl S) g.hl (g.frz S) d v h
theorem Rps.len : ∀ {ds : List D} {vs : List V}, Rps K H B as ds vs → vs.length = ds.length
  | [], _, h => by cases h; rfl
  | x :: xs, _, h => by
    obtain ⟨v, r, rfl, _, h2⟩ := h
    simp only [List.length_cons, h2.len]
theorem Rps.get : ∀ {ds : List D} {vs : List V} {i : Nat} {d : D}, Rps K H B as ds vs → ds[i]? = some d → ∃ v, vs[i]? = some v ∧ Rp K H B as d v
  | [], _, _, _, _, e => by simp at e
  | x :: xs, _, 0, d, h, e => by
    obtain ⟨v, r, rfl, h1, _⟩ := h
    simp at e; subst e
    exact ⟨v, rfl, h1⟩
  | x :: xs, _, i + 1, d, h, e => by
    obtain ⟨v, r, rfl, _, h2⟩ := h
    obtain ⟨w, e1, e2⟩ := Rps.get (i := i) h2 (by simpa using e)
    exact ⟨w, by simpa using e1, e2⟩
theorem Rps.append : ∀ {ds es : List D} {vs ws : List V}, Rps K H B as ds vs → Rps K H B as es ws → Rps K H B as (ds ++ es) (vs ++ ws)
  | [], _, _, _, h, h' => by cases h; exact h'
  | x :: xs, _, _, _, h, h' => by
    obtain ⟨v, r, rfl, h1, h2⟩ := h
    exact ⟨v, r ++ _, rfl, h1, h2.append h'⟩
theorem Rps.one {d : D} {v : V} (h : Rp K H B as d v) : Rps K H B as [d] [v] := ⟨v, [], rfl, h, rfl⟩
theorem Rps.take : ∀ {ds : List D} {vs : List V} (n : Nat), Rps K H B as ds vs → Rps K H B as (ds.take n) (vs.take n)
  | _, _, 0, _ => by simp [Rps]
  | [], _, n + 1, h => by cases h; simp [Rps]
  | x :: xs, _, n + 1, h => by
    obtain ⟨v, r, rfl, h1, h2⟩ := h
    exact ⟨v, r.take n, rfl, h1, h2.take n⟩
theorem Rps.drop : ∀ {ds : List D} {vs : List V} (n : Nat), Rps K H B as ds vs → Rps K H B as (ds.drop n) (vs.drop n)
  | _, _, 0, h => by simpa using h
  | [], _, n + 1, h => by cases h; simp [Rps]
  | x :: xs, _, n + 1, h => by
    obtain ⟨v, r, rfl, h1, h2⟩ := h
    simpa using h2.drop n
theorem Rps.set : ∀ {ds : List D} {vs : List V} {d : D} {v : V} (n : Nat), Rps K H B as ds vs → Rp K H B as d v → Rps K H B as (ds.set n d) (vs.set n v)
  | [], _, _, _, _, h, _ => by cases h; simp [Rps]
  | x :: xs, _, d, w, 0, h, q => by
    obtain ⟨v, r, rfl, h1, h2⟩ := h
    exact ⟨w, r, rfl, q, h2⟩
  | x :: xs, _, d, w, n + 1, h, q => by
    obtain ⟨v, r, rfl, h1, h2⟩ := h
    exact ⟨v, r.set n w, rfl, h1, h2.set n q⟩
theorem Rps.dropLast {ds : List D} {vs : List V} (h : Rps K H B as ds vs) : Rps K H B as ds.dropLast vs.dropLast := by
  rw [List.dropLast_eq_take, List.dropLast_eq_take, h.len]
  exact h.take _
theorem Rps.reverse : ∀ {ds : List D} {vs : List V}, Rps K H B as ds vs → Rps K H B as ds.reverse vs.reverse
  | [], _, h => by cases h; simp [Rps]
  | x :: xs, _, h => by
    obtain ⟨v, r, rfl, h1, h2⟩ := h
    simp only [List.reverse_cons]
    exact h2.reverse.append (Rps.one h1)
theorem Rps.cut {ds : List D} {vs : List V} (lo hi : Option Int) (h : Rps K H B as ds vs) : Rps K H B as (cutL ds lo hi) (cutV vs lo hi) := by
  unfold cutL cutV
  rw [h.len]
  exact (h.drop _).take _

theorem Sim.fresh (S : Sim K H B as M) {p : Addr} (hp : H p = none) : p ∉ as := fun h => S.dom h hp
/-- a thing that is not in the small heap is laid -/
theorem Go.laid {p : Addr} {o : HO} (S : Sim K H B as M) (hp : H p = none) : Go as M H as M (upd H p o) :=
  ⟨List.prefix_rfl, fun a u h _ => by rw [upd_ne (ne_of_none h hp)]; exact h, fun _ _ h => h, fun a h => by
    by_cases e : a = p
    · subst e; rw [upd_same]; simp
    · rw [upd_ne e]; exact h, fun i a h1 h2 => by rw [List.getElem?_eq_none h1] at h2; cases h2⟩
/-- the state stands, if all things do -/
theorem Sim.stay (S : Sim K H B as M) (g : Go as M H as M H') (hm : ∀ a o, H a = some o → H' a = some o) : Sim K H' B as M :=
  ⟨S.len, S.nd, fun a h => g.dom a (S.b0 a h), S.dj, fun i a c h1 h2 => by
    have q := S.cell i a c h1 h2
    obtain ⟨m, d⟩ := c
    cases m <;> cases d <;> try (exact q.elim)
    · exact g.dom a q
    · exact g.rp S q
    · rename_i t ks ds
      cases t
      · obtain ⟨o, vs, e, n, k, r⟩ := q
        obtain ⟨e', n'⟩ := g.hl _ _ e n
        exact ⟨o, vs, e', n', k, g.rps S r⟩
      · obtain ⟨o, vs, e, n, k, r⟩ := q
        obtain ⟨e', n'⟩ := g.hl _ _ e n
        exact ⟨o, vs, e', n', k, g.rps S r⟩
    · obtain ⟨vs, e, r⟩ := q
      exact ⟨vs, hm _ _ e, g.rps S r⟩
    · rename_i t ks ds
      cases t
      · obtain ⟨vs, e, k, r⟩ := q
        exact ⟨vs, hm _ _ e, k, g.rps S r⟩
      · obtain ⟨vs, e, k, r⟩ := q
        exact ⟨vs, hm _ _ e, k, g.rps S r⟩⟩
theorem Sim.laid {p : Addr} {o : HO} (S : Sim K H B as M) (hp : H p = none) : Sim K (upd H p o) B as M :=
  S.stay (Go.laid S hp) fun a u h => by rw [upd_ne (ne_of_none h hp)]; exact h
theorem Live.app {a p : Addr} {c : Cell} (l : as.length = M.length) (h : Live (as ++ [p]) (M ++ [c]) a) : Live as M a ∨ (a = p ∧ c.m = true) := by
  obtain ⟨i, d, h1, h2⟩ := h
  by_cases hi : i < as.length
  · rw [List.getElem?_append_left hi] at h1
    rw [List.getElem?_append_left (by rw [← l]; exact hi)] at h2
    exact .inl ⟨i, d, h1, h2⟩
  · rw [List.getElem?_append_right (by omega)] at h1
    rw [List.getElem?_append_right (by omega)] at h2
    have e1 : i - as.length = 0 := by
      cases q : i - as.length with
      | zero => rfl
      | succ n => rw [q] at h1; simp at h1
    have e2 : i - M.length = 0 := by omega
    rw [e1] at h1; rw [e2] at h2
    simp at h1 h2
    exact .inr ⟨h1.symm, by rw [h2]⟩
/-- a new list becomes a place -/
theorem Go.push {p : Addr} {ob : HO} {c : Cell} (S : Sim K H B as M) (hp : H p = none) : Go as M H (as ++ [p]) (M ++ [c]) (upd H p ob) := by
  refine ⟨List.prefix_append _ _, fun a u h _ => by rw [upd_ne (ne_of_none h hp)]; exact h, fun a h l => ?_, fun a h => by
    by_cases e : a = p
    · subst e; rw [upd_same]; simp
    · rw [upd_ne e]; exact h, fun i a h1 h2 => ?_⟩
  · rcases Live.app S.len l with l | ⟨rfl, _⟩
    · exact l
    · exact absurd hp h
  · have e : i - as.length = 0 := by
      rw [List.getElem?_append_right h1] at h2
      cases q : i - as.length with
      | zero => rfl
      | succ n => rw [q] at h2; simp at h2
    rw [List.getElem?_append_right h1, e] at h2
    simp at h2
    subst h2; exact hp
theorem Cp.go {a : Addr} {c : Cell} (S : Sim K H B as M) (g : Go as M H as' M' H') (q : Cp K H (Av B as M) as a c) (hm : c.m = true → ∀ o, H a = some o → H' a = some o) : Cp K H' (Av B as' M') as' a c := by
  obtain ⟨m, d⟩ := c
  cases m <;> cases d <;> try (exact q.elim)
  · exact g.dom a q
  · exact g.rp S q
  · rename_i t ks ds
    cases t
    · obtain ⟨o, vs, e, n, k, r⟩ := q
      obtain ⟨e', n'⟩ := g.hl _ _ e n
      exact ⟨o, vs, e', n', k, g.rps S r⟩
    · obtain ⟨o, vs, e, n, k, r⟩ := q
      obtain ⟨e', n'⟩ := g.hl _ _ e n
      exact ⟨o, vs, e', n', k, g.rps S r⟩
  · obtain ⟨vs, e, r⟩ := q
    exact ⟨vs, hm rfl _ e, g.rps S r⟩
  · rename_i t ks ds
    cases t
    · obtain ⟨vs, e, k, r⟩ := q
      exact ⟨vs, hm rfl _ e, k, g.rps S r⟩
    · obtain ⟨vs, e, k, r⟩ := q
      exact ⟨vs, hm rfl _ e, k, g.rps S r⟩
theorem Sim.push {p : Addr} {vs : List V} {xs : List D} (S : Sim K H B as M) (hp : H p = none) (r : Rps K H (Av B as M) as xs vs) : Sim K (upd H p (.lst vs)) B (as ++ [p]) (M ++ [⟨true, .lst xs⟩]) := by
  have g : Go as M H (as ++ [p]) (M ++ [⟨true, .lst xs⟩]) (upd H p (.lst vs)) := Go.push S hp
  refine ⟨by simp [S.len], ?_, fun a h => g.dom a (S.b0 a h), fun a h => ?_, fun i a c h1 h2 => ?_⟩
  · rw [List.nodup_append]
    refine ⟨S.nd, by simp, fun a ha b hb => ?_⟩
    simp at hb; subst hb
    exact fun e => S.fresh hp (e ▸ ha)
  · rcases List.mem_append.mp h with h | h
    · exact S.dj a h
    · simp at h; subst h
      exact fun b => S.b0 _ b hp
  · by_cases hi : i < as.length
    · rw [List.getElem?_append_left hi] at h1
      rw [List.getElem?_append_left (by rw [← S.len]; exact hi)] at h2
      exact (S.cell i a c h1 h2).go S g fun _ o e => by rw [upd_ne (ne_of_none e hp)]; exact e
    · rw [List.getElem?_append_right (by omega)] at h1
      rw [List.getElem?_append_right (by have := S.len; omega)] at h2
      have e1 : i - as.length = 0 := by
        cases q : i - as.length with
        | zero => rfl
        | succ n => rw [q] at h1; simp at h1
      have e2 : i - M.length = 0 := by have := S.len; omega
      rw [e1] at h1; rw [e2] at h2
      simp at h1 h2
      subst h1; subst h2
      exact ⟨vs, upd_same, g.rps S r⟩
theorem set_get {i j : Nat} {c c' : Cell} (h : (M.set i c)[j]? = some c') : (j = i ∧ c' = c ∧ i < M.length) ∨ (j ≠ i ∧ M[j]? = some c') := by
  by_cases e : j = i
  · subst e
    by_cases hi : j < M.length
    · rw [List.getElem?_set_self hi] at h
      cases h
      exact .inl ⟨rfl, rfl, hi⟩
    · rw [List.getElem?_eq_none (by simpa using hi)] at h; cases h
  · rw [List.getElem?_set_ne (Ne.symm e)] at h
    exact .inr ⟨e, h⟩
/-- a place is written to -/
theorem Go.put {i : Nat} {a : Addr} {d d' : D} {o : HO} (S : Sim K H B as M) (ha : as[i]? = some a) (hc : M[i]? = some ⟨true, d⟩) : Go as M H as (M.set i ⟨true, d'⟩) (upd H a o) := by
  refine ⟨List.prefix_rfl, fun b u h n => ?_, fun b h l => ?_, fun b h => by
    by_cases e : b = a
    · subst e; rw [upd_same]; simp
    · rw [upd_ne e]; exact h, fun i a h1 h2 => by rw [List.getElem?_eq_none h1] at h2; cases h2⟩
  · have : b ≠ a := fun e => n (e ▸ ⟨i, d, ha, hc⟩)
    rw [upd_ne this]; exact h
  · obtain ⟨j, e, h1, h2⟩ := l
    rcases set_get h2 with ⟨rfl, _, _⟩ | ⟨_, h2⟩
    · rw [ha] at h1; cases h1
      exact ⟨j, d, ha, hc⟩
    · exact ⟨j, e, h1, h2⟩
theorem nd_ix {i j : Nat} {a : Addr} (S : Sim K H B as M) (h : as[i]? = some a) (h' : as[j]? = some a) : i = j := by
  obtain ⟨h1, e1⟩ := List.getElem?_eq_some_iff.mp h
  obtain ⟨h2, e2⟩ := List.getElem?_eq_some_iff.mp h'
  exact (List.getElem_inj S.nd).mp (e1.trans e2.symm)
theorem Sim.put {i : Nat} {a : Addr} {d : D} {xs : List D} {vs : List V} (S : Sim K H B as M) (ha : as[i]? = some a) (hc : M[i]? = some ⟨true, d⟩) (r : Rps K H (Av B as M) as xs vs) : Sim K (upd H a (.lst vs)) B as (M.set i ⟨true, .lst xs⟩) := by
  have g : Go as M H as (M.set i ⟨true, .lst xs⟩) (upd H a (.lst vs)) := Go.put S ha hc
  refine ⟨by simp [S.len], S.nd, fun a h => g.dom a (S.b0 a h), S.dj, fun j b c h1 h2 => ?_⟩
  rcases set_get h2 with ⟨rfl, rfl, _⟩ | ⟨hj, h2⟩
  · rw [ha] at h1; cases h1
    exact ⟨vs, upd_same, g.rps S r⟩
  · refine (S.cell j b c h1 h2).go S g fun _ o e => ?_
    have : b ≠ a := fun e => hj (nd_ix S h1 (e ▸ ha))
    rw [upd_ne this]; exact e
/-- a place is written to no more -/
theorem Go.stop (S : Sim K H B as M) (d : D) : Go as M H as (stop1 d M) H := by
  unfold stop1
  cases d <;> try (exact Go.refl)
  rename_i i
  dsimp only
  split
  · rename_i mm xs hc
    refine ⟨List.prefix_rfl, fun _ _ h _ => h, fun b h l => ?_, fun _ h => h, fun i a h1 h2 => by rw [List.getElem?_eq_none h1] at h2; cases h2⟩
    obtain ⟨j, e, h1, h2⟩ := l
    rcases set_get h2 with ⟨rfl, q, _⟩ | ⟨_, h2⟩
    · cases q
    · exact ⟨j, e, h1, h2⟩
  · exact Go.refl
theorem Sim.stop (S : Sim K H B as M) (d : D) : Sim K H B as (stop1 d M) := by
  have g := Go.stop S d
  refine ⟨?_, S.nd, S.b0, S.dj, ?_⟩
  · rw [S.len]
    unfold stop1
    cases d <;> try rfl
    rename_i i
    dsimp only
    split
    · simp
    · rfl
  · intro j b c h1 h2
    have base : ∀ c, M[j]? = some c → Cp K H (Av B as (stop1 d M)) as b c := fun c h2 => (S.cell j b c h1 h2).go S g fun _ o e => e
    cases d <;> try (exact base c h2)
    rename_i i
    unfold stop1 at h2
    dsimp only at h2
    split at h2
    · rename_i mm xs hc
      rcases set_get h2 with ⟨rfl, rfl, _⟩ | ⟨hj, h2⟩
      · have q := S.cell j b _ h1 hc
        have nl : ¬ Av B as (stop1 (.ref j) M) b := fun z => by
          rcases z with z | ⟨k, e, z1, z2⟩
          · exact S.dj b (List.mem_of_getElem? h1) z
          · have := nd_ix S z1 h1
            subst this
            unfold stop1 at z2
            dsimp only at z2
            rw [hc] at z2
            rcases set_get z2 with ⟨_, q, _⟩ | ⟨z, _⟩
            · cases q
            · exact z rfl
        cases mm
        · exact g.rp S q
        · obtain ⟨vs, e, r⟩ := q
          exact ⟨b, vs, rfl, e, nl, g.rps S r⟩
      · exact base c h2
    · exact base c h2

theorem content_ref {i : Nat} {xs : List D} (h : content M (.ref i) = some xs) : ∃ m, M[i]? = some ⟨m, .lst xs⟩ := by
  have h' : (match M[i]? with
    | some ⟨_, .lst xs⟩ => some xs
    | _ => none) = some xs := h
  split at h'
  · rename_i m ys hc
    cases h'
    exact ⟨m, hc⟩
  · cases h'
theorem content_rp {d : D} {v : V} {xs : List D} (S : Sim K H B as M) (r : Rp K H (Av B as M) as d v) (h : content M d = some xs) : ∃ a vs, v = .ref a ∧ H a = some (.lst vs) ∧ Rps K H (Av B as M) as xs vs := by
  cases d with
  | lst ys =>
    cases h
    obtain ⟨a, vs, e, s, _, q⟩ := r
    exact ⟨a, vs, e, s, q⟩
  | ref i =>
    obtain ⟨a, e, rfl⟩ := r
    obtain ⟨m, hc⟩ := content_ref h
    have q := S.cell i a _ e hc
    cases m
    · obtain ⟨b, vs, e1, s, _, q⟩ := q
      cases e1
      exact ⟨a, vs, rfl, s, q⟩
    · obtain ⟨vs, s, q⟩ := q
      exact ⟨a, vs, rfl, s, q⟩
  | _ => cases h
theorem listOf_rp {d : D} {v : V} {xs : List D} (S : Sim K H B as M) (r : Rp K H (Av B as M) as d v) (h : listOf M d = some xs) : ∃ a vs, v = .ref a ∧ SqL K H a vs ∧ Rps K H (Av B as M) as xs vs := by
  by_cases ht : ∃ ys, d = .fro ys
  · obtain ⟨ys, rfl⟩ := ht
    cases h
    obtain ⟨a, vs, e, s, q⟩ := r
    exact ⟨a, vs, e, s.sql, q⟩
  · have h' : content M d = some xs := by
      cases d <;> first | exact h | exact absurd ⟨_, rfl⟩ ht
    obtain ⟨a, vs, e, s, q⟩ := content_rp S r h'
    exact ⟨a, vs, e, .of s, q⟩
theorem seq_rp {d : D} {v : V} {xs : List D} (S : Sim K H B as M) (r : Rp K H (Av B as M) as d v) (h : seqOf M d = some xs) : ∃ a vs, v = .ref a ∧ (SqL K H a vs ∨ SqT K H a vs) ∧ Rps K H (Av B as M) as xs vs := by
  by_cases ht : ∃ ys, d = .tup ys
  · obtain ⟨ys, rfl⟩ := ht
    cases h
    obtain ⟨a, vs, e, s, q⟩ := r
    exact ⟨a, vs, e, .inr s, q⟩
  · by_cases hk : ∃ ys, d = .ktp ys
    · obtain ⟨ys, rfl⟩ := hk
      cases h
      obtain ⟨a, vs, e, s, q⟩ := r
      exact ⟨a, vs, e, .inr (.inl (.inl s)), q⟩
    have h' : listOf M d = some xs := by
      cases d <;> first | exact h | exact absurd ⟨_, rfl⟩ ht | exact absurd ⟨_, rfl⟩ hk
    obtain ⟨a, vs, e, s, q⟩ := listOf_rp S r h'
    exact ⟨a, vs, e, .inl s, q⟩
end
end Sg

namespace Sg
open PySem PySem.Spec PyProof.Rows L2

/-- what is wanted behind a step: rel tells how what comes of it lies -/
def PostG {α β : Type} (K : PySem.W.Frag) (H : Hp) (B : Addr → Prop) (as : List Addr) (M : List Cell) (E : Nat → Hp → Prop) (rel : List Addr → List Cell → Hp → α → β → Prop) (r : R α) (Q : β → Hp → Prop) : Prop := match r with
  | .ok d M' => ∀ as' H' v, Go as M H as' M' H' → Sim K H' B as' M' → rel as' M' H' d v → Q v H'
  | .exc c M' => ∀ as' H', Go as M H as' M' H' → Sim K H' B as' M' → E c H'
  | .bad => False
abbrev relD (K : PySem.W.Frag) (B : Addr → Prop) : List Addr → List Cell → Hp → D → V → Prop := fun as' M' H' d v => Rp K H' (Av B as' M') as' d v
abbrev relDs (K : PySem.W.Frag) (B : Addr → Prop) : List Addr → List Cell → Hp → List D → List V → Prop := fun as' M' H' d v => Rps K H' (Av B as' M') as' d v
abbrev relEq {α : Type} : List Addr → List Cell → Hp → α → α → Prop := fun _ _ _ d v => d = v
abbrev PostD (K : PySem.W.Frag) (H : Hp) (B : Addr → Prop) (as : List Addr) (M : List Cell) (E : Nat → Hp → Prop) (r : R D) (Q : VK) : Prop := PostG K H B as M E (relD K B) r Q
theorem PostG.go {α β : Type} {K : PySem.W.Frag} {H H1 : Hp} {B : Addr → Prop} {as as1 : List Addr} {M M1 : List Cell} {E : Nat → Hp → Prop} {rel : List Addr → List Cell → Hp → α → β → Prop} {r : R α} {Q : β → Hp → Prop}
    (h : PostG K H B as M E rel r Q) (g : Go as M H as1 M1 H1) : PostG K H1 B as1 M1 E rel r Q := by
  cases r with
  | ok d M' => exact fun as' H' v g' S q => h as' H' v (g.trans g') S q
  | exc c M' => exact fun as' H' g' S => h as' H' (g.trans g') S
  | bad => exact h
theorem PostG.eq {α β : Type} {K : PySem.W.Frag} {H : Hp} {B : Addr → Prop} {as : List Addr} {M : List Cell} {E : Nat → Hp → Prop} {rel : List Addr → List Cell → Hp → α → β → Prop} {r r' : R α} {Q : β → Hp → Prop}
    (e : r = r') (h : PostG K H B as M E rel r Q) : PostG K H B as M E rel r' Q := e ▸ h
theorem post_bind {α β γ δ : Type} {K : PySem.W.Frag} {H : Hp} {B : Addr → Prop} {as : List Addr} {M : List Cell} {E : Nat → Hp → Prop} {rel1 : List Addr → List Cell → Hp → α → β → Prop} {rel2 : List Addr → List Cell → Hp → γ → δ → Prop}
    {r : R α} {f : α → List Cell → R γ} {Q : δ → Hp → Prop} {Q' : β → Hp → Prop} (h : PostG K H B as M E rel2 (r.bind f) Q)
    (k : ∀ a M1 as1 H1 b, r = .ok a M1 → Go as M H as1 M1 H1 → Sim K H1 B as1 M1 → rel1 as1 M1 H1 a b → PostG K H1 B as1 M1 E rel2 (f a M1) Q → Q' b H1) : PostG K H B as M E rel1 r Q' := by
  cases r with
  | ok a M1 => exact fun as' H' v g S q => k a M1 as' H' v rfl g S q (PostG.go h g)
  | exc c M1 => exact h
  | bad => exact h
theorem LIM_le : LIM ≤ sizeLine := by rw [sizeLine_eq]; decide
theorem LIM_lt : LIM < sizeLine := by rw [sizeLine_eq]; decide
section
variable {K : PySem.W.Frag} {H : Hp} {B : Addr → Prop} {as : List Addr} {M : List Cell} {E : Nat → Hp → Prop} {Q : VK}
theorem PostD.at (S : Sim K H B as M) {d : D} {v : V} (h : PostD K H B as M E (.ok d M) Q) (r : Rp K H (Av B as M) as d v) : Q v H := h as H v Go.refl S r
theorem Sim.notAv (S : Sim K H B as M) {p : Addr} (hp : H p = none) : ¬ Av B as M p := fun z => z.elim (fun b => S.b0 p b hp) fun l => S.fresh hp l.mem
theorem new_post {m : Bool} {xs : List D} {vs : List V} (S : Sim K H B as M) (r : Rps K H (Av B as M) as xs vs) (h : PostD K H B as M E (new m xs M) Q) :
    vs.length ≤ LIM ∧ ∀ p, H p = none → Q (.ref p) (upd H p (.lst vs)) := by
  unfold new at h
  split at h
  · rename_i hl
    refine ⟨by rw [r.len]; exact hl, fun p hp => ?_⟩
    cases m
    · have g : Go as M H as M (upd H p (.lst vs)) := Go.laid S hp
      exact h as _ _ g (Sim.laid S hp) ⟨p, vs, rfl, upd_same, S.notAv hp, g.rps S r⟩
    · refine h (as ++ [p]) _ _ (Go.push S hp) (Sim.push S hp r) ⟨p, ?_, rfl⟩
      rw [← S.len, List.getElem?_append_right (Nat.le_refl _), Nat.sub_self]; rfl
  · exact h.elim
theorem tup_post {xs : List D} {vs : List V} (S : Sim K H B as M) (r : Rps K H (Av B as M) as xs vs) (h : PostD K H B as M E (.ok (.tup xs) M) Q) :
    ∀ p, H p = none → Q (.ref p) (upd H p (.tup vs)) := fun p hp => by
  have g : Go as M H as M (upd H p (.tup vs)) := Go.laid S hp
  exact h as _ _ g (Sim.laid S hp) ⟨p, vs, rfl, .inl (.inl upd_same), g.rps S r⟩
end

theorem ktup_post' {K : PySem.W.Frag} {H : Hp} {B : Addr → Prop} {as : List Addr} {M : List Cell} {E : Nat → Hp → Prop} {Q : VK} {xs : List D} {vs : List V} (S : Sim K H B as M) (r : Rps K H (Av B as M) as xs vs) (h : PostD K H B as M E (.ok (.ktp xs) M) Q) :
    ∀ p, H p = none → Q (.ref p) (upd H p (.tup vs)) := fun p hp => by
  have g : Go as M H as M (upd H p (.tup vs)) := Go.laid S hp
  exact h as _ _ g (Sim.laid S hp) ⟨p, vs, rfl, upd_same, g.rps S r⟩
theorem mapRef_keyOf {f : Nat → Option D} {x x' : D} {k : Key} (e : mapRef f x = some x') (h : keyOf x = some k) : keyOf x' = some k := by
  cases x <;> first | (cases h; done) | skip
  · cases e; exact h
  · cases e; exact h
theorem mapRefs_keysOf {f : Nat → Option D} : ∀ {xs xs' : List D} {ks : List Key}, mapRefs f xs = some xs' → keysOf xs = some ks → keysOf xs' = some ks
  | [], _, _, e, h => by cases e; exact h
  | x :: xs, _, _, e, h => by
    rw [mapRefs] at e
    rw [keysOf] at h
    cases q1 : mapRef f x with
    | none => rw [q1] at e; cases e
    | some x' =>
      cases q2 : mapRefs f xs with
      | none => rw [q1, q2] at e; cases e
      | some xs' =>
        rw [q1, q2] at e; cases e
        cases k1 : keyOf x with
        | none => rw [k1] at h; cases h
        | some k =>
          cases k2 : keysOf xs with
          | none => rw [k1, k2] at h; cases h
          | some kk =>
            rw [k1, k2] at h; cases h
            rw [keysOf, mapRef_keyOf q1 k1, mapRefs_keysOf q2 k2]; rfl
theorem mapRef_keyT {f : Nat → Option D} {x x' : D} {k : List Key} (e : mapRef f x = some x') (h : keyT x = some k) : keyT x' = some k := by
  cases x <;> first | (cases h; done) | skip
  rename_i xs
  rw [mapRef] at e
  cases q : mapRefs f xs with
  | none => rw [q] at e; cases e
  | some ys =>
    rw [q] at e; cases e
    exact mapRefs_keysOf q h
theorem mapRefs_keysT {f : Nat → Option D} : ∀ {xs xs' : List D} {ks : List (List Key)}, mapRefs f xs = some xs' → keysT xs = some ks → keysT xs' = some ks
  | [], _, _, e, h => by cases e; exact h
  | x :: xs, _, _, e, h => by
    rw [mapRefs] at e
    rw [keysT] at h
    cases q1 : mapRef f x with
    | none => rw [q1] at e; cases e
    | some x' =>
      cases q2 : mapRefs f xs with
      | none => rw [q1, q2] at e; cases e
      | some xs' =>
        rw [q1, q2] at e; cases e
        cases k1 : keyT x with
        | none => rw [k1] at h; cases h
        | some k =>
          cases k2 : keysT xs with
          | none => rw [k1, k2] at h; cases h
          | some kk =>
            rw [k1, k2] at h; cases h
            rw [keysT, mapRef_keyT q1 k1, mapRefs_keysT q2 k2]; rfl
section
variable {K : PySem.W.Frag} {H : Hp} {B : Addr → Prop} {as : List Addr} {M : List Cell}
mutual
theorem mapRef_rp {B' : Addr → Prop} {as' : List Addr} {f : Nat → Option D} (hB : ∀ a, ¬ B a → ¬ B' a) (hf : ∀ i e a, f i = some e → as[i]? = some a → Rp K H B' as' e (.ref a)) : (d : D) → (d' : D) → (v : V) → mapRef f d = some d' → Rp K H B as d v → Rp K H B' as' d' v
  | .non, _, _, e, h => by cases e; exact h
  | .bl _, _, _, e, h => by cases e; exact h
  | .int _, _, _, e, h => by cases e; exact h
  | .str _, _, _, e, h => by cases e; exact h
  | .tup xs, _, _, e, h => by
    rw [mapRef] at e
    cases q : mapRefs f xs with
    | none => rw [q] at e; cases e
    | some ys =>
      rw [q] at e; cases e
      obtain ⟨a, vs, e1, s, r⟩ := h
      exact ⟨a, vs, e1, s, mapRefs_rp hB hf xs ys vs q r⟩
  | .ktp xs, _, _, e, h => by
    rw [mapRef] at e
    cases q : mapRefs f xs with
    | none => rw [q] at e; cases e
    | some ys =>
      rw [q] at e; cases e
      obtain ⟨a, vs, e1, s, r⟩ := h
      exact ⟨a, vs, e1, s, mapRefs_rp hB hf xs ys vs q r⟩
  | .lst xs, _, _, e, h => by
    rw [mapRef] at e
    cases q : mapRefs f xs with
    | none => rw [q] at e; cases e
    | some ys =>
      rw [q] at e; cases e
      obtain ⟨a, vs, e1, s, n, r⟩ := h
      exact ⟨a, vs, e1, s, hB _ n, mapRefs_rp hB hf xs ys vs q r⟩
  | .fro xs, _, _, e, h => by
    rw [mapRef] at e
    cases q : mapRefs f xs with
    | none => rw [q] at e; cases e
    | some ys =>
      rw [q] at e; cases e
      obtain ⟨a, vs, e1, s, r⟩ := h
      exact ⟨a, vs, e1, s, mapRefs_rp hB hf xs ys vs q r⟩
  | .dct t ks ds, _, _, e, h => by
    rw [mapRef] at e
    cases q1 : mapRefs f ks with
    | none => rw [q1] at e; cases e
    | some ks' =>
      cases q2 : mapRefs f ds with
      | none => rw [q1, q2] at e; cases e
      | some ds' =>
        rw [q1, q2] at e; cases e
        cases t
        · obtain ⟨a, kvs, e1, s, n, k, r⟩ := h
          refine ⟨a, kvs, e1, s, hB _ n, ?_, mapRefs_rp hB hf ds ds' _ q2 r⟩
          rw [mapRefs_keysOf q1 k]
        · obtain ⟨a, kvs, e1, s, n, k, r⟩ := h
          refine ⟨a, kvs, e1, s, hB _ n, ?_, mapRefs_rp hB hf ds ds' _ q2 r⟩
          rw [mapRefs_keysT q1 k]
  | .ref i, _, _, e, h => by
    obtain ⟨a, e1, rfl⟩ := h
    exact hf i _ a e e1
theorem mapRefs_rp {B' : Addr → Prop} {as' : List Addr} {f : Nat → Option D} (hB : ∀ a, ¬ B a → ¬ B' a) (hf : ∀ i e a, f i = some e → as[i]? = some a → Rp K H B' as' e (.ref a)) : (ds : List D) → (ds' : List D) → (vs : List V) → mapRefs f ds = some ds' → Rps K H B as ds vs → Rps K H B' as' ds' vs
  | [], _, _, e, h => by cases e; exact h
  | x :: xs, _, _, e, h => by
    rw [mapRefs] at e
    cases q1 : mapRef f x with
    | none => rw [q1] at e; cases e
    | some x' =>
      cases q2 : mapRefs f xs with
      | none => rw [q1, q2] at e; cases e
      | some xs' =>
        rw [q1, q2] at e; cases e
        obtain ⟨v, r, e1, h1, h2⟩ := h
        exact ⟨v, r, e1, mapRef_rp hB hf x x' v q1 h1, mapRefs_rp hB hf xs xs' r q2 h2⟩
end
theorem cell_rp {a : Addr} {c : Cell} (S : Sim K H B as M) {i : Nat} (h1 : as[i]? = some a) (h2 : M[i]? = some c) (hc : c.d ≠ .non) : ∃ w, w = V.ref a ∧ Rp K H B as c.d w := by
  have q := S.cell i a c h1 h2
  have nb : ¬ B a := S.dj a (List.mem_of_getElem? h1)
  have wk : ∀ {d : D} {v : V}, Rp K H (Av B as M) as d v → Rp K H B as d v := fun {d v} h => Rp.mono List.prefix_rfl (fun _ _ z => z) (fun _ _ z => z) (fun a u z n => ⟨z, fun b => n (.inl b)⟩) (fun _ _ _ z => z) d v h
  have wks : ∀ {d : List D} {v : List V}, Rps K H (Av B as M) as d v → Rps K H B as d v := fun {d v} h => Rps.mono List.prefix_rfl (fun _ _ z => z) (fun _ _ z => z) (fun a u z n => ⟨z, fun b => n (.inl b)⟩) (fun _ _ _ z => z) d v h
  obtain ⟨m, d⟩ := c
  cases m <;> cases d <;> try (exact q.elim)
  · exact absurd rfl hc
  · exact ⟨_, rfl, wk q⟩
  · rename_i t ks ds
    cases t
    · obtain ⟨o, vs, e, n, k, r⟩ := q
      exact ⟨_, rfl, a, vs, rfl, .inr ⟨o, e⟩, nb, k, wks r⟩
    · obtain ⟨o, vs, e, n, k, r⟩ := q
      exact ⟨_, rfl, a, vs, rfl, .inr ⟨o, e⟩, nb, k, wks r⟩
  · obtain ⟨vs, e, r⟩ := q
    exact ⟨_, rfl, a, vs, rfl, e, nb, wks r⟩
  · rename_i t ks ds
    cases t
    · obtain ⟨vs, e, k, r⟩ := q
      exact ⟨_, rfl, a, vs, rfl, .inl e, nb, k, wks r⟩
    · obtain ⟨vs, e, k, r⟩ := q
      exact ⟨_, rfl, a, vs, rfl, .inl e, nb, k, wks r⟩
theorem immF_rp (S : Sim K H B as M) : ∀ (n : Nat) (d d' : D) (v : V), immF n M d = some d' → Rp K H B as d v → Rp K H B [] d' v
  | 0, d, d', v, e, h => by
    unfold immF at e
    split at e
    · rename_i hi
      cases e
      have e2 := isImm_mapRef (fun _ => none) d hi
      exact mapRef_rp (fun _ z => z) (fun i e a z _ => by cases z) d d v e2 h
    · cases e
  | n + 1, d, d', v, e, h => by
    unfold immF at e
    refine mapRef_rp (fun _ z => z) (fun i g a z1 z2 => ?_) d d' v e h
    obtain ⟨c, hc, _⟩ := S.lt z2
    rw [hc] at z1
    obtain ⟨m, d⟩ := c
    have hd : d ≠ .non := fun z => by
      subst z
      cases z1
    have z3 : immF n M d = some g := by
      cases d <;> first | exact z1 | exact absurd rfl hd
    obtain ⟨w, rfl, q⟩ := cell_rp S z2 hc hd
    exact immF_rp S n d g _ z3 q
theorem Rp.weak {d : D} {v : V} (h : Rp K H (Av B as M) as d v) : Rp K H B as d v := Rp.mono List.prefix_rfl (fun _ _ z => z) (fun _ _ z => z) (fun a u z n => ⟨z, fun b => n (.inl b)⟩) (fun _ _ _ z => z) d v h
theorem imm_rp {d d' : D} {v : V} (S : Sim K H B as M) (e : imm M d = some d') (h : Rp K H (Av B as M) as d v) : Rp K H B [] d' v := immF_rp S _ d d' v e h.weak
theorem imms_rp (S : Sim K H B as M) : ∀ {ds ds' : List D} {vs : List V}, imms M ds = some ds' → Rps K H (Av B as M) as ds vs → Rps K H B [] ds' vs
  | [], _, _, e, h => by cases e; exact h
  | x :: xs, _, _, e, h => by
    rw [imms] at e
    cases q1 : imm M x with
    | none => rw [q1] at e; cases e
    | some x' =>
      cases q2 : imms M xs with
      | none => rw [q1, q2] at e; cases e
      | some xs' =>
        rw [q1, q2] at e; cases e
        obtain ⟨v, r, e1, h1, h2⟩ := h
        exact ⟨v, r, e1, imm_rp S q1 h1, imms_rp S q2 h2⟩
theorem isImms_rp {B' : Addr → Prop} {as' : List Addr} {d : List D} {v : List V} (hB : ∀ a, ¬ B a → ¬ B' a) (e : isImms d = true) (h : Rps K H B as d v) : Rps K H B' as' d v :=
  mapRefs_rp hB (fun i e a z _ => by cases z) d d v (isImm_mapRefs (fun _ => none) d e) h
mutual
theorem isFlat_imm : (d : D) → isFlat d = true → isImm d = true
  | .non, _ => rfl
  | .bl _, _ => rfl
  | .int _, _ => rfl
  | .str _, _ => rfl
  | .tup xs, h => by
    rw [isFlat] at h
    rw [isImm]
    exact isFlats_imm xs h
  | .ktp xs, h => by
    rw [isFlat] at h
    rw [isImm]
    exact isFlats_imm xs h
  | .lst _, h => by rw [isFlat] at h; cases h
  | .fro _, h => by rw [isFlat] at h; cases h
  | .dct _ _ _, h => by rw [isFlat] at h; cases h
  | .exo _, h => by rw [isFlat] at h; cases h
  | .ref _, h => by rw [isFlat] at h; cases h
theorem isFlats_imm : (ds : List D) → isFlats ds = true → isImms ds = true
  | [], _ => rfl
  | x :: xs, h => by
    rw [isFlats, Bool.and_eq_true] at h
    rw [isImms, isFlat_imm x h.1, isFlats_imm xs h.2]
    rfl
end
mutual
theorem isFlat_rp {B' : Addr → Prop} {as' : List Addr} : (d : D) → (v : V) → isFlat d = true → Rp K H B as d v → Rp K H B' as' d v
  | .non, _, _, h => h
  | .bl _, _, _, h => h
  | .int _, _, _, h => h
  | .str _, _, _, h => h
  | .tup xs, _, e, h => by
    rw [isFlat] at e
    obtain ⟨a, vs, e1, s, r⟩ := h
    exact ⟨a, vs, e1, s, isFlats_rp xs vs e r⟩
  | .ktp xs, _, e, h => by
    rw [isFlat] at e
    obtain ⟨a, vs, e1, s, r⟩ := h
    exact ⟨a, vs, e1, s, isFlats_rp xs vs e r⟩
  | .lst _, _, e, _ => by rw [isFlat] at e; cases e
  | .fro _, _, e, _ => by rw [isFlat] at e; cases e
  | .dct _ _ _, _, e, _ => by rw [isFlat] at e; cases e
  | .exo _, _, e, _ => by rw [isFlat] at e; cases e
  | .ref _, _, e, _ => by rw [isFlat] at e; cases e
theorem isFlats_rp {B' : Addr → Prop} {as' : List Addr} : (ds : List D) → (vs : List V) → isFlats ds = true → Rps K H B as ds vs → Rps K H B' as' ds vs
  | [], _, _, h => h
  | x :: xs, _, e, h => by
    rw [isFlats, Bool.and_eq_true] at e
    obtain ⟨v, r, e1, h1, h2⟩ := h
    exact ⟨v, r, e1, isFlat_rp x v e.1 h1, isFlats_rp xs r e.2 h2⟩
end
mutual
theorem toPy_dp : (d : D) → (v : V) → (p : PyData) → toPy d = some p → Rp K H B as d v → Dp K H v p
  | .non, _, _, e, h => by cases e; cases h; exact .non
  | .bl b, _, _, e, h => by cases e; cases h; exact .bl b
  | .int i, _, _, e, h => by cases e; cases h; exact .int i
  | .str x, _, _, e, h => by cases e; cases h; exact .str x
  | .tup xs, _, _, e, h => by
    rw [toPy] at e
    cases q : toPys xs with
    | none => rw [q] at e; cases e
    | some ys =>
      rw [q] at e; cases e
      obtain ⟨a, vs, rfl, s, r⟩ := h
      exact .tup s (toPys_dp xs vs ys q r)
  | .ktp xs, _, _, e, h => by
    rw [toPy] at e
    cases q : toPys xs with
    | none => rw [q] at e; cases e
    | some ys =>
      rw [q] at e; cases e
      obtain ⟨a, vs, rfl, s, r⟩ := h
      exact .tup (.inl (.inl s)) (toPys_dp xs vs ys q r)
  | .lst xs, _, _, e, h => by
    rw [toPy] at e
    cases q : toPys xs with
    | none => rw [q] at e; cases e
    | some ys =>
      rw [q] at e; cases e
      obtain ⟨a, vs, rfl, s, _, r⟩ := h
      exact .lst (.of s) (toPys_dp xs vs ys q r)
  | .fro _, _, _, e, _ => by rw [toPy] at e; cases e
  | .dct _ _ _, _, _, e, _ => by rw [toPy] at e; cases e
  | .exo _, _, _, e, _ => by rw [toPy] at e; cases e
  | .ref _, _, _, e, _ => by rw [toPy] at e; cases e
theorem toPys_dp : (ds : List D) → (vs : List V) → (ps : List PyData) → toPys ds = some ps → Rps K H B as ds vs → DpAll K H vs ps
  | [], _, _, e, h => by cases e; cases h; exact .nil
  | x :: xs, _, _, e, h => by
    rw [toPys] at e
    cases q1 : toPy x with
    | none => rw [q1] at e; cases e
    | some x' =>
      cases q2 : toPys xs with
      | none => rw [q1, q2] at e; cases e
      | some xs' =>
        rw [q1, q2] at e; cases e
        obtain ⟨v, r, rfl, h1, h2⟩ := h
        exact .cons (toPy_dp x v x' q1 h1) (toPys_dp xs r xs' q2 h2)
end
theorem eqD_dp {a b : D} {v w : V} {k : Bool} (S : Sim K H B as M) (ha : Rp K H (Av B as M) as a v) (hb : Rp K H (Av B as M) as b w) (e : eqD M a b = some k) :
    ∃ x y, Dp K H v x ∧ Dp K H w y ∧ SeqAt.shaped x = true ∧ SeqAt.shaped y = true ∧ PyData.eqv x y = k := by
  unfold eqD at e
  cases q1 : imm M a with
  | none => rw [q1] at e; cases e
  | some a' =>
    cases q2 : imm M b with
    | none => rw [q1, q2] at e; cases e
    | some b' =>
      rw [q1, q2] at e
      dsimp only [Option.bind] at e
      cases q3 : toPy a' with
      | none => rw [q3] at e; cases e
      | some x =>
        cases q4 : toPy b' with
        | none => rw [q3, q4] at e; cases e
        | some y =>
          rw [q3, q4] at e
          dsimp only at e
          split at e
          · rename_i hs
            cases e
            exact ⟨x, y, toPy_dp a' v x q3 (imm_rp S q1 ha), toPy_dp b' w y q4 (imm_rp S q2 hb), hs.1, hs.2, rfl⟩
          · cases e
theorem inG_dp {a b : D} {v w : V} {k : Bool} (S : Sim K H B as M) (ha : Rp K H (Av B as M) as a v) (hb : Rp K H (Av B as M) as b w) (e : inG M a b = some k) :
    ∃ x ys, Dp K H v x ∧ Dp K H w (.list ys) ∧ SeqAt.shaped x = true ∧ SeqAt.shaped (.list ys) = true ∧ (ys.any fun z => PyData.eqv z x) = k := by
  unfold inG at e
  split at e
  · cases e
  cases q1 : imm M a with
  | none => rw [q1] at e; cases e
  | some a' =>
    cases q2 : imm M b with
    | none => rw [q1, q2] at e; cases e
    | some b' =>
      rw [q1, q2] at e
      dsimp only [Option.bind] at e
      cases q3 : toPy a' with
      | none => rw [q3] at e; cases e
      | some x =>
        cases q4 : toPy b' with
        | none => rw [q3, q4] at e; cases e
        | some y =>
          rw [q3, q4] at e
          dsimp only at e
          split at e
          · rename_i ys
            split at e
            · rename_i hs
              cases e
              exact ⟨x, ys, toPy_dp a' v x q3 (imm_rp S q1 ha), toPy_dp b' w _ q4 (imm_rp S q2 hb), hs.1, hs.2, rfl⟩
            · cases e
          · cases e
theorem cmpD_dp {a b : D} {v w : V} {p : PyData × PyData} (S : Sim K H B as M) (ha : Rp K H (Av B as M) as a v) (hb : Rp K H (Av B as M) as b w) (e : cmpD M a b = some p) :
    Dp K H v p.1 ∧ Dp K H w p.2 ∧ PySem.W.alike p.1 p.2 = true ∧ p.1 ≠ .none ∧ p.1.depth ≤ 60 := by
  unfold cmpD at e
  cases q1 : imm M a with
  | none => rw [q1] at e; cases e
  | some a' =>
    cases q2 : imm M b with
    | none => rw [q1, q2] at e; cases e
    | some b' =>
      rw [q1, q2] at e
      dsimp only [Option.bind] at e
      cases q3 : toPy a' with
      | none => rw [q3] at e; cases e
      | some x =>
        cases q4 : toPy b' with
        | none => rw [q3, q4] at e; cases e
        | some y =>
          rw [q3, q4] at e
          dsimp only at e
          split at e
          · rename_i hs
            cases e
            exact ⟨toPy_dp a' v x q3 (imm_rp S q1 ha), toPy_dp b' w y q4 (imm_rp S q2 hb), hs.1, fun z => by
              have hz : x = .none := z
              rw [hz] at hs
              exact absurd hs.2.1 (by decide), hs.2.2⟩
          · cases e
mutual
theorem ofPy_toPy : (d : D) → (p : PyData) → plnD d = true → toPy d = some p → ofPy p = d
  | .non, _, _, e => by cases e; rfl
  | .bl _, _, _, e => by cases e; rfl
  | .int _, _, _, e => by cases e; rfl
  | .str _, _, _, e => by cases e; rfl
  | .tup xs, _, h, e => by
    rw [plnD] at h
    rw [toPy] at e
    cases q : toPys xs with
    | none => rw [q] at e; cases e
    | some ys => rw [q] at e; cases e; rw [ofPy, ofPys_toPys xs ys h q]
  | .lst xs, _, h, e => by
    rw [plnD] at h
    rw [toPy] at e
    cases q : toPys xs with
    | none => rw [q] at e; cases e
    | some ys => rw [q] at e; cases e; rw [ofPy, ofPys_toPys xs ys h q]
  | .ktp _, _, h, _ => by simp [plnD] at h
  | .fro _, _, h, _ => by simp [plnD] at h
  | .dct _ _ _, _, h, _ => by simp [plnD] at h
  | .exo _, _, h, _ => by simp [plnD] at h
  | .ref _, _, h, _ => by simp [plnD] at h
theorem ofPys_toPys : (ds : List D) → (ps : List PyData) → plnDs ds = true → toPys ds = some ps → ofPys ps = ds
  | [], _, _, e => by cases e; rfl
  | x :: xs, _, h, e => by
    rw [plnDs, Bool.and_eq_true] at h
    rw [toPys] at e
    cases q1 : toPy x with
    | none => rw [q1] at e; cases e
    | some x' =>
      cases q2 : toPys xs with
      | none => rw [q1, q2] at e; cases e
      | some xs' =>
        rw [q1, q2] at e; cases e
        rw [ofPys, ofPy_toPy x x' h.1 q1, ofPys_toPys xs xs' h.2 q2]
end
theorem ofPys_get : ∀ (ps : List PyData) (i : Nat), i < ps.length → (ofPys ps)[i]? = some (ofPy (ps.getD i .none))
  | [], _, h => absurd h (by simp)
  | p :: ps, 0, _ => rfl
  | p :: ps, i + 1, h => by
    rw [ofPys, List.getElem?_cons_succ, ofPys_get ps i (by simpa using h)]
    rfl
theorem minG_dp {xs : List D} {vs : List V} {d : D} (r : Rps K H (Av B as M) as xs vs) (e : minG xs = some d) :
    ∃ p ps, DpAll K H vs (p :: ps) ∧ PySem.W.AlikeAll (p :: ps) ∧ PyData.depthAll (p :: ps) ≤ 60 ∧ ∀ (i : Nat) v, vs[i]? = some v → i < (p :: ps).length → (p :: ps).getD i .none = PySem.W.minD p ps → Rp K H (Av B as M) as d v := by
  unfold minG at e
  split at e
  · rename_i hp
    split at e
    · rename_i p ps q
      split at e
      · rename_i hs
        cases e
        refine ⟨p, ps, toPys_dp xs vs _ q r, ⟨fun x hx y hy => ?_, fun x hx z => ?_⟩, hs.2, fun i v hv hi hm => ?_⟩
        · have h1 := List.all_eq_true.mp hs.1 x hx
          rw [Bool.and_eq_true] at h1
          exact List.all_eq_true.mp h1.2 y hy
        · have h1 := List.all_eq_true.mp hs.1 x hx
          rw [Bool.and_eq_true, z] at h1
          exact absurd h1.1 (by decide)
        · have e1 := ofPys_toPys xs _ hp q
          have e2 := ofPys_get (p :: ps) i hi
          rw [e1, hm] at e2
          obtain ⟨w, e3, e4⟩ := r.get e2
          rw [hv] at e3
          cases e3
          exact e4
      · cases e
    · cases e
  · cases e
end
end Sg

namespace Sg
open PySem PySem.Spec PyProof.Rows L2

theorem mulOk_c {i j : Int} (h : mulOk i j = true) : CMulW i j ∨ CMul i j := by
  unfold mulOk at h
  rw [Bool.or_eq_true, decide_eq_true_eq, decide_eq_true_eq] at h
  rcases h with h | h
  · exact .inl h
  · refine .inr (.inr ?_)
    have e : (2 : Int) ^ 64 = 18446744073709551616 := by decide
    rw [e]
    omega
theorem op_mulX {X : Cx} : OpR X (binaryOp .Mult) (rI (fun i j => CMulW i j ∨ CMul i j) fun i j => .int (i * j)) := opI fun _ _ _ _ _ _ _ hc q => mul_int q (hc.elim CMulW.ok CMul.ok)
def rOp2 (K : PySem.W.Frag) (E : Nat → Hp → Prop) (f : D → D → List Cell → R D) : R2 := fun x y H Q =>
  ∃ B as M a b, Sim K H B as M ∧ Rp K H (Av B as M) as a x ∧ Rp K H (Av B as M) as b y ∧ PostD K H B as M E (f a b M) Q
def rOp1 (K : PySem.W.Frag) (E : Nat → Hp → Prop) (f : D → List Cell → R D) : V → Hp → VK → Prop := fun x H Q =>
  ∃ B as M a, Sim K H B as M ∧ Rp K H (Av B as M) as a x ∧ PostD K H B as M E (f a M) Q
def rOpN (K : PySem.W.Frag) (E : Nat → Hp → Prop) (f : List D → List Cell → R D) : List V → Hp → VK → Prop := fun xs H Q =>
  ∃ B as M ds, Sim K H B as M ∧ Rps K H (Av B as M) as ds xs ∧ PostD K H B as M E (f ds M) Q
section
variable {X : Cx} {E : Nat → Hp → Prop}
theorem noPylong_near {x y : Int} (h0 : y ≠ 0) (h : x.natAbs.log2 ≤ y.natAbs.log2 + 4400) : Builtin.divisionGoesByPylong x y = false := by
  have key : (if x == 0 then 0 else x.natAbs.log2 / 30 + 1) ≤ (if y == 0 then 0 else y.natAbs.log2 / 30 + 1) + 150 := by
    rw [if_neg (show ¬ (y == 0) = true by simpa using h0)]
    split <;> omega
  show (_ && decide ((if x == 0 then 0 else x.natAbs.log2 / 30 + 1) > (if y == 0 then 0 else y.natAbs.log2 / 30 + 1) + 150)) = false
  rw [decide_eq_false (Nat.not_lt.mpr key), Bool.and_false]
theorem op_fdivA : OpR X (binaryOp .FloorDiv) (rI (fun i j => j ≠ 0 ∧ (j.natAbs.log2 < 9000 ∨ i.natAbs.log2 ≤ j.natAbs.log2 + 4400)) fun i j => .int (i.fdiv j)) := opI fun i j _ _ _ _ _ hc q =>
  floordiv_int hc.1 q (.inl (hc.2.elim (fun h => PyProof.noPylong_of_log2 h) fun h => noPylong_near hc.1 h))
theorem Rps.rep {K : PySem.W.Frag} {H : Hp} {B : Addr → Prop} {as : List Addr} {ds : List D} {vs : List V} (h : Rps K H B as ds vs) : ∀ n : Nat, Rps K H B as (List.replicate n ds).flatten (List.replicate n vs).flatten
  | 0 => rfl
  | n + 1 => by
    rw [List.replicate_succ, List.replicate_succ, List.flatten_cons, List.flatten_cons]
    exact h.append (Rps.rep h n)
theorem op_repD (m : Bool) : OpR X (binaryOp .Mult) (rOp2 X.K E (repD m)) := by
  intro pins s σ H x y v u Q I rx ry h
  obtain ⟨B, as, M, a, b, S, ra, rb, h⟩ := h
  unfold repD at h
  split at h
  · rename_i xs k c1
    obtain ⟨l, vs, rfl, e1, r1⟩ := content_rp S ra c1
    split at h
    · rename_i hk
      cases rb
      obtain ⟨hl, q⟩ := new_post S (r1.rep k.toNat) h
      exact op_rep pins s σ H _ _ v u Q I rx ry ⟨l, k, vs, rfl, rfl, e1, by have := hk.1; omega, by have := hk.2.1; unfold Lt62 at this; omega, by rw [r1.len]; exact Nat.le_trans hk.2.2 LIM_le, q⟩
    · exact h.elim
  · exact h.elim
theorem op_bop (m : Bool) (op : Operator) : OpR X (binaryOp op) (rOp2 X.K E (bop m op)) := by
  intro pins s σ H x y v u Q I rx ry h
  obtain ⟨B, as, M, a, b, S, ra, rb, h⟩ := h
  unfold bop at h
  split at h
  · rename_i xs ys c1 c2
    obtain ⟨l, vs, rfl, e1, r1⟩ := content_rp S ra c1
    obtain ⟨l2, ws, rfl, e2, r2⟩ := content_rp S rb c2
    obtain ⟨hl, q⟩ := new_post S (r1.append r2) h
    exact op_cat pins s σ H _ _ v u Q I rx ry ⟨l, l2, vs, ws, rfl, rfl, e1, e2, by rw [← List.length_append]; exact Nat.le_trans hl LIM_le, q⟩
  · split at h
    · rename_i xs ys k1 k2 _
      split at h
      · rename_i hl
        have e1 : a = .ktp xs := by
          cases a <;> first | (cases k1; done) | (cases k1; rfl)
        have e2 : b = .ktp ys := by
          cases b <;> first | (cases k2; done) | (cases k2; rfl)
        subst e1 e2
        obtain ⟨l, vs, rfl, e1, r1⟩ := ra
        obtain ⟨l2, ws, rfl, e2, r2⟩ := rb
        have nil : ∀ {ds : List D}, Rps X.K H (Av B as M) as ds [] → ds = [] := fun {ds} r => by
          cases ds with
          | nil => rfl
          | cons d ds =>
            obtain ⟨_, _, e, _⟩ := r
            cases e
        refine op_catA pins s σ H _ _ v u Q I rx ry ⟨l, l2, vs, ws, rfl, rfl, .inl (.inl e1), .inl (.inl e2), ?_, ?_, ?_, ?_⟩
        · rw [r1.len, r2.len]; exact Nat.le_trans hl LIM_le
        · intro e
          subst e
          have e0 := nil r1
          subst e0
          exact PostD.at S h ⟨l2, ws, rfl, e2, r2⟩
        · intro _ e
          subst e
          have e0 := nil r2
          subst e0
          rw [List.append_nil] at h
          exact PostD.at S h ⟨l, vs, rfl, e1, r1⟩
        · intro _ _ p hp
          exact ktup_post' S (r1.append r2) h p hp
      · exact h.elim
    unfold bopI at h
    split at h
    · cases ra; cases rb
      exact op_add pins s σ H _ _ v u Q I rx ry ⟨_, _, rfl, rfl, PostD.at S h rfl⟩
    · split at h
      · rename_i hl
        cases ra; cases rb
        exact op_add_str pins s σ H _ _ v u Q I rx ry ⟨_, _, rfl, rfl, Nat.le_trans hl LIM_le, PostD.at S h rfl⟩
      · exact h.elim
    · rename_i xs ys
      split at h
      · rename_i hl
        obtain ⟨l, vs, rfl, e1, r1⟩ := ra
        obtain ⟨l2, ws, rfl, e2, r2⟩ := rb
        have nil : ∀ {ds : List D}, Rps X.K H (Av B as M) as ds [] → ds = [] := fun {ds} r => by
          cases ds with
          | nil => rfl
          | cons d ds =>
            obtain ⟨_, _, e, _⟩ := r
            cases e
        refine op_catA pins s σ H _ _ v u Q I rx ry ⟨l, l2, vs, ws, rfl, rfl, e1, e2, ?_, ?_, ?_, ?_⟩
        · rw [r1.len, r2.len]; exact Nat.le_trans hl LIM_le
        · intro e
          subst e
          have e0 := nil r1
          subst e0
          exact PostD.at S h ⟨l2, ws, rfl, e2, r2⟩
        · intro _ e
          subst e
          have e0 := nil r2
          subst e0
          rw [List.append_nil] at h
          exact PostD.at S h ⟨l, vs, rfl, e1, r1⟩
        · intro _ _ p hp
          exact tup_post S (r1.append r2) h p hp
      · exact h.elim
    · cases ra; cases rb
      exact op_sub pins s σ H _ _ v u Q I rx ry ⟨_, _, rfl, rfl, PostD.at S h rfl⟩
    · split at h
      · rename_i hm
        cases ra; cases rb
        exact op_mulX pins s σ H _ _ v u Q I rx ry ⟨_, _, rfl, rfl, mulOk_c hm, PostD.at S h rfl⟩
      · exact h.elim
    · split at h
      · rename_i hc
        cases ra; cases rb
        exact op_fdivW pins s σ H _ _ v u Q I rx ry ⟨_, _, rfl, rfl, hc, PostD.at S h rfl⟩
      · split at h
        · rename_i hc
          cases ra; cases rb
          exact op_fdivA pins s σ H _ _ v u Q I rx ry ⟨_, _, rfl, rfl, hc, PostD.at S h rfl⟩
        · exact h.elim
    · split at h
      · rename_i hc
        cases ra; cases rb
        exact op_mod pins s σ H _ _ v u Q I rx ry ⟨_, _, rfl, rfl, hc, PostD.at S h rfl⟩
      · split at h
        · rename_i hc
          cases ra; cases rb
          exact op_modN pins s σ H _ _ v u Q I rx ry ⟨_, _, rfl, rfl, hc, PostD.at S h rfl⟩
        · exact h.elim
    · split at h
      · rename_i hc
        cases ra; cases rb
        exact op_pow pins s σ H _ _ v u Q I rx ry ⟨_, _, rfl, rfl, hc, PostD.at S h rfl⟩
      · exact h.elim
    · split at h
      · rename_i hc
        cases ra; cases rb
        exact op_shl pins s σ H _ _ v u Q I rx ry ⟨_, _, rfl, rfl, hc, PostD.at S h rfl⟩
      · exact h.elim
    · split at h
      · rename_i hc
        cases ra; cases rb
        exact op_shr pins s σ H _ _ v u Q I rx ry ⟨_, _, rfl, rfl, hc, PostD.at S h rfl⟩
      · exact h.elim
    · cases ra; cases rb
      exact op_and pins s σ H _ _ v u Q I rx ry ⟨_, _, rfl, rfl, PostD.at S h rfl⟩
    · cases ra; cases rb
      exact op_or pins s σ H _ _ v u Q I rx ry ⟨_, _, rfl, rfl, PostD.at S h rfl⟩
    · cases ra; cases rb
      exact op_xor pins s σ H _ _ v u Q I rx ry ⟨_, _, rfl, rfl, PostD.at S h rfl⟩
    · exact h.elim
/-- x += y of ints -/
theorem ip_aug (op : Operator) : PIp X op (fun x y H Q => (op = .Add ∨ op = .Sub) ∧ ∃ B as M i j, Sim X.K H B as M ∧ x = .int i ∧ y = .int j ∧ PostD X.K H B as M E (bopI op (.int i) (.int j) M) Q) := by
  intro pins s σ H x y v u Q I rx ry h
  obtain ⟨ho, B, as, M, i, j, S, rfl, rfl, h⟩ := h
  rcases ho with rfl | rfl
  · exact augR iop_add I rx ry ⟨_, _, rfl, rfl, PostD.at S h rfl⟩
  · exact augR iop_sub I rx ry ⟨_, _, rfl, rfl, PostD.at S h rfl⟩
theorem un_not' : UnR X (unaryOp .Not) (fun x H Q => ∃ b, x = .bl b ∧ Q (.bl (!b)) H) := by
  intro pins s σ H x v Q I rx h
  obtain ⟨b, rfl, q⟩ := h
  cases rx
  exact not_of (wpAny_truthy_bool ⟨.bl (!b), H, I, rfl, q⟩)
theorem un_uop (op : UnaryOp) : UnR X (unaryOp op) (rOp1 X.K E (uop op)) := by
  intro pins s σ H x v Q I rx h
  obtain ⟨B, as, M, a, S, ra, h⟩ := h
  unfold uop at h
  split at h
  · cases ra
    exact un_neg pins s σ H _ v Q I rx ⟨_, rfl, PostD.at S h rfl⟩
  · cases ra
    exact un_inv pins s σ H _ v Q I rx ⟨_, rfl, PostD.at S h rfl⟩
  · cases ra
    exact un_not' pins s σ H _ v Q I rx ⟨_, rfl, PostD.at S h rfl⟩
  · exact h.elim
theorem isNon_rp {K : PySem.W.Frag} {H : Hp} {B : Addr → Prop} {as : List Addr} {a : D} {x : V} (ra : Rp K H B as a x) : decide (x = .non) = isNon a := by
  cases a with
  | non => cases ra; rfl
  | bl _ => cases ra; rfl
  | int _ => cases ra; rfl
  | str _ => cases ra; rfl
  | tup _ => obtain ⟨_, _, rfl, _⟩ := ra; rfl
  | ktp _ => obtain ⟨_, _, rfl, _⟩ := ra; rfl
  | lst _ => obtain ⟨_, _, rfl, _⟩ := ra; rfl
  | fro _ => obtain ⟨_, _, rfl, _⟩ := ra; rfl
  | dct t _ _ => cases t <;> (obtain ⟨_, _, rfl, _⟩ := ra; rfl)
  | ref _ => obtain ⟨_, _, rfl⟩ := ra; rfl
  | exo _ => cases ra; rfl
theorem flV_rp {K : PySem.W.Frag} {H : Hp} {B : Addr → Prop} {as : List Addr} {a : D} {x : V} (h : flatD a = true) (ra : Rp K H B as a x) : x = flV a ∧ flatV x = true := by
  cases a <;> first | (cases h; done) | (cases ra; exact ⟨rfl, rfl⟩)
theorem flVs_rp {K : PySem.W.Frag} {H : Hp} {B : Addr → Prop} {as : List Addr} : ∀ {ds : List D} {vs : List V}, ds.all flatD = true → Rps K H B as ds vs → vs = ds.map flV ∧ vs.all flatV = true
  | [], _, _, h => by cases h; exact ⟨rfl, rfl⟩
  | x :: xs, _, h, r => by
    rw [List.all_cons, Bool.and_eq_true] at h
    obtain ⟨v, w, rfl, h1, h2⟩ := r
    obtain ⟨e1, f1⟩ := flV_rp h.1 h1
    obtain ⟨e2, f2⟩ := flVs_rp h.2 h2
    exact ⟨by rw [e1, e2]; rfl, by rw [List.all_cons, f1, f2]; rfl⟩
theorem inF_rp {a : D} {xs : List D} : inV (flV a) (xs.map flV) = inF a xs := by
  unfold inV inF
  rw [List.any_map]
  rfl
section
variable {X : Cx}
def rOrdD (K : PySem.W.Frag) (f : PyData → PyData → Bool) : R2 := fun x y H Q => ∃ d e, Dp K H x d ∧ Dp K H y e ∧ PySem.W.alike d e = true ∧ d ≠ .none ∧ d.depth ≤ 60 ∧ Q (.bl (f d e)) H
theorem op_ltD (hu : X.A.units + 65 < cLine) : OpR X (compareOp .Lt) (rOrdD X.K fun d e => PySem.W.dataLt d e) := by
  intro pins s σ H x y v u Q I rx ry h
  obtain ⟨d, e, hd, he, sd, se, hl, q⟩ := h
  obtain ⟨as, r1⟩ := Dp.reads I d x v hd rx
  obtain ⟨bs, r2⟩ := Dp.reads I e y u he ry
  exact PySem.W.lt_data r1 r2 sd se (by omega) ⟨.bl _, H, I, rfl, q⟩
theorem op_gtD (hu : X.A.units + 65 < cLine) : OpR X (compareOp .Gt) (rOrdD X.K fun d e => PySem.W.dataLt e d) := by
  intro pins s σ H x y v u Q I rx ry h
  obtain ⟨d, e, hd, he, sd, se, hl, q⟩ := h
  obtain ⟨as, r1⟩ := Dp.reads I d x v hd rx
  obtain ⟨bs, r2⟩ := Dp.reads I e y u he ry
  exact PySem.W.gt_data r1 r2 sd se (by omega) ⟨.bl _, H, I, rfl, q⟩
theorem op_leD (hu : X.A.units + 65 < cLine) : OpR X (compareOp .LtE) (rOrdD X.K fun d e => !PySem.W.dataLt e d) := by
  intro pins s σ H x y v u Q I rx ry h
  obtain ⟨d, e, hd, he, sd, se, hl, q⟩ := h
  obtain ⟨as, r1⟩ := Dp.reads I d x v hd rx
  obtain ⟨bs, r2⟩ := Dp.reads I e y u he ry
  exact PySem.W.le_data r1 r2 sd se (by omega) ⟨.bl _, H, I, rfl, q⟩
theorem op_geD (hu : X.A.units + 65 < cLine) : OpR X (compareOp .GtE) (rOrdD X.K fun d e => !PySem.W.dataLt d e) := by
  intro pins s σ H x y v u Q I rx ry h
  obtain ⟨d, e, hd, he, sd, se, hl, q⟩ := h
  obtain ⟨as, r1⟩ := Dp.reads I d x v hd rx
  obtain ⟨bs, r2⟩ := Dp.reads I e y u he ry
  exact PySem.W.ge_data r1 r2 sd se (by omega) ⟨.bl _, H, I, rfl, q⟩
end
theorem signIn_inv {K : PySem.W.Frag} {H : Hp} {B : Addr → Prop} {as : List Addr} {M : List Cell} {E : Nat → Hp → Prop} {a b : D} {f : Bool → R D} {Q : VK} (h : PostD K H B as M E (signIn a b f) Q) :
    ∃ c z, a = .str ⟨#[c]⟩ ∧ b = .str z ∧ PostD K H B as M E (f (decide (c ∈ z.cps.toList))) Q := by
  unfold signIn at h
  split at h
  · rename_i x z
    split at h
    · rename_i c e
      have : x = ⟨#[c]⟩ := by
        obtain ⟨l⟩ := x
        have e : l.toList = [c] := e
        have : l = #[c] := Array.toList_inj.mp e
        rw [this]
      exact ⟨c, z, by rw [this], rfl, h⟩
    · exact h.elim
  · exact h.elim
theorem op_cop (hu : X.A.units + 65 < cLine) (op : CmpOp) : OpR X (compareOp op) (rOp2 X.K E (cop op)) := by
  intro pins s σ H x y v u Q I rx ry h
  obtain ⟨B, as, M, a, b, S, ra, rb, h⟩ := h
  unfold cop at h
  split at h
  · cases ra; cases rb
    exact op_lt pins s σ H _ _ v u Q I rx ry ⟨_, _, rfl, rfl, PostD.at S h rfl⟩
  · cases ra; cases rb
    exact op_le pins s σ H _ _ v u Q I rx ry ⟨_, _, rfl, rfl, PostD.at S h rfl⟩
  · cases ra; cases rb
    exact op_gt pins s σ H _ _ v u Q I rx ry ⟨_, _, rfl, rfl, PostD.at S h rfl⟩
  · cases ra; cases rb
    exact op_ge pins s σ H _ _ v u Q I rx ry ⟨_, _, rfl, rfl, PostD.at S h rfl⟩
  · cases rb
    exact op_isN pins s σ H _ _ v u Q I rx ry ⟨rfl, by rw [isNon_rp ra]; exact PostD.at S h rfl⟩
  · cases rb
    exact op_notN pins s σ H _ _ v u Q I rx ry ⟨rfl, by rw [isNon_rp ra]; exact PostD.at S h rfl⟩
  · cases ra; cases rb
    exact op_is_bl pins s σ H _ _ v u Q I rx ry ⟨_, _, rfl, rfl, PostD.at S h rfl⟩
  · cases ra; cases rb
    exact op_isnot_bl pins s σ H _ _ v u Q I rx ry ⟨_, _, rfl, rfl, PostD.at S h rfl⟩
  · split at h
    · rename_i k e
      obtain ⟨p, q, d1, d2, s1, s2, rfl⟩ := eqD_dp S ra rb e
      exact op_eqD (by omega) pins s σ H _ _ v u Q I rx ry ⟨p, q, d1, d2, s1, s2, PostD.at S h rfl⟩
    · exact h.elim
  · split at h
    · rename_i k e
      obtain ⟨p, q, d1, d2, s1, s2, rfl⟩ := eqD_dp S ra rb e
      exact op_neD (by omega) pins s σ H _ _ v u Q I rx ry ⟨p, q, d1, d2, s1, s2, PostD.at S h rfl⟩
    · exact h.elim
  · split at h
    · rename_i xs e
      split at h
      · rename_i hf
        obtain ⟨p, vs, rfl, q1, q2⟩ := seq_rp S rb e
        obtain ⟨e1, f1⟩ := flV_rp hf.1 ra
        obtain ⟨e2, f2⟩ := flVs_rp hf.2 q2
        refine op_in_seq pins s σ H _ _ v u Q I rx ry ⟨p, vs, rfl, q1, f1, f2, ?_⟩
        rw [e1, e2, inF_rp]
        exact PostD.at S h rfl
      · split at h
        · rename_i k ek
          obtain ⟨p, q, d1, d2, s1, s2, rfl⟩ := inG_dp S ra rb ek
          exact op_inD hu pins s σ H _ _ v u Q I rx ry ⟨p, q, d1, d2, s1, s2, PostD.at S h rfl⟩
        · exact h.elim
    · obtain ⟨c, z, rfl, rfl, h⟩ := signIn_inv h
      cases ra; cases rb
      exact op_in_sign pins s σ H _ _ v u Q I rx ry ⟨_, _, rfl, rfl, PostD.at S h rfl⟩
  · split at h
    · rename_i xs e
      split at h
      · rename_i hf
        obtain ⟨p, vs, rfl, q1, q2⟩ := seq_rp S rb e
        obtain ⟨e1, f1⟩ := flV_rp hf.1 ra
        obtain ⟨e2, f2⟩ := flVs_rp hf.2 q2
        refine op_notIn_seq pins s σ H _ _ v u Q I rx ry ⟨p, vs, rfl, q1, f1, f2, ?_⟩
        rw [e1, e2, inF_rp]
        exact PostD.at S h rfl
      · split at h
        · rename_i k ek
          obtain ⟨p, q, d1, d2, s1, s2, rfl⟩ := inG_dp S ra rb ek
          exact op_notInD hu pins s σ H _ _ v u Q I rx ry ⟨p, q, d1, d2, s1, s2, PostD.at S h rfl⟩
        · exact h.elim
    · obtain ⟨c, z, rfl, rfl, h⟩ := signIn_inv h
      cases ra; cases rb
      exact op_notIn_sign pins s σ H _ _ v u Q I rx ry ⟨_, _, rfl, rfl, PostD.at S h rfl⟩
  · split at h
    · rename_i p e
      obtain ⟨d1, d2, s1, s2, s3⟩ := cmpD_dp S ra rb e
      exact op_ltD hu pins s σ H _ _ v u Q I rx ry ⟨_, _, d1, d2, s1, s2, s3, PostD.at S h rfl⟩
    · exact h.elim
  · split at h
    · rename_i p e
      obtain ⟨d1, d2, s1, s2, s3⟩ := cmpD_dp S ra rb e
      exact op_gtD hu pins s σ H _ _ v u Q I rx ry ⟨_, _, d1, d2, s1, s2, s3, PostD.at S h rfl⟩
    · exact h.elim
  · split at h
    · rename_i p e
      obtain ⟨d1, d2, s1, s2, s3⟩ := cmpD_dp S ra rb e
      exact op_leD hu pins s σ H _ _ v u Q I rx ry ⟨_, _, d1, d2, s1, s2, s3, PostD.at S h rfl⟩
    · exact h.elim
  · split at h
    · rename_i p e
      obtain ⟨d1, d2, s1, s2, s3⟩ := cmpD_dp S ra rb e
      exact op_geD hu pins s σ H _ _ v u Q I rx ry ⟨_, _, d1, d2, s1, s2, s3, PostD.at S h rfl⟩
    · exact h.elim
  · exact h.elim
end
end Sg

namespace Sg
open PySem PySem.Spec PyProof.Rows L2
theorem intsOf_rp {K : PySem.W.Frag} {H : Hp} {B : Addr → Prop} {as : List Addr} : ∀ {ds : List D} {vs : List V} {ns : List Int}, intsOf ds = some ns → Rps K H B as ds vs → vs = ns.map V.int
  | [], _, _, e, h => by cases e; exact h
  | .int i :: xs, _, _, e, h => by
    rw [intsOf] at e
    cases q : intsOf xs with
    | none => rw [q] at e; cases e
    | some r =>
      rw [q] at e; cases e
      obtain ⟨v, w, rfl, h1, h2⟩ := h
      cases h1
      rw [intsOf_rp q h2]; rfl
  | .non :: _, _, _, e, _ => by cases e
  | .bl _ :: _, _, _, e, _ => by cases e
  | .str _ :: _, _, _, e, _ => by cases e
  | .tup _ :: _, _, _, e, _ => by cases e
  | .lst _ :: _, _, _, e, _ => by cases e
  | .fro _ :: _, _, _, e, _ => by cases e
  | .dct _ _ _ :: _, _, _, e, _ => by cases e
  | .exo _ :: _, _, _, e, _ => by cases e
  | .ref _ :: _, _, _, e, _ => by cases e
theorem blsOf_rp {K : PySem.W.Frag} {H : Hp} {B : Addr → Prop} {as : List Addr} : ∀ {ds : List D} {vs : List V} {ns : List Bool}, blsOf ds = some ns → Rps K H B as ds vs → vs = ns.map V.bl
  | [], _, _, e, h => by cases e; exact h
  | .bl i :: xs, _, _, e, h => by
    rw [blsOf] at e
    cases q : blsOf xs with
    | none => rw [q] at e; cases e
    | some r =>
      rw [q] at e; cases e
      obtain ⟨v, w, rfl, h1, h2⟩ := h
      cases h1
      rw [blsOf_rp q h2]; rfl
  | .non :: _, _, _, e, _ => by cases e
  | .int _ :: _, _, _, e, _ => by cases e
  | .str _ :: _, _, _, e, _ => by cases e
  | .tup _ :: _, _, _, e, _ => by cases e
  | .lst _ :: _, _, _, e, _ => by cases e
  | .fro _ :: _, _, _, e, _ => by cases e
  | .dct _ _ _ :: _, _, _, e, _ => by cases e
  | .exo _ :: _, _, _, e, _ => by cases e
  | .ref _ :: _, _, _, e, _ => by cases e
theorem maxI_max : ∀ (x : Int) (xs : List Int), maxI (x :: xs) ∈ x :: xs ∧ ∀ y ∈ x :: xs, y ≤ maxI (x :: xs)
  | x, [] => by simp [maxI]
  | x, z :: zs => by
    have ih := maxI_max z zs
    have e : maxI (x :: z :: zs) = if maxI (z :: zs) > x then maxI (z :: zs) else x := rfl
    rw [e]
    split
    · rename_i h
      refine ⟨List.mem_cons_of_mem _ ih.1, fun y hy => ?_⟩
      rcases List.mem_cons.mp hy with rfl | hy
      · omega
      · exact ih.2 y hy
    · rename_i h
      refine ⟨List.mem_cons_self, fun y hy => ?_⟩
      rcases List.mem_cons.mp hy with rfl | hy
      · omega
      · have := ih.2 y hy; omega
theorem minI_min : ∀ (x : Int) (xs : List Int), minI (x :: xs) ∈ x :: xs ∧ ∀ y ∈ x :: xs, minI (x :: xs) ≤ y
  | x, [] => by simp [minI]
  | x, z :: zs => by
    have ih := minI_min z zs
    have e : minI (x :: z :: zs) = if minI (z :: zs) < x then minI (z :: zs) else x := rfl
    rw [e]
    split
    · rename_i h
      refine ⟨List.mem_cons_of_mem _ ih.1, fun y hy => ?_⟩
      rcases List.mem_cons.mp hy with rfl | hy
      · omega
      · exact ih.2 y hy
    · rename_i h
      refine ⟨List.mem_cons_self, fun y hy => ?_⟩
      rcases List.mem_cons.mp hy with rfl | hy
      · omega
      · have := ih.2 y hy; omega
/-- the function's own name in the model -/
def biV : Bi → Value
  | .len => .builtin "len"
  | .abs => .builtin "abs"
  | .max2 => .builtin "max"
  | .min2 => .builtin "min"
  | .max1 => .builtin "max"
  | .min1 => .builtin "min"
  | .sum => .builtin "sum"
  | .all => .builtin "all"
  | .any => .builtin "any"
  | .int => .type "int"
  | .str => .type "str"
  | .list _ => .type "list"
  | .tuple => .type "tuple"
  | .ktuple => .type "tuple"
  | .sorted _ => .builtin "sorted"
theorem Rps.nil_inv {K : PySem.W.Frag} {H : Hp} {B : Addr → Prop} {as : List Addr} {vs : List V} (h : Rps K H B as [] vs) : vs = [] := h
theorem Rps.one_inv {K : PySem.W.Frag} {H : Hp} {B : Addr → Prop} {as : List Addr} {d : D} {vs : List V} (h : Rps K H B as [d] vs) : ∃ v, vs = [v] ∧ Rp K H B as d v := by
  obtain ⟨v, r, rfl, h1, h2⟩ := h
  cases h2
  exact ⟨v, rfl, h1⟩
theorem Rps.two_inv {K : PySem.W.Frag} {H : Hp} {B : Addr → Prop} {as : List Addr} {d e : D} {vs : List V} (h : Rps K H B as [d, e] vs) : ∃ v w, vs = [v, w] ∧ Rp K H B as d v ∧ Rp K H B as e w := by
  obtain ⟨v, r, rfl, h1, h2⟩ := h
  obtain ⟨w, rfl, h3⟩ := Rps.one_inv h2
  exact ⟨v, w, rfl, h1, h3⟩
theorem sortI_is {ns ns' : List Int} (hp : ns'.Perm ns) (hs : ns'.Pairwise (· ≤ ·)) : ns' = sortI ns := by
  have h1 : (sortI ns).Pairwise (· ≤ ·) := by
    have := List.pairwise_mergeSort (le := fun a b : Int => decide (a ≤ b)) (fun a b c h1 h2 => decide_eq_true (Int.le_trans (of_decide_eq_true h1) (of_decide_eq_true h2))) (fun a b => by
      rw [Bool.or_eq_true, decide_eq_true_eq, decide_eq_true_eq]
      omega) ns
    exact this.imp fun h => of_decide_eq_true h
  exact List.Perm.eq_of_pairwise (fun a b _ _ h1 h2 => Int.le_antisymm h1 h2) hs h1 (hp.trans (List.mergeSort_perm ns _).symm)
theorem ints_rp {K : PySem.W.Frag} {H : Hp} {B : Addr → Prop} {as : List Addr} : ∀ ns : List Int, Rps K H B as (ns.map D.int) (ns.map V.int)
  | [] => rfl
  | i :: ns => ⟨_, _, rfl, rfl, ints_rp ns⟩
/-- what does not walk anything -/
def coolBi : Bi → Bool
  | .len => true
  | .abs => true
  | _ => false
section
variable {X : Cx} {E : Nat → Hp → Prop}
/-- min(xs) of alike data: one of the least -/
def rMinG (K : PySem.W.Frag) : List V → Hp → VK → Prop := fun vs H Q => ∃ (a : Addr) (xs : List V) (p : PyData) (ps : List PyData), vs = [V.ref a] ∧ SqL K H a xs ∧ DpAll K H xs (p :: ps) ∧ PySem.W.AlikeAll (p :: ps) ∧ PyData.depthAll (p :: ps) ≤ 60 ∧
  ∀ (i : Nat) v, xs[i]? = some v → i < (p :: ps).length → (p :: ps).getD i .none = PySem.W.minD p ps → Q v H
theorem vals_at : ∀ {vs : List V} {us : List Value}, Vals vs us → ∀ {i : Nat} {u : Value}, us[i]? = some u → ∃ v, vs[i]? = some v ∧ RelV v u
  | _, _, .nil, _, _, h => by simp at h
  | _, _, .cons r rs, 0, _, h => by
    cases h
    exact ⟨_, rfl, r⟩
  | _, _, .cons r rs, i + 1, _, h => by
    obtain ⟨v, e, q⟩ := vals_at rs (i := i) h
    exact ⟨v, e, q⟩
theorem cr_minG (hu : X.A.units + 65 < cLine) (hc : X.calm = true) : CallR X (.builtin "min") (rMinG X.K) := by
  intro pins s σ H vs us Q I r h
  obtain ⟨a, xs, p, ps, rfl, hs, hd, ha, hl, q⟩ := h
  obtain ⟨its, rv, hli, _⟩ := I.list hs
  obtain ⟨as, hr⟩ := Dp.readsAll I (p :: ps) _ its hd rv
  rw [Vals.ref1 r]
  have hr' : ReadsAll s.heap its.toArray.toList (p :: ps) as := hr
  have hn : its.toArray.size = ps.length + 1 := PySem.W.readsAll_len hr'
  refine PySem.call_min_walkH (PySem.W.iter_listW (A := X.A.in1) (I.ok.hd hc) hli.isList fun s₂ e W st hfp hw hk => ?_)
  refine ⟨_, _, _, _, _, _, _, s.heap, _, rfl, W, st, hfp, by omega, hw, hk, PySem.W.cmpIn_lt (A := X.A.in1) hr' ha (by show X.A.units + 1 + _ < _; omega), fun v s' hP m => ?_⟩
  obtain ⟨h', tk, rfl, hk'⟩ := PySem.W.moved_old e rfl m
  have e1 : its.toArray.size - 1 = ps.length := by omega
  have e2 := PySem.W.argBest_fold PySem.W.dataLt PyData.none p ps ps.length (Nat.le_refl _)
  rw [List.take_length] at e2
  rw [e1] at hP
  have hP' : its[argBest (fun i j => PySem.W.dataLt ((p :: ps).getD i .none) ((p :: ps).getD j .none)) ps.length]? = some v := by
    rw [← List.getElem?_toArray]
    exact hP
  obtain ⟨w, ew, rw'⟩ := vals_at rv hP'
  exact ⟨w, H, I.kept hk', rw', q _ w ew (by rw [List.length_cons]; omega) e2.2⟩
/-- sorted(xs) of alike data -/
def rSortG (K : PySem.W.Frag) : List V → Hp → VK → Prop := fun vs H Q => ∃ (a : Addr) (ts : List (D × V × PyData)), vs = [V.ref a] ∧ SqL K H a (ts.map fun t => t.2.1) ∧ DpAll K H (ts.map fun t => t.2.1) (ts.map fun t => t.2.2) ∧ PySem.W.AllAlike (ts.map fun t => t.2.2) ∧ PySem.W.Sortable (ts.map fun t => t.2.2) ∧ (∀ t ∈ ts, t.2.2.depth ≤ 60) ∧
  ∀ (p : Addr), H p = none → Q (.ref p) (upd H p (.lst ((ts.mergeSort (PySem.W.dataLe false fun t : D × V × PyData => t.2.2)).map fun t => t.2.1)))
theorem each_vals {R : Value → (D × V × PyData) → Prop} (hR : ∀ u t, R u t ↔ RelV t.2.1 u) : ∀ {ts : List (D × V × PyData)} {us : List Value}, Vals (ts.map fun t => t.2.1) us → PySem.W.EachIs R us ts
  | [], _, h => by
    cases h
    exact .nil
  | t :: ts, _, h => by
    cases h with
    | cons r rs => exact .cons ((hR _ _).mpr r) (each_vals hR rs)
theorem vals_each {R : Value → (D × V × PyData) → Prop} (hR : ∀ u t, R u t ↔ RelV t.2.1 u) : ∀ {ts : List (D × V × PyData)} {us : List Value}, PySem.W.EachIs R us ts → Vals (ts.map fun t => t.2.1) us
  | [], _, h => by
    cases h
    exact .nil
  | t :: ts, _, h => by
    cases h with
    | cons r rs => exact .cons ((hR _ _).mp r) (vals_each hR rs)
theorem cr_sortG (hu : X.A.units + 65 < cLine) : CallR X (.builtin "sorted") (rSortG X.K) := by
  intro pins s σ H vs us Q I r h
  obtain ⟨a, ts, rfl, hs, hd, ha, ho, hdp, q⟩ := h
  obtain ⟨its, rv, hl, hz⟩ := I.list hs
  rw [Vals.ref1 r]
  obtain ⟨as, hr⟩ := Dp.readsAll I _ _ its hd rv
  have e1 : PySem.W.EachIs (fun (u : Value) (t : D × V × PyData) => RelV t.2.1 u) its ts := each_vals (fun _ _ => Iff.rfl) rv
  have e2 := PySem.W.readsAll_each (h := s.heap) (fun t : D × V × PyData => t.2.2) hr
  have hlen : (ts.map fun t => t.2.1).length = its.length := rv.length
  rw [List.length_map] at hlen hz
  refine PySem.W.sorted_data hl.isList e1 e2 ha ho hz (fun t ht => ?_) fun out h1 h2 => ?_
  · have := hdp t ht
    omega
  · obtain ⟨ep, he'⟩ := PyProof.Rows.sortedAll_at s.heap its out.toArray
    have hv := vals_each (R := fun (u : Value) (t : D × V × PyData) => RelV t.2.1 u) (fun _ _ => Iff.rfl) h2
    have hl2 : ((ts.mergeSort (PySem.W.dataLe false fun t : D × V × PyData => t.2.2)).map fun t => t.2.1).length ≤ sizeLine := by
      rw [List.length_map, List.length_mergeSort]
      exact hz
    exact ⟨.ref _, upd H (s.heap.objs.size + 1) (.lst ((ts.mergeSort (PySem.W.dataLe false fun t : D × V × PyData => t.2.2)).map fun t => t.2.1)), I.laid (t' := s.toks) (fun _ _ => PyProof.Rows.sortedAll_old) (Nat.le_succ _) ⟨hl2, out, ep, hv, he'⟩, rfl, q _ (I.hok.fresh (Nat.le_succ _))⟩
theorem imms_len {M : List Cell} : ∀ {xs ys : List D}, imms M xs = some ys → ys.length = xs.length
  | [], _, e => by cases e; rfl
  | x :: xs, ys, e => by
    rw [imms] at e
    obtain ⟨a, _, e⟩ := Option.bind_eq_some_iff.mp e
    obtain ⟨b, hb, rfl⟩ := Option.map_eq_some_iff.mp e
    rw [List.length_cons, List.length_cons, imms_len hb]
theorem toPys_len : ∀ {xs : List D} {ps : List PyData}, toPys xs = some ps → ps.length = xs.length
  | [], _, e => by cases e; rfl
  | x :: xs, ys, e => by
    rw [toPys] at e
    obtain ⟨a, _, e⟩ := Option.bind_eq_some_iff.mp e
    obtain ⟨b, hb, rfl⟩ := Option.map_eq_some_iff.mp e
    rw [List.length_cons, List.length_cons, toPys_len hb]
theorem sortG_tr {K : PySem.W.Frag} {H : Hp} {B : Addr → Prop} {as : List Addr} {M : List Cell} {xs ys : List D} {vs : List V} (S : Sim K H B as M) (r : Rps K H (Av B as M) as xs vs) (e : sortG M xs = some ys) : ∃ ts : List (D × V × PyData), ts.map (fun t => t.2.1) = vs ∧ DpAll K H vs (ts.map fun t => t.2.2) ∧ PySem.W.AllAlike (ts.map fun t => t.2.2) ∧ PySem.W.Sortable (ts.map fun t => t.2.2) ∧ (∀ t ∈ ts, t.2.2.depth ≤ 60) ∧
    Rps K H (Av B as M) as ys ((ts.mergeSort (PySem.W.dataLe false fun t : D × V × PyData => t.2.2)).map fun t => t.2.1) := by
  unfold sortG at e
  split at e
  · rename_i ps hp
    split at e
    · rename_i hc
      cases e
      obtain ⟨xs', hx, hp⟩ := Option.bind_eq_some_iff.mp hp
      have key : ∀ {xs : List D} {vs : List V} {ps : List PyData}, Rps K H (Av B as M) as xs vs → ps.length = xs.length → ∃ ts : List (D × V × PyData), ts.map (fun t => t.2.1) = vs ∧ ts.map (fun t => t.2.2) = ps ∧ ts.map (fun t => (t.1, t.2.2)) = xs.zip ps ∧ ∀ t ∈ ts, Rp K H (Av B as M) as t.1 t.2.1 := fun {xs} => by
        induction xs with
        | nil =>
          intro vs ps r e
          have e : ps = [] := List.length_eq_zero_iff.mp e
          subst e
          cases r
          exact ⟨[], rfl, rfl, rfl, fun t h => nomatch h⟩
        | cons x xs ih =>
          intro vs ps r e
          obtain ⟨v, vs', rfl, r1, r2⟩ := r
          cases ps with
          | nil => cases e
          | cons p ps =>
            obtain ⟨ts, t1, t2, t3, t4⟩ := ih (ps := ps) r2 (Nat.succ.inj e)
            refine ⟨(x, v, p) :: ts, by rw [List.map_cons, t1], by rw [List.map_cons, t2], by rw [List.map_cons, t3]; rfl, fun t ht => ?_⟩
            rcases List.mem_cons.mp ht with rfl | ht
            · exact r1
            · exact t4 t ht
      obtain ⟨ts, t1, t2, t3, t4⟩ := key (ps := ps) r (by rw [toPys_len hp, imms_len hx])
      have mem : ∀ t ∈ ts, t.2.2 ∈ ps := fun t ht => by
        rw [← t2]
        exact List.mem_map.mpr ⟨t, ht, rfl⟩
      refine ⟨ts, t1, by rw [t2]; exact toPys_dp xs' vs ps hp (imms_rp S hx r), ?_, .inr ?_, ?_, ?_⟩
      · rw [t2]
        intro x hx y hy
        have h1 := List.all_eq_true.mp hc.1 x hx
        rw [Bool.and_eq_true] at h1
        exact List.all_eq_true.mp h1.2 y hy
      · rw [t2]
        intro x hx
        have h1 := List.all_eq_true.mp hc.1 x hx
        rw [Bool.and_eq_true] at h1
        refine ⟨fun z => ?_, fun zs z => ?_⟩
        · rw [z] at h1
          exact absurd h1.1 (by decide)
        · rw [z] at h1
          exact absurd h1.1 (by simp [othP])
      · intro t ht
        refine Nat.le_trans ?_ hc.2
        have : ∀ {l : List PyData} {p : PyData}, p ∈ l → p.depth ≤ PyData.depthAll l := fun {l} => by
          induction l with
          | nil => intro p h; cases h
          | cons y l ih =>
            intro p h
            rw [PyData.depthAll]
            rcases List.mem_cons.mp h with rfl | h
            · omega
            · have := ih h
              omega
        exact this (mem t ht)
      · have e3 : ((xs.zip ps).mergeSort (PySem.W.dataLe false fun t : D × PyData => t.2)).map (·.1) = (ts.mergeSort (PySem.W.dataLe false fun t : D × V × PyData => t.2.2)).map (·.1) := by
          rw [← t3, ← List.map_mergeSort (r := PySem.W.dataLe false fun t : D × V × PyData => t.2.2) (f := fun t : D × V × PyData => (t.1, t.2.2)) (fun a _ b _ => rfl), List.map_map]
          rfl
        rw [e3]
        have : ∀ l : List (D × V × PyData), (∀ t ∈ l, Rp K H (Av B as M) as t.1 t.2.1) → Rps K H (Av B as M) as (l.map (·.1)) (l.map fun t => t.2.1) := fun l => by
          induction l with
          | nil => exact fun _ => rfl
          | cons t l ih => exact fun h => ⟨_, _, rfl, h t List.mem_cons_self, ih fun x hx => h x (List.mem_cons_of_mem _ hx)⟩
        exact this _ fun t ht => t4 t ((List.mergeSort_perm _ _).mem_iff.mp ht)
    · cases e
  · cases e
theorem call_bi (f : Bi) (hu : X.A.units + 65 < cLine) (hc : coolBi f = false → X.calm = true) : CallR X (biV f) (rOpN X.K E (bi f)) := by
  intro pins s σ H xs us Q I r h
  obtain ⟨B, as, M, ds, S, rs, h⟩ := h
  unfold bi at h
  split at h
  · -- len
    obtain ⟨v, rfl, r1⟩ := rs.one_inv
    split at h
    · rename_i ys e
      obtain ⟨a, vs, rfl, e1, r2⟩ := seq_rp S r1 e
      refine call_len_seq pins s σ H _ us Q I r ⟨a, vs, rfl, e1, ?_⟩
      have := r2.len
      rw [this]
      exact PostD.at S h rfl
    · split at h
      · split at h
        · rename_i hl
          cases r1
          exact call_len_str pins s σ H _ us Q I r ⟨_, rfl, Nat.le_trans hl LIM_le, PostD.at S h rfl⟩
        · exact h.elim
      · exact h.elim
  · obtain ⟨v, rfl, r1⟩ := rs.one_inv
    cases r1
    exact call_abs pins s σ H _ us Q I r ⟨_, rfl, PostD.at S h rfl⟩
  · obtain ⟨v, w, rfl, r1, r2⟩ := rs.two_inv
    cases r1; cases r2
    exact call_max2 (hc rfl) pins s σ H _ us Q I r ⟨_, _, rfl, PostD.at S h rfl⟩
  · obtain ⟨v, w, rfl, r1, r2⟩ := rs.two_inv
    cases r1; cases r2
    exact call_min2 (hc rfl) pins s σ H _ us Q I r ⟨_, _, rfl, PostD.at S h rfl⟩
  · obtain ⟨v, rfl, r1⟩ := rs.one_inv
    split at h
    · rename_i i t e
      obtain ⟨ys, e1, e2⟩ := Option.bind_eq_some_iff.mp e
      obtain ⟨a, vs, rfl, q1, q2⟩ := content_rp S r1 e1
      have := intsOf_rp e2 q2
      subst this
      refine cr_max (hc rfl) pins s σ H _ us Q I r ⟨a, _, rfl, .of q1, by simp, fun m hm hy => ?_⟩
      have hx := maxI_max i t
      have : m = maxI (i :: t) := Int.le_antisymm (hx.2 m hm) (hy _ hx.1)
      rw [this]
      exact PostD.at S h rfl
    · exact h.elim
  · obtain ⟨v, rfl, r1⟩ := rs.one_inv
    split at h
    · rename_i i t e
      obtain ⟨ys, e1, e2⟩ := Option.bind_eq_some_iff.mp e
      obtain ⟨a, vs, rfl, q1, q2⟩ := content_rp S r1 e1
      have := intsOf_rp e2 q2
      subst this
      refine cr_min (hc rfl) pins s σ H _ us Q I r ⟨a, _, rfl, .of q1, by simp, fun m hm hy => ?_⟩
      have hx := minI_min i t
      have : m = minI (i :: t) := Int.le_antisymm (hy _ hx.1) (hx.2 m hm)
      rw [this]
      exact PostD.at S h rfl
    · split at h
      · rename_i d e
        obtain ⟨ys, e1, e2⟩ := Option.bind_eq_some_iff.mp e
        obtain ⟨a, vs, rfl, q1, q2⟩ := content_rp S r1 e1
        obtain ⟨p, ps, d1, d2, d3, d4⟩ := minG_dp q2 e2
        exact cr_minG hu (hc rfl) pins s σ H _ us Q I r ⟨a, vs, p, ps, rfl, .of q1, d1, d2, d3, fun i v hv hi hm => PostD.at S h (d4 i v hv hi hm)⟩
      · exact h.elim
  · obtain ⟨v, rfl, r1⟩ := rs.one_inv
    split at h
    · rename_i t e
      obtain ⟨ys, e1, e2⟩ := Option.bind_eq_some_iff.mp e
      obtain ⟨a, vs, rfl, q1, q2⟩ := content_rp S r1 e1
      have := intsOf_rp e2 q2
      subst this
      exact cr_sum (hc rfl) pins s σ H _ us Q I r ⟨a, _, rfl, .of q1, PostD.at S h rfl⟩
    · exact h.elim
  · obtain ⟨v, rfl, r1⟩ := rs.one_inv
    split at h
    · rename_i t e
      obtain ⟨ys, e1, e2⟩ := Option.bind_eq_some_iff.mp e
      obtain ⟨a, vs, rfl, q1, q2⟩ := content_rp S r1 e1
      have := blsOf_rp e2 q2
      subst this
      exact cr_all (hc rfl) pins s σ H _ us Q I r ⟨a, _, rfl, .of q1, PostD.at S h rfl⟩
    · exact h.elim
  · obtain ⟨v, rfl, r1⟩ := rs.one_inv
    split at h
    · rename_i t e
      obtain ⟨ys, e1, e2⟩ := Option.bind_eq_some_iff.mp e
      obtain ⟨a, vs, rfl, q1, q2⟩ := content_rp S r1 e1
      have := blsOf_rp e2 q2
      subst this
      exact cr_any (hc rfl) pins s σ H _ us Q I r ⟨a, _, rfl, .of q1, PostD.at S h rfl⟩
    · exact h.elim
  · obtain ⟨v, rfl, r1⟩ := rs.one_inv
    cases r1
    exact call_int1 pins s σ H _ us Q I r (.inl ⟨_, rfl, PostD.at S h rfl⟩)
  · obtain ⟨v, rfl, r1⟩ := rs.one_inv
    cases r1
    exact call_int1 pins s σ H _ us Q I r (.inr ⟨_, rfl, PostD.at S h rfl⟩)
  · obtain ⟨v, rfl, r1⟩ := rs.one_inv
    split at h
    · rename_i n e
      split at h
      · rename_i hl
        cases r1
        exact call_int_str pins s σ H _ us Q I r ⟨_, n, rfl, e, hl, PostD.at S h rfl⟩
      · exact h.elim
    · exact h.elim
  · obtain ⟨v, rfl, r1⟩ := rs.one_inv
    split at h
    · rename_i hl
      cases r1
      exact call_str_int pins s σ H _ us Q I r ⟨_, rfl, hl, PostD.at S h rfl⟩
    · exact h.elim
  · obtain ⟨v, rfl, r1⟩ := rs.one_inv
    split at h
    · rename_i ys e
      obtain ⟨a, vs, rfl, e1, r2⟩ := seq_rp S r1 e
      obtain ⟨hl, q⟩ := new_post S r2 h
      exact call_list_of pins s σ H _ us Q I r ⟨a, vs, rfl, e1, q⟩
    · exact h.elim
  · obtain ⟨v, rfl, r1⟩ := rs.one_inv
    split at h
    · obtain ⟨a, vs, rfl, e1, r2⟩ := r1
      exact call_tuple_of pins s σ H _ us Q I r ⟨a, vs, rfl, .inr ⟨.inl (.inl e1), PostD.at S h ⟨a, vs, rfl, e1, r2⟩⟩⟩
    · split at h
      · rename_i ys e
        split at h
        · obtain ⟨a, vs, rfl, e1, r2⟩ := content_rp S r1 e
          exact call_tuple_of pins s σ H _ us Q I r ⟨a, vs, rfl, .inl ⟨.of e1, ktup_post' S r2 h⟩⟩
        · exact h.elim
      · exact h.elim
  · obtain ⟨v, rfl, r1⟩ := rs.one_inv
    split at h
    · obtain ⟨a, vs, rfl, e1, r2⟩ := r1
      exact call_tuple_of pins s σ H _ us Q I r ⟨a, vs, rfl, .inr ⟨e1, PostD.at S h ⟨a, vs, rfl, e1, r2⟩⟩⟩
    · split at h
      · rename_i ys e
        split at h
        · obtain ⟨a, vs, rfl, e1, r2⟩ := content_rp S r1 e
          exact call_tuple_of pins s σ H _ us Q I r ⟨a, vs, rfl, .inl ⟨.of e1, tup_post S r2 h⟩⟩
        · exact h.elim
      · exact h.elim
  · obtain ⟨v, rfl, r1⟩ := rs.one_inv
    split at h
    · rename_i t e
      obtain ⟨ys, e1, e2⟩ := Option.bind_eq_some_iff.mp e
      obtain ⟨a, vs, rfl, q1, q2⟩ := content_rp S r1 e1
      have := intsOf_rp e2 q2
      subst this
      refine cr_sortedI pins s σ H _ us Q I r ⟨a, _, rfl, .of q1, fun ns' p hp hs hn => ?_⟩
      have e3 := sortI_is hp hs
      subst e3
      exact (new_post S (ints_rp _) h).2 p hn
    · split at h
      · rename_i ys e
        obtain ⟨xs, e1, e2⟩ := Option.bind_eq_some_iff.mp e
        obtain ⟨a, vs, rfl, q1, q2⟩ := content_rp S r1 e1
        obtain ⟨ts, t1, t2, t3, t4, t5, t6⟩ := sortG_tr S q2 e2
        subst t1
        exact cr_sortG hu pins s σ H _ us Q I r ⟨a, ts, rfl, .of q1, t2, t3, t4, t5, fun p hn => (new_post S t6 h).2 p hn⟩
      · exact h.elim
  · exact h.elim

def tyN : Ty → String
  | .int => "int"
  | .bool => "bool"
  | .str => "str"
  | .list => "list"
  | .tuple => "tuple"
/-- a value's own type -/
def tyD : D → List Cell → Option String
  | .non, _ => some "NoneType"
  | .bl _, _ => some "bool"
  | .int _, _ => some "int"
  | .str _, _ => some "str"
  | .tup _, _ => some "tuple"
  | .ktp _, _ => some "tuple"
  | .lst _, _ => some "list"
  | .fro _, _ => none
  | .dct _ _ _, _ => none
  | .exo _, _ => none
  | .ref i, M => match M[i]? with
    | some ⟨_, .lst _⟩ => some "list"
    | _ => none
theorem isi_kit {t : Ty} {d : D} {M : List Cell} {k : Bool} (h : isi t d M = some k) : ∃ n, tyD d M = some n ∧ kitB n (tyN t) = some k := by
  cases d with
  | non => cases h; exact ⟨_, rfl, by cases t <;> decide +kernel⟩
  | bl _ => cases h; exact ⟨_, rfl, by cases t <;> decide +kernel⟩
  | int _ => cases h; exact ⟨_, rfl, by cases t <;> decide +kernel⟩
  | str _ => cases h; exact ⟨_, rfl, by cases t <;> decide +kernel⟩
  | tup _ => cases h; exact ⟨_, rfl, by cases t <;> decide +kernel⟩
  | ktp _ => cases h; exact ⟨_, rfl, by cases t <;> decide +kernel⟩
  | lst _ => cases h; exact ⟨_, rfl, by cases t <;> decide +kernel⟩
  | fro _ => cases h
  | dct _ _ _ => cases h
  | exo _ => cases h
  | ref i =>
    have h' : (match M[i]? with
      | some ⟨_, .lst _⟩ => some (t == .list)
      | _ => none) = some k := h
    split at h'
    · rename_i m xs e
      cases h'
      refine ⟨"list", ?_, by cases t <;> decide +kernel⟩
      show (match M[i]? with
        | some ⟨_, .lst _⟩ => some "list"
        | _ => none) = some "list"
      rw [e]
    · cases h'
theorem tyD_rp {K : PySem.W.Frag} {H : Hp} {B : Addr → Prop} {as : List Addr} {M : List Cell} {d : D} {v : V} {n : String} (S : Sim K H B as M) (r : Rp K H (Av B as M) as d v) (h : tyD d M = some n) : TyX K H v (.type n) := by
  cases d with
  | non => cases h; cases r; exact .base .non
  | bl _ => cases h; cases r; exact .base (.bl _)
  | int _ => cases h; cases r; exact .base (.int _)
  | str _ => cases h; cases r; exact .base (.str _)
  | tup _ =>
    cases h
    obtain ⟨a, vs, rfl, q, _⟩ := r
    rcases q with (q | ⟨o, q⟩) | ⟨o, its, n, q, c, _⟩
    · exact .base (.tup q)
    · exact .fTuple q
    · exact .kTuple q c
  | ktp _ =>
    cases h
    obtain ⟨a, vs, rfl, q, _⟩ := r
    exact .base (.tup q)
  | lst _ =>
    cases h
    obtain ⟨a, vs, rfl, q, _⟩ := r
    exact .base (.lst q)
  | fro _ => cases h
  | dct _ _ _ => cases h
  | exo _ => cases h
  | ref i =>
    have h' : (match M[i]? with
        | some ⟨_, .lst _⟩ => some "list"
        | _ => none) = some n := h
    split at h'
    · rename_i m xs e
      cases h'
      obtain ⟨a, vs, rfl, q, _⟩ := content_rp (xs := xs) S r (show (match M[i]? with
        | some ⟨_, .lst xs⟩ => some xs
        | _ => none) = some xs by rw [e])
      exact .base (.lst q)
    · cases h'
theorem call_isiD (t : Ty) : CallR X (.builtin "isinstance") (fun xs H Q => ∃ x B as M d k, xs = [x, .ty (tyN t)] ∧ Sim X.K H B as M ∧ Rp X.K H (Av B as M) as d x ∧ isi t d M = some k ∧ Q (.bl k) H) := by
  intro pins s σ H xs us Q I r h
  obtain ⟨x, B, as, M, d, k, rfl, S, rx, e, q⟩ := h
  obtain ⟨n, e1, e2⟩ := isi_kit e
  exact call_isi pins s σ H _ us Q I r ⟨x, _, _, _, k, rfl, .ty _, tyD_rp S rx e1, kit_ty e2, q⟩

theorem atI_rp {K : PySem.W.Frag} {H : Hp} {B : Addr → Prop} {as : List Addr} {ds : List D} {vs : List V} {i : Int} {d : D} (r : Rps K H B as ds vs) (h : atI ds i = some d) : ∃ v, atI vs i = some v ∧ Rp K H B as d v := by
  unfold atI at h ⊢
  rw [r.len]
  obtain ⟨j, e1, e2⟩ := Option.bind_eq_some_iff.mp h
  obtain ⟨v, q1, q2⟩ := r.get e2
  exact ⟨v, by rw [e1]; exact q1, q2⟩
theorem ix_idx : IxR X (rOp2 X.K E idxD) := by
  intro value slice pins s σ H x y v u Q I rx ry h hs
  obtain ⟨B, as, M, a, b, S, ra, rb, h⟩ := h
  unfold idxD at h
  split at h
  · rename_i i
    cases rb
    split at h
    · rename_i xs e
      split at h
      · rename_i d e2
        obtain ⟨p, vs, rfl, q1, q2⟩ := seq_rp S ra e
        obtain ⟨w, e3, q3⟩ := atI_rp q2 e2
        refine ix_seq value slice pins s σ H _ _ v u Q I rx ry ?_ hs
        rcases q1 with q1 | q1
        · exact .inl ⟨p, vs, i, w, rfl, rfl, q1, e3, PostD.at S h q3⟩
        · exact .inr (.inl ⟨p, vs, i, w, rfl, rfl, q1, e3, PostD.at S h q3⟩)
      · exact h.elim
    · split at h
      · split at h
        · rename_i hl
          split at h
          · rename_i c e2
            cases ra
            exact ix_seq value slice pins s σ H _ _ v u Q I rx ry (.inr (.inr ⟨_, i, c, rfl, rfl, Nat.le_trans hl LIM_le, e2, PostD.at S h rfl⟩)) hs
          · exact h.elim
        · exact h.elim
      · exact h.elim
  · exact h.elim
theorem sl_slc (m : Bool) : SlR X (fun x lo hi H Q => ∃ B as M a, Sim X.K H B as M ∧ Rp X.K H (Av B as M) as a x ∧ PostD X.K H B as M E (slcD m a lo hi M) Q) := by
  intro pins s σ H x v vl vu lo hi sl Q I rx g1 g2 g3 h
  obtain ⟨B, as, M, a, S, ra, h⟩ := h
  unfold slcD at h
  split at h
  · rename_i xs e
    obtain ⟨p, vs, rfl, q1, q2⟩ := listOf_rp S ra e
    obtain ⟨_, q⟩ := new_post S (q2.cut lo hi) h
    exact sl_list pins s σ H _ v vl vu lo hi sl Q I rx g1 g2 g3 ⟨p, vs, rfl, q1, q⟩
  · split at h
    · rename_i xs _
      obtain ⟨p, vs, rfl, q1, q2⟩ := ra
      refine sl_tupA pins s σ H _ v vl vu lo hi sl Q I rx g1 g2 g3 ⟨p, vs, rfl, q1, fun hw => ?_, fun _ => tup_post S (q2.cut lo hi) h⟩
      have e : cutL xs lo hi = xs := by
        rw [q2.len] at hw
        unfold cutL
        rw [hw.1, hw.2, List.drop_zero, Nat.sub_zero, List.take_length]
      rw [e] at h
      exact PostD.at S h ⟨p, vs, rfl, q1, q2⟩
    · rename_i xs _
      obtain ⟨p, vs, rfl, q1, q2⟩ := ra
      refine sl_tupA pins s σ H _ v vl vu lo hi sl Q I rx g1 g2 g3 ⟨p, vs, rfl, .inl (.inl q1), fun hw => ?_, fun _ => ktup_post' S (q2.cut lo hi) h⟩
      have e : cutL xs lo hi = xs := by
        rw [q2.len] at hw
        unfold cutL
        rw [hw.1, hw.2, List.drop_zero, Nat.sub_zero, List.take_length]
      rw [e] at h
      exact PostD.at S h ⟨p, vs, rfl, q1, q2⟩
    · split at h
      · rename_i hl
        cases ra
        exact sl_str pins s σ H _ v vl vu lo hi sl Q I rx g1 g2 g3 ⟨_, rfl, Nat.le_trans hl LIM_le, PostD.at S h rfl⟩
      · exact h.elim
    · exact h.elim
theorem set_setD : PSet X (fun o i v H Q => ∃ B as M a b d M', Sim X.K H B as M ∧ Rp X.K H (Av B as M) as a o ∧ Rp X.K H (Av B as M) as b i ∧ Rp X.K H (Av B as M) as d v ∧ setD a b d M = some M' ∧
    ∀ H', Go as M H as M' H' → Sim X.K H' B as M' → Q H') := by
  intro pins s σ H o i v ov iv u Q I ro ri rv h
  obtain ⟨B, as, M, a, b, d, M', S, ra, rb, rd, e, q⟩ := h
  unfold setD at e
  split at e
  · rename_i p k
    split at e
    · rename_i xs e1
      split at e
      · rename_i j e2
        cases e
        obtain ⟨c, h1, rfl⟩ := ra
        cases rb
        obtain ⟨vs, h2, h3⟩ := S.cell p c _ h1 e1
        refine set_list pins s σ H _ _ v ov iv u Q I ro ri rv ⟨c, vs, k, j, rfl, rfl, h2, by rw [h3.len]; exact e2, ?_⟩
        exact q _ (Go.put S h1 e1) (Sim.put S h1 e1 (h3.set j rd))
      · cases e
    · cases e
  · cases e

def mtN : Mt → String
  | .append => "list.append"
  | .extend => "list.extend"
  | .pop => "list.pop"
  | .popAt => "list.pop"
  | .clear => "list.clear"
  | .reverse => "list.reverse"
  | .insert => "list.insert"
  | .index => "list.index"
theorem seqIx_nat {j : Int} {n : Nat} (h0 : 0 ≤ j) (h1 : j < n) : seqIndex? j n = some j.toNat := by
  unfold seqIndex?
  have h2 : ¬ j < 0 := by omega
  simp [h2, h0, h1]
theorem Rps.eraseIdx {K : PySem.W.Frag} {H : Hp} {B : Addr → Prop} {as : List Addr} : ∀ {ds : List D} {vs : List V} (n : Nat), Rps K H B as ds vs → Rps K H B as (ds.eraseIdx n) (vs.eraseIdx n)
  | [], _, _, h => by cases h; simp [Rps]
  | x :: xs, _, 0, h => by
    obtain ⟨v, r, rfl, h1, h2⟩ := h
    exact h2
  | x :: xs, _, n + 1, h => by
    obtain ⟨v, r, rfl, h1, h2⟩ := h
    exact ⟨v, r.eraseIdx n, rfl, h1, h2.eraseIdx n⟩
theorem mt_meth (f : Mt) : MtR X (mtN f) (fun x xs H Q => ∃ B as M a ds, Sim X.K H B as M ∧ Rp X.K H (Av B as M) as a x ∧ Rps X.K H (Av B as M) as ds xs ∧ PostD X.K H B as M E (meth f a ds M) Q) := by
  intro pins s σ H x xs v us Q I rx rv h
  obtain ⟨B, as, M, a, ds, S, ra, rs, h⟩ := h
  have fin : ∀ {i : Nat} {c : Addr} {d : D} {ys : List D} {vs : List V} {r : D} {w : V}, as[i]? = some c → M[i]? = some ⟨true, d⟩ → Rps X.K H (Av B as M) as ys vs → Rp X.K H (Av B as M) as r w →
      PostD X.K H B as M E (.ok r (M.set i ⟨true, .lst ys⟩)) Q → Q w (upd H c (.lst vs)) := fun h1 h2 h3 h4 h => h as _ _ (Go.put S h1 h2) (Sim.put S h1 h2 h3) ((Go.put S h1 h2).rp S h4)
  unfold meth at h
  split at h
  · obtain ⟨w, rfl, r1⟩ := rs.one_inv
    split at h
    · rename_i ys e
      split at h
      · rename_i hl
        obtain ⟨c, h1, rfl⟩ := ra
        obtain ⟨vs, h2, h3⟩ := S.cell _ c _ h1 e
        exact mt_append pins s σ H _ _ v us Q I rx rv ⟨c, vs, w, rfl, rfl, h2, by rw [h3.len]; exact Nat.lt_trans hl LIM_lt, fin (r := .non) (w := .non) h1 e (h3.append (Rps.one r1)) rfl h⟩
      · exact h.elim
    · exact h.elim
  · obtain ⟨w, rfl, r1⟩ := rs.one_inv
    split at h
    · rename_i ys zs e e2
      split at h
      · rename_i hl
        obtain ⟨c, h1, rfl⟩ := ra
        obtain ⟨vs, h2, h3⟩ := S.cell _ c _ h1 e
        obtain ⟨b, ws, rfl, h4, h5⟩ := content_rp S r1 e2
        exact mt_extend pins s σ H _ _ v us Q I rx rv ⟨c, b, vs, ws, rfl, rfl, h2, h4, by rw [h3.len, h5.len]; exact Nat.le_trans hl LIM_le, fin (r := .non) (w := .non) h1 e (h3.append h5) rfl h⟩
      · exact h.elim
    · exact h.elim
  · have := rs.nil_inv
    subst this
    split at h
    · rename_i ys e
      split at h
      · rename_i y e2
        obtain ⟨c, h1, rfl⟩ := ra
        obtain ⟨vs, h2, h3⟩ := S.cell _ c _ h1 e
        obtain ⟨w, h4, h5⟩ := h3.get e2
        exact mt_pop pins s σ H _ _ v us Q I rx rv ⟨c, vs, w, rfl, rfl, h2, by rw [h3.len]; exact h4, fin h1 e h3.dropLast h5 h⟩
      · exact h.elim
    · exact h.elim
  · have := rs.nil_inv
    subst this
    split at h
    · rename_i ys e
      obtain ⟨c, h1, rfl⟩ := ra
      obtain ⟨vs, h2, h3⟩ := S.cell _ c _ h1 e
      exact mt_clear pins s σ H _ _ v us Q I rx rv ⟨c, vs, rfl, rfl, h2, fin (r := .non) (w := .non) (ys := []) (vs := []) h1 e rfl rfl h⟩
    · exact h.elim
  · obtain ⟨w, rfl, r1⟩ := rs.one_inv
    split at h
    · rename_i ys e
      split at h
      · rename_i hj
        split at h
        · rename_i y e2
          cases r1
          obtain ⟨c, h1, rfl⟩ := ra
          obtain ⟨vs, h2, h3⟩ := S.cell _ c _ h1 e
          obtain ⟨w, h4, h5⟩ := h3.get e2
          have hlt := (List.getElem?_eq_some_iff.mp h4).1
          refine mt_popAt pins s σ H _ _ v us Q I rx rv ⟨c, vs, _, _, w, rfl, rfl, h2, by have := hj.1; omega, by have := hj.2; unfold Lt62 at this; omega, ?_, h4, fin h1 e (h3.eraseIdx _) h5 h⟩
          exact seqIx_nat hj.1 (by have := hj.1; omega)
        · exact h.elim
      · exact h.elim
    · exact h.elim
  · obtain ⟨w1, w, rfl, r0, r1⟩ := rs.two_inv
    split at h
    · rename_i ys e
      split at h
      · rename_i hj
        cases r0
        obtain ⟨c, h1, rfl⟩ := ra
        obtain ⟨vs, h2, h3⟩ := S.cell _ c _ h1 e
        exact mt_insert pins s σ H _ _ v us Q I rx rv ⟨c, vs, _, w, rfl, rfl, h2, by rw [h3.len]; exact Nat.lt_trans hj.1 LIM_lt, hj.2.1, by have := hj.2.2; unfold Lt62 at this; omega, fin (r := .non) (w := .non) h1 e (((h3.take _).append (Rps.one r1)).append (h3.drop _)) rfl h⟩
      · exact h.elim
    · exact h.elim
  · have := rs.nil_inv
    subst this
    split at h
    · rename_i ys e
      obtain ⟨c, h1, rfl⟩ := ra
      obtain ⟨vs, h2, h3⟩ := S.cell _ c _ h1 e
      exact mt_reverse pins s σ H _ _ v us Q I rx rv ⟨c, vs, rfl, rfl, h2, fin (r := .non) (w := .non) h1 e h3.reverse rfl h⟩
    · exact h.elim
  · obtain ⟨w, rfl, r1⟩ := rs.one_inv
    split at h
    · rename_i xs e
      split at h
      · rename_i hf
        split at h
        · rename_i j ej
          obtain ⟨p, vs, rfl, q1, q2⟩ := content_rp S ra e
          obtain ⟨e1, f1⟩ := flV_rp hf.1 r1
          obtain ⟨e2, f2⟩ := flVs_rp hf.2 q2
          obtain ⟨hj, h4, h5⟩ := List.findIdx?_eq_some_iff_getElem.mp ej
          refine mt_index pins s σ H _ _ v us Q I rx rv ⟨p, vs, w, j, flV xs[j], rfl, rfl, .of q1, f1, f2, ?_, ?_, fun m z hm hz => ?_, PostD.at S h rfl⟩
          · rw [e2, List.getElem?_map, List.getElem?_eq_getElem hj]; rfl
          · rw [e1]; exact h4
          · rw [e2, List.getElem?_map, List.getElem?_eq_getElem (Nat.lt_trans hm hj)] at hz
            cases hz
            have := h5 m hm
            rw [e1]
            simpa using this
        · exact h.elim
      · exact h.elim
    · exact h.elim
  · exact h.elim
def tmN : Tm → String
  | .join => "str.join"
  | .split _ => "str.split"
  | .startswith => "str.startswith"
  | .find => "str.find"
  | .isdigit => "str.isdigit"
  | .partition => "str.partition"
theorem strsOf_rp {K : PySem.W.Frag} {H : Hp} {B : Addr → Prop} {as : List Addr} : ∀ {ds : List D} {vs : List V} {ns : List Str}, strsOf ds = some ns → Rps K H B as ds vs → vs = ns.map V.str
  | [], _, _, e, r => by
    cases r; cases e; rfl
  | x :: xs, _, ns, e, r => by
    obtain ⟨v, r', rfl, h1, h2⟩ := r
    cases x with
    | str i =>
      cases h1
      have e' : (strsOf xs).map (fun r => i :: r) = some ns := e
      cases e1 : strsOf xs with
      | none => rw [e1] at e'; cases e'
      | some m =>
        rw [e1] at e'
        cases e'
        rw [strsOf_rp e1 h2]; rfl
    | _ => cases e
theorem strs_rp {K : PySem.W.Frag} {H : Hp} {B : Addr → Prop} {as : List Addr} : ∀ ns : List Str, Rps K H B as (ns.map D.str) (ns.map V.str)
  | [] => rfl
  | n :: ns => ⟨.str n, ns.map V.str, rfl, rfl, strs_rp ns⟩
theorem mt_tm (f : Tm) : MtR X (tmN f) (fun x xs H Q => ∃ B as M a ds, Sim X.K H B as M ∧ x = .str a ∧ Rps X.K H (Av B as M) as ds xs ∧ PostD X.K H B as M E (tmD f a ds M) Q) := by
  intro pins s σ H x xs v us Q I rx rv h
  obtain ⟨B, as, M, a, ds, S, rfl, rs, h⟩ := h
  unfold tmD at h
  split at h
  · obtain ⟨w, rfl, r1⟩ := rs.one_inv
    split at h
    · rename_i ys e
      split at h
      · rename_i hl
        obtain ⟨zs, e1, e2⟩ := Option.bind_eq_some_iff.mp e
        obtain ⟨p, vs, rfl, q1, q2⟩ := content_rp S r1 e1
        have := strsOf_rp e2 q2
        subst this
        exact mt_join pins s σ H _ _ v us Q I rx rv ⟨_, p, ys, rfl, rfl, .inl (.of q1), Nat.le_trans hl (by unfold LIM; decide), PostD.at S h rfl⟩
      · exact h.elim
    · exact h.elim
  · obtain ⟨w, rfl, r1⟩ := rs.one_inv
    split at h
    · rename_i hl
      cases r1
      obtain ⟨_, q⟩ := new_post S (strs_rp _) h
      exact mt_split pins s σ H _ _ v us Q I rx rv ⟨_, _, rfl, rfl, hl.1, Nat.le_trans hl.2 LIM_le, q⟩
    · exact h.elim
  · obtain ⟨w, rfl, r1⟩ := rs.one_inv
    cases r1
    exact mt_startswith pins s σ H _ _ v us Q I rx rv ⟨_, _, rfl, rfl, PostD.at S h rfl⟩
  · obtain ⟨w, rfl, r1⟩ := rs.one_inv
    cases r1
    exact mt_find pins s σ H _ _ v us Q I rx rv ⟨_, _, rfl, rfl, PostD.at S h rfl⟩
  · have := rs.nil_inv
    subst this
    exact mt_isdigit pins s σ H _ _ v us Q I rx rv ⟨_, rfl, rfl, trivial, PostD.at S h rfl⟩
  · obtain ⟨w, rfl, r1⟩ := rs.one_inv
    split at h
    · rename_i hl
      cases r1
      exact mt_partition pins s σ H _ _ v us Q I rx rv ⟨_, _, rfl, rfl, hl.1, Nat.le_trans hl.2 LIM_le, tup_post (vs := [.str _, .str _, .str _]) S (show Rps X.K H (Av B as M) as [.str _, .str _, .str _] _ from ⟨_, _, rfl, rfl, _, _, rfl, rfl, _, _, rfl, rfl, rfl⟩) h⟩
    · exact h.elim
  · exact h.elim
end
end Sg

namespace Sg
open PySem PySem.Spec PyProof.Rows L2

structure Ctx where
  N : List Str
  sc : Scope
  fn : Str → Bool
  nm : Nat → Option Str
  ex : Nat → Option Str
  gl : List (Str × D)
  k : Nat
  hot : Bool
  xk : Nat → Option Str
  wd : Option Str

def plainN (x : Str) : Bool := !(x == ("__debug__" : Str)) && !(x == ("__classdict__" : Str)) && !(x == ("__name__" : Str))
def visOk (sc : Scope) (x : Str) : Bool := match sc.names.lookup x with
  | some .local => true
  | some .cell => true
  | some .free => true
  | _ => false
def locOk (sc : Scope) (x : Str) : Bool := match sc.names.lookup x with
  | some .local => true
  | some .cell => true
  | _ => false
def glOk (sc : Scope) (x : Str) : Bool := match sc.names.lookup x with
  | some .globalImplicit => true
  | _ => false
def biN : Bi → String
  | .len => "len"
  | .abs => "abs"
  | .max2 => "max"
  | .min2 => "min"
  | .max1 => "max"
  | .min1 => "min"
  | .sum => "sum"
  | .all => "all"
  | .any => "any"
  | .int => "int"
  | .str => "str"
  | .list _ => "list"
  | .tuple => "tuple"
  | .ktuple => "tuple"
  | .sorted _ => "sorted"
/-- the built-in names that the module must not bind -/
def mtA : Mt → String
  | .append => "append"
  | .extend => "extend"
  | .pop => "pop"
  | .popAt => "pop"
  | .clear => "clear"
  | .reverse => "reverse"
  | .insert => "insert"
  | .index => "index"
def tmA : Tm → String
  | .join => "join"
  | .split _ => "split"
  | .startswith => "startswith"
  | .find => "find"
  | .isdigit => "isdigit"
  | .partition => "partition"
def constOk : D → Const → Bool
  | .non, .none => true
  | .bl a, .bool b => a == b
  | .int a, .int b => a == b
  | .str a, .str b => decide (a = b)
  | _, _ => false
def isTup : Expr → Bool
  | .Tuple _ _ _ => true
  | _ => false
def ownP (N : List Str) (own : List Nat) : List (Str × Nat) := own.map fun i => (N.getD i "", i)
def blkX (c : Ctx) (scope : Scope) : Ctx := { c with sc := relS scope c.sc, fn := fun x => scope.names.lookup x == some .cell, xk := fun _ => none, wd := none }
mutual
/-- all slots that a target stores are among vs -/
def tSub : T → List Nat → Bool
  | .var i, vs => vs.contains i
  | .tup ts, vs => tSubs ts vs
  | .idx _ _, _ => true
def tSubs : Ts → List Nat → Bool
  | .nil, _ => true
  | .cons t ts, vs => tSub t vs && tSubs ts vs
end
def isNm : Expr → Bool
  | .Name _ _ => true
  | _ => false
def notComp : Expr → Bool
  | .ListComp _ _ _ _ => false
  | .SetComp _ _ _ _ => false
  | .DictComp _ _ _ _ _ => false
  | _ => true
/-- literals -/
def litOk (d : D) : Expr → Bool
  | .Constant k _ _ => constOk d k
  | .UnaryOp .USub (.Constant (.int i) _ _) _ => match d with
    | .int j => j == -i
    | _ => false
  | _ => false
def litsOk : List D → List D → List (Option Expr) → List Expr → Bool
  | [], [], [], [] => true
  | k :: ks, v :: vs, some x :: xs, y :: ys => litOk k x && (litOk v y && (key1 k && (!dHas k ks && litsOk ks vs xs ys)))
  | _, _, _, _ => false
/-- what is walked within an except suite -/
def coolIt : It → Bool
  | .rng1 _ => true
  | _ => false
/-- is x one of the shapes that the check lets by -/
def shp : Expr → Bool
  | .Starred _ _ => false
  | .Set _ _ _ => false
  | .Slice _ _ _ _ => false
  | .SetComp _ _ _ _ => false
  | .DictComp _ _ _ _ _ => false
  | .Call (.Name _ _) [] _ _ => false
  | _ => true
mutual
def okE : E → Ctx → Expr → Bool
  | .var i, c, x => match x with
    | .Name n _ => decide (c.N[i]? = some n) && visOk c.sc n && plainN n
    | _ => false
  | .c d, _, x => match x with
    | .Constant k _ _ => constOk d k
    | _ => false
  | .glob n d, c, x => match x with
    | .Name m _ => decide (n = m) && glOk c.sc n && plainN n && c.gl.any fun p => decide (p.1 = n) && beqD p.2 d
    | _ => false
  | .bin _ op a b, c, x => match x with
    | .BinOp p o q _ => decide (op = o) && okE a c p && okE b c q
    | _ => false
  | .un op a, c, x => match x with
    | .UnaryOp o p _ => decide (op = o) && okE a c p
    | _ => false
  | .cmp op a b, c, x => match x with
    | .Compare p [o] [q] _ => decide (op = o) && okE a c p && okE b c q
    | _ => false
  | .chain o1 o2 a b d, c, x => match x with
    | .Compare p [q1, q2] [q, r] _ => decide (o1 = q1) && decide (o2 = q2) && okE a c p && okE b c q && okE d c r
    | _ => false
  | .bop op es, c, x => match x with
    | .BoolOp o ps _ => decide (op = o) && okEs es c ps
    | _ => false
  | .ite a b d, c, x => match x with
    | .IfExp p q r _ => okE a c p && okE b c q && okE d c r
    | _ => false
  | .tup es, c, x => match x with
    | .Tuple ps _ _ => okEs es c ps
    | _ => false
  | .ktup es, c, x => match x with
    | .Tuple ps _ _ => okEs es c ps
    | _ => false
  | .dnew _, _, x => match x with
    | .Dict [] [] _ => true
    | _ => false
  | .dlit ks vs, _, x => match x with
    | .Dict xs ys _ => litsOk ks vs xs ys && (!ks.isEmpty && decide (ks.length ≤ 15))
    | _ => false
  | .dun e, c, x => match x with
    | .Dict [some (.Tuple [] _ _)] [y] _ => okE e c y
    | _ => false
  | .dget a b, c, x => match x with
    | .Subscript p q _ => okE a c p && okE b c q
    | _ => false
  | .dgetd a b d, c, x => match x with
    | .Call (.Attribute p n apos) [q, r] [] pos => decide (n = ("get" : Str)) && ((apos.endLine == pos.line) && (okE a c p && (okE b c q && okE d c r)))
    | _ => false
  | .din ng a b, c, x => match x with
    | .Compare p [o] [q] _ => decide (o = if ng then .NotIn else .In) && (okE a c p && okE b c q)
    | _ => false
  | .dlst _ a, c, x => match x with
    | .Call (.Name n _) [p] [] _ => !c.hot && (decide (n = ("list" : Str)) && (glOk c.sc n && okE a c p))
    | _ => false
  | .dmax a, c, x => match x with
    | .Call (.Name n _) [.Call (.Attribute p vn apos) [] [] mpos] [] _ => !c.hot && (decide (n = ("max" : Str)) && (decide (vn = ("values" : Str)) && (glOk c.sc n && ((apos.endLine == mpos.line) && okE a c p))))
    | _ => false
  | .dsum _, _, _ => false
  | .lst _ es, c, x => match x with
    | .List ps _ => okEs es c ps
    | _ => false
  | .idx a b, c, x => match x with
    | .Subscript p q _ => okE a c p && okE b c q
    | _ => false
  | .slc _ a lo hi, c, x => match x with
    | .Subscript p (.Slice l h none _) _ => okE a c p && okO lo c l && okO hi c h
    | _ => false
  | .call f _ es, c, x => match x with
    | .Call (.Name n _) (p :: ps) [] _ => !c.hot && (decide (c.nm f = some n) && glOk c.sc n && plainN n && okEs es c (p :: ps))
    | _ => false
  | .bi f es, c, x => match x with
    | .Call (.Name n _) (p :: ps) [] _ => decide (n = (biN f : Str)) && (!c.hot || coolBi f) && glOk c.sc n && okEs es c (p :: ps)
    | _ => false
  | .isi a t, c, x => match x with
    | .Call (.Name n _) [p, .Name m _] [] _ => decide (n = ("isinstance" : Str)) && decide (m = (tyN t : Str)) && glOk c.sc n && glOk c.sc m && okE a c p
    | _ => false
  | .meth f a es, c, x => match x with
    | .Call (.Attribute p n apos) ps [] pos => decide (n = (mtA f : Str)) && (apos.endLine == pos.line) && okE a c p && okEs es c ps && decide (ps.length < 20)
    | _ => false
  | .tm f a es, c, x => match x with
    | .Call (.Attribute p n apos) ps [] pos => decide (n = (tmA f : Str)) && (apos.endLine == pos.line) && okE a c p && okEs es c ps && decide (ps.length < 20)
    | _ => false
  | .comp _ own t it cd e, c, x => match x with
    | .ListComp y [⟨tg, iter, ifs, 0⟩] scope _ => blkC c.N c.sc scope (ownP c.N own) && (!c.hot || coolIt it) && okIt it c (isTup tg) iter && okT t (blkX c scope) tg && tSub t own && okC cd (blkX c scope) ifs && okE e (blkX c scope) y
    | _ => false
  | .compV _ own t l cd e, c, x => match x with
    | .ListComp y [⟨tg, iter, ifs, 0⟩] scope _ => blkC c.N c.sc scope (ownP c.N own) && !c.hot && okE l c iter && okT t (blkX c scope) tg && tSub t own && okC cd (blkX c scope) ifs && okE e (blkX c scope) y
    | _ => false
  | .rep _ a b, c, x => match x with
    | .BinOp p o q _ => decide (o = .Mult) && okE a c p && okE b c q
    | _ => false
  | .snap e, c, x => notComp x && okE e c x
  | .orL a b, c, x => match x with
    | .BoolOp .Or [p, q] _ => okE a c p && okE b c q
    | _ => false
  | .hole, _, x => notComp x && shp x
  | .lrng _ a, c, x => match x with
    | .Call (.Name n _) [.Call (.Name m _) [p] [] _] [] _ => !c.hot && (decide (n = ("list" : Str)) && (decide (m = ("range" : Str)) && (glOk c.sc n && (glOk c.sc m && okE a c p))))
    | _ => false
  | .lrng2 _ a b, c, x => match x with
    | .Call (.Name n _) [.Call (.Name m _) [p, q] [] _] [] _ => !c.hot && (decide (n = ("list" : Str)) && (decide (m = ("range" : Str)) && (glOk c.sc n && (glOk c.sc m && (okE a c p && okE b c q)))))
    | _ => false
  | .rvl _ sl a, c, x => match x with
    | .Call (.Name n _) [.Call (.Name m _) [p] [] _] [] _ => !sl && (!c.hot && (decide (n = ("list" : Str)) && (decide (m = ("reversed" : Str)) && (glOk c.sc n && (glOk c.sc m && okE a c p)))))
    | .Subscript p (.Slice none none (some (.UnaryOp .USub (.Constant (.int 1) _ _) _)) _) _ => sl && okE a c p
    | _ => false
  | .xis i k, c, x => match x with
    | .Call (.Name n _) [.Name v _, .Name m _] [] _ => c.hot && (decide (n = ("isinstance" : Str)) && (glOk c.sc n && (decide (c.N[i]? = some v) && (visOk c.sc v && (plainN v && (decide (c.xk k = some m) && (glOk c.sc m && plainN m)))))))
    | _ => false
def okO : O → Ctx → Option Expr → Bool
  | .no, _, x => x.isNone
  | .so e, c, x => match x with
    | some y => okE e c y
    | none => false
def okC : O → Ctx → List Expr → Bool
  | .no, _, xs => xs.isEmpty
  | .so e, c, xs => match xs with
    | [y] => okE e c y
    | _ => false
def okEs : Es → Ctx → List Expr → Bool
  | .nil, _, xs => xs.isEmpty
  | .cons e es, c, xs => match xs with
    | y :: ys => okE e c y && okEs es c ys
    | [] => false
/-- tp: whether the target is a tuple -/
def okIt : It → Ctx → Bool → Expr → Bool
  | .val e, c, _, x => okE e c x
  | .rng1 a, c, _, x => match x with
    | .Call (.Name n _) [p] [] _ => decide (n = ("range" : Str)) && glOk c.sc n && okE a c p
    | _ => false
  | .rng2 a b, c, _, x => match x with
    | .Call (.Name n _) [p, q] [] _ => decide (n = ("range" : Str)) && glOk c.sc n && okE a c p && okE b c q
    | _ => false
  | .rng3 a b d, c, _, x => match x with
    | .Call (.Name n _) [p, q, r] [] _ => decide (n = ("range" : Str)) && glOk c.sc n && okE a c p && okE b c q && okE d c r
    | _ => false
  | .zip a b, c, tp, x => match x with
    | .Call (.Name n _) [p, q] [] _ => decide (n = ("zip" : Str)) && glOk c.sc n && okE a c p && okE b c q && tp
    | _ => false
  | .enum a, c, tp, x => match x with
    | .Call (.Name n _) [p] [] _ => decide (n = ("enumerate" : Str)) && glOk c.sc n && okE a c p && tp
    | _ => false
  | .rev a, c, _, x => match x with
    | .Call (.Name n _) [p] [] _ => decide (n = ("reversed" : Str)) && glOk c.sc n && okE a c p
    | _ => false
  | .keys a, c, _, x => okE a c x
  | .chars a, c, _, x => okE a c x
  | .vals a, c, _, x => match x with
    | .Call (.Attribute p n apos) [] [] pos => decide (n = ("values" : Str)) && ((apos.endLine == pos.line) && okE a c p)
    | _ => false
  | .revR a, c, _, x => match x with
    | .Call (.Name n _) [.Call (.Name m _) [p] [] _] [] _ => decide (n = ("reversed" : Str)) && (decide (m = ("range" : Str)) && (glOk c.sc n && (glOk c.sc m && okE a c p)))
    | _ => false
  | .revR2 a b, c, _, x => match x with
    | .Call (.Name n _) [.Call (.Name m _) [p, q] [] _] [] _ => decide (n = ("reversed" : Str)) && (decide (m = ("range" : Str)) && (glOk c.sc n && (glOk c.sc m && (okE a c p && okE b c q))))
    | _ => false
def okT : T → Ctx → Expr → Bool
  | .var i, c, x => match x with
    | .Name n _ => decide (c.N[i]? = some n) && locOk c.sc n && (c.fn n || decide (c.sc.names.lookup n = some .local))
    | _ => false
  | .tup ts, c, x => match x with
    | .Tuple ps _ _ => !c.hot && okTs ts c ps
    | _ => false
  | .idx o i, c, x => match x with
    | .Subscript p q _ => okE o c p && okE i c q
    | _ => false
def okTs : Ts → Ctx → List Expr → Bool
  | .nil, _, xs => xs.isEmpty
  | .cons t ts, c, xs => match xs with
    | y :: ys => okT t c y && okTs ts c ys
    | [] => false
end
theorem okE_shp (e : E) (c : Ctx) (x : Expr) (h : okE e c x = true) : shp x = true := by
  cases e with
  | snap e =>
    unfold okE at h
    rw [Bool.and_eq_true] at h
    exact okE_shp e c x h.2
  | hole =>
    unfold okE at h
    rw [Bool.and_eq_true] at h
    exact h.2
  | dsum _ => unfold okE at h; cases h
  | _ => (unfold okE at h; split at h <;> first | rfl | (cases h; done) | skip)
end Sg

/-! SgHot: a comprehension within an except suite; a def that is called there with the error that is handled. -/
namespace SgH
noncomputable section
open PySem PySem.Spec PyProof.Rows L2 L2H
abbrev St := L2.St
abbrev hblk (X : Cx) (s : Shared) (H : Hp) (scope : Scope) (cenv : Env) (fp : List Addr) : Cx := { X.blk s H scope cenv fp with pn := X.pn }
theorem hotC_blk {X : Cx} {s : Shared} {H : Hp} {scope : Scope} {cenv : Env} {fp : List Addr} (h : HotC X) : HotC (hblk X s H scope cenv fp) := by
  obtain ⟨p, h1, h2⟩ := h
  exact ⟨p, h1, h2⟩
section
variable {X : Cx} {pins : List (Addr × Obj)} {σ : St} {H : Hp} {s : Shared}
theorem hblk_start {scope : Scope} {own : List (Str × Nat)} {fp : List Addr} (I : Inv X pins σ H s) (ok : BlkOk X.N X.env.scope scope own) (hN : X.N.Nodup) (hfp : ∀ b ∈ fp, FpOk X pins H b ∧ b < s.heap.objs.size) :
    Inv (hblk X s H scope (compEnvC scope (cellsFrom (s.heap.objs.size + 1) scope.names (cloFrom X.env.cells scope.names [])) s.heap.objs.size X.env) fp) [] (wipe σ (own.map (·.2))) H { s with heap := pushCells (s.heap.push { cls := .type "dict", data := .dict #[] }) scope.names } := by
  have J := block_start I ok hN hfp
  refine ⟨?_, J.os, J.bare, J.base, J.loc, J.cell, J.free, J.freeC, fun q hq => ?_, J.hok, J.len⟩
  · have o := J.ok
    exact ⟨o.mod, o.kind, o.glob, o.blt, o.above, o.inj, o.has, o.cab, o.hd, o.frames, o.stk, o.exf, o.bs, o.bsz, o.noex, o.exfs, o.funs, o.frf⟩
  · have hq : q ∈ X.pn := by
      rcases List.mem_append.mp hq with z | z
      · exact z
      · cases z
    obtain ⟨g1, g2, g3, g4, g5⟩ := I.pin q (List.mem_append_left _ hq)
    refine ⟨pushCells_keeps _ _ _ _ (Heap.get?_push_of_some _ g1), g2, Nat.ne_of_lt (Heap.lt_size g1), fun z => ?_, g5⟩
    rcases List.mem_cons.mp (I.stkSub q.1 z) with e | e
    · exact g3 e
    · exact g4 e
theorem hlc_core {Q : VK} {elt tg iter : Expr} {ifs : List Expr} {scope : Scope} {own : List (Str × Nat)} {pos pos' : Pos} {wi : TI} {g : TG} {tt : TT} {te : TE} {use : Option (Value → Sem Unit)} {Qf : Value → Shared → Prop}
    (hc : HotC X) (hN : X.N.Nodup) (I : Inv X pins σ H s) (hi : PIH X tg iter wi) (ok : BlkOk X.N X.env.scope scope own)
    (hg : ∀ (s : Shared) (H : Hp) (C : Addr) (cl : List (Str × Addr)) (fp : List Addr), PG (hblk X s H scope (compEnvC scope cl C X.env) fp) tg g)
    (ht : ∀ (s : Shared) (H : Hp) (C : Addr) (cl : List (Str × Addr)) (fp : List Addr), PTs (hblk X s H scope (compEnvC scope cl C X.env) fp) ifs tt)
    (he : ∀ (s : Shared) (H : Hp) (C : Addr) (cl : List (Str × Addr)) (fp : List Addr), PE (hblk X s H scope (compEnvC scope cl C X.env) fp) elt te) (hs : ∀ x, foldedSetIterable iter X.env x = pure x)
    (h : tLc wi g tt te (own.map (·.2)) σ H Q)
    (fin : ∀ D C s' m H', Inv X pins σ H' s' → Q (.ref D) H' → s'.heap.Ns C m → FpOk X pins H' C → compPost (model X.prog X.w) X.A X.xe use Qf (.ref D) C (.ok .next) s') :
    wpAny (model X.prog X.w) X.A (comprehension (.ListComp elt [⟨tg, iter, ifs, 0⟩] scope pos) scope X.env pos' (newList []) false (eval iter X.env) use) Qf X.xe s := by
  have cap : ∀ y ∈ scope.names, y.2 = .free → ∃ c, X.env.cells.lookup y.1 = some c := fun y hy e => (ok.free y hy e).elim (fun k => I.ok.has _ (.inl k)) fun k => I.ok.has _ (.inr k)
  refine wpAny_comprehension_free (use := use) rfl hs (closure_ok cap) ok.kind (fun y hy e => by rw [ok.uniq y hy, e]) (thn (hi.run pins s σ H _ I h) fun xv sa ha => thn ha fun itv sb hb => ?_)
  obtain ⟨it, fp, tn, J, Hb, rfl, Ib, T, tb, fb, q⟩ := hb
  refine wpAny_newObj_type (newEnv_comp ?_) (by show 0 ≤ sizeLine; decide)
  have free0 : Hb sb.heap.objs.size = none := Ib.hok.fresh (Nat.le_refl _)
  obtain ⟨W, ⟨m0, w0⟩, turn⟩ := q _ free0
  -- the list that is made
  have Ic : Inv X pins σ (upd Hb sb.heap.objs.size (.lst [])) { sb with heap := sb.heap.push { cls := .type "list", data := .seq ([] : List Value).toArray } } :=
    Ib.laid (t' := sb.toks) (fun b o e => Heap.get?_push_of_some _ e) (Nat.le_refl _) ⟨Nat.zero_le _, [], 0, .nil, Heap.get?_push_size _ rfl⟩
  have below : ∀ b ∈ fp, b < sb.heap.objs.size := fun b hb => let ⟨o, e, _⟩ := T.obj _ _ tb b hb; Heap.lt_size e
  have fc : ∀ b ∈ fp, FpOk X pins (upd Hb sb.heap.objs.size (.lst [])) b := fun b hb => ⟨by rw [upd_ne (Nat.ne_of_lt (below b hb))]; exact (fb b hb).1, (fb b hb).2⟩
  have tc : tn 0 (sb.heap.push { cls := .type "list", data := .seq ([] : List Value).toArray }) := T.keep _ _ _ tb fun b _ o e => Heap.get?_push_of_some _ e
  have szc : (sb.heap.push { cls := .type "list", data := .seq ([] : List Value).toArray }).objs.size = sb.heap.objs.size + 1 := Heap.size_push ..
  generalize hHc : upd Hb sb.heap.objs.size (.lst []) = Hc at Ic fc w0
  generalize hD : sb.heap.objs.size = D at *
  generalize hsc : ({ sb with heap := sb.heap.push { cls := .type "list", data := .seq ([] : List Value).toArray } } : Shared) = sc at Ic
  have hsc' : sc.heap = sb.heap.push { cls := .type "list", data := .seq ([] : List Value).toArray } := by rw [← hsc]
  rw [← hsc'] at tc szc
  have fpl : ∀ b ∈ fp, FpOk X pins Hc b ∧ b < sc.heap.objs.size := fun b hb => ⟨fc b hb, by rw [szc]; exact Nat.lt_succ_of_lt (below b hb)⟩
  have Id := hblk_start Ic ok hN fpl
  have pg := hg sc Hc sc.heap.objs.size (cellsFrom (sc.heap.objs.size + 1) scope.names (cloFrom X.env.cells scope.names [])) fp
  have pt := ht sc Hc sc.heap.objs.size (cellsFrom (sc.heap.objs.size + 1) scope.names (cloFrom X.env.cells scope.names [])) fp
  have pe := he sc Hc sc.heap.objs.size (cellsFrom (sc.heap.objs.size + 1) scope.names (cloFrom X.env.cells scope.names [])) fp
  show codeAny _ _ (.compStart (.ListComp elt [⟨tg, iter, ifs, 0⟩] scope pos) 0 (.ref it) (.ref D) (compEnvC scope (cellsFrom (sc.heap.objs.size + 1) scope.names (cloFrom X.env.cells scope.names [])) sc.heap.objs.size X.env)) (compPost (model X.prog X.w) X.A X.xe use Qf (.ref D) sc.heap.objs.size) { sc with heap := pushCells (sc.heap.push { cls := .type "dict", data := .dict #[] }) scope.names }
  generalize hce : compEnvC scope (cellsFrom (sc.heap.objs.size + 1) scope.names (cloFrom X.env.cells scope.names [])) sc.heap.objs.size X.env = ce at Id pg pt pe ⊢
  have cL : ce.locals = sc.heap.objs.size := by rw [← hce]; rfl
  have td : tn 0 (pushCells (sc.heap.push { cls := .type "dict", data := .dict #[] }) scope.names) := T.keep _ _ _ tc fun b _ o e => pushCells_keeps _ _ _ _ (Heap.get?_push_of_some _ e)
  generalize hsd : ({ sc with heap := pushCells (sc.heap.push { cls := .type "dict", data := .dict #[] }) scope.names } : Shared) = sd at Id ⊢
  have hsd' : sd.heap = pushCells (sc.heap.push { cls := .type "dict", data := .dict #[] }) scope.names := by rw [← hsd]
  rw [← hsd'] at td
  have hcb : HotC (hblk X sc Hc scope ce fp) := hotC_blk hc
  have own_ : ∀ {σ' : St} {H' : Hp} {s' : Shared}, Inv (hblk X sc Hc scope ce fp) [] σ' H' s' → (∀ b ∈ fp, H' b = none) → ∀ b ∈ fp, FpOk (hblk X sc Hc scope ce fp) [] H' b := fun {σ' H' s'} I' hn b hb =>
    ⟨hn b hb, (I'.ok.exf b hb).1, I'.ok.exfs b hb, .inl hb, fun x c e => (I'.ok.exf b hb).2 x c e, fun p hp => (fpl b hb).1.2.2.2.2.2 p (by
      rcases List.mem_append.mp hp with z | z
      · exact List.mem_append_left _ z
      · cases z)⟩
  have loop : codeAny (model X.prog X.w) X.A (.compLoop (.ListComp elt [⟨tg, iter, ifs, 0⟩] scope pos) 0 (.ref it) (.ref D) ce) (compPost (model X.prog X.w) X.A X.xe use Qf (.ref D) sc.heap.objs.size) sd := by
    refine compLoop_any (fun n s' => ∃ i H', Inv (hblk X sc Hc scope ce fp) [] (wipe σ (own.map (·.2))) H' s' ∧ tn i s'.heap ∧ (∀ b ∈ fp, H' b = none) ∧ W i n H') ?_ m0 ⟨0, Hc, Id, td, fun b hb => (fc b hb).1, w0⟩
    rintro n s1 ⟨i, H1, I1, t1, n1, w1⟩
    rcases turn i n H1 w1 with ⟨stop, qq⟩ | ⟨go, Nx, hNx, step⟩
    · refine thnF (T.done (hblk X sc Hc scope ce fp) rfl rfl rfl hcb i [] s1 _ H1 (fun _ _ => False) I1 (own_ I1 n1) t1 stop) fun r s2 ⟨hr, I2⟩ => ?_
      subst hr
      have I3 : Inv X pins σ H1 s2 := Ic.call' (ch := fp) I2.os I2.base I2.hok I2.bare fun b hb => ⟨(fpl b hb).1.2.2.2.1, (fpl b hb).1.2.1, (fpl b hb).1.2.2.2.2.1, (fpl b hb).1.2.2.2.2.2⟩
      have nC : H1 ce.locals = none := I2.free
      obtain ⟨m, hn, _⟩ := I2.loc
      have hn : s2.heap.Ns ce.locals m := hn
      rw [cL] at nC hn
      exact fin D sc.heap.objs.size s2 m H1 I3 qq hn (Ic.fpOk (Nat.le_refl _) nC)
    · refine thnF (T.item (hblk X sc Hc scope ce fp) rfl rfl rfl hcb i [] s1 _ H1 (fun _ _ => False) I1 (own_ I1 n1) t1 go) fun r s2 ⟨u, hr, h2⟩ => ?_
      subst hr
      refine thnF h2 fun _ s3 ⟨x, H3, I3, r3, y3, t3, n3⟩ => ?_
      have I3' := I3.pinned (own_ I3 n3) (T.obj _ _ t3)
      refine thnF (pg.run _ s3 _ H3 x u _ I3' r3 (step x H3 y3)) fun _ s4 ⟨σ4, H4, I4, hw4, q4⟩ => thnF (pt.run _ s4 σ4 H4 _ I4 q4) fun b s5 ⟨H5, I5, q5⟩ => ?_
      have again : ∀ {s' : Shared} {H' : Hp}, Inv (hblk X sc Hc scope ce fp) ([] ++ pinsAt fp s3.heap) σ4 H' s' → Nx H' → ∃ m, m < n ∧ ∃ i H', Inv (hblk X sc Hc scope ce fp) [] (wipe σ (own.map (·.2))) H' s' ∧ tn i s'.heap ∧ (∀ b ∈ fp, H' b = none) ∧ W i m H' := fun {s' H'} I' nx => by
        obtain ⟨m', hm, w'⟩ := hNx H' nx
        have at_ : ∀ b ∈ fp, ∀ o, s3.heap.get? b = some o → s'.heap.get? b = some o ∧ H' b = none := fun b hb o e =>
          have z := I'.pin (b, o) (List.mem_append_right _ (List.mem_append_right _ (mem_pinsAt hb e)))
          ⟨z.1, z.2.1⟩
        have hl : (wipe σ (own.map (·.2))).length = σ4.length := by rw [← hw4, wipe_length]
        refine ⟨m', hm, i + 1, H', (I'.unpinned (pins := [])).weak hl (fun j v e => ?_), T.keep _ _ _ t3 fun b hb o e => (at_ b hb o e).1, fun b hb => ?_, w'⟩
        · rw [← hw4] at e
          exact (wipe_some e).1
        · obtain ⟨o, e, _⟩ := T.obj _ _ t3 b hb
          exact (at_ b hb o e).2
      cases b with
      | false =>
        simp only [Bool.false_eq_true, if_false] at q5 ⊢
        exact again I5 q5
      | true =>
        simp only [if_true] at q5 ⊢
        refine thnF (pe.run _ s5 σ4 H5 _ I5 q5) fun z s6 ⟨yv, H6, I6, r6, acc, hD6, hz6, nx⟩ => ?_
        exact app_ok (X := hblk X sc Hc scope ce fp) I6 hD6 hz6 r6 fun s7 I7 => again I7 nx
  exact codeAny_compStart_list loop (T.self X.A 0 _ _ _ td loop)
/-- as a value -/
theorem pe_hlc {elt tg iter : Expr} {ifs : List Expr} {scope : Scope} {own : List (Str × Nat)} {pos : Pos} {wi : TI} {g : TG} {tt : TT} {te : TE} (hc : HotC X) (hN : X.N.Nodup) (hi : PIH X tg iter wi) (ok : BlkOk X.N X.env.scope scope own)
    (hg : ∀ (s : Shared) (H : Hp) (C : Addr) (cl : List (Str × Addr)) (fp : List Addr), PG (hblk X s H scope (compEnvC scope cl C X.env) fp) tg g)
    (ht : ∀ (s : Shared) (H : Hp) (C : Addr) (cl : List (Str × Addr)) (fp : List Addr), PTs (hblk X s H scope (compEnvC scope cl C X.env) fp) ifs tt)
    (he : ∀ (s : Shared) (H : Hp) (C : Addr) (cl : List (Str × Addr)) (fp : List Addr), PE (hblk X s H scope (compEnvC scope cl C X.env) fp) elt te) (hs : ∀ x, foldedSetIterable iter X.env x = pure x) :
    PE X (.ListComp elt [⟨tg, iter, ifs, 0⟩] scope pos) (tLc wi g tt te (own.map (·.2))) :=
  ⟨fun pins s σ H Q I h => by
    rw [eval_ListComp]
    exact hlc_core hc hN I hi ok hg ht he hs h fun D C s' m H' I' q hn ⟨f0, f1, f2, f3, f4, f5⟩ => ⟨m, hn, fun h'' sb => ⟨.ref D, H', I'.turned (t' := s'.toks) (fun b o hb e => (sb.2 b hb).trans e) f0 f1 f3 f4 f5, rfl, q⟩⟩⟩
/-- name = [..] on one line, the name a local -/
theorem ps_setHlc {i : Nat} {y : Str} {py : Pos} {elt tg iter : Expr} {ifs : List Expr} {scope : Scope} {own : List (Str × Nat)} {pos spos : Pos} {wi : TI} {g : TG} {tt : TT} {te : TE} (hc : HotC X) (hN : X.N.Nodup) (hy : X.N[i]? = some y) (hyl : X.env.scope.names.lookup y = some .local)
    (hsw : swapsWith (.ListComp elt [⟨tg, iter, ifs, 0⟩] scope pos) (some (.Name y py)) spos.line X.env = pure true) (hi : PIH X tg iter wi) (ok : BlkOk X.N X.env.scope scope own)
    (hg : ∀ (s : Shared) (H : Hp) (C : Addr) (cl : List (Str × Addr)) (fp : List Addr), PG (hblk X s H scope (compEnvC scope cl C X.env) fp) tg g)
    (ht : ∀ (s : Shared) (H : Hp) (C : Addr) (cl : List (Str × Addr)) (fp : List Addr), PTs (hblk X s H scope (compEnvC scope cl C X.env) fp) ifs tt)
    (he : ∀ (s : Shared) (H : Hp) (C : Addr) (cl : List (Str × Addr)) (fp : List Addr), PE (hblk X s H scope (compEnvC scope cl C X.env) fp) elt te) (hs : ∀ x, foldedSetIterable iter X.env x = pure x) :
    PS X (.Assign [.Name y py] (.ListComp elt [⟨tg, iter, ifs, 0⟩] scope pos) spos) (tAsg (tLc wi g tt te (own.map (·.2))) (gName i)) := by
  refine ⟨fun pins s σ H D I h => ?_⟩
  rw [exec_Assign_Name_used _ _ _ _ hsw]
  refine wpAny_bind (wpAny_standAt (wpAny_bind ?_))
  have h : tLc wi g tt te (own.map (·.2)) σ H (fun x H1 => gName i x σ H1 D.nx) := h
  show wpAny _ X.A (do let _ ← comprehension (.ListComp elt [⟨tg, iter, ifs, 0⟩] scope pos) scope X.env (firstIterPos [⟨tg, iter, ifs, 0⟩] pos) (newList []) false (eval iter X.env) (some (assign (.Name y py) X.env))) _ _ s
  refine wpAny_bind (thn (hlc_core (Qf := fun _ s' => SP X pins D .next s') hc hN I hi ok hg ht he hs h fun L C s' m H' I' q hn ⟨f0, f1, f2, f3, f4, f5⟩ => ?_) fun _ s' hq => wpAny_pure (wpAny_pure hq))
  show wpAny _ _ (assign (.Name y py) X.env (.ref L)) _ _ _
  refine wpAny_assign_Name (store_ok2 (v := V.ref L) I' hN hy (.inl hyl) rfl (fun s2 I2 ⟨a, sb, ha⟩ => ⟨m, hn.sameBut sb (ha.elim (fun z => by rw [z]; exact f1) fun z e => f4 y a z e.symm), fun h3 sb3 =>
    ⟨_, H', I2.turned (t' := s2.toks) (fun b o hb e => (sb3.2 b hb).trans e) f0 f1 f3 f4 f5, q⟩⟩) (.inr hyl))
/-- isinstance(e, c), e the pinned error -/
theorem call_isP {p : Addr × Obj} {D : Addr} (hp : p ∈ X.pn) (C : ExcC X.K D) (hz : Zc (.ref D) none p.2) (hf : ∃ vs, p.2.data = .fields vs) : CallR X (.builtin "isinstance") (rIsE X.K D p.1) := by
  intro pins s σ H xs us Q I r h
  obtain ⟨c, cv, b, rfl, hcv, e, q⟩ := h
  cases r with
  | cons rx rr =>
    cases rr with
    | cons rt rr =>
      cases rr
      cases rx
      obtain rfl := hcv _ rt
      obtain ⟨a, oc, od, oda, osl⟩ := p
      obtain ⟨vs, hv⟩ := hf
      obtain ⟨h1, h2⟩ := hz
      dsimp only at h1 h2 hv
      subst h1 h2 hv
      have J : PySem.W.InstAt s.heap a ⟨.ref D, none, .fields vs, osl⟩ D none := ⟨(I.pin _ (List.mem_append_left _ hp)).1, rfl, rfl, trivial⟩
      exact PySem.W.kia_one (PySem.W.handS_kitx_exc C.hg C.hk C.hs C.hd C.ha C.hn C.ht C.hm) I.kIn J e (fun z => nomatch z) fun tk => ⟨.bl b, H, I.kept (t' := tk) fun _ _ z => z, rfl, q⟩
end
/-! ### a def that is called with the handled error -/
/-- what it promises, of each error p that is handled -/
structure FnP (P : Program) (w : World) (K : PySem.W.Frag) (mg : Str → Option Value) (base : Heap) (CX : CXT) (k : Nat) (f : Addr) (fd : FuncData) (ps : List Str) (sp : Addr × Obj → Sp) : Prop where
  len : ∀ p vs H Q E, sp p vs H Q E → vs.length = ps.length
  run : ∀ (p : Addr × Obj) (A : Around) (outer : List Env) (s : Shared) (H : Hp) (args : Args) (us : List Value) (vs : List V) (Q : VK) (E : XK), RoomH k A → Hot1 A p → PinOk outer H s p → Env0 P w K mg base A outer s H → BindsTo s fd args (ps.zip us) → Vals vs us → sp p vs H Q E →
    codeAny (model P w) A (.call (.ref f) args) (CR CX outer P w H s Q E) s
theorem FnP.mono {P : Program} {w : World} {K : PySem.W.Frag} {mg : Str → Option Value} {base : Heap} {CX : CXT} {j k : Nat} {f : Addr} {fd : FuncData} {ps : List Str} {sp : Addr × Obj → Sp} (F : FnP P w K mg base CX j f fd ps sp) (h : j ≤ k) : FnP P w K mg base CX k f fd ps sp :=
  ⟨F.len, fun p A outer s H args us vs Q E r => F.run p A outer s H args us vs Q E (r.mono h)⟩
section
variable {X : Cx} {CX : CXT} {k : Nat} {f : Addr} {fd : FuncData} {ps : List Str} {sp : Addr × Obj → Sp} {E : L2.St → XK} {x : Str} {q pos : Pos} {e : Expr} {es : List Expr} {t : TA} {p : Addr × Obj}
theorem pe_callP (F : FnP X.prog X.w X.K X.mg X.base CX k f fd ps sp) (hr : RoomH k X.A) (hot : Hot1 X.A p) (hp : p ∈ X.pn) (hg : Gl X x) (hm : X.mg x = some (.ref f)) (hk : PySem.W.keepIn X.K (.ref f) = true) (hb : Binds X.K fd ps []) (hx : ∀ σ, PassesAt CX X σ (E σ))
    (ha : PA X (e :: es) t) (hdb : (x == ("__debug__" : Str)) = false) (he : starEach (e :: es) X.env = (false, eval e X.env) :: starEach es X.env) (hpl : (backTo pos (starEach es X.env)).any (·.1) = false) :
    PE X (.Call (.Name x q) (e :: es) [] pos) (tCallS (sp p) E t) := by
  refine ⟨fun pins s σ H Q I h => wpAny_Call_Name_kw (ld_glob I hg hm ?_ hdb)⟩
  refine PySem.W.callWith_K (h₀ := X.base) I.ok.mod.kin hk (thn (ha.run pos pins s σ H _ I h) fun us s1 ⟨vs, H1, I1, r, q⟩ => ⟨I1.kIn, ?_⟩) he hpl
  have hl : us.length = ps.length := by rw [← r.length]; exact F.len _ _ _ _ _ q
  have b := hb s1 us I1.kIn (by rw [List.append_nil]; exact hl)
  rw [List.append_nil] at b
  obtain ⟨g1, g2, g3, g4, g5⟩ := I1.pin p (List.mem_append_left _ hp)
  have pin : PinOk X.stack H1 s1 p := ⟨g1, g2, fun z => (List.mem_cons.mp (I1.stkSub p.1 z)).elim g3 g4, g5⟩
  refine wpAny_call (codeAny_mono (F.run p X.A X.stack s1 H1 ⟨us, []⟩ us vs Q (E σ) hr hot pin I1.env0 b r q) fun r s' hq => ?_)
  cases r with
  | error e => exact hx σ pins H1 s1 e s' I1 hq
  | ok fl =>
    cases fl with
    | ret u => exact I1.after hq
    | next => exact hq.elim
    | brk => exact hq.elim
    | cont => exact hq.elim
end
end
end SgH

namespace Sg
noncomputable section
open PySem PySem.Spec PyProof.Rows L2

section
variable {env : Env}
theorem shp_star {x : Expr} {xs : List Expr} (h : shp x = true) : starEach (x :: xs) env = (false, eval x env) :: starEach xs env := by
  cases x <;> first | rfl | cases h
theorem shp_fold {x : Expr} (h : shp x = true) (v : Value) : foldedSetIterable x env v = pure v := by
  cases x <;> first | rfl | cases h
theorem shp_mark {x : Expr} {op : CmpOp} (h : shp x = true) : behindInMarks op x = false := by
  cases x <;> first | rfl | cases h
theorem shp_ix {x : Expr} (h : shp x = true) : PlainIx x := by
  cases x <;> first | (intro o i; rfl) | cases h
theorem shp_base {x : Expr} {n : Str} (h : shp x = true) : attributeBase x n env (eval x env) = eval x env := by
  cases x <;> first | rfl | skip
  rename_i f a k p
  cases f <;> first | rfl | skip
  cases a with
  | nil => cases h
  | cons _ _ => rfl
end
/-- what exceptions are wished, by the classes' numbers -/
abbrev exW (W : WX) (cv : Nat → Value) (σ : St2) : Nat → Hp → Prop := fun c H => W (cv c) none σ H
/-- what a def promises: it is the function F of the evaluator -/
def spD (K : PySem.W.Frag) (cv : Nat → Value) (F : List D → List Cell → R D) (n : Nat) : Sp := fun vs H Q E =>
  vs.length = n ∧ ∃ B as M ds, Sim K H B as M ∧ Rps K H (Av B as M) as ds vs ∧ PostD K H B as M (fun c H' => E (cv c) none H') (F ds M) Q
structure XH (c : Ctx) (Φ : Phi) (cv : Nat → Value) (X : Cx) (W : WX) : Prop where
  N : X.N = c.N
  nd : c.N.Nodup
  sc : X.env.scope = c.sc
  fn : ∀ x, c.fn x = true → X.fn x = true
  calm : c.hot = false → X.calm = true
  hotc : c.hot = true → L2H.HotC X
  xis : c.hot = true → ∀ k m, c.xk k = some m → ∃ (v : V) (u : Value), RelV v u ∧ (∀ u', RelV v u' → u' = u) ∧ (X.mg m = some u ∨ (X.mg m = none ∧ bootBuiltins m = some u ∧ m ≠ "__name__")) ∧ ∀ a M, Φ 0 [.exo a, .int k] M = .bad ∨ ∃ (p : Addr × Obj) (D : Addr) (b : Bool), p ∈ X.pn ∧ p.1 = a ∧ ExcC X.K D ∧ Zc (.ref D) none p.2 ∧ (∃ vs, p.2.data = .fields vs) ∧ PySem.W.kitOne X.K (.ref D) u = some b ∧ Φ 0 [.exo a, .int k] M = .ok (.bl b) M
  room : L2H.RoomH c.k X.A
  hd : c.hot = false → X.A.handled = none
  bi : ∀ x ∈ builtins, X.mg (x : Str) = none
  gl : ∀ p ∈ c.gl, ∃ u v, X.mg p.1 = some u ∧ RelV v u ∧ ∀ H B as, Rp X.K H B as p.2 v
  fns : ∀ f x, c.nm f = some x → ∃ (fa : Addr) (fd : FuncData) (ps : List Str) (dvs : List V) (dss : List Value) (dds : List D) (F : List D → List Cell → R D) (n : Nat), X.mg x = some (.ref fa) ∧ PySem.W.keepIn X.K (.ref fa) = true ∧ Binds X.K fd ps dss ∧ Vals dvs dss ∧ (∀ H B as, Rps X.K H B as dds dvs) ∧ ps.length = n + dds.length ∧
    (∀ ds M, ds.length ≠ n → Φ f ds M = .bad) ∧ (∀ ds M, Φ f ds M = F (ds ++ dds) M) ∧ FnOk X.prog X.w X.K X.mg X.base (L2N.CX X.prog X.w) c.k fa fd ps (spD X.K cv F ps.length)
  tk : L2N.Takes X W
/-- the slots -/
structure EnvR (K : PySem.W.Frag) (H : Hp) (B : Addr → Prop) (as : List Addr) (env : St) (σ : St2) : Prop where
  len : env.length = σ.length
  get : ∀ (i : Nat) (d : D), env[i]? = some (some d) → ∃ v, σ[i]? = some (some v) ∧ Rp K H B as d v
section
variable {K : PySem.W.Frag} {H H' : Hp} {B : Addr → Prop} {as as' : List Addr} {M M' : List Cell} {env : St} {σ : St2}
theorem EnvR.go (S : Sim K H B as M) (g : Go as M H as' M' H') (r : EnvR K H (Av B as M) as env σ) : EnvR K H' (Av B as' M') as' env σ :=
  ⟨r.len, fun i d e => let ⟨v, h1, h2⟩ := r.get i d e; ⟨v, h1, g.rp S h2⟩⟩
theorem EnvR.set {C : Addr → Prop} (r : EnvR K H C as env σ) {i : Nat} {d : D} {v : V} (h : Rp K H C as d v) : EnvR K H C as (env.set i (some d)) (σ.set i (some v)) := by
  refine ⟨by simp [r.len], fun j e he => ?_⟩
  by_cases hj : j = i
  · subst hj
    by_cases hl : j < env.length
    · rw [List.getElem?_set_self hl] at he
      cases he
      rw [List.getElem?_set_self (by rw [← r.len]; exact hl)]
      exact ⟨v, rfl, h⟩
    · rw [List.getElem?_eq_none (by simpa using hl)] at he; cases he
  · rw [List.getElem?_set_ne (Ne.symm hj)] at he
    rw [List.getElem?_set_ne (Ne.symm hj)]
    exact r.get j e he
theorem EnvR.none {C : Addr → Prop} (r : EnvR K H C as env σ) (i : Nat) : EnvR K H C as (env.set i Option.none) (σ.set i Option.none) := by
  refine ⟨by simp [r.len], fun j e he => ?_⟩
  by_cases hj : j = i
  · subst hj
    by_cases hl : j < env.length
    · rw [List.getElem?_set_self hl] at he; cases he
    · rw [List.getElem?_eq_none (by simpa using hl)] at he; cases he
  · rw [List.getElem?_set_ne (Ne.symm hj)] at he
    rw [List.getElem?_set_ne (Ne.symm hj)]
    exact r.get j e he
theorem EnvR.wipe {C : Addr → Prop} (r : EnvR K H C as env σ) : ∀ vs : List Nat, EnvR K H C as (wipeD env vs) (L2.wipe σ vs)
  | [] => r
  | v :: vs => (EnvR.wipe r vs).none v
end
section
variable (X : Cx) (cv : Nat → Value) (W : WX) (Φ : Phi)
/-- a reading, by a step of the evaluator -/
def tG {α β : Type} (rel : (Addr → Prop) → List Addr → List Cell → Hp → α → β → Prop) (f : St → List Cell → R α) : St2 → Hp → (β → Hp → Prop) → Prop := fun σ H Q =>
  ∃ B as M env, Sim X.K H B as M ∧ EnvR X.K H (Av B as M) as env σ ∧ PostG X.K H B as M (exW W cv σ) (rel B) (f env M) Q
def tE (e : E) : TE := tG X cv W (fun B => relD X.K B) (evE Φ e)
def evBl (e : E) (σ : St) (M : List Cell) : R Bool := (evE Φ e σ M).bind toBl
def tT (e : E) : TT := tG X cv W (fun _ => relEq) (evBl Φ e)
def tEs (es : Es) : TA := tG X cv W (fun B => relDs X.K B) (evEs Φ es)
def tO (o : O) : TO := tG X cv W (fun _ => relEq) (evO Φ o)
def tC (o : O) : TT := tG X cv W (fun _ => relEq) (evC Φ o)
def tB' (op : BoolOp) (es : Es) : TE := tG X cv W (fun B => relD X.K B) (evB Φ op es)
def tBT (op : BoolOp) (es : Es) : TT := tG X cv W (fun _ => relEq) (fun σ M => (evB Φ op es σ M).bind toBl)
/-- what is walked gives the values xs -/
def Feed (B : Addr → Prop) (as : List Addr) (M : List Cell) (H : Hp) (xs : List D) (J : L2.It) : Prop := ∀ B' as' M' H', (∀ a, H a ≠ none → B' a → B a) → Go as M H as' M' H' → Sim X.K H' B' as' M' →
  (∀ i, i < xs.length → J.go i H') ∧ (∀ i, xs.length ≤ i → J.stop i H') ∧
  ∀ (i : Nat) d x H'', xs[i]? = some d → J.yld i H' x H'' → Go as' M' H' as' M' H'' ∧ Sim X.K H'' B' as' M' ∧ Rp X.K H'' (Av B' as' M') as' d x ∧ ∀ a o, H' a = some o → H'' a = some o
def tI (it : It) : TI := tG X cv W (fun B as M H xs J => Feed X B as M H xs J) (evIt Φ it)
def tT' (t : T) : TG := fun v σ H Q => ∃ B as M env d, Sim X.K H B as M ∧ EnvR X.K H (Av B as M) as env σ ∧ Rp X.K H (Av B as M) as d v ∧
  PostG X.K H B as M (fun _ _ => False) (fun as' M' H' e σ' => EnvR X.K H' (Av B as' M') as' e σ' ∧ ∀ vs, tSub t vs = true → L2.wipe σ' vs = L2.wipe σ vs) (evT Φ t d env M) Q
def tTs' (ts : Ts) : TGs := fun vs σ H Q => ∃ B as M env ds, Sim X.K H B as M ∧ EnvR X.K H (Av B as M) as env σ ∧ Rps X.K H (Av B as M) as ds vs ∧
  PostG X.K H B as M (fun _ _ => False) (fun as' M' H' e σ' => EnvR X.K H' (Av B as' M') as' e σ' ∧ ∀ vs, tSubs ts vs = true → L2.wipe σ' vs = L2.wipe σ vs) (evTs Φ ts ds env M) Q
end
section
variable {X : Cx} {cv : Nat → Value} {W : WX} {Φ : Phi} {c : Ctx} {x y z : Expr} {pos : Pos}
theorem _root_.L2.PE.imp {t t' : TE} (h : PE X x t) (k : ∀ σ H Q, t' σ H Q → t σ H Q) : PE X x t' := ⟨fun pins s σ H Q I q => h.run pins s σ H Q I (k σ H Q q)⟩
theorem _root_.L2.PT.imp {t t' : TT} (h : PT X x t) (k : ∀ σ H Q, t' σ H Q → t σ H Q) : PT X x t' := ⟨fun pins s σ H Q I q => h.run pins s σ H Q I (k σ H Q q)⟩
theorem _root_.L2.PW.imp {t t' : TT} (h : PW X x t) (k : ∀ σ H Q, t' σ H Q → t σ H Q) : PW X x t' := ⟨fun w pins s σ H Q I q => h.run w pins s σ H Q I (k σ H Q q)⟩
theorem _root_.L2.PA.imp {t t' : TA} {xs : List Expr} (h : PA X xs t) (k : ∀ σ H Q, t' σ H Q → t σ H Q) : PA X xs t' := ⟨fun p pins s σ H Q I q => h.run p pins s σ H Q I (k σ H Q q)⟩
theorem _root_.L2.PI.imp {t t' : TI} (h : PI X x y t) (k : ∀ σ H Q, t' σ H Q → t σ H Q) : PI X x y t' := ⟨fun pins s σ H Q I q => h.run pins s σ H Q I (k σ H Q q)⟩
theorem _root_.L2.PG.imp {t t' : TG} (h : PG X x t) (k : ∀ v σ H Q, t' v σ H Q → t v σ H Q) : PG X x t' := ⟨fun pins s σ H v u Q I r q => h.run pins s σ H v u Q I r (k v σ H Q q)⟩
theorem _root_.L2.PGs.imp {t t' : TGs} {xs : List Expr} (h : PGs X xs t) (k : ∀ v σ H Q, t' v σ H Q → t v σ H Q) : PGs X xs t' := ⟨fun pins s σ H v u Q I r q => h.run pins s σ H v u Q I r (k v σ H Q q)⟩

theorem vis_of (h : XH c Φ cv X W) {n : Str} (v : visOk c.sc n = true) : Vis X.env.scope n := by
  rw [h.sc]
  unfold visOk at v
  split at v
  · exact .inl (by assumption)
  · exact .inr (.inl (by assumption))
  · exact .inr (.inr (by assumption))
  · cases v
theorem loc_of (h : XH c Φ cv X W) {n : Str} (v : locOk c.sc n = true) : Loc X.env.scope n := by
  rw [h.sc]
  unfold locOk at v
  split at v
  · exact .inl (by assumption)
  · exact .inr (by assumption)
  · cases v
theorem gl_of (h : XH c Φ cv X W) {n : Str} (v : glOk c.sc n = true) : Gl X n := by
  show X.env.scope.names.lookup n = _
  rw [h.sc]
  unfold glOk at v
  split at v
  · assumption
  · cases v
theorem plain_of {n : Str} (h : plainN n = true) : (n == ("__debug__" : Str)) = false ∧ (n == ("__classdict__" : Str)) = false ∧ n ≠ ("__name__" : Str) := by
  unfold plainN at h
  simp only [Bool.and_eq_true, Bool.not_eq_true'] at h
  refine ⟨h.1.1, h.1.2, fun e => ?_⟩
  have := h.2
  rw [e] at this
  simp at this
theorem s_var {i : Nat} {n : Str} (h : XH c Φ cv X W) (h1 : c.N[i]? = some n) (h2 : visOk c.sc n = true) (h3 : plainN n = true) : PE X (.Name n pos) (tE X cv W Φ (.var i)) := by
  obtain ⟨p1, p2, _⟩ := plain_of h3
  refine PE.imp (pe_var (i := i) (by rw [h.N]; exact h1) (vis_of h h2) p1 p2) fun σ H Q q => ?_
  obtain ⟨B, as, M, env, S, r, q⟩ := q
  have q : PostG X.K H B as M (exW W cv σ) (relD X.K B) (match env[i]? with
    | some (some d) => .ok d M
    | _ => .bad) Q := q
  split at q
  · rename_i d e
    obtain ⟨v, e1, e2⟩ := r.get i d e
    exact ⟨v, e1, q as H v Go.refl S e2⟩
  · exact q.elim
theorem s_const {d : D} {k : Const} {j : Nat} (h1 : constOk d k = true) : PE X (.Constant k j pos) (tE X cv W Φ (.c d)) := by
  have fin : ∀ {v : V} {σ : St2} {H : Hp} {Q : VK}, tE X cv W Φ (.c d) σ H Q → (∀ B as, Rp X.K H B as d v) → Q v H := fun {v σ H Q} q r => by
    obtain ⟨B, as, M, env, S, _, q⟩ := q
    exact q as H v Go.refl S (r _ _)
  unfold constOk at h1
  split at h1
  · exact PE.imp pe_non fun σ H Q q => fin q fun _ _ => rfl
  · have e := eq_of_beq h1
    subst e
    exact PE.imp pe_bl fun σ H Q q => fin q fun _ _ => rfl
  · have e := eq_of_beq h1
    subst e
    exact PE.imp pe_int fun σ H Q q => fin q fun _ _ => rfl
  · have := of_decide_eq_true h1
    subst this
    exact PE.imp pe_str fun σ H Q q => fin q fun _ _ => rfl
  · cases h1
theorem s_glob {d : D} {n : Str} (h : XH c Φ cv X W) (h1 : glOk c.sc n = true) (h2 : plainN n = true) (h3 : (c.gl.any fun p => decide (p.1 = n) && beqD p.2 d) = true) : PE X (.Name n pos) (tE X cv W Φ (.glob n d)) := by
  obtain ⟨p, hp, e⟩ := List.any_eq_true.mp h3
  rw [Bool.and_eq_true] at e
  have e1 := of_decide_eq_true e.1
  have e2 := beqD_eq _ _ e.2
  obtain ⟨u, v, g1, g2, g3⟩ := h.gl p hp
  rw [e1] at g1
  refine PE.imp (pe_glob (gl_of h h1) g1 g2 (plain_of h2).1) fun σ H Q q => ?_
  obtain ⟨B, as, M, env, S, _, q⟩ := q
  exact q as H v Go.refl S (e2 ▸ g3 _ _ _)
/-- two parts and an operation -/
theorem two_parts {e1 e2 : E} {f : D → D → List Cell → R D} {σ : St2} {H : Hp} {Q : VK}
    (q : tG X cv W (fun B => relD X.K B) (fun env M => (evE Φ e1 env M).bind fun a M1 => (evE Φ e2 env M1).bind fun b M2 => f a b M2) σ H Q) : tOp (rOp2 X.K (exW W cv σ) f) (tE X cv W Φ e1) (tE X cv W Φ e2) σ H Q := by
  obtain ⟨B, as, M, env, S, r, q⟩ := q
  refine ⟨B, as, M, env, S, r, post_bind q fun a M1 as1 H1 v _ g1 S1 ra q1 => ?_⟩
  refine ⟨B, as1, M1, env, S1, r.go S g1, post_bind q1 fun b M2 as2 H2 w _ g2 S2 rb q2 => ?_⟩
  exact ⟨B, as2, M2, a, b, S2, g2.rp S1 ra, rb, q2⟩
theorem s_bin {m : Bool} {op : Operator} {a b : E} (ha : PE X x (tE X cv W Φ a)) (hb : PE X y (tE X cv W Φ b)) : PE X (.BinOp x op y pos) (tE X cv W Φ (.bin m op a b)) :=
  ⟨fun pins s σ H Q I q => (pe_op (op_bop (E := exW W cv σ) m op) ha hb).run pins s σ H Q I (two_parts q)⟩
theorem s_rep {m : Bool} {a b : E} (ha : PE X x (tE X cv W Φ a)) (hb : PE X y (tE X cv W Φ b)) : PE X (.BinOp x .Mult y pos) (tE X cv W Φ (.rep m a b)) :=
  ⟨fun pins s σ H Q I q => (pe_op (op_repD (E := exW W cv σ) m) ha hb).run pins s σ H Q I (two_parts q)⟩
theorem s_un {op : UnaryOp} {a : E} (ha : PE X x (tE X cv W Φ a)) : PE X (.UnaryOp op x pos) (tE X cv W Φ (.un op a)) :=
  ⟨fun pins s σ H Q I q => (pe_un (un_uop (E := exW W cv σ) op) ha).run pins s σ H Q I (by
    obtain ⟨B, as, M, env, S, r, q⟩ := q
    refine ⟨B, as, M, env, S, r, post_bind q fun a M1 as1 H1 v _ g1 S1 ra q1 => ?_⟩
    exact ⟨B, as1, M1, a, S1, ra, q1⟩)⟩
theorem hu64 (h : XH c Φ cv X W) : X.A.units + 65 < cLine := by
  have := h.room.un
  omega
theorem s_cmp {op : CmpOp} {a b : E} (h : XH c Φ cv X W) (ha : PE X x (tE X cv W Φ a)) (hb : PE X y (tE X cv W Φ b)) (hy : shp y = true) : PE X (.Compare x [op] [y] pos) (tE X cv W Φ (.cmp op a b)) :=
  ⟨fun pins s σ H Q I q => (pe_cmpR (op_cop (E := exW W cv σ) (hu64 h) op) ha hb (shp_mark hy)).run pins s σ H Q I (two_parts q)⟩
theorem st_cmp {op : CmpOp} {a b : E} (h : XH c Φ cv X W) (ha : PE X x (tE X cv W Φ a)) (hb : PE X y (tE X cv W Φ b)) (hy : shp y = true) : PT X (.Compare x [op] [y] pos) (tT X cv W Φ (.cmp op a b)) :=
  ⟨fun pins s σ H Q I q => (pt_cmpR (op_cop (E := exW W cv σ) (hu64 h) op) ha hb (shp_mark hy)).run pins s σ H Q I (two_parts (by
    obtain ⟨B, as, M, env, S, r, q⟩ := q
    refine ⟨B, as, M, env, S, r, post_bind q fun a M1 as1 H1 v _ g1 S1 ra q1 => ?_⟩
    unfold toBl at q1
    split at q1
    · cases ra
      exact ⟨_, rfl, q1 _ _ _ Go.refl S1 rfl⟩
    · exact q1.elim))⟩
/-- a value that is asked as a test -/
theorem toT {a : E} {σ : St2} {H : Hp} {Q : Bool → Hp → Prop} (q : tT X cv W Φ a σ H Q) : tE X cv W Φ a σ H (fun x H1 => ∃ k, x = .bl k ∧ Q k H1) := by
  obtain ⟨B, as, M, env, S, r, q⟩ := q
  refine ⟨B, as, M, env, S, r, post_bind q fun a M1 as1 H1 v _ g1 S1 ra q1 => ?_⟩
  unfold toBl at q1
  split at q1
  · cases ra
    exact ⟨_, rfl, q1 _ _ _ Go.refl S1 rfl⟩
  · exact q1.elim
theorem three_parts {o1 o2 : CmpOp} {a b d : E} {σ : St2} {H : Hp} {Q : VK} (q : tE X cv W Φ (.chain o1 o2 a b d) σ H Q) :
    tChain (rOp2 X.K (exW W cv σ) (cop o1)) (rOp2 X.K (exW W cv σ) (cop o2)) (tE X cv W Φ a) (tE X cv W Φ b) (tE X cv W Φ d) σ H Q := by
  obtain ⟨B, as, M, env, S, r, q⟩ := q
  refine ⟨B, as, M, env, S, r, post_bind q fun a M1 as1 H1 v _ g1 S1 ra q1 => ?_⟩
  have r1 := r.go S g1
  refine ⟨B, as1, M1, env, S1, r1, post_bind q1 fun b M2 as2 H2 w _ g2 S2 rb q2 => ?_⟩
  have r2 := r1.go S1 g2
  refine ⟨B, as2, M2, a, b, S2, g2.rp S1 ra, rb, ?_⟩
  have q2' : PostG X.K H2 B as2 M2 (exW W cv σ) (relD X.K B) ((cop o1 a b M2).bind fun k M3 => (toBl k M3).bind fun k M3 => if k = true then (evE Φ d env M3).bind fun z M4 => cop o2 b z M4 else .ok (.bl false) M3) Q := by
    cases e : cop o1 a b M2 <;> rw [e] at q2 <;> exact q2
  refine post_bind q2' fun k M3 as3 H3 kv _ g3 S3 rk q3 => ?_
  have r3 := r2.go S2 g3
  cases k with
  | bl k =>
    cases rk
    refine ⟨k, rfl, ?_⟩
    cases k with
    | true =>
      show tE X cv W Φ d σ H3 _
      refine ⟨B, as3, M3, env, S3, r3, post_bind q3 fun z M4 as4 H4 zv _ g4 S4 rz q4 => ?_⟩
      exact ⟨B, as4, M4, b, z, S4, g4.rp S3 (g3.rp S2 rb), rz, q4⟩
    | false => exact q3 as3 H3 (.bl false) Go.refl S3 rfl
  | _ => exact q3.elim
theorem last2 {o1 o2 : CmpOp} {y z : Expr} (h : shp z = true) : lastMarks [o1, o2] [y, z] = false := by
  show behindInMarks o2 z = false
  exact shp_mark h
theorem s_chain {o1 o2 : CmpOp} {a b d : E} (h : XH c Φ cv X W) (ha : PE X x (tE X cv W Φ a)) (hb : PE X y (tE X cv W Φ b)) (hd : PE X z (tE X cv W Φ d)) (hz : shp z = true) : PE X (.Compare x [o1, o2] [y, z] pos) (tE X cv W Φ (.chain o1 o2 a b d)) :=
  ⟨fun pins s σ H Q I q => (pe_chain (op_cop (E := exW W cv σ) (hu64 h) o1) (op_cop (E := exW W cv σ) (hu64 h) o2) ha hb hd (last2 hz)).run pins s σ H Q I (three_parts q)⟩
theorem st_chain {o1 o2 : CmpOp} {a b d : E} (h : XH c Φ cv X W) (ha : PE X x (tE X cv W Φ a)) (hb : PE X y (tE X cv W Φ b)) (hd : PE X z (tE X cv W Φ d)) (hz : shp z = true) : PT X (.Compare x [o1, o2] [y, z] pos) (tT X cv W Φ (.chain o1 o2 a b d)) :=
  ⟨fun pins s σ H Q I q => (pt_chain (op_cop (E := exW W cv σ) (hu64 h) o1) (op_cop (E := exW W cv σ) (hu64 h) o2) ha hb hd (last2 hz)).run pins s σ H Q I (three_parts (toT q))⟩
end
end
end Sg

namespace Sg
noncomputable section
open PySem PySem.Spec PyProof.Rows L2
section
variable {X : Cx} {cv : Nat → Value} {W : WX} {Φ : Phi} {c : Ctx} {x y z : Expr} {pos : Pos}
/-- a test of a plain shape -/
theorem st_val {a : E} (ha : PE X x (tE X cv W Φ a)) (he : ∀ whole, isTrue x X.env whole = (do let v ← whole; standAt x.pos; holding [v] (truthy v))) : PT X x (tT X cv W Φ a) :=
  (pt_val ha he).imp fun σ H Q q => toT q
theorem st_not {a : E} (ha : PT X x (tT X cv W Φ a)) : PT X (.UnaryOp .Not x pos) (tT X cv W Φ (.un .Not a)) :=
  (pt_not ha).imp fun σ H Q q => by
    obtain ⟨B, as, M, env, S, r, q⟩ := q
    refine ⟨B, as, M, env, S, r, ?_⟩
    have q' : PostG X.K H B as M (exW W cv σ) relEq ((evBl Φ a env M).bind fun k M1 => .ok (!k) M1) Q := by
      refine PostG.eq (r := ((evE Φ (.un .Not a) env M).bind toBl)) ?_ q
      show (((evE Φ a env M).bind fun x M1 => uop .Not x M1).bind toBl) = ((evE Φ a env M).bind toBl).bind _
      cases evE Φ a env M with
      | ok d M1 => cases d <;> rfl
      | exc _ _ => rfl
      | bad => rfl
    exact post_bind q' fun k M1 as1 H1 v _ g1 S1 ra q1 => by
      cases ra
      exact q1 _ _ _ Go.refl S1 rfl
theorem s_ite {e1 e2 e3 : E} (h1 : PT X x (tT X cv W Φ e1)) (h2 : PE X y (tE X cv W Φ e2)) (h3 : PE X z (tE X cv W Φ e3)) : PE X (.IfExp x y z pos) (tE X cv W Φ (.ite e1 e2 e3)) :=
  (pe_ifExp h1 h2 h3).imp fun σ H Q q => by
    obtain ⟨B, as, M, env, S, r, q⟩ := q
    refine ⟨B, as, M, env, S, r, post_bind q fun k M1 as1 H1 v _ g1 S1 ra q1 => ?_⟩
    cases ra
    cases k with
    | true => exact ⟨B, as1, M1, env, S1, r.go S g1, q1⟩
    | false => exact ⟨B, as1, M1, env, S1, r.go S g1, q1⟩
theorem st_ite {e1 e2 e3 : E} (h1 : PT X x (tT X cv W Φ e1)) (h2 : PT X y (tT X cv W Φ e2)) (h3 : PT X z (tT X cv W Φ e3)) : PT X (.IfExp x y z pos) (tT X cv W Φ (.ite e1 e2 e3)) := by
  refine ⟨fun pins s σ H Q I q => ?_⟩
  obtain ⟨B, as, M, env, S, r, q⟩ := q
  have q' : PostG X.K H B as M (exW W cv σ) relEq ((evBl Φ e1 env M).bind fun k M1 => if k = true then evBl Φ e2 env M1 else evBl Φ e3 env M1) Q := by
    refine PostG.eq (r := ((evE Φ (.ite e1 e2 e3) env M).bind toBl)) ?_ q
    show ((((evE Φ e1 env M).bind toBl).bind fun k M1 => if k = true then evE Φ e2 env M1 else evE Φ e3 env M1).bind toBl) = ((evE Φ e1 env M).bind toBl).bind _
    cases (evE Φ e1 env M).bind toBl with
    | ok k M1 => cases k <;> rfl
    | exc _ _ => rfl
    | bad => rfl
  refine isTrue_IfExp (thn (h1.run pins s σ H _ I ⟨B, as, M, env, S, r, post_bind (Q' := fun k H1 => if k = true then tT X cv W Φ e2 σ H1 Q else tT X cv W Φ e3 σ H1 Q) q' fun k M1 as1 H1 v _ g1 S1 ra q1 => ?_⟩) fun d s1 ⟨H1, I1, q1⟩ => ?_)
  · cases ra
    cases k with
    | true => exact ⟨B, as1, M1, env, S1, r.go S g1, q1⟩
    | false => exact ⟨B, as1, M1, env, S1, r.go S g1, q1⟩
  · cases d with
    | true => exact h2.run pins s1 σ H1 Q I1 q1
    | false => exact h3.run pins s1 σ H1 Q I1 q1
theorem s_bop1 {op : BoolOp} {a : E} (ha : PE X x (tE X cv W Φ a)) : PE X (.BoolOp op [x] pos) (tB' X cv W Φ op (.cons a .nil)) := pe_one ha
theorem s_bop2 {op : BoolOp} {a b : E} {r : Es} {ys : List Expr} (ha : PE X x (tE X cv W Φ a)) (hr : PE X (.BoolOp op (y :: ys) pos) (tB' X cv W Φ op (.cons b r))) : PE X (.BoolOp op (x :: y :: ys) pos) (tB' X cv W Φ op (.cons a (.cons b r))) := by
  cases op with
  | And =>
    exact (pe_and ha hr).imp fun σ H Q q => by
      obtain ⟨B, as, M, env, S, rr, q⟩ := q
      have q' : PostG X.K H B as M (exW W cv σ) (relD X.K B) ((evE Φ a env M).bind fun d M1 => (toBl d M1).bind fun k M1 => if k = true then evB Φ .And (.cons b r) env M1 else .ok (.bl false) M1) Q := by
        refine PostG.eq (r := (((evE Φ a env M).bind toBl).bind _)) ?_ q
        cases evE Φ a env M <;> rfl
      refine ⟨B, as, M, env, S, rr, post_bind q' fun d M1 as1 H1 v _ g1 S1 ra q1 => ?_⟩
      cases d with
      | bl k =>
        cases ra
        refine ⟨k, rfl, ?_⟩
        cases k with
        | true => exact ⟨B, as1, M1, env, S1, rr.go S g1, q1⟩
        | false => exact q1 as1 H1 (.bl false) Go.refl S1 rfl
      | _ => exact q1.elim
  | Or =>
    exact (pe_or ha hr).imp fun σ H Q q => by
      obtain ⟨B, as, M, env, S, rr, q⟩ := q
      have q' : PostG X.K H B as M (exW W cv σ) (relD X.K B) ((evE Φ a env M).bind fun d M1 => (toBl d M1).bind fun k M1 => if k = true then .ok (.bl true) M1 else evB Φ .Or (.cons b r) env M1) Q := by
        refine PostG.eq (r := (((evE Φ a env M).bind toBl).bind _)) ?_ q
        cases evE Φ a env M <;> rfl
      refine ⟨B, as, M, env, S, rr, post_bind q' fun d M1 as1 H1 v _ g1 S1 ra q1 => ?_⟩
      cases d with
      | bl k =>
        cases ra
        refine ⟨k, rfl, ?_⟩
        cases k with
        | true => exact q1 as1 H1 (.bl true) Go.refl S1 rfl
        | false => exact ⟨B, as1, M1, env, S1, rr.go S g1, q1⟩
      | _ => exact q1.elim
/-- a list or, if it is empty, another thing -/
theorem s_orL {a b : E} (ha : PE X x (tE X cv W Φ a)) (hb : PE X y (tE X cv W Φ b)) : PE X (.BoolOp .Or [x, y] pos) (tE X cv W Φ (.orL a b)) :=
  (pe_orT ha (pe_one hb)).imp fun σ H Q q => by
    obtain ⟨B, as, M, env, S, rr, q⟩ := q
    have q' : PostG X.K H B as M (exW W cv σ) (relD X.K B) ((evE Φ a env M).bind fun d M1 => match content M1 d with
        | some [] => (match evE Φ b env M1 with
          | .ok d2 M2 => (match content M2 d2 with
            | some _ => .ok d2 M2
            | none => .bad)
          | _ => .bad)
        | some (_ :: _) => .ok d M1
        | none => .bad) Q := by
      unfold evE at q
      cases ea : evE Φ a env M with
      | ok d M1 => rw [ea] at q; exact q
      | exc c M1 => rw [ea] at q; exact q.elim
      | bad => rw [ea] at q; exact q.elim
    refine ⟨B, as, M, env, S, rr, post_bind q' fun d M1 as1 H1 v _ g1 S1 ra q1 => ?_⟩
    split at q1
    · rename_i e
      obtain ⟨p, vs, rfl, h1, h2⟩ := content_rp S1 ra e
      cases h2
      refine ⟨false, .inl ⟨[], .of h1, rfl⟩, ?_⟩
      refine ⟨B, as1, M1, env, S1, rr.go S g1, ?_⟩
      cases eb : evE Φ b env M1 with
      | ok d2 M2 =>
        rw [eb] at q1
        simp only at q1
        split at q1
        · exact q1
        · exact q1.elim
      | exc c M2 => rw [eb] at q1; exact q1.elim
      | bad => rw [eb] at q1; exact q1.elim
    · rename_i y ys e
      obtain ⟨p, vs, rfl, h1, h2⟩ := content_rp S1 ra e
      refine ⟨true, .inl ⟨vs, .of h1, ?_⟩, ?_⟩
      · obtain ⟨v, r, rfl, _⟩ := h2; rfl
      · exact q1 as1 H1 _ Go.refl S1 ra
    · exact q1.elim
theorem st_bop1 {op : BoolOp} {a : E} (ha : PT X x (tT X cv W Φ a)) : PW X (.BoolOp op [x] pos) (tBT X cv W Φ op (.cons a .nil)) := by
  cases op with
  | And => exact pw_and1 ha
  | Or => exact pw_or1 ha
theorem st_bop2 {op : BoolOp} {a b : E} {r : Es} {ys : List Expr} (ha : PT X x (tT X cv W Φ a)) (hr : PW X (.BoolOp op (y :: ys) pos) (tBT X cv W Φ op (.cons b r))) : PW X (.BoolOp op (x :: y :: ys) pos) (tBT X cv W Φ op (.cons a (.cons b r))) := by
  cases op with
  | And =>
    exact (pw_and ha hr).imp fun σ H Q q => by
      obtain ⟨B, as, M, env, S, rr, q⟩ := q
      have q' : PostG X.K H B as M (exW W cv σ) relEq ((evBl Φ a env M).bind fun k M1 => if k = true then (evB Φ .And (.cons b r) env M1).bind toBl else .ok false M1) Q := by
        refine PostG.eq (r := ((((evE Φ a env M).bind toBl).bind _).bind toBl)) ?_ q
        show _ = ((evE Φ a env M).bind toBl).bind _
        cases (evE Φ a env M).bind toBl with
        | ok k M1 => cases k <;> rfl
        | exc _ _ => rfl
        | bad => rfl
      refine ⟨B, as, M, env, S, rr, post_bind q' fun k M1 as1 H1 v _ g1 S1 ra q1 => ?_⟩
      cases ra
      cases k with
      | true => exact ⟨B, as1, M1, env, S1, rr.go S g1, q1⟩
      | false => exact q1 as1 H1 false Go.refl S1 rfl
  | Or =>
    exact (pw_or ha hr).imp fun σ H Q q => by
      obtain ⟨B, as, M, env, S, rr, q⟩ := q
      have q' : PostG X.K H B as M (exW W cv σ) relEq ((evBl Φ a env M).bind fun k M1 => if k = true then .ok true M1 else (evB Φ .Or (.cons b r) env M1).bind toBl) Q := by
        refine PostG.eq (r := ((((evE Φ a env M).bind toBl).bind _).bind toBl)) ?_ q
        show _ = ((evE Φ a env M).bind toBl).bind _
        cases (evE Φ a env M).bind toBl with
        | ok k M1 => cases k <;> rfl
        | exc _ _ => rfl
        | bad => rfl
      refine ⟨B, as, M, env, S, rr, post_bind q' fun k M1 as1 H1 v _ g1 S1 ra q1 => ?_⟩
      cases ra
      cases k with
      | true => exact q1 as1 H1 true Go.refl S1 rfl
      | false => exact ⟨B, as1, M1, env, S1, rr.go S g1, q1⟩
theorem s_nil : PA X [] (tEs X cv W Φ .nil) := pa_nil.imp fun σ H Q q => by
  obtain ⟨B, as, M, env, S, r, q⟩ := q
  exact q as H [] Go.refl S rfl
theorem s_cons {a : E} {r : Es} {ys : List Expr} (ha : PE X x (tE X cv W Φ a)) (hr : PA X ys (tEs X cv W Φ r)) (hs : shp x = true) : PA X (x :: ys) (tEs X cv W Φ (.cons a r)) :=
  (pa_cons ha hr (shp_star hs)).imp fun σ H Q q => by
    obtain ⟨B, as, M, env, S, rr, q⟩ := q
    refine ⟨B, as, M, env, S, rr, post_bind q fun d M1 as1 H1 v _ g1 S1 ra q1 => ?_⟩
    refine ⟨B, as1, M1, env, S1, rr.go S g1, post_bind q1 fun ds M2 as2 H2 vs _ g2 S2 rs q2 => ?_⟩
    exact q2 as2 H2 (v :: vs) Go.refl S2 ⟨v, vs, rfl, g2.rp S1 ra, rs⟩
theorem s_tup {es : Es} {xs : List Expr} {k : Nat} (h : PA X xs (tEs X cv W Φ es)) : PE X (.Tuple xs k pos) (tE X cv W Φ (.tup es)) :=
  (pe_tup h).imp fun σ H Q q => by
    obtain ⟨B, as, M, env, S, rr, q⟩ := q
    refine ⟨B, as, M, env, S, rr, post_bind q fun ds M1 as1 H1 vs _ g1 S1 rs q1 => ?_⟩
    split at q1
    · rename_i hl
      exact ⟨by rw [rs.len]; exact Nat.le_trans hl LIM_le, tup_post S1 rs q1⟩
    · exact q1.elim
theorem s_lst {m : Bool} {es : Es} {xs : List Expr} (h : PA X xs (tEs X cv W Φ es)) : PE X (.List xs pos) (tE X cv W Φ (.lst m es)) :=
  (pe_lst h).imp fun σ H Q q => by
    obtain ⟨B, as, M, env, S, rr, q⟩ := q
    refine ⟨B, as, M, env, S, rr, post_bind q fun ds M1 as1 H1 vs _ g1 S1 rs q1 => ?_⟩
    obtain ⟨hl, q2⟩ := new_post S1 rs q1
    exact ⟨Nat.le_trans hl LIM_le, q2⟩
theorem s_idx {a b : E} (ha : PE X x (tE X cv W Φ a)) (hb : PE X y (tE X cv W Φ b)) (hy : shp y = true) : PE X (.Subscript x y pos) (tE X cv W Φ (.idx a b)) :=
  ⟨fun pins s σ H Q I q => (pe_ix (ix_idx (E := exW W cv σ)) ha hb (shp_ix hy)).run pins s σ H Q I (two_parts (f := idxD) q)⟩
theorem s_o0 : PO X none (tO X cv W Φ .no) := ⟨fun pins s σ H Q I q => po_none.run pins s σ H Q I (by
  obtain ⟨B, as, M, env, S, rr, q⟩ := q
  exact q as H none Go.refl S rfl)⟩
theorem s_o1 {a : E} (ha : PE X x (tE X cv W Φ a)) : PO X (some x) (tO X cv W Φ (.so a)) := ⟨fun pins s σ H Q I q => (po_some ha).run pins s σ H Q I (by
  obtain ⟨B, as, M, env, S, rr, q⟩ := q
  refine ⟨B, as, M, env, S, rr, post_bind q fun d M1 as1 H1 v _ g1 S1 ra q1 => ?_⟩
  cases d with
  | int i =>
    cases ra
    exact ⟨i, rfl, q1 as1 H1 (some i) Go.refl S1 rfl⟩
  | _ => exact q1.elim)⟩
theorem s_slc {m : Bool} {a : E} {lo hi : O} {l h : Option Expr} {p2 : Pos} (ha : PE X x (tE X cv W Φ a)) (hl : PO X l (tO X cv W Φ lo)) (hh : PO X h (tO X cv W Φ hi)) : PE X (.Subscript x (.Slice l h none p2) pos) (tE X cv W Φ (.slc m a lo hi)) :=
  ⟨fun pins s σ H Q I q => (pe_slice (sl_slc (E := exW W cv σ) m) ha hl hh).run pins s σ H Q I (by
    obtain ⟨B, as, M, env, S, rr, q⟩ := q
    refine ⟨B, as, M, env, S, rr, post_bind q fun d M1 as1 H1 v _ g1 S1 ra q1 => ?_⟩
    refine ⟨B, as1, M1, env, S1, rr.go S g1, post_bind q1 fun i M2 as2 H2 i' _ g2 S2 ri q2 => ?_⟩
    refine ⟨B, as2, M2, env, S2, (rr.go S g1).go S1 g2, post_bind q2 fun j M3 as3 H3 j' _ g3 S3 rj q3 => ?_⟩
    cases ri; cases rj
    exact ⟨B, as3, M3, d, S3, g3.rp S2 (g2.rp S1 ra), q3⟩)⟩
theorem sim_none {K : PySem.W.Frag} {H : Hp} {B : Addr → Prop} (h : ∀ a, B a → H a ≠ none) : Sim K H B [] [] := ⟨rfl, List.nodup_nil, h, fun _ z => (by cases z), fun i a c h1 => (by simp at h1)⟩
theorem av_none {B : Addr → Prop} {a : Addr} (h : ¬ B a) : ¬ Av B [] [] a := fun z => z.elim h fun ⟨i, d, h1, _⟩ => by simp at h1
theorem go_none {K : PySem.W.Frag} {H H' : Hp} {B : Addr → Prop} {as as' : List Addr} {M M' : List Cell} (S : Sim K H B as M) (g : Go [] [] H as' M' H') : Go as M H as M H' ∧ Sim K H' B as M := by
  have k : ∀ a o, H a = some o → H' a = some o := fun a o e => g.keep a o e fun ⟨i, d, h1, _⟩ => by simp at h1
  have g1 : Go as M H as M H' := ⟨List.prefix_rfl, fun a o e _ => k a o e, fun _ _ h => h, g.dom, fun i a h1 h2 => by rw [List.getElem?_eq_none h1] at h2; cases h2⟩
  exact ⟨g1, S.stay g1 k⟩
section
variable {K : PySem.W.Frag} {H H' : Hp} {B : Addr → Prop} {as as' : List Addr} {M M1 : List Cell}
theorem fresh_ne (g : Go [] [] H as' M1 H') {i : Nat} {a : Addr} (e : as'[i]? = some a) : H a = none := g.new i a (Nat.zero_le _) e
/-- what is made of new places alone keeps clear of all that was -/
theorem fresh_rp (S' : Sim K H' B as' M1) (g : Go [] [] H as' M1 H') : ∀ (n k : Nat) (d d' : D) (v : V), freshF n M1 d = true → immF k M1 d = some d' → Rp K H' (Av B as' M1) as' d v → Rp K H' (fun a => H a ≠ none) [] d' v := fun n => by
  have flat : ∀ (k : Nat) (d d' : D) (v : V), isFlat d = true → immF k M1 d = some d' → Rp K H' (Av B as' M1) as' d v → Rp K H' (fun a => H a ≠ none) [] d' v := fun k d d' v hf hi r => by
    have e := immF_rp S' k d d' v hi r.weak
    have e2 : d' = d := by
      have := immF_of (n := k) (M := M1) (isFlat_imm d hf)
      rw [this] at hi
      cases hi
      rfl
    subst e2
    exact isFlat_rp d' v hf e
  have refs : ∀ (m : Nat), (∀ (k : Nat) (d d' : D) (v : V), freshF m M1 d = true → immF k M1 d = some d' → Rp K H' (Av B as' M1) as' d v → Rp K H' (fun a => H a ≠ none) [] d' v) →
      ∀ (k i : Nat) (d' : D) (v : V), freshF (m + 1) M1 (.ref i) = true → immF k M1 (.ref i) = some d' → Rp K H' (Av B as' M1) as' (.ref i) v → Rp K H' (fun a => H a ≠ none) [] d' v := fun m ih k i d' v hf hi r => by
    obtain ⟨a, e, rfl⟩ := r
    have ha := fresh_ne g e
    unfold freshF at hf
    split at hf
    · rename_i b xs hc
      have q := S'.cell i a _ e hc
      cases k with
      | zero => cases hi
      | succ k =>
        have hi2 : immF k M1 (.lst xs) = some d' := by
          have : mapRef (fun i => match M1[i]? with
            | some ⟨_, .non⟩ => none
            | some c => immF k M1 c.d
            | none => none) (.ref i) = some d' := hi
          rw [mapRef, hc] at this
          exact this
        -- the elements
        have key : ∀ (ys : List D) (vs : List V) (zs : List D) (f : D → Option D), (∀ y y', f y = some y' → immF k M1 y = some y' ∨ (∃ k', immF k' M1 y = some y')) → ys.all (freshF m M1) = true → Rps K H' (Av B as' M1) as' ys vs → (∀ y ∈ ys, True) → True := fun _ _ _ _ _ _ _ _ => trivial
        obtain ⟨vs, hv, rs⟩ : ∃ vs, H' a = some (.lst vs) ∧ Rps K H' (Av B as' M1) as' xs vs := by
          cases b with
          | true =>
            obtain ⟨vs, h1, h2⟩ := q
            exact ⟨vs, h1, h2⟩
          | false =>
            obtain ⟨a', vs, h0, h1, _, h2⟩ := q
            cases h0
            exact ⟨vs, h1, h2⟩
        have each : ∀ (j : Nat) (ys zs : List D) (vs : List V), (∀ y z w, freshF m M1 y = true → immF j M1 y = some z → Rp K H' (Av B as' M1) as' y w → Rp K H' (fun a => H a ≠ none) [] z w) → ys.all (freshF m M1) = true →
            mapRefs (fun i => match M1[i]? with
              | some ⟨_, .non⟩ => none
              | some c => immF (j - 1) M1 c.d
              | none => none) ys = some zs → j ≠ 0 → Rps K H' (Av B as' M1) as' ys vs → Rps K H' (fun a => H a ≠ none) [] zs vs := fun j ys => by
          induction ys with
          | nil =>
            intro zs vs _ _ hz _ r
            cases hz
            exact r
          | cons y ys ihy =>
            intro zs vs hy ha2 hz hj r
            rw [List.all_cons, Bool.and_eq_true] at ha2
            obtain ⟨w, ws, e1, r1, r2⟩ := r
            obtain ⟨j, rfl⟩ : ∃ j', j = j' + 1 := ⟨j - 1, by omega⟩
            rw [mapRefs] at hz
            cases q1 : mapRef (fun i => match M1[i]? with
              | some ⟨_, .non⟩ => none
              | some c => immF (j + 1 - 1) M1 c.d
              | none => none) y with
            | none => rw [q1] at hz; cases hz
            | some z1 =>
              rw [q1] at hz
              cases q2 : mapRefs (fun i => match M1[i]? with
                | some ⟨_, .non⟩ => none
                | some c => immF (j + 1 - 1) M1 c.d
                | none => none) ys with
              | none => rw [q2] at hz; cases hz
              | some z2 =>
                rw [q2] at hz
                cases hz
                exact ⟨w, ws, e1, hy y z1 w ha2.1 q1 r1, ihy z2 ws hy ha2.2 q2 hj r2⟩
        cases k with
        | zero =>
          unfold immF at hi2
          split at hi2
          · rename_i hi3
            cases hi2
            refine ⟨a, vs, rfl, hv, fun z => z ha, ?_⟩
            rw [isImm] at hi3
            -- trees alone, fresh: flat
            have fl : ∀ (ys : List D) (vs : List V), isImms ys = true → ys.all (freshF m M1) = true → Rps K H' (Av B as' M1) as' ys vs → Rps K H' (fun a => H a ≠ none) [] ys vs := fun ys => by
              induction ys with
              | nil => exact fun vs _ _ r => r
              | cons y ys ihy =>
                intro vs h1 h2 r
                rw [isImms, Bool.and_eq_true] at h1
                rw [List.all_cons, Bool.and_eq_true] at h2
                obtain ⟨w, ws, e1, r1, r2⟩ := r
                exact ⟨w, ws, e1, ih 0 y y w h2.1 (immF_of h1.1) r1, ihy ws h1.2 h2.2 r2⟩
            exact fl xs vs hi3 hf rs
          · cases hi2
        | succ k =>
          have hi3 : (mapRefs (fun i => match M1[i]? with
            | some ⟨_, .non⟩ => none
            | some c => immF k M1 c.d
            | none => none) xs).map D.lst = some d' := hi2
          cases q1 : mapRefs (fun i => match M1[i]? with
            | some ⟨_, .non⟩ => none
            | some c => immF k M1 c.d
            | none => none) xs with
          | none => rw [q1] at hi3; cases hi3
          | some zs =>
            rw [q1] at hi3
            cases hi3
            exact ⟨a, vs, rfl, hv, fun z => z ha, each (k + 1) xs zs vs (fun y z w h1 h2 h3 => ih (k + 1) y z w h1 h2 h3) hf q1 (by omega) rs⟩
    · cases hf
  have tups : ∀ (m : Nat), (∀ (k : Nat) (d d' : D) (v : V), freshF m M1 d = true → immF k M1 d = some d' → Rp K H' (Av B as' M1) as' d v → Rp K H' (fun a => H a ≠ none) [] d' v) →
      ∀ (k : Nat) (xs : List D) (d' : D) (v : V), xs.all (freshF m M1) = true → immF k M1 (.tup xs) = some d' → Rp K H' (Av B as' M1) as' (.tup xs) v → Rp K H' (fun a => H a ≠ none) [] d' v := fun m ih k xs d' v hf hi r => by
    obtain ⟨a, vs, e, s, rs⟩ := r
    cases k with
    | zero =>
      unfold immF at hi
      split at hi
      · rename_i hi3
        cases hi
        rw [isImm] at hi3
        refine ⟨a, vs, e, s, ?_⟩
        clear s e
        revert vs
        induction xs with
        | nil => exact fun vs r => r
        | cons y ys ihy =>
          intro vs r
          rw [isImms, Bool.and_eq_true] at hi3
          rw [List.all_cons, Bool.and_eq_true] at hf
          obtain ⟨w, ws, e1, r1, r2⟩ := r
          exact ⟨w, ws, e1, ih 0 y y w hf.1 (immF_of hi3.1) r1, ihy hf.2 hi3.2 ws r2⟩
      · cases hi
    | succ k =>
      have hi3 : (mapRefs (fun i => match M1[i]? with
        | some ⟨_, .non⟩ => none
        | some c => immF k M1 c.d
        | none => none) xs).map D.tup = some d' := hi
      cases q1 : mapRefs (fun i => match M1[i]? with
        | some ⟨_, .non⟩ => none
        | some c => immF k M1 c.d
        | none => none) xs with
      | none => rw [q1] at hi3; cases hi3
      | some zs =>
        rw [q1] at hi3
        cases hi3
        refine ⟨a, vs, e, s, ?_⟩
        clear s e hi
        revert vs zs
        induction xs with
        | nil =>
          intro vs r zs hz
          cases hz
          exact r
        | cons y ys ihy =>
          intro vs r zs hz
          rw [List.all_cons, Bool.and_eq_true] at hf
          obtain ⟨w, ws, e1, r1, r2⟩ := r
          rw [mapRefs] at hz
          cases q1 : mapRef (fun i => match M1[i]? with
            | some ⟨_, .non⟩ => none
            | some c => immF k M1 c.d
            | none => none) y with
          | none => rw [q1] at hz; cases hz
          | some z1 =>
            rw [q1] at hz
            cases q2 : mapRefs (fun i => match M1[i]? with
              | some ⟨_, .non⟩ => none
              | some c => immF k M1 c.d
              | none => none) ys with
            | none => rw [q2] at hz; cases hz
            | some z2 =>
              rw [q2] at hz
              cases hz
              exact ⟨w, ws, e1, ih (k + 1) y z1 w hf.1 q1 r1, ihy hf.2 ws r2 z2 q2⟩
  induction n with
  | zero =>
    intro k d d' v hf hi r
    exact flat k d d' v (by cases d <;> exact hf) hi r
  | succ m ih =>
    intro k d d' v hf hi r
    cases d with
    | ref i => exact refs m ih k i d' v hf hi r
    | tup xs => exact tups m ih k xs d' v hf hi r
    | _ => exact flat k _ d' v hf hi r
end
section
variable {K : PySem.W.Frag} {H H' : Hp} {B : Addr → Prop} {as as' : List Addr} {M M1 : List Cell}
mutual
theorem sh_rp {C C' : Addr → Prop} : (d : D) → (v : V) → isFr d = true → Rp K H' C as' d v → Rp K H' C' (as ++ as') (shD as.length d) v
  | .ref i, v, _, r => by
    obtain ⟨a, e, q⟩ := r
    refine ⟨a, ?_, q⟩
    rw [List.getElem?_append_right (Nat.le_add_right _ _), Nat.add_sub_cancel_left]
    exact e
  | .tup xs, v, hf, r => by
    rw [isFr] at hf
    obtain ⟨a, vs, e1, s, r⟩ := r
    rw [shD]
    exact ⟨a, vs, e1, s, sh_rps xs vs hf r⟩
  | .ktp xs, v, hf, r => by
    rw [isFr] at hf
    obtain ⟨a, vs, e1, s, r⟩ := r
    rw [shD]
    exact ⟨a, vs, e1, s, sh_rps xs vs hf r⟩
  | .non, _, _, h => h
  | .bl _, _, _, h => h
  | .int _, _, _, h => h
  | .str _, _, _, h => h
  | .lst _, _, h, _ => by rw [isFr] at h; cases h
  | .fro _, _, h, _ => by rw [isFr] at h; cases h
  | .dct _ _ _, _, h, _ => by rw [isFr] at h; cases h
  | .exo _, _, h, _ => by rw [isFr] at h; cases h
theorem sh_rps {C C' : Addr → Prop} : (ds : List D) → (vs : List V) → isFrs ds = true → Rps K H' C as' ds vs → Rps K H' C' (as ++ as') (shDs as.length ds) vs
  | [], _, _, r => r
  | d :: ds, _, h, r => by
    rw [isFrs, Bool.and_eq_true] at h
    obtain ⟨w, ws, e, r1, r2⟩ := r
    rw [shDs]
    exact ⟨w, ws, e, sh_rp d w h.1 r1, sh_rps ds ws h.2 r2⟩
end
theorem imp_go (S : Sim K H B as M) (S' : Sim K H' B as' M1) (g : Go [] [] H as' M1 H') : Go as M H (as ++ as') (M ++ M1.map (shC as.length)) H' := by
  have k : ∀ a o, H a = some o → H' a = some o := fun a o e => g.keep a o e fun ⟨i, d, h1, _⟩ => by simp at h1
  refine ⟨List.prefix_append _ _, fun a o e _ => k a o e, fun a h l => ?_, g.dom, fun i a h1 h2 => ?_⟩
  · obtain ⟨i, d, h1, h2⟩ := l
    by_cases hi : i < as.length
    · rw [List.getElem?_append_left hi] at h1
      rw [List.getElem?_append_left (by rw [← S.len]; exact hi)] at h2
      exact ⟨i, d, h1, h2⟩
    · rw [List.getElem?_append_right (by omega)] at h1
      exact absurd (fresh_ne g h1) h
  · rw [List.getElem?_append_right h1] at h2
    exact fresh_ne g h2
theorem imp_sim (S : Sim K H B as M) (S' : Sim K H' B as' M1) (g : Go [] [] H as' M1 H') : Sim K H' B (as ++ as') (M ++ M1.map (shC as.length)) := by
  have k : ∀ a o, H a = some o → H' a = some o := fun a o e => g.keep a o e fun ⟨i, d, h1, _⟩ => by simp at h1
  have G := imp_go S S' g
  have nd : (as ++ as').Nodup := by
    rw [List.nodup_append]
    refine ⟨S.nd, S'.nd, fun a ha b hb e => ?_⟩
    subst e
    obtain ⟨i, hi⟩ := List.getElem?_of_mem hb
    exact S.dom ha (fresh_ne g hi)
  refine ⟨?_, nd, fun a h => g.dom a (S.b0 a h), fun a h => ?_, fun i a c h1 h2 => ?_⟩
  · rw [List.length_append, List.length_append, List.length_map, S.len, S'.len]
  · rcases List.mem_append.mp h with h | h
    · exact S.dj a h
    · exact S'.dj a h
  · by_cases hi : i < as.length
    · rw [List.getElem?_append_left hi] at h1
      rw [List.getElem?_append_left (by rw [← S.len]; exact hi)] at h2
      exact (S.cell i a c h1 h2).go S G fun _ o e => k a o e
    · have h1' := h1
      rw [List.getElem?_append_right (by omega)] at h1
      rw [List.getElem?_append_right (by rw [← S.len]; omega), List.getElem?_map] at h2
      have hl : i - M.length = i - as.length := by rw [S.len]
      rw [hl] at h2
      cases e : M1[i - as.length]? with
      | none => rw [e] at h2; cases h2
      | some c0 =>
        rw [e] at h2
        have e2 : shC as.length c0 = c := Option.some.inj h2
        have q := S'.cell (i - as.length) a c0 h1 e
        have dead : Cp K H' (Av B (as ++ as') (M ++ M1.map (shC as.length))) (as ++ as') a ⟨false, .non⟩ := q.ne
        obtain ⟨m, d⟩ := c0
        subst e2
        cases d <;> try exact dead
        case dct t ks xs =>
          have nl : m = false → ¬ Av B as' M1 a → ¬ Av B (as ++ as') (M ++ M1.map (shC as.length)) a := fun hm h5 z => by
            rcases z with z | ⟨j, e3, z1, z2⟩
            · exact h5 (.inl z)
            · have hij : i = j := by
                have hlt : i < (as ++ as').length := (List.getElem?_eq_some_iff.mp h1').1
                exact (List.getElem?_inj hlt nd).mp (by rw [h1', z1])
              subst hij
              rw [List.getElem?_append_right (by rw [← S.len]; omega), List.getElem?_map, hl, e] at z2
              have z3 : shC as.length ⟨m, .dct t ks xs⟩ = ⟨true, e3⟩ := Option.some.inj z2
              subst hm
              have z4 : (if (isFlats ks && isFrs xs) = true then (⟨false, .dct t ks (shDs as.length xs)⟩ : Cell) else ⟨false, .non⟩) = ⟨true, e3⟩ := z3
              split at z4 <;> cases z4
          by_cases hf : (isFlats ks && isFrs xs) = true
          · have es : shC as.length ⟨m, .dct t ks xs⟩ = ⟨m, .dct t ks (shDs as.length xs)⟩ := if_pos hf
            rw [es]
            rw [Bool.and_eq_true] at hf
            cases m <;> cases t
            · obtain ⟨o, kvs, h3, h5, h6, h4⟩ := q
              exact ⟨o, kvs, h3, nl rfl h5, h6, sh_rps _ _ hf.2 h4⟩
            · obtain ⟨o, kvs, h3, h5, h6, h4⟩ := q
              exact ⟨o, kvs, h3, nl rfl h5, h6, sh_rps _ _ hf.2 h4⟩
            · obtain ⟨kvs, h3, h6, h4⟩ := q
              exact ⟨kvs, h3, h6, sh_rps _ _ hf.2 h4⟩
            · obtain ⟨kvs, h3, h6, h4⟩ := q
              exact ⟨kvs, h3, h6, sh_rps _ _ hf.2 h4⟩
          · have es : shC as.length ⟨m, .dct t ks xs⟩ = ⟨false, .non⟩ := if_neg hf
            rw [es]
            exact dead
        rename_i xs
        by_cases hf : isFrs xs = true
        · have es : ∀ m, shC as.length ⟨m, .lst xs⟩ = ⟨m, .lst (shDs as.length xs)⟩ := fun m => if_pos hf
          rw [es]
          cases m with
          | true =>
            obtain ⟨vs, h3, h4⟩ := q
            exact ⟨vs, h3, sh_rps _ _ hf h4⟩
          | false =>
            obtain ⟨b, vs, h0, h3, h5, h4⟩ := q
            cases h0
            refine ⟨a, vs, rfl, h3, fun z => ?_, sh_rps _ _ hf h4⟩
            rcases z with z | ⟨j, e3, z1, z2⟩
            · exact h5 (.inl z)
            · have hij : i = j := by
                have hlt : i < (as ++ as').length := (List.getElem?_eq_some_iff.mp h1').1
                exact (List.getElem?_inj hlt nd).mp (by rw [h1', z1])
              subst hij
              rw [List.getElem?_append_right (by rw [← S.len]; omega), List.getElem?_map, hl, e] at z2
              have z3 : shC as.length ⟨false, .lst xs⟩ = ⟨true, e3⟩ := Option.some.inj z2
              rw [es] at z3
              cases z3
        · have es : shC as.length ⟨m, .lst xs⟩ = ⟨false, .non⟩ := if_neg hf
          rw [es]
          exact dead
end
theorem call_post {K : PySem.W.Frag} {H : Hp} {B : Addr → Prop} {as : List Addr} {M : List Cell} {E : Nat → Hp → Prop} {Q : VK} {f mode n : Nat} {ds : List D} {vs : List V} {E' : XK}
    (S : Sim K H B as M) (rs : Rps K H (Av B as M) as ds vs) (hn : ∀ ds M, ds.length ≠ n → Φ f ds M = .bad) (hE : ∀ k H', E k H' → E' (cv k) none H') (q : PostD K H B as M E (callD Φ f mode ds M) Q) :
    spD K cv (Φ f) n vs H Q E' := by
  have len : ∀ {es : List D} {N : List Cell}, es.length = ds.length → Φ f es N ≠ .bad → vs.length = n := fun {es N} e h => by
    rw [rs.len, ← e]
    exact Classical.byContradiction fun z => h (hn es N z)
  unfold callD at q
  split at q
  · split at q
    · rename_i hi
      refine ⟨len (es := ds) (N := []) rfl fun z => by rw [z] at q; exact q, Av B as M, [], [], ds, sim_none fun a z => z.elim (S.b0 a) fun l => S.dom l.mem, isImms_rp (fun a z => av_none z) hi rs, ?_⟩
      cases e : Φ f ds [] with
      | ok d M1 =>
        rw [e] at q
        intro as' H' v g S' r
        dsimp only at q
        split at q
        · rename_i d' e2
          obtain ⟨g1, S1⟩ := go_none S g
          refine q as H' v g1 S1 ?_
          exact Rp.mono (List.nil_prefix) (fun _ _ z => z) (fun _ _ z => z) (fun a u z w => ⟨z, w⟩) (fun _ _ _ z => z) d' v (imm_rp S' e2 r)
        · exact q.elim
      | exc k M1 =>
        rw [e] at q
        intro as' H' g S'
        obtain ⟨g1, S1⟩ := go_none S g
        exact hE _ _ (q as H' g1 S1)
      | bad => rw [e] at q; exact q.elim
    · exact q.elim
  · split at q
    · rename_i es e1
      have hl : es.length = ds.length := by
        have h1 := (imms_rp S e1 rs).len
        rw [← h1, rs.len]
      refine ⟨len (es := es) (N := []) hl fun z => by rw [z] at q; exact q, B, [], [], es, sim_none S.b0, Rps.mono List.prefix_rfl (fun _ _ z => z) (fun _ _ z => z) (fun a u z w => ⟨z, av_none w⟩) (fun _ _ _ z => z) es vs (imms_rp S e1 rs), ?_⟩
      cases e : Φ f es [] with
      | ok d M1 =>
        rw [e] at q
        intro as' H' v g S' r
        dsimp only at q
        split at q
        · rename_i d' e2
          split at q
          · rename_i e3
            obtain ⟨g1, S1⟩ := go_none S g
            refine q as H' v g1 S1 ?_
            rcases (Bool.or_eq_true _ _).mp e3 with e3 | e3
            · exact isFlat_rp d' v e3 (imm_rp S' e2 r)
            · have r2 := fresh_rp S' g 8 M1.length d d' v e3 e2 r
              exact Rp.mono List.nil_prefix (fun _ _ z => z) (fun _ _ z => z) (fun a u z w => ⟨z, fun n => w (n.elim (S.b0 a) fun l => S.dom l.mem)⟩) (fun _ _ _ z => z) d' v r2
          · exact q.elim
        · exact q.elim
      | exc k M1 =>
        rw [e] at q
        intro as' H' g S'
        obtain ⟨g1, S1⟩ := go_none S g
        exact hE _ _ (q as H' g1 S1)
      | bad => rw [e] at q; exact q.elim
    · exact q.elim
  · split at q
    · rename_i es e1
      have hl : es.length = ds.length := by
        have h1 := (imms_rp S e1 rs).len
        rw [← h1, rs.len]
      refine ⟨len (es := es) (N := []) hl fun z => by rw [z] at q; exact q, B, [], [], es, sim_none S.b0, Rps.mono List.prefix_rfl (fun _ _ z => z) (fun _ _ z => z) (fun a u z w => ⟨z, av_none w⟩) (fun _ _ _ z => z) es vs (imms_rp S e1 rs), ?_⟩
      cases e : Φ f es [] with
      | ok d M1 =>
        rw [e] at q
        intro as' H' v g S' r
        dsimp only at q
        split at q
        · rename_i e2
          rw [← S.len] at q
          exact q (as ++ as') H' v (imp_go S S' g) (imp_sim S S' g) (sh_rp _ _ e2 r)
        · exact q.elim
      | exc k M1 =>
        rw [e] at q
        intro as' H' g S'
        obtain ⟨g1, S1⟩ := go_none S g
        exact hE _ _ (q as H' g1 S1)
      | bad => rw [e] at q; exact q.elim
    · exact q.elim
  · refine ⟨len (es := ds) (N := M) rfl fun z => by rw [z] at q; exact q, B, as, M, ds, S, rs, ?_⟩
    cases e : Φ f ds M with
    | ok d M1 => rw [e] at q; exact q
    | exc k M1 => rw [e] at q; exact fun as' H' g S' => hE _ _ (q as' H' g S')
    | bad => rw [e] at q; exact q.elim
theorem stars {env : Env} : ∀ (xs : List Expr), (∀ x ∈ xs, shp x = true) → (backTo pos (starEach xs env)).any (·.1) = false
  | [], _ => rfl
  | x :: xs, h => by
    rw [shp_star (h x List.mem_cons_self)]
    show (false || (backTo pos (starEach xs env)).any (·.1)) = false
    rw [stars xs fun y hy => h y (List.mem_cons_of_mem _ hy)]; rfl
theorem okEs_shp : ∀ (es : Es) (c : Ctx) (xs : List Expr), okEs es c xs = true → ∀ x ∈ xs, shp x = true
  | .nil, c, xs, h, x, hx => by
    unfold okEs at h
    cases xs with
    | nil => cases hx
    | cons _ _ => cases h
  | .cons e es, c, xs, h, x, hx => by
    unfold okEs at h
    cases xs with
    | nil => cases h
    | cons y ys =>
      simp only [Bool.and_eq_true] at h
      rcases List.mem_cons.mp hx with rfl | hx
      · exact okE_shp e c _ h.1
      · exact okEs_shp es c ys h.2 x hx
theorem spD_dfl {K : PySem.W.Frag} {G F : List D → List Cell → R D} {n : Nat} {dds : List D} {dvs vs : List V} {H : Hp} {Q : VK} {E : XK} (hG : ∀ ds M, G ds M = F (ds ++ dds) M) (hr : ∀ H B as, Rps K H B as dds dvs) (h : spD K cv G n vs H Q E) : spD K cv F (n + dds.length) (vs ++ dvs) H Q E := by
  obtain ⟨hl, B, as, M, ds, S, rs, q⟩ := h
  exact ⟨by rw [List.length_append, hl, (hr H B as).len], B, as, M, ds ++ dds, S, rs.append (hr _ _ _), by rw [← hG]; exact q⟩
theorem s_call {f mode : Nat} {es : Es} {n : Str} {p : Expr} {ps : List Expr} {p0 : Pos} (h : XH c Φ cv X W) (hcool : c.hot = false) (h1 : c.nm f = some n) (h2 : glOk c.sc n = true) (h3 : plainN n = true) (hs : ∀ y ∈ p :: ps, shp y = true)
    (ha : PA X (p :: ps) (tEs X cv W Φ es)) : PE X (.Call (.Name n p0) (p :: ps) [] pos) (tE X cv W Φ (.call f mode es)) := by
  obtain ⟨fa, fd, qs, dvs, dss, dds, F, n', g1, g2, g3, gv, gr, gn, g4, gF, g5⟩ := h.fns f n h1
  refine PE.imp (pe_callSD g5 ⟨h.hd hcool, h.room.dp, h.room.un⟩ (gl_of h h2) g1 g2 g3 gv (E := WE W) (fun σ => L2N.passAt h.tk σ) ha (plain_of h3).1 (shp_star (hs p List.mem_cons_self)) (stars ps fun y hy => hs y (List.mem_cons_of_mem _ hy))) fun σ H Q q => ?_
  obtain ⟨B, as, M, env, S, rr, q⟩ := q
  refine ⟨B, as, M, env, S, rr, post_bind q fun ds M1 as1 H1 vs _ g S1 rs q1 => ?_⟩
  rw [gn]
  exact spD_dfl gF gr (call_post S1 rs g4 (fun k H' z => z) q1)
/-- a built-in function stands by its name -/
theorem bi_boot (f : Bi) : bootBuiltins (biN f : Str) = some (biV f) := by cases f <;> first | decide +kernel | (rename_i m; cases m <;> decide +kernel)
theorem bi_name (f : Bi) : (biN f : Str) ≠ "__name__" ∧ ((biN f : Str) == ("__debug__" : Str)) = false := by cases f <;> first | decide +kernel | (rename_i m; cases m <;> decide +kernel)
theorem bi_mem (f : Bi) : biN f ∈ builtins := by cases f <;> first | decide | (rename_i m; cases m <;> decide)
theorem s_bi {f : Bi} {es : Es} {p : Expr} {ps : List Expr} {p0 : Pos} (h : XH c Φ cv X W) (hcool : coolBi f = false → c.hot = false) (h2 : glOk c.sc (biN f : Str) = true) (hs : ∀ y ∈ p :: ps, shp y = true)
    (ha : PA X (p :: ps) (tEs X cv W Φ es)) : PE X (.Call (.Name (biN f : Str) p0) (p :: ps) [] pos) (tE X cv W Φ (.bi f es)) := by
  have hm := h.bi _ (bi_mem f)
  have hv := bi_boot f
  have hn := bi_name f
  have s1 := shp_star (env := X.env) (xs := ps) (hs p List.mem_cons_self)
  have s2 := stars (pos := pos) (env := X.env) ps fun y hy => hs y (List.mem_cons_of_mem _ hy)
  have fin : ∀ σ H Q, tE X cv W Φ (.bi f es) σ H Q → tCB (rOpN X.K (exW W cv σ) (bi f)) (tEs X cv W Φ es) σ H Q := fun σ H Q q => by
    obtain ⟨B, as, M, env, S, rr, q⟩ := q
    refine ⟨B, as, M, env, S, rr, post_bind q fun ds M1 as1 H1 vs _ g S1 rs q1 => ?_⟩
    exact ⟨B, as1, M1, ds, S1, rs, q1⟩
  have tyc : (∃ T, biV f = .type T) ∨ ∃ id, biV f = .builtin id := by cases f <;> first | exact .inl ⟨_, rfl⟩ | exact .inr ⟨_, rfl⟩
  refine ⟨fun pins s σ H Q I q => ?_⟩
  have hc := call_bi (X := X) (E := exW W cv σ) f (hu64 h) fun e => h.calm (hcool e)
  rcases tyc with ⟨T, e⟩ | ⟨id, e⟩
  · rw [e] at hc hv
    exact (pe_callTy hc (gl_of h h2) hm hv ha hn.1 hn.2 s1 s2).run pins s σ H Q I (fin σ H Q q)
  · rw [e] at hc hv
    exact (pe_callB hc (gl_of h h2) hm hv ha hn.1 hn.2 s1 s2).run pins s σ H Q I (fin σ H Q q)
theorem ty_boot (t : Ty) : bootBuiltins (tyN t : Str) = some (.type (tyN t)) ∧ (tyN t : Str) ≠ "__name__" ∧ ((tyN t : Str) == ("__debug__" : Str)) = false := by cases t <;> decide +kernel
theorem ty_mem (t : Ty) : tyN t ∈ builtins := by cases t <;> decide
theorem s_isi {a : E} {t : Ty} {p0 p1 : Pos} (h : XH c Φ cv X W) (h2 : glOk c.sc ("isinstance" : Str) = true) (h3 : glOk c.sc (tyN t : Str) = true) (hx : shp x = true) (ha : PE X x (tE X cv W Φ a)) :
    PE X (.Call (.Name ("isinstance" : Str) p0) [x, .Name (tyN t : Str) p1] [] pos) (tE X cv W Φ (.isi a t)) := by
  obtain ⟨b1, b2, b3⟩ := ty_boot t
  have ht : PE X (.Name (tyN t : Str) p1) (L2.tC (.ty (tyN t))) := pe_bltn (gl_of h h3) (h.bi _ (ty_mem t)) b1 rfl b2 b3
  refine PE.imp (pe_callB (call_isiD t) (gl_of h h2) (h.bi "isinstance" (by decide)) PyProof.Rows.boot_isinstance (pa_cons ha (pa_cons ht pa_nil) (shp_star hx)) (by decide) (by decide) (shp_star hx) rfl) fun σ H Q q => ?_
  obtain ⟨B, as, M, env, S, rr, q⟩ := q
  refine ⟨B, as, M, env, S, rr, post_bind q fun d M1 as1 H1 v _ g S1 ra q1 => ?_⟩
  split at q1
  · rename_i k e
    exact ⟨v, B, as1, M1, d, k, rfl, S1, ra, e, q1 as1 H1 _ Go.refl S1 rfl⟩
  · exact q1.elim
theorem s_xis {i k : Nat} {vn m : Str} {p0 p1 p2 : Pos} (h : XH c Φ cv X W) (hot : c.hot = true) (h2 : glOk c.sc ("isinstance" : Str) = true) (h3 : c.N[i]? = some vn) (h4 : visOk c.sc vn = true) (h5 : plainN vn = true) (h6 : c.xk k = some m) (h7 : glOk c.sc m = true) (h8 : plainN m = true) :
    PE X (.Call (.Name ("isinstance" : Str) p0) [.Name vn p1, .Name m p2] [] pos) (tE X cv W Φ (.xis i k)) := by
  obtain ⟨v, u, rv, ru, nm, hΦ⟩ := h.xis hot k m h6
  obtain ⟨n1, n2, _⟩ := plain_of h5
  have hv := pe_var (X := X) (i := i) (pos := p1) (by rw [h.N]; exact h3) (vis_of h h4) n1 n2
  have ht : PE X (.Name m p2) (L2.tC v) := by
    have g1 := gl_of h h7
    have g2 := (plain_of h8).1
    rcases nm with g | ⟨g, g4, g5⟩
    · exact pe_glob g1 g rv g2
    · exact pe_bltn g1 g g4 rv g5 g2
  refine ⟨fun pins s σ H Q I q => ?_⟩
  obtain ⟨B, as, M, env, S, r, q⟩ := q
  have q : PostG X.K H B as M (exW W cv σ) (relD X.K B) (match env[i]? with
    | some (some (.exo a)) => Φ 0 [.exo a, .int k] M
    | _ => .bad) Q := q
  split at q
  · rename_i a e
    obtain ⟨w, e1, e2⟩ := r.get i _ e
    have e2 : w = .ref a := e2
    subst e2
    rcases hΦ a M with z | ⟨p, D, b, z1, z2, z3, z4, z5, z6, z7⟩
    · rw [z] at q
      exact q.elim
    · rw [z7] at q
      refine (pe_callB (SgH.call_isP z1 z3 z4 z5) (gl_of h h2) (h.bi "isinstance" (by decide)) PyProof.Rows.boot_isinstance (pa_cons hv (pa_cons ht pa_nil)) (by decide) (by decide)).run pins s σ H Q I ?_
      exact ⟨_, e1, v, u, b, by rw [z2], ru, z6, q as H _ Go.refl S rfl⟩
  · exact q.elim
end
end
end Sg

namespace Sg
noncomputable section
open PySem PySem.Spec PyProof.Rows L2
section
variable {X : Cx} {cv : Nat → Value} {W : WX} {Φ : Phi} {c : Ctx} {x y z tg : Expr} {pos : Pos}
theorem mt_facts (f : Mt) : Slot "list" (mtA f : Str) (mtN f) ∧ typeOf (.builtin (mtN f)) = pure (.type "method_descriptor") := by
  cases f
  · exact ⟨PySem.F.slot_list_append, PySem.F.type_list_append⟩
  · exact ⟨PySem.F.slot_list_extend, PySem.F.type_list_extend⟩
  · exact ⟨PySem.F.slot_list_pop, PySem.F.type_list_pop⟩
  · exact ⟨PySem.F.slot_list_pop, PySem.F.type_list_pop⟩
  · exact ⟨PySem.F.slot_list_clear, PySem.F.type_list_clear⟩
  · exact ⟨PySem.F.slot_list_reverse, PySem.F.type_list_reverse⟩
  · exact ⟨PySem.F.slot_list_insert, PySem.F.type_list_insert⟩
  · exact ⟨PySem.F.slot_list_index, PySem.F.type_list_index⟩
theorem few : ∀ (xs : List Expr) (env : Env), (∀ x ∈ xs, shp x = true) → (backTo pos (starEach xs env)).all (fun x => !x.1) = true
  | [], _, _ => rfl
  | x :: xs, env, h => by
    rw [shp_star (h x List.mem_cons_self)]
    show (!false && (backTo pos (starEach xs env)).all (fun x => !x.1)) = true
    rw [few xs env fun y hy => h y (List.mem_cons_of_mem _ hy)]; rfl
theorem s_meth {f : Mt} {a : E} {es : Es} {ps : List Expr} {apos : Pos} (hl : (apos.endLine == pos.line) = true) (ha : PE X x (tE X cv W Φ a)) (hx : shp x = true) (hs : ∀ y ∈ ps, shp y = true) (hn : ps.length < 20)
    (hes : PA X ps (tEs X cv W Φ es)) (hN : ∀ env M, ps = [] → evEs Φ es env M = .ok [] M) : PE X (.Call (.Attribute x (mtA f : Str) apos) ps [] pos) (tE X cv W Φ (.meth f a es)) := by
  obtain ⟨f1, f2⟩ := mt_facts f
  refine ⟨fun pins s σ H Q I q => ?_⟩
  have hm := mt_meth (X := X) (E := exW W cv σ) f
  have ty : ∀ {B : Addr → Prop} {as : List Addr} {M : List Cell} {H : Hp} {d : D} {v : V} {xs : List D}, Sim X.K H B as M → Rp X.K H (Av B as M) as d v → content M d = some xs → tyV X.K "list" v H := fun S r e => by
    obtain ⟨p, vs, rfl, h1, _⟩ := content_rp S r e
    exact .inl ⟨rfl, vs, .of h1⟩
  cases ps with
  | nil =>
    refine (pe_bm0 PySem.F.plainAttrs_list f1 f2 hm ha (shp_base hx) hl).run pins s σ H Q I ?_
    obtain ⟨B, as, M, env, S, r, q⟩ := q
    refine ⟨B, as, M, env, S, r, post_bind q fun d M1 as1 H1 v hq1 g1 S1 ra q1 => ?_⟩
    split at q1
    · rename_i xs e
      refine ⟨ty S1 ra e, B, as1, M1, d, [], S1, ra, rfl, ?_⟩
      rw [hN _ _ rfl] at q1
      exact q1
    · exact q1.elim
  | cons p qs =>
    have h1 := stars (pos := pos) (env := X.env) qs fun y hy => hs y (List.mem_cons_of_mem _ hy)
    have h2 := few (pos := pos) (p :: qs) X.env hs
    refine (pe_bm PySem.F.plainAttrs_list f1 f2 hm ha hes (shp_base hx) (by
      rw [h2]
      show (true && true && decide ((p :: qs).length + 0 + 0 < 30)) = true
      rw [decide_eq_true (by simp only [List.length_cons] at hn ⊢; omega)]; rfl) hl (shp_star (hs p List.mem_cons_self)) h1).run pins s σ H Q I ?_
    obtain ⟨B, as, M, env, S, r, q⟩ := q
    refine ⟨B, as, M, env, S, r, post_bind q fun d M1 as1 H1 v hq1 g1 S1 ra q1 => ?_⟩
    split at q1
    · rename_i xs e
      refine ⟨ty S1 ra e, B, as1, M1, env, S1, r.go S g1, post_bind q1 fun ds M2 as2 H2 vs hq2 g2 S2 rs q2 => ?_⟩
      exact ⟨B, as2, M2, d, ds, S2, g2.rp S1 ra, rs, q2⟩
    · exact q1.elim
theorem tm_facts (f : Tm) : Slot "str" (tmA f : Str) (tmN f) ∧ typeOf (.builtin (tmN f)) = pure (.type "method_descriptor") := by
  cases f
  · exact ⟨PySem.F.slot_str_join, PySem.F.type_str_join⟩
  · exact ⟨PySem.F.slot_str_split, PySem.F.type_str_split⟩
  · exact ⟨PySem.F.slot_str_startswith, PySem.F.type_str_startswith⟩
  · exact ⟨PySem.F.slot_str_find, PySem.F.type_str_find⟩
  · exact ⟨PySem.F.slot_str_isdigit, PySem.F.type_str_isdigit⟩
  · exact ⟨PySem.F.slot_str_partition, PySem.F.type_str_partition⟩
theorem s_tm {f : Tm} {a : E} {es : Es} {ps : List Expr} {apos : Pos} (hl : (apos.endLine == pos.line) = true) (ha : PE X x (tE X cv W Φ a)) (hx : shp x = true) (hs : ∀ y ∈ ps, shp y = true) (hn : ps.length < 20)
    (hes : PA X ps (tEs X cv W Φ es)) (hN : ∀ env M, ps = [] → evEs Φ es env M = .ok [] M) : PE X (.Call (.Attribute x (tmA f : Str) apos) ps [] pos) (tE X cv W Φ (.tm f a es)) := by
  obtain ⟨f1, f2⟩ := tm_facts f
  refine ⟨fun pins s σ H Q I q => ?_⟩
  have hm := mt_tm (X := X) (E := exW W cv σ) f
  cases ps with
  | nil =>
    refine (pe_bm0 PySem.F.plainAttrs_str f1 f2 hm ha (shp_base hx) hl).run pins s σ H Q I ?_
    obtain ⟨B, as, M, env, S, r, q⟩ := q
    refine ⟨B, as, M, env, S, r, post_bind q fun d M1 as1 H1 v hq1 g1 S1 ra q1 => ?_⟩
    split at q1
    · rename_i z
      cases ra
      refine ⟨rfl, B, as1, M1, z, [], S1, rfl, rfl, ?_⟩
      rw [hN _ _ rfl] at q1
      exact q1
    · exact q1.elim
  | cons p qs =>
    have h1 := stars (pos := pos) (env := X.env) qs fun y hy => hs y (List.mem_cons_of_mem _ hy)
    have h2 := few (pos := pos) (p :: qs) X.env hs
    refine (pe_bm PySem.F.plainAttrs_str f1 f2 hm ha hes (shp_base hx) (by
      rw [h2]
      show (true && true && decide ((p :: qs).length + 0 + 0 < 30)) = true
      rw [decide_eq_true (by simp only [List.length_cons] at hn ⊢; omega)]; rfl) hl (shp_star (hs p List.mem_cons_self)) h1).run pins s σ H Q I ?_
    obtain ⟨B, as, M, env, S, r, q⟩ := q
    refine ⟨B, as, M, env, S, r, post_bind q fun d M1 as1 H1 v hq1 g1 S1 ra q1 => ?_⟩
    split at q1
    · rename_i z
      cases ra
      refine ⟨rfl, B, as1, M1, env, S1, r.go S g1, post_bind q1 fun ds M2 as2 H2 vs hq2 g2 S2 rs q2 => ?_⟩
      exact ⟨B, as2, M2, z, ds, S2, rfl, rs, q2⟩
    · exact q1.elim
/-- a list or a tuple -/
def iSeq (K : PySem.W.Frag) (tl : TE) : TI := fun σ H R => tl σ H fun x H1 => (∃ a, x = .ref a ∧ (∃ xs, SqL K H1 a xs) ∧ R (Itl K a) H1) ∨ ∃ a, x = .ref a ∧ (∃ xs, SqT K H1 a xs) ∧ R (Itt K a) H1
theorem pi_seq {l : Expr} {tl : TE} (hl : PE X l tl) : PI X tg l (iSeq X.K tl) := by
  refine ⟨fun pins s σ H R I h => ?_⟩
  refine thn (hl.run pins s σ H _ I h) fun v s1 ⟨x, H1, I1, r1, q1⟩ => ?_
  rcases q1 with ⟨a, e, ⟨xs, hq⟩, q⟩ | ⟨a, e, ⟨xs, hq⟩, q⟩
  · subst e
    cases r1
    obtain ⟨its, rv, p, hz⟩ := I1.list hq
    refine wpAny_pyIter_list p.isList ?_
    refine ⟨s1.heap.objs.size, [s1.heap.objs.size], _, _, H1, rfl, I1.kept (t' := s1.toks) fun b o e => Heap.get?_push_of_some _ e, turn_list a _, ⟨_, Heap.get?_push_size _ rfl, rfl, rfl⟩, fun b hb => ?_, q⟩
    have e : b = s1.heap.objs.size := by simpa using hb
    subst e
    exact I1.fpOk (Nat.le_refl _) (I1.hok.fresh (Nat.le_refl _))
  · subst e
    cases r1
    obtain ⟨its, rv, p, hz⟩ := I1.tuple hq
    refine wpAny_pyIter_tuple (show s1.heap.IsTuple a its.toArray from p) ?_
    refine ⟨s1.heap.objs.size, [s1.heap.objs.size], _, _, H1, rfl, I1.kept (t' := s1.toks) fun b o e => Heap.get?_push_of_some _ e, turn_tuple a _, ⟨_, Heap.get?_push_size _ rfl, rfl, rfl⟩, fun b hb => ?_, q⟩
    have e : b = s1.heap.objs.size := by simpa using hb
    subst e
    exact I1.fpOk (Nat.le_refl _) (I1.hok.fresh (Nat.le_refl _))
section
variable {K : PySem.W.Frag} {H : Hp} {B : Addr → Prop} {as : List Addr} {M : List Cell}
/-- a list that stays as it is, whatever comes -/
def Still (K : PySem.W.Frag) (as : List Addr) (M : List Cell) (H : Hp) (a : Addr) (vs : List V) : Prop := ∀ as' M' H', Go as M H as' M' H' → SqL K H' a vs
theorem Still.of {a : Addr} {vs : List V} (h : Rd H a (.lst vs)) (n : ¬ Live as M a) : Still K as M H a vs := fun _ _ _ g => .inl (g.rd h n)
/-- a list that is walked is written to no more -/
theorem stop_nl {d : D} {v : V} {xs : List D} (S : Sim K H B as M) (r : Rp K H (Av B as M) as d v) (h : listOf M d = some xs) : ∃ a vs, v = .ref a ∧ SqL K H a vs ∧ Rps K H (Av B as M) as xs vs ∧ Still K as (stop1 d M) H a vs := by
  cases d with
  | lst ys =>
    cases h
    obtain ⟨a, vs, e, s, n, q⟩ := r
    exact ⟨a, vs, e, .of s, q, .of (.inl s) fun l => n (.inr l)⟩
  | fro ys =>
    cases h
    obtain ⟨a, vs, e, s, q⟩ := r
    refine ⟨a, vs, e, s.sql, q, fun as' M' H' g => ?_⟩
    rcases s with ⟨o, s⟩ | s
    · exact .inl (.inr ⟨o, g.keep _ _ s (S.frzNL s)⟩)
    · exact .inr s
  | ref i =>
    obtain ⟨a, vs, e, s, q⟩ := content_rp S r (show content M (.ref i) = some xs from h)
    obtain ⟨b, e1, e2⟩ := r
    have : a = b := by rw [e] at e2; cases e2; rfl
    subst this
    refine ⟨a, vs, e, .of s, q, .of (.inl s) fun l => ?_⟩
    obtain ⟨m, hc⟩ := content_ref (show content M (.ref i) = some xs from h)
    obtain ⟨j, d, l1, l2⟩ := l
    have := nd_ix S l1 e1
    subst this
    unfold stop1 at l2
    dsimp only at l2
    rw [hc] at l2
    rcases set_get l2 with ⟨_, q, _⟩ | ⟨z, _⟩
    · cases q
    · exact z rfl
  | _ => cases h
end
theorem Go.rps2 {H H' : Hp} {B B' : Addr → Prop} {as as' : List Addr} {M M' : List Cell} {K : PySem.W.Frag} (S : Sim K H B as M) (g : Go as M H as' M' H') (hB : ∀ a, H a ≠ none → B' a → B a) {d : List D} {v : List V} (h : Rps K H (Av B as M) as d v) : Rps K H' (Av B' as' M') as' d v :=
  Rps.mono g.pre (fun _ _ => g.sqt S) (fun _ _ => g.tpl S) (fun a u e n => ⟨g.keep a u e fun l => n (.inr l), fun z => z.elim (fun b => n (.inl (hB a (by rw [e]; simp) b))) fun l => n (.inr (g.live a (by rw [e]; simp) l))⟩) (g.frz S) d v h
/-- a list that stands still -/
theorem feed_list {H : Hp} {B : Addr → Prop} {as : List Addr} {M : List Cell} {a : Addr} {vs : List V} {xs : List D} (S : Sim X.K H B as M) (h : Still X.K as M H a vs) (r : Rps X.K H (Av B as M) as xs vs) : Feed X B as M H xs (Itl X.K a) := by
  intro B' as' M' H' hB g S'
  have h' := h _ _ _ g
  have r' := g.rps2 S hB r
  refine ⟨fun i hi => ?_, fun i hi => ⟨vs, h', by rw [r.len]; exact hi⟩, fun i d x H'' e y => ?_⟩
  · obtain ⟨v, e1, _⟩ := r'.get (List.getElem?_eq_getElem hi)
    exact ⟨vs, v, h', e1⟩
  · obtain ⟨rfl, y⟩ := y
    obtain ⟨v, e1, e2⟩ := r'.get e
    have := y vs h'
    rw [e1] at this
    cases this
    exact ⟨Go.refl, S', e2, fun _ _ h => h⟩
theorem feed_tup {H : Hp} {B : Addr → Prop} {as : List Addr} {M : List Cell} {a : Addr} {vs : List V} {xs : List D} (S : Sim X.K H B as M) (h : SqT X.K H a vs) (r : Rps X.K H (Av B as M) as xs vs) : Feed X B as M H xs (Itt X.K a) := by
  intro B' as' M' H' hB g S'
  have h' := g.sqt S h
  have r' := g.rps2 S hB r
  refine ⟨fun i hi => ?_, fun i hi => ⟨vs, h', by rw [r.len]; exact hi⟩, fun i d x H'' e y => ?_⟩
  · obtain ⟨v, e1, _⟩ := r'.get (List.getElem?_eq_getElem hi)
    exact ⟨vs, v, h', e1⟩
  · obtain ⟨rfl, y⟩ := y
    obtain ⟨v, e1, e2⟩ := r'.get e
    have := y vs h'
    rw [e1] at this
    cases this
    exact ⟨Go.refl, S', e2, fun _ _ h => h⟩
theorem upTo_get {lo : Int} {n i : Nat} {d : D} (e : (upTo lo n)[i]? = some d) : d = .int (lo + (i : Nat)) := by
  unfold upTo at e
  rw [List.getElem?_map] at e
  by_cases hi : i < n
  · rw [List.getElem?_range hi] at e; cases e; rfl
  · rw [List.getElem?_eq_none (by simpa using hi)] at e; cases e
theorem upBy_get {lo k : Int} {n i : Nat} {d : D} (e : (upBy lo k n)[i]? = some d) : d = .int (lo + (i : Nat) * k) := by
  unfold upBy at e
  rw [List.getElem?_map] at e
  by_cases hi : i < n
  · rw [List.getElem?_range hi] at e; cases e; rfl
  · rw [List.getElem?_eq_none (by simpa using hi)] at e; cases e
theorem feed_range {H : Hp} {B : Addr → Prop} {as : List Addr} {M : List Cell} {lo : Int} {n : Nat} : Feed X B as M H (upTo lo n) (Itr lo n) := by
  intro B' as' M' H' hB g S'
  have hl : (upTo lo n).length = n := by simp [upTo]
  refine ⟨fun i hi => by rw [hl] at hi; exact hi, fun i hi => by rw [hl] at hi; exact hi, fun i d x H'' e y => ?_⟩
  obtain ⟨rfl, rfl⟩ := y
  rw [upTo_get e]
  exact ⟨Go.refl, S', rfl, fun _ _ h => h⟩
theorem feed_rangeC {H : Hp} {B : Addr → Prop} {as : List Addr} {M : List Cell} {lo k : Int} {n : Nat} : Feed X B as M H (upBy lo k n) (Itc lo k n) := by
  intro B' as' M' H' hB g S'
  have hl : (upBy lo k n).length = n := by simp [upBy]
  refine ⟨fun i hi => by rw [hl] at hi; exact hi, fun i hi => by rw [hl] at hi; exact hi, fun i d x H'' e y => ?_⟩
  obtain ⟨rfl, rfl⟩ := y
  rw [upBy_get e]
  exact ⟨Go.refl, S', rfl, fun _ _ h => h⟩
theorem enum_get : ∀ {xs : List D} {n i : Nat} {d : D}, (enumD n xs)[i]? = some d → ∃ x, xs[i]? = some x ∧ d = .tup [.int ((n + i : Nat) : Int), x]
  | [], _, _, _, e => by simp [enumD] at e
  | x :: xs, n, 0, d, e => by
    simp [enumD] at e; subst e
    exact ⟨x, rfl, rfl⟩
  | x :: xs, n, i + 1, d, e => by
    obtain ⟨z, e1, e2⟩ := enum_get (xs := xs) (n := n + 1) (i := i) (by simpa [enumD] using e)
    exact ⟨z, by simpa using e1, by rw [e2, show n + 1 + i = n + (i + 1) by omega]⟩
theorem enum_len : ∀ (xs : List D) (n : Nat), (enumD n xs).length = xs.length
  | [], _ => rfl
  | x :: xs, n => by simp [enumD, enum_len xs (n + 1)]
theorem tup_new {H : Hp} {B : Addr → Prop} {as : List Addr} {M : List Cell} {p : Addr} {ds : List D} {vs : List V} (S : Sim X.K H B as M) (hp : H p = none) (r : Rps X.K H (Av B as M) as ds vs) :
    Go as M H as M (upd H p (.tup vs)) ∧ Sim X.K (upd H p (.tup vs)) B as M ∧ Rp X.K (upd H p (.tup vs)) (Av B as M) as (.tup ds) (.ref p) ∧ ∀ a o, H a = some o → upd H p (.tup vs) a = some o := by
  have g : Go as M H as M (upd H p (.tup vs)) := Go.laid S hp
  exact ⟨g, Sim.laid S hp, ⟨p, vs, rfl, .inl (.inl upd_same), g.rps S r⟩, fun a o e => by rw [upd_ne (ne_of_none e hp)]; exact e⟩
theorem feed_enum {H : Hp} {B : Addr → Prop} {as : List Addr} {M : List Cell} {a : Addr} {vs : List V} {xs : List D} (S : Sim X.K H B as M) (h : Still X.K as M H a vs) (r : Rps X.K H (Av B as M) as xs vs) : Feed X B as M H (enumD 0 xs) (Ite X.K a) := by
  intro B' as' M' H' hB g S'
  have h' := h _ _ _ g
  have r' := g.rps2 S hB r
  have hl := enum_len xs 0
  refine ⟨fun i hi => ?_, fun i hi => ⟨vs, h', by rw [r.len]; omega⟩, fun i d x H'' e y => ?_⟩
  · obtain ⟨v, e1, _⟩ := r'.get (List.getElem?_eq_getElem (show i < xs.length by omega))
    exact ⟨vs, v, h', e1⟩
  · obtain ⟨z, e1, e2⟩ := enum_get e
    obtain ⟨p, w, rfl, hp, rfl, y⟩ := y
    obtain ⟨v, e3, e4⟩ := r'.get e1
    have := y vs h'
    rw [e3] at this
    cases this
    rw [e2, Nat.zero_add]
    exact tup_new S' hp ⟨.int (i : Nat), [w], rfl, rfl, w, [], rfl, e4, rfl⟩
theorem zip_get : ∀ {xs ys : List D} {i : Nat} {d : D}, (zipD xs ys)[i]? = some d → ∃ x y, xs[i]? = some x ∧ ys[i]? = some y ∧ d = .tup [x, y]
  | [], ys, _, _, e => by cases ys <;> simp [zipD] at e
  | x :: xs, [], _, _, e => by simp [zipD] at e
  | x :: xs, y :: ys, 0, d, e => by
    simp [zipD] at e; subst e
    exact ⟨x, y, rfl, rfl, rfl⟩
  | x :: xs, y :: ys, i + 1, d, e => by
    obtain ⟨z, w, e1, e2, e3⟩ := zip_get (xs := xs) (ys := ys) (i := i) (by simpa [zipD] using e)
    exact ⟨z, w, by simpa using e1, by simpa using e2, e3⟩
theorem zip_len : ∀ (xs ys : List D), (zipD xs ys).length = min xs.length ys.length
  | [], ys => by cases ys <;> simp [zipD]
  | x :: xs, [] => by simp [zipD]
  | x :: xs, y :: ys => by simp [zipD, zip_len xs ys]
theorem feed_zip {H : Hp} {B : Addr → Prop} {as : List Addr} {M : List Cell} {a b : Addr} {vs ws : List V} {xs ys : List D} (S : Sim X.K H B as M) (h1 : Still X.K as M H a vs) (r1 : Rps X.K H (Av B as M) as xs vs)
    (h2 : Still X.K as M H b ws) (r2 : Rps X.K H (Av B as M) as ys ws) : Feed X B as M H (zipD xs ys) (Itz X.K a b) := by
  intro B' as' M' H' hB g S'
  have h1' := h1 _ _ _ g
  have h2' := h2 _ _ _ g
  have r1' := g.rps2 S hB r1
  have r2' := g.rps2 S hB r2
  have hl := zip_len xs ys
  refine ⟨fun i hi => ?_, fun i hi => ⟨vs, ws, h1', h2', by rw [r1.len, r2.len]; omega⟩, fun i d x H'' e y => ?_⟩
  · obtain ⟨v, e1, _⟩ := r1'.get (List.getElem?_eq_getElem (show i < xs.length by omega))
    obtain ⟨w, e2, _⟩ := r2'.get (List.getElem?_eq_getElem (show i < ys.length by omega))
    exact ⟨vs, ws, v, w, h1', h2', e1, e2⟩
  · obtain ⟨z, z2, e1, e2, rfl⟩ := zip_get e
    obtain ⟨p, w, w2, rfl, hp, rfl, y1, y2⟩ := y
    obtain ⟨v, e3, e4⟩ := r1'.get e1
    obtain ⟨v2, e5, e6⟩ := r2'.get e2
    have := y1 vs h1'
    rw [e3] at this
    cases this
    have := y2 ws h2'
    rw [e5] at this
    cases this
    exact tup_new S' hp ⟨w, [w2], rfl, e4, w2, [], rfl, e6, rfl⟩
theorem feed_rev {H : Hp} {B : Addr → Prop} {as : List Addr} {M : List Cell} {a : Addr} {vs : List V} {xs : List D} (S : Sim X.K H B as M) (h : Still X.K as M H a vs) (r : Rps X.K H (Av B as M) as xs vs) : Feed X B as M H xs.reverse (Itv X.K a vs.length) := by
  intro B' as' M' H' hB g S'
  have h' := h _ _ _ g
  have r' := (g.rps2 S hB r).reverse
  have hl : xs.reverse.length = vs.length := by rw [List.length_reverse, r.len]
  have at' : ∀ {i : Nat} {v : V}, vs.reverse[i]? = some v → vs[vs.length - 1 - i]? = some v := fun {i v} e => by
    have hi : i < vs.length := by
      have := (List.getElem?_eq_some_iff.mp e).1
      simpa using this
    rw [List.getElem?_reverse hi] at e
    exact e
  refine ⟨fun i hi => ?_, fun i hi => by rw [hl] at hi; exact hi, fun i d x H'' e y => ?_⟩
  · obtain ⟨v, e1, _⟩ := r'.get (List.getElem?_eq_getElem hi)
    exact ⟨by rw [hl] at hi; exact hi, vs, v, h', at' e1⟩
  · obtain ⟨rfl, y⟩ := y
    obtain ⟨v, e1, e2⟩ := r'.get e
    have := y vs h'
    rw [at' e1] at this
    cases this
    exact ⟨Go.refl, S', e2, fun _ _ h => h⟩
theorem s_val {a : E} (ha : PE X x (tE X cv W Φ a)) : PI X tg x (tI X cv W Φ (.val a)) :=
  (pi_seq ha).imp fun σ H R q => by
    obtain ⟨B, as, M, env, S, r, q⟩ := q
    refine ⟨B, as, M, env, S, r, post_bind q fun d M1 as1 H1 v hq1 g1 S1 ra q1 => ?_⟩
    split at q1
    · rename_i xs e
      by_cases ht : ∃ ys, d = .tup ys
      · obtain ⟨ys, rfl⟩ := ht
        cases e
        obtain ⟨p, vs, rfl, h1, h2⟩ := ra
        refine .inr ⟨p, rfl, ⟨vs, h1⟩, ?_⟩
        exact q1 as1 H1 _ Go.refl S1 (feed_tup S1 h1 h2)
      · by_cases hk : ∃ ys, d = .ktp ys
        · obtain ⟨ys, rfl⟩ := hk
          cases e
          obtain ⟨p, vs, rfl, h1, h2⟩ := ra
          refine .inr ⟨p, rfl, ⟨vs, .inl (.inl h1)⟩, ?_⟩
          exact q1 as1 H1 _ Go.refl S1 (feed_tup S1 (.inl (.inl h1)) h2)
        have h' : listOf M1 d = some xs := by
          cases d <;> first | exact e | exact absurd ⟨_, rfl⟩ ht | exact absurd ⟨_, rfl⟩ hk
        obtain ⟨p, vs, rfl, h1, h2, h3⟩ := stop_nl S1 ra h'
        have g2 := Go.stop S1 d
        refine .inl ⟨p, rfl, ⟨vs, h1⟩, ?_⟩
        exact q1 as1 H1 _ g2 (S1.stop d) (feed_list (S1.stop d) h3 (g2.rps S1 h2))
    · exact q1.elim
theorem feed_str {H : Hp} {B : Addr → Prop} {as : List Addr} {M : List Cell} {z : Str} : Feed X B as M H (z.cps.toList.map fun c => D.str ⟨#[c]⟩) (Its z) := by
  intro B' as' M' H' hB g S'
  have hl : (z.cps.toList.map fun c => D.str ⟨#[c]⟩).length = z.cps.size := by simp
  refine ⟨fun i hi => by rw [hl] at hi; exact hi, fun i hi => by rw [hl] at hi; exact hi, fun i d x H'' e y => ?_⟩
  obtain ⟨rfl, c, e1, rfl⟩ := y
  rw [List.getElem?_map, Array.getElem?_toList, e1] at e
  cases e
  exact ⟨Go.refl, S', rfl, fun _ _ h => h⟩
theorem s_chars {a : E} (ha : PE X x (tE X cv W Φ a)) : PI X tg x (tI X cv W Φ (.chars a)) :=
  (pi_str ha).imp fun σ H R q => by
    obtain ⟨B, as, M, env, S, r, q⟩ := q
    refine ⟨B, as, M, env, S, r, post_bind q fun d M1 as1 H1 v hq1 g1 S1 ra q1 => ?_⟩
    split at q1
    · rename_i z
      cases ra
      exact ⟨z, rfl, q1 as1 H1 _ Go.refl S1 feed_str⟩
    · exact q1.elim
theorem s_rng1 {a : E} {p0 : Pos} (h : XH c Φ cv X W) (h2 : glOk c.sc ("range" : Str) = true) (hx : shp x = true) (ha : PE X x (tE X cv W Φ a)) : PI X tg (.Call (.Name ("range" : Str) p0) [x] [] pos) (tI X cv W Φ (.rng1 a)) :=
  (pi_range1 (gl_of h h2) (h.bi "range" (by decide)) (pa_cons ha pa_nil (shp_star hx)) (shp_star hx)).imp fun σ H R q => by
    obtain ⟨B, as, M, env, S, r, q⟩ := q
    refine ⟨B, as, M, env, S, r, post_bind q fun d M1 as1 H1 v hq1 g1 S1 ra q1 => ?_⟩
    split at q1
    · rename_i j
      split at q1
      · rename_i hb
        cases ra
        exact ⟨j, rfl, hb.1, hb.2, q1 as1 H1 _ Go.refl S1 feed_range⟩
      · exact q1.elim
    · exact q1.elim
theorem _root_.L2H.PIH.imp {x y : Expr} {t t' : TI} (h : L2H.PIH X x y t) (k : ∀ σ H Q, t' σ H Q → t σ H Q) : L2H.PIH X x y t' := ⟨fun pins s σ H Q I q => h.run pins s σ H Q I (k σ H Q q)⟩
theorem s_rng1H {a : E} {p0 : Pos} (h : XH c Φ cv X W) (h2 : glOk c.sc ("range" : Str) = true) (hx : shp x = true) (ha : PE X x (tE X cv W Φ a)) : L2H.PIH X tg (.Call (.Name ("range" : Str) p0) [x] [] pos) (tI X cv W Φ (.rng1 a)) :=
  (L2H.pi_range1H (gl_of h h2) (h.bi "range" (by decide)) (pa_cons ha pa_nil (shp_star hx)) (shp_star hx)).imp fun σ H R q => by
    obtain ⟨B, as, M, env, S, r, q⟩ := q
    refine ⟨B, as, M, env, S, r, post_bind q fun d M1 as1 H1 v hq1 g1 S1 ra q1 => ?_⟩
    split at q1
    · rename_i j
      split at q1
      · rename_i hb
        cases ra
        exact ⟨j, rfl, hb.1, hb.2, q1 as1 H1 _ Go.refl S1 feed_range⟩
      · exact q1.elim
    · exact q1.elim
theorem s_rng2 {a b : E} {p0 : Pos} (h : XH c Φ cv X W) (h2 : glOk c.sc ("range" : Str) = true) (hx : shp x = true) (hy : shp y = true) (ha : PE X x (tE X cv W Φ a)) (hb : PE X y (tE X cv W Φ b)) : PI X tg (.Call (.Name ("range" : Str) p0) [x, y] [] pos) (tI X cv W Φ (.rng2 a b)) :=
  (pi_range2 (gl_of h h2) (h.bi "range" (by decide)) (pa_cons ha (pa_cons hb pa_nil (shp_star hy)) (shp_star hx)) (by rw [shp_star hx, shp_star hy]; rfl) (shp_star hy)).imp fun σ H R q => by
    obtain ⟨B, as, M, env, S, r, q⟩ := q
    refine ⟨B, as, M, env, S, r, post_bind q fun d M1 as1 H1 v hq1 g1 S1 ra q1 => ?_⟩
    refine ⟨B, as1, M1, env, S1, r.go S g1, post_bind q1 fun e M2 as2 H2 w hq2 g2 S2 rb q2 => ?_⟩
    split at q2
    · rename_i i j
      split at q2
      · rename_i hb
        cases ra; cases rb
        exact ⟨i, j, rfl, ⟨hb.1.1, hb.1.2, hb.2.1, hb.2.2⟩, q2 as2 H2 _ Go.refl S2 feed_range⟩
      · exact q2.elim
    · exact q2.elim
theorem s_rng3 {a b d : E} {p0 : Pos} (h : XH c Φ cv X W) (h2 : glOk c.sc ("range" : Str) = true) (hx : shp x = true) (hy : shp y = true) (hz : shp z = true) (ha : PE X x (tE X cv W Φ a)) (hb : PE X y (tE X cv W Φ b)) (hd : PE X z (tE X cv W Φ d)) :
    PI X tg (.Call (.Name ("range" : Str) p0) [x, y, z] [] pos) (tI X cv W Φ (.rng3 a b d)) :=
  (pi_range3 (gl_of h h2) (h.bi "range" (by decide)) (pa_cons ha (pa_cons hb (pa_cons hd pa_nil (shp_star hz)) (shp_star hy)) (shp_star hx)) (shp_star hx) (by rw [shp_star hy, shp_star hz]; rfl)).imp fun σ H R q => by
    obtain ⟨B, as, M, env, S, r, q⟩ := q
    refine ⟨B, as, M, env, S, r, post_bind q fun d M1 as1 H1 v hq1 g1 S1 ra q1 => ?_⟩
    refine ⟨B, as1, M1, env, S1, r.go S g1, post_bind q1 fun e M2 as2 H2 w hq2 g2 S2 rb q2 => ?_⟩
    refine ⟨B, as2, M2, env, S2, (r.go S g1).go S1 g2, post_bind q2 fun g M3 as3 H3 u hq3 g3 S3 rc q3 => ?_⟩
    split at q3
    · rename_i i j k
      split at q3
      · rename_i hb
        obtain ⟨rfl, hb⟩ := hb
        cases ra; cases rb; cases rc
        exact ⟨i, j, -1, _, rfl, RgC.neg hb.1.1 hb.1.2 hb.2.1 hb.2.2, q3 as3 H3 _ Go.refl S3 feed_rangeC⟩
      · exact q3.elim
    · exact q3.elim
theorem s_enum {a : E} {p0 tp : Pos} {ts : List Expr} {kk : Nat} (h : XH c Φ cv X W) (h2 : glOk c.sc ("enumerate" : Str) = true) (hx : shp x = true) (ha : PE X x (tE X cv W Φ a)) :
    PI X (.Tuple ts kk tp) (.Call (.Name ("enumerate" : Str) p0) [x] [] pos) (tI X cv W Φ (.enum a)) :=
  (pi_enum (gl_of h h2) (h.bi "enumerate" (by decide)) (pa_cons ha pa_nil (shp_star hx)) (shp_star hx)).imp fun σ H R q => by
    obtain ⟨B, as, M, env, S, r, q⟩ := q
    refine ⟨B, as, M, env, S, r, post_bind q fun d M1 as1 H1 v hq1 g1 S1 ra q1 => ?_⟩
    split at q1
    · rename_i xs e
      obtain ⟨p, vs, rfl, h1, h2, h3⟩ := stop_nl S1 ra e
      have g2 := Go.stop S1 d
      exact ⟨p, vs, rfl, h1, q1 as1 H1 _ g2 (S1.stop d) (feed_enum (S1.stop d) h3 (g2.rps S1 h2))⟩
    · exact q1.elim
theorem s_rev {a : E} {p0 : Pos} (h : XH c Φ cv X W) (h2 : glOk c.sc ("reversed" : Str) = true) (hx : shp x = true) (ha : PE X x (tE X cv W Φ a)) :
    PI X tg (.Call (.Name ("reversed" : Str) p0) [x] [] pos) (tI X cv W Φ (.rev a)) :=
  (pi_reversed (gl_of h h2) (h.bi "reversed" (by decide)) (pa_cons ha pa_nil (shp_star hx)) (shp_star hx)).imp fun σ H R q => by
    obtain ⟨B, as, M, env, S, r, q⟩ := q
    refine ⟨B, as, M, env, S, r, post_bind q fun d M1 as1 H1 v hq1 g1 S1 ra q1 => ?_⟩
    split at q1
    · rename_i xs e
      obtain ⟨p, vs, rfl, h1, h2, h3⟩ := stop_nl S1 ra e
      have g2 := Go.stop S1 d
      exact ⟨p, vs, rfl, h1, q1 as1 H1 _ g2 (S1.stop d) (feed_rev (S1.stop d) h3 (g2.rps S1 h2))⟩
    · exact q1.elim
theorem s_zip {a b : E} {p0 tp : Pos} {ts : List Expr} {kk : Nat} (h : XH c Φ cv X W) (h2 : glOk c.sc ("zip" : Str) = true) (hx : shp x = true) (hy : shp y = true) (ha : PE X x (tE X cv W Φ a)) (hb : PE X y (tE X cv W Φ b)) :
    PI X (.Tuple ts kk tp) (.Call (.Name ("zip" : Str) p0) [x, y] [] pos) (tI X cv W Φ (.zip a b)) :=
  (pi_zip (gl_of h h2) (h.bi "zip" (by decide)) (pa_cons ha (pa_cons hb pa_nil (shp_star hy)) (shp_star hx)) (shp_star hx) (by rw [shp_star hy]; rfl)).imp fun σ H R q => by
    obtain ⟨B, as, M, env, S, r, q⟩ := q
    refine ⟨B, as, M, env, S, r, post_bind q fun d M1 as1 H1 v hq1 g1 S1 ra q1 => ?_⟩
    refine ⟨B, as1, M1, env, S1, r.go S g1, post_bind q1 fun e M2 as2 H2 w hq2 g2 S2 rb q2 => ?_⟩
    split at q2
    · rename_i xs ys e1 e2
      have ra2 := g2.rp S1 ra
      obtain ⟨p, vs, rfl, h1, h2, h3⟩ := stop_nl S2 ra2 e1
      have g3 := Go.stop S2 d
      have S3 := S2.stop d
      have e2' : listOf (stop1 d M2) e = some ys := by
        refine Eq.trans ?_ e2
        cases e <;> try rfl
        rename_i i
        cases d <;> try rfl
        rename_i j
        show content (stop1 (.ref j) M2) (.ref i) = content M2 (.ref i)
        unfold stop1 content
        dsimp only
        cases hj : M2[j]? with
        | none => rfl
        | some cj =>
          obtain ⟨mm, dd⟩ := cj
          cases dd <;> try rfl
          dsimp only
          by_cases hij : i = j
          · subst hij
            rw [List.getElem?_set_self (List.getElem?_eq_some_iff.mp hj).1, hj]
          · rw [List.getElem?_set_ne (Ne.symm hij)]
      obtain ⟨p2, ws, rfl, h4, h5, h6⟩ := stop_nl S3 (g3.rp S2 rb) e2'
      have g4 := Go.stop S3 e
      have h3' : Still X.K as2 (stop1 e (stop1 d M2)) H2 p vs := fun _ _ _ g => h3 _ _ _ (g4.trans g)
      exact ⟨p, p2, vs, ws, rfl, h1, h4, q2 as2 H2 _ (g3.trans g4) (S3.stop e) (feed_zip (S3.stop e) h3' (g4.rps S3 (g3.rps S2 h2)) h6 (g4.rps S3 h5))⟩
    · exact q2.elim
theorem wipe_set {i : Nat} {o : Option V} {σ : St2} : ∀ (vs : List Nat), i ∈ vs → L2.wipe (σ.set i o) vs = L2.wipe σ vs
  | [], h => by cases h
  | v :: vs, h => by
    have comm : ∀ vs : List Nat, L2.wipe (σ.set i o) vs = L2.wipe σ vs ∨ L2.wipe (σ.set i o) vs = (L2.wipe σ vs).set i o := fun vs => by
      induction vs with
      | nil => exact .inr rfl
      | cons w ws ih =>
        show (L2.wipe (σ.set i o) ws).set w none = (L2.wipe σ ws).set w none ∨ _ = ((L2.wipe σ ws).set w none).set i o
        rcases ih with e | e
        · exact .inl (by rw [e])
        · by_cases hw : w = i
          · subst hw
            exact .inl (by rw [e, List.set_set])
          · exact .inr (by show (L2.wipe (σ.set i o) ws).set w none = _; rw [e, List.set_comm _ _ (Ne.symm hw)])
    show (L2.wipe (σ.set i o) vs).set v none = (L2.wipe σ vs).set v none
    rcases List.mem_cons.mp h with rfl | h
    · rcases comm vs with e | e
      · rw [e]
      · rw [e, List.set_set]
    · rw [wipe_set vs h]
theorem PostG.rel {α β : Type} {K : PySem.W.Frag} {H : Hp} {B : Addr → Prop} {as : List Addr} {M : List Cell} {E : Nat → Hp → Prop} {rel rel' : List Addr → List Cell → Hp → α → β → Prop} {r : R α} {Q : β → Hp → Prop}
    (h : PostG K H B as M E rel r Q) (k : ∀ as' M' H' a b, rel' as' M' H' a b → rel as' M' H' a b) : PostG K H B as M E rel' r Q := by
  cases r with
  | ok d M' => exact fun as' H' v g S z => h as' H' v g S (k _ _ _ _ _ z)
  | exc c M' => exact h
  | bad => exact h
theorem s_tvar {i : Nat} {n : Str} (h : XH c Φ cv X W) (h1 : c.N[i]? = some n) (h2 : locOk c.sc n = true) (h3 : (c.fn n || decide (c.sc.names.lookup n = some .local)) = true) : PG X (.Name n pos) (tT' X Φ (.var i)) :=
  (pg_name (by rw [h.N]; exact h.nd) (by rw [h.N]; exact h1) (loc_of h h2) (by
    rw [Bool.or_eq_true] at h3
    rcases h3 with z | z
    · exact .inl (h.fn _ z)
    · exact .inr (by rw [h.sc]; exact of_decide_eq_true z))).imp fun v σ H Q q => by
    obtain ⟨B, as, M, env, d, S, r, rd, q⟩ := q
    exact q as H _ Go.refl S ⟨r.set rd, fun vs hv => wipe_set vs (by simpa [tSub] using hv)⟩
theorem s_tnil : PGs X [] (tTs' X Φ .nil) := pgs_nil.imp fun vs σ H Q q => by
  obtain ⟨B, as, M, env, ds, S, r, rd, q⟩ := q
  cases ds with
  | nil => exact ⟨rd, q as H σ Go.refl S ⟨r, fun _ _ => rfl⟩⟩
  | cons _ _ => exact q.elim
theorem s_tcons {t : T} {ts : Ts} {ys : List Expr} (h1 : PG X x (tT' X Φ t)) (h2 : PGs X ys (tTs' X Φ ts)) (hx : (assignEach (x :: ys) X.env).map (·.2) = assign x X.env :: (assignEach ys X.env).map (·.2)) : PGs X (x :: ys) (tTs' X Φ (.cons t ts)) :=
  (pgs_cons h1 h2 hx).imp fun vs σ H Q q => by
    obtain ⟨B, as, M, env, ds, S, r, rd, q⟩ := q
    cases ds with
    | nil => exact q.elim
    | cons d ds =>
      obtain ⟨v, ws, rfl, r1, r2⟩ := rd
      refine ⟨v, ws, rfl, B, as, M, env, d, S, r, r1, post_bind q fun e M1 as1 H1 σ1 _ g1 S1 re q1 => ?_⟩
      refine ⟨B, as1, M1, e, ds, S1, re.1, g1.rps S r2, q1.rel fun as' M' H' e σ' z => ⟨z.1, fun vs hv => ?_⟩⟩
      rw [tSubs, Bool.and_eq_true] at hv
      rw [z.2 vs hv.2, re.2 vs hv.1]
def noStar : List Expr → Bool
  | [] => true
  | .Starred _ _ :: _ => false
  | _ :: xs => noStar xs
theorem noStar_len {env : Env} : ∀ (xs : List Expr), noStar xs = true → (assignEach xs env).length = xs.length ∧ (assignEach xs env).findIdx? (·.1) = none
  | [], _ => ⟨rfl, rfl⟩
  | x :: xs, h => by
    have h' : noStar xs = true := by cases x <;> first | exact h | cases h
    have ih := noStar_len (env := env) xs h'
    have e : assignEach (x :: xs) env = (false, assign x env) :: assignEach xs env := by cases x <;> first | rfl | cases h
    rw [e]
    refine ⟨by simp [ih.1], ?_⟩
    rw [List.findIdx?_cons]
    simp [ih.2]
mutual
theorem evT_nox : (t : T) → (d : D) → (σ : St) → (M : List Cell) → ∀ k M', evT Φ t d σ M ≠ .exc k M'
  | .var i, d, σ, M, k, M', h => by cases h
  | .tup ts, d, σ, M, k, M', h => by
    cases d with
    | tup xs => exact evTs_nox ts xs σ M k M' h
    | _ => cases h
  | .idx o i, d, σ, M, k, M', h => by
    have h' : ((evE Φ o σ M).nox.bind fun x M1 => (evE Φ i σ M1).nox.bind fun y M2 => match setD x y d M2 with
      | some M3 => R.ok σ M3
      | none => .bad) = .exc k M' := h
    cases e : evE Φ o σ M with
    | ok x M1 =>
      rw [e] at h'
      dsimp only [R.nox_ok, R.bind_ok] at h'
      cases e2 : evE Φ i σ M1 with
      | ok y M2 =>
        rw [e2] at h'
        dsimp only [R.nox_ok, R.bind_ok] at h'
        split at h' <;> cases h'
      | exc _ _ => rw [e2] at h'; cases h'
      | bad => rw [e2] at h'; cases h'
    | exc _ _ => rw [e] at h'; cases h'
    | bad => rw [e] at h'; cases h'
theorem evTs_nox : (ts : Ts) → (ds : List D) → (σ : St) → (M : List Cell) → ∀ k M', evTs Φ ts ds σ M ≠ .exc k M'
  | .nil, [], σ, M, k, M', h => by cases h
  | .nil, _ :: _, σ, M, k, M', h => by cases h
  | .cons t ts, [], σ, M, k, M', h => by cases h
  | .cons t ts, d :: ds, σ, M, k, M', h => by
    have h' : ((evT Φ t d σ M).bind fun σ1 M1 => evTs Φ ts ds σ1 M1) = .exc k M' := h
    cases e : evT Φ t d σ M with
    | ok σ1 M1 =>
      rw [e] at h'
      exact evTs_nox ts ds σ1 M1 k M' h'
    | exc k1 M1 => exact evT_nox t d σ M k1 M1 e
    | bad => rw [e] at h'; cases h'
end
def tsLen : Ts → Nat
  | .nil => 0
  | .cons _ ts => tsLen ts + 1
theorem evTs_len : (ts : Ts) → (ds : List D) → (σ : St) → (M : List Cell) → ∀ σ' M', evTs Φ ts ds σ M = .ok σ' M' → ds.length = tsLen ts
  | .nil, [], σ, M, _, _, _ => rfl
  | .nil, _ :: _, σ, M, _, _, h => by cases h
  | .cons t ts, [], σ, M, _, _, h => by cases h
  | .cons t ts, d :: ds, σ, M, σ', M', h => by
    have h' : ((evT Φ t d σ M).bind fun σ1 M1 => evTs Φ ts ds σ1 M1) = .ok σ' M' := h
    cases e : evT Φ t d σ M with
    | ok σ1 M1 =>
      rw [e] at h'
      have := evTs_len ts ds σ1 M1 σ' M' h'
      simp [tsLen, this]
    | exc k1 M1 => rw [e] at h'; cases h'
    | bad => rw [e] at h'; cases h'
theorem s_ttup {ts : Ts} {ys : List Expr} {k : Nat} (h : XH c Φ cv X W) (hcool : c.hot = false) (h1 : PGs X ys (tTs' X Φ ts)) (hn : noStar ys = true) (hl : tsLen ts = ys.length) : PG X (.Tuple ys k pos) (tT' X Φ (.tup ts)) :=
  (pg_tup (h.calm hcool) h1 (noStar_len ys hn).1 (noStar_len ys hn).2).imp fun v σ H Q q => by
    obtain ⟨B, as, M, env, d, S, r, rd, q⟩ := q
    cases d with
    | tup xs =>
      obtain ⟨a, vs, rfl, e1, r1⟩ := rd
      have q' : PostG X.K H B as M (fun _ _ => False) (fun as' M' H' e σ' => EnvR X.K H' (Av B as' M') as' e σ' ∧ ∀ vs, tSubs ts vs = true → L2.wipe σ' vs = L2.wipe σ vs) (evTs Φ ts xs env M) Q := q
      refine ⟨a, vs, rfl, e1, ?_, B, as, M, env, xs, S, r, r1, q'⟩
      cases e : evTs Φ ts xs env M with
      | ok σ1 M1 => rw [r1.len, evTs_len ts xs env M σ1 M1 e, hl]
      | exc k M1 => exact absurd e (evTs_nox ts xs env M k M1)
      | bad => rw [e] at q'; exact q'.elim
    | _ => exact q.elim
theorem PostG.weak {α β : Type} {K : PySem.W.Frag} {H : Hp} {B : Addr → Prop} {as : List Addr} {M : List Cell} {E E' : Nat → Hp → Prop} {rel : List Addr → List Cell → Hp → α → β → Prop} {r : R α} {Q : β → Hp → Prop}
    (h : PostG K H B as M E rel r Q) (k : ∀ c H, E c H → E' c H) : PostG K H B as M E' rel r Q := by
  cases r with
  | ok d M' => exact h
  | exc c M' => exact fun as' H' g S => k _ _ (h as' H' g S)
  | bad => exact h
/-- no exception leaves this step -/
theorem post_nox {α β γ δ : Type} {K : PySem.W.Frag} {H : Hp} {B : Addr → Prop} {as : List Addr} {M : List Cell} {E E' : Nat → Hp → Prop} {rel1 : List Addr → List Cell → Hp → α → β → Prop} {rel2 : List Addr → List Cell → Hp → γ → δ → Prop}
    {r : R α} {f : α → List Cell → R γ} {Q : δ → Hp → Prop} {Q' : β → Hp → Prop} (h : PostG K H B as M E rel2 (r.nox.bind f) Q)
    (k : ∀ a M1 as1 H1 b, r = .ok a M1 → Go as M H as1 M1 H1 → Sim K H1 B as1 M1 → rel1 as1 M1 H1 a b → PostG K H1 B as1 M1 E rel2 (f a M1) Q → Q' b H1) : PostG K H B as M E' rel1 r Q' := by
  cases r with
  | ok a M1 => exact fun as' H' v g S q => k a M1 as' H' v rfl g S q (PostG.go h g)
  | exc c M1 => exact h.elim
  | bad => exact h
theorem s_tidx {o i : E} (h1 : PE X x (tE X cv W Φ o)) (h2 : PE X y (tE X cv W Φ i)) (hy : shp y = true) (hx : shp x = true) : PG X (.Subscript x y pos) (tT' X Φ (.idx o i)) :=
  (pg_sub h1 h2 set_setD (fun v => by cases y <;> first | rfl | cases hy)).imp fun v σ H Q q => by
    obtain ⟨B, as, M, env, d, S, r, rd, q⟩ := q
    refine ⟨B, as, M, env, S, r, post_nox q fun a M1 as1 H1 w hq1 g1 S1 ra q1 => ?_⟩
    refine ⟨B, as1, M1, env, S1, r.go S g1, post_nox q1 fun b M2 as2 H2 u hq2 g2 S2 rb q2 => ?_⟩
    split at q2
    · rename_i M3 e
      refine ⟨B, as2, M2, a, b, d, M3, S2, g2.rp S1 ra, rb, g2.rp S1 (g1.rp S rd), e, fun H' g3 S3 => ?_⟩
      exact q2 as2 H' σ g3 S3 ⟨((r.go S g1).go S1 g2).go S2 g3, fun _ _ => rfl⟩
    · exact q2.elim
end
end
end Sg

namespace Sg
noncomputable section
open PySem PySem.Spec PyProof.Rows L2
abbrev W0 : WX := fun _ _ _ _ => False
section
variable {K : PySem.W.Frag} {H H' : Hp} {B B' : Addr → Prop} {as as' : List Addr} {M M' : List Cell}
/-- what is to be kept clear of may be less -/
theorem Cp.drop {a : Addr} {c : Cell} (hB : ∀ a, B a → B' a) (h : Cp K H (Av B' as M) as a c) : Cp K H (Av B as M) as a c := by
  have w1 : ∀ {d : D} {v : V}, Rp K H (Av B' as M) as d v → Rp K H (Av B as M) as d v := fun {d v} h => Rp.mono List.prefix_rfl (fun _ _ z => z) (fun _ _ z => z) (fun a u z n => ⟨z, fun b => n (b.imp_left (hB a))⟩) (fun _ _ _ z => z) d v h
  have w2 : ∀ {d : List D} {v : List V}, Rps K H (Av B' as M) as d v → Rps K H (Av B as M) as d v := fun {d v} h => Rps.mono List.prefix_rfl (fun _ _ z => z) (fun _ _ z => z) (fun a u z n => ⟨z, fun b => n (b.imp_left (hB a))⟩) (fun _ _ _ z => z) d v h
  obtain ⟨m, d⟩ := c
  cases m <;> cases d <;> try (exact h.elim)
  · exact w1 h
  · rename_i t ks ds
    cases t
    · obtain ⟨o, vs, e, n, k, r⟩ := h
      exact ⟨o, vs, e, fun z => n (z.imp_left (hB a)), k, w2 r⟩
    · obtain ⟨o, vs, e, n, k, r⟩ := h
      exact ⟨o, vs, e, fun z => n (z.imp_left (hB a)), k, w2 r⟩
  · obtain ⟨vs, e, r⟩ := h
    exact ⟨vs, e, w2 r⟩
  · rename_i t ks ds
    cases t
    · obtain ⟨vs, e, k, r⟩ := h
      exact ⟨vs, e, k, w2 r⟩
    · obtain ⟨vs, e, k, r⟩ := h
      exact ⟨vs, e, k, w2 r⟩
theorem Sim.drop (S : Sim K H B' as M) (hB : ∀ a, B a → B' a) : Sim K H B as M :=
  ⟨S.len, S.nd, fun a h => S.b0 a (hB a h), fun a h b => S.dj a h (hB a b), fun i a c h1 h2 => (S.cell i a c h1 h2).drop hB⟩
theorem Cp.map {a : Addr} {c : Cell} (w1 : ∀ {d : D} {v : V}, Rp K H (Av B as M) as d v → Rp K H' (Av B' as' M') as' d v) (w2 : ∀ {d : List D} {v : List V}, Rps K H (Av B as M) as d v → Rps K H' (Av B' as' M') as' d v)
    (hm : ∀ o, H a = some o → H' a = some o) (hn : ∀ o u, H a = some (.frz o u) → ¬ Av B as M a → ¬ Av B' as' M' a) (h : Cp K H (Av B as M) as a c) : Cp K H' (Av B' as' M') as' a c := by
  obtain ⟨m, d⟩ := c
  cases m <;> cases d <;> try (exact h.elim)
  · intro z
    cases q : H a with
    | none => exact h q
    | some o => rw [hm o q] at z; cases z
  · exact w1 h
  · rename_i t ks ds
    cases t
    · obtain ⟨o, vs, e, n, k, r⟩ := h
      exact ⟨o, vs, hm _ e, hn _ _ e n, k, w2 r⟩
    · obtain ⟨o, vs, e, n, k, r⟩ := h
      exact ⟨o, vs, hm _ e, hn _ _ e n, k, w2 r⟩
  · obtain ⟨vs, e, r⟩ := h
    exact ⟨vs, hm _ e, w2 r⟩
  · rename_i t ks ds
    cases t
    · obtain ⟨vs, e, k, r⟩ := h
      exact ⟨vs, hm _ e, k, w2 r⟩
    · obtain ⟨vs, e, k, r⟩ := h
      exact ⟨vs, hm _ e, k, w2 r⟩
/-- a list is laid, of which all keep clear -/
theorem hide_rp {p : Addr} {o : HO} (hp : H p = none) {d : D} {v : V} (h : Rp K H (Av B as M) as d v) : Rp K (upd H p o) (Av (fun a => B a ∨ a = p) as M) as d v :=
  Rp.mono List.prefix_rfl (fun a vs z => by
    rcases z with (z | ⟨u, z⟩) | z
    · exact .inl (.inl (by rw [upd_ne (ne_of_none z hp)]; exact z))
    · exact .inl (.inr ⟨u, by rw [upd_ne (ne_of_none z hp)]; exact z⟩)
    · exact .inr z) (fun a vs z => by rw [upd_ne (ne_of_none z hp)]; exact z) (fun a u e n => by
    have ne := ne_of_none e hp
    exact ⟨by rw [upd_ne ne]; exact e, fun z => z.elim (fun z => z.elim (fun b => n (.inl b)) ne) fun l => n (.inr l)⟩) (fun a u w e => by rw [upd_ne (ne_of_none e hp)]; exact e) d v h
theorem hide_rps {p : Addr} {o : HO} (hp : H p = none) {d : List D} {v : List V} (h : Rps K H (Av B as M) as d v) : Rps K (upd H p o) (Av (fun a => B a ∨ a = p) as M) as d v :=
  Rps.mono List.prefix_rfl (fun a vs z => by
    rcases z with (z | ⟨u, z⟩) | z
    · exact .inl (.inl (by rw [upd_ne (ne_of_none z hp)]; exact z))
    · exact .inl (.inr ⟨u, by rw [upd_ne (ne_of_none z hp)]; exact z⟩)
    · exact .inr z) (fun a vs z => by rw [upd_ne (ne_of_none z hp)]; exact z) (fun a u e n => by
    have ne := ne_of_none e hp
    exact ⟨by rw [upd_ne ne]; exact e, fun z => z.elim (fun z => z.elim (fun b => n (.inl b)) ne) fun l => n (.inr l)⟩) (fun a u w e => by rw [upd_ne (ne_of_none e hp)]; exact e) d v h
theorem Sim.hide {p : Addr} {o : HO} (S : Sim K H B as M) (hp : H p = none) : Sim K (upd H p o) (fun a => B a ∨ a = p) as M := by
  refine ⟨S.len, S.nd, fun a h => ?_, fun a h b => ?_, fun i a c h1 h2 => (S.cell i a c h1 h2).map (hide_rp hp) (hide_rps hp) (fun u e => by rw [upd_ne (ne_of_none e hp)]; exact e) fun o u e n z => z.elim (fun z => z.elim (fun b => n (.inl b)) (ne_of_none e hp)) fun l => n (.inr l)⟩
  · rcases h with h | rfl
    · by_cases e : a = p
      · subst e; rw [upd_same]; simp
      · rw [upd_ne e]; exact S.b0 a h
    · rw [upd_same]; simp
  · rcases b with b | rfl
    · exact S.dj a h b
    · exact S.fresh hp h
/-- a list is written to, of which all keep clear -/
theorem poke_rp {p : Addr} {ws us : List V} (hp : H p = some (.lst ws)) (hB : B p) {d : D} {v : V} (h : Rp K H (Av B as M) as d v) : Rp K (upd H p (.lst us)) (Av B as M) as d v :=
  Rp.mono List.prefix_rfl (fun a vs z => by
    rcases z with (z | ⟨u, z⟩) | z
    · exact .inl (.inl (by rw [upd_ne (ne_of z hp (by intro z; cases z))]; exact z))
    · exact .inl (.inr ⟨u, by rw [upd_ne (ne_of z hp (by intro z; cases z))]; exact z⟩)
    · exact .inr z) (fun a vs z => by rw [upd_ne (ne_of z hp (by intro z; cases z))]; exact z) (fun a u e n => by
    have ne : a ≠ p := fun z => n (.inl (z ▸ hB))
    exact ⟨by rw [upd_ne ne]; exact e, n⟩) (fun a u w e => by rw [upd_ne (ne_of e hp (by intro z; cases z))]; exact e) d v h
theorem poke_rps {p : Addr} {ws us : List V} (hp : H p = some (.lst ws)) (hB : B p) {d : List D} {v : List V} (h : Rps K H (Av B as M) as d v) : Rps K (upd H p (.lst us)) (Av B as M) as d v :=
  Rps.mono List.prefix_rfl (fun a vs z => by
    rcases z with (z | ⟨u, z⟩) | z
    · exact .inl (.inl (by rw [upd_ne (ne_of z hp (by intro z; cases z))]; exact z))
    · exact .inl (.inr ⟨u, by rw [upd_ne (ne_of z hp (by intro z; cases z))]; exact z⟩)
    · exact .inr z) (fun a vs z => by rw [upd_ne (ne_of z hp (by intro z; cases z))]; exact z) (fun a u e n => by
    have ne : a ≠ p := fun z => n (.inl (z ▸ hB))
    exact ⟨by rw [upd_ne ne]; exact e, n⟩) (fun a u w e => by rw [upd_ne (ne_of e hp (by intro z; cases z))]; exact e) d v h
theorem Sim.poke {p : Addr} {ws us : List V} (S : Sim K H B as M) (hp : H p = some (.lst ws)) (hB : B p) : Sim K (upd H p (.lst us)) B as M := by
  refine ⟨S.len, S.nd, fun a h => ?_, S.dj, fun i a c h1 h2 => (S.cell i a c h1 h2).map (poke_rp hp hB) (poke_rps hp hB) (fun u e => ?_) fun _ _ _ n => n⟩
  · by_cases e : a = p
    · subst e; rw [upd_same]; simp
    · rw [upd_ne e]; exact S.b0 a h
  · have ne : a ≠ p := fun z => S.dj a (List.mem_of_getElem? h1) (z ▸ hB)
    rw [upd_ne ne]; exact e
theorem Go.poke {H0 : Hp} {as0 : List Addr} {M0 : List Cell} {p : Addr} {us : List V} (g : Go as0 M0 H0 as M H) (h0 : H0 p = none) : Go as0 M0 H0 as M (upd H p (.lst us)) :=
  ⟨g.pre, fun a o e n => by rw [upd_ne (ne_of_none e h0)]; exact g.keep a o e n, g.live, fun a e => by
    by_cases q : a = p
    · subst q; rw [upd_same]; simp
    · rw [upd_ne q]; exact g.dom a e, g.new⟩
end
/-- a step, told from an earlier state -/
theorem post_bind0 {α β γ δ : Type} {K : PySem.W.Frag} {H0 H : Hp} {B B1 : Addr → Prop} {as0 as : List Addr} {M0 M : List Cell} {E E' : Nat → Hp → Prop} {rel1 : List Addr → List Cell → Hp → α → β → Prop} {rel2 : List Addr → List Cell → Hp → γ → δ → Prop}
    {r : R α} {f : α → List Cell → R γ} {Q : δ → Hp → Prop} {Q' : β → Hp → Prop} (h : PostG K H0 B as0 M0 E rel2 (r.nox.bind f) Q)
    (k : ∀ a M1 as1 H1 b, r = .ok a M1 → Go as M H as1 M1 H1 → Sim K H1 B1 as1 M1 → rel1 as1 M1 H1 a b → PostG K H0 B as0 M0 E rel2 (f a M1) Q → Q' b H1) : PostG K H B1 as M E' rel1 r Q' := by
  cases r with
  | ok a M1 => exact fun as' H' v g S q => k a M1 as' H' v rfl g S q h
  | exc c M1 => exact h.elim
  | bad => exact h
/-- what was laid ahead, of which all keep clear, becomes a place -/
theorem adopt {K : PySem.W.Frag} {H0 H H1 : Hp} {B : Addr → Prop} {as0 as : List Addr} {M0 M : List Cell} {ob ob1 : HO} {d : D} {p : Addr} (g0 : Go as0 M0 H0 as M H) (S : Sim K H (fun a => B a ∨ a = p) as M) (h0 : H0 p = none) (nb : ¬ B p) (hp : H p = some ob)
    (hnf : ∀ vs, ob ≠ .tup vs) (hnz : ∀ o u, ob ≠ .frz o u) (hH : H1 = upd H p ob1) (hc : (∀ {e : D} {v : V}, Rp K H (Av (fun a => B a ∨ a = p) as M) as e v → Rp K H1 (Av B (as ++ [p]) (M ++ [⟨true, d⟩])) (as ++ [p]) e v) → Cp K H1 (Av B (as ++ [p]) (M ++ [⟨true, d⟩])) (as ++ [p]) p ⟨true, d⟩) :
    Go as0 M0 H0 (as ++ [p]) (M ++ [⟨true, d⟩]) H1 ∧ Sim K H1 B (as ++ [p]) (M ++ [⟨true, d⟩]) := by
  subst hH
  have S' : Sim K H B as M := S.drop fun a b => .inl b
  have hn : p ∉ as := fun z => S.dj p z (.inr rfl)
  have lv : ∀ a, Live (as ++ [p]) (M ++ [⟨true, d⟩]) a → Live as M a ∨ a = p := fun a l => (Live.app S.len l).imp_right fun z => z.1
  have av : ∀ a, ¬ Av (fun a => B a ∨ a = p) as M a → ¬ Av B (as ++ [p]) (M ++ [⟨true, d⟩]) a := fun a n z => z.elim (fun b => n (.inl (.inl b))) fun l => (lv a l).elim (fun l => n (.inr l)) fun e => n (.inl (.inr e))
  have ntup : ∀ a vs, H a = some (.tup vs) → a ≠ p := fun a vs e z => by
    rw [z, hp] at e
    cases e
    exact hnf vs rfl
  have nfrz : ∀ a o u, H a = some (.frz o u) → a ≠ p := fun a o u e z => by
    rw [z, hp] at e
    cases e
    exact hnz o u rfl
  have hl : ∀ a u, H a = some u → ¬ Av (fun a => B a ∨ a = p) as M a → upd H p ob1 a = some u ∧ ¬ Av B (as ++ [p]) (M ++ [⟨true, d⟩]) a := fun a u e n =>
    ⟨by rw [upd_ne fun z => n (.inl (.inr z))]; exact e, av a n⟩
  have ht : ∀ a vs, SqT K H a vs → SqT K (upd H p ob1) a vs := fun a vs z => by
    rcases z with (z | ⟨u, z⟩) | z
    · exact .inl (.inl (by rw [upd_ne (ntup a vs z)]; exact z))
    · exact .inl (.inr ⟨u, by rw [upd_ne (nfrz a _ _ z)]; exact z⟩)
    · exact .inr z
  have w1 : ∀ {d' : D} {v : V}, Rp K H (Av (fun a => B a ∨ a = p) as M) as d' v → Rp K (upd H p ob1) (Av B (as ++ [p]) (M ++ [⟨true, d⟩])) (as ++ [p]) d' v := fun {d' v} h =>
    Rp.mono (List.prefix_append _ _) ht (fun a vs z => by rw [upd_ne (ntup a vs z)]; exact z) hl (fun a o u z => by rw [upd_ne (nfrz a o u z)]; exact z) d' v h
  have w2 : ∀ {d' : List D} {v : List V}, Rps K H (Av (fun a => B a ∨ a = p) as M) as d' v → Rps K (upd H p ob1) (Av B (as ++ [p]) (M ++ [⟨true, d⟩])) (as ++ [p]) d' v := fun {d' v} h =>
    Rps.mono (List.prefix_append _ _) ht (fun a vs z => by rw [upd_ne (ntup a vs z)]; exact z) hl (fun a o u z => by rw [upd_ne (nfrz a o u z)]; exact z) d' v h
  have g1 : Go as0 M0 H0 (as ++ [p]) (M ++ [⟨true, d⟩]) (upd H p ob1) := by
    refine ⟨g0.pre.trans (List.prefix_append _ _), fun a o e n => ?_, fun a ha l => ?_, fun a e => ?_, fun i a h1 h2 => ?_⟩
    · rw [upd_ne (ne_of_none e h0)]
      exact g0.keep a o e n
    · rcases lv a l with l | rfl
      · exact g0.live a ha l
      · exact absurd h0 ha
    · by_cases q : a = p
      · rw [q, upd_same]; simp
      · rw [upd_ne q]; exact g0.dom a e
    · by_cases hi : i < as.length
      · rw [List.getElem?_append_left hi] at h2
        exact g0.new i a h1 h2
      · rw [List.getElem?_append_right (by omega)] at h2
        cases q : i - as.length with
        | zero => rw [q] at h2; simp at h2; subst h2; exact h0
        | succ n => rw [q] at h2; simp at h2
  refine ⟨g1, by simp [S.len], ?_, fun a h => ?_, fun a h => ?_, fun i a c h1 h2 => ?_⟩
  · rw [List.nodup_append]
    refine ⟨S.nd, by simp, fun a ha b hb => ?_⟩
    simp at hb; subst hb
    exact fun e => hn (e ▸ ha)
  · by_cases q : a = p
    · rw [q, upd_same]; simp
    · rw [upd_ne q]; exact S'.b0 a h
  · rcases List.mem_append.mp h with h | h
    · exact S'.dj a h
    · simp at h; subst h; exact nb
  · by_cases hi : i < as.length
    · rw [List.getElem?_append_left hi] at h1
      rw [List.getElem?_append_left (by rw [← S.len]; exact hi)] at h2
      refine (S.cell i a c h1 h2).map w1 w2 (fun o e => ?_) fun _ _ _ n => av a n
      rw [upd_ne fun (z : a = p) => hn (by rw [← z]; exact List.mem_of_getElem? h1)]
      exact e
    · rw [List.getElem?_append_right (by omega)] at h1
      rw [List.getElem?_append_right (by have := S.len; omega)] at h2
      have e1 : i - as.length = 0 := by
        cases q : i - as.length with
        | zero => rfl
        | succ n => rw [q] at h1; simp at h1
      have e2 : i - M.length = 0 := by have := S.len; omega
      rw [e1] at h1; rw [e2] at h2
      simp at h1 h2
      subst h1; subst h2
      exact hc w1
/-- a list that has grown within a block is told -/
theorem end_new {K : PySem.W.Frag} {H0 H : Hp} {B : Addr → Prop} {as0 as : List Addr} {M0 M : List Cell} {E : Nat → Hp → Prop} {Q : VK} {m : Bool} {xs : List D} {vs : List V} {p : Addr}
    (g0 : Go as0 M0 H0 as M H) (S : Sim K H (fun a => B a ∨ a = p) as M) (h0 : H0 p = none) (nb : ¬ B p) (hp : H p = some (.lst vs)) (r : Rps K H (Av (fun a => B a ∨ a = p) as M) as xs vs) (h : PostD K H0 B as0 M0 E (new m xs M) Q) : Q (.ref p) H := by
  unfold new at h
  have S' : Sim K H B as M := S.drop fun a b => .inl b
  have hn : p ∉ as := fun z => S.dj p z (.inr rfl)
  split at h
  · cases m
    · have nl : ¬ Av B as M p := fun z => z.elim nb fun l => hn l.mem
      exact h as H (.ref p) g0 S' ⟨p, vs, rfl, hp, nl, Rps.mono List.prefix_rfl (fun _ _ z => z) (fun _ _ z => z) (fun a u z n => ⟨z, fun b => n (b.imp_left .inl)⟩) (fun _ _ _ z => z) _ _ r⟩
    · have lv : ∀ a, Live (as ++ [p]) (M ++ [⟨true, .lst xs⟩]) a → Live as M a ∨ a = p := fun a l => (Live.app S.len l).imp_right fun z => z.1
      have av : ∀ a, ¬ Av (fun a => B a ∨ a = p) as M a → ¬ Av B (as ++ [p]) (M ++ [⟨true, .lst xs⟩]) a := fun a n z => z.elim (fun b => n (.inl (.inl b))) fun l => (lv a l).elim (fun l => n (.inr l)) fun e => n (.inl (.inr e))
      have w1 : ∀ {d : D} {v : V}, Rp K H (Av (fun a => B a ∨ a = p) as M) as d v → Rp K H (Av B (as ++ [p]) (M ++ [⟨true, .lst xs⟩])) (as ++ [p]) d v := fun {d v} h =>
        Rp.mono (List.prefix_append _ _) (fun _ _ z => z) (fun _ _ z => z) (fun a u z n => ⟨z, av a n⟩) (fun _ _ _ z => z) d v h
      have w2 : ∀ {d : List D} {v : List V}, Rps K H (Av (fun a => B a ∨ a = p) as M) as d v → Rps K H (Av B (as ++ [p]) (M ++ [⟨true, .lst xs⟩])) (as ++ [p]) d v := fun {d v} h =>
        Rps.mono (List.prefix_append _ _) (fun _ _ z => z) (fun _ _ z => z) (fun a u z n => ⟨z, av a n⟩) (fun _ _ _ z => z) d v h
      have g1 : Go as0 M0 H0 (as ++ [p]) (M ++ [⟨true, .lst xs⟩]) H := by
        refine ⟨g0.pre.trans (List.prefix_append _ _), g0.keep, fun a ha l => ?_, g0.dom, fun i a h1 h2 => ?_⟩
        · rcases lv a l with l | rfl
          · exact g0.live a ha l
          · exact absurd h0 ha
        · by_cases hi : i < as.length
          · rw [List.getElem?_append_left hi] at h2
            exact g0.new i a h1 h2
          · rw [List.getElem?_append_right (by omega)] at h2
            cases q : i - as.length with
            | zero => rw [q] at h2; simp at h2; subst h2; exact h0
            | succ n => rw [q] at h2; simp at h2
      have S1 : Sim K H B (as ++ [p]) (M ++ [⟨true, .lst xs⟩]) := by
        refine ⟨by simp [S.len], ?_, S'.b0, fun a h => ?_, fun i a c h1 h2 => ?_⟩
        · rw [List.nodup_append]
          refine ⟨S.nd, by simp, fun a ha b hb => ?_⟩
          simp at hb; subst hb
          exact fun e => hn (e ▸ ha)
        · rcases List.mem_append.mp h with h | h
          · exact S'.dj a h
          · simp at h; subst h; exact nb
        · by_cases hi : i < as.length
          · rw [List.getElem?_append_left hi] at h1
            rw [List.getElem?_append_left (by rw [← S.len]; exact hi)] at h2
            exact (S.cell i a c h1 h2).map w1 w2 (fun o e => e) fun _ _ _ n => av a n
          · rw [List.getElem?_append_right (by omega)] at h1
            rw [List.getElem?_append_right (by have := S.len; omega)] at h2
            have e1 : i - as.length = 0 := by
              cases q : i - as.length with
              | zero => rfl
              | succ n => rw [q] at h1; simp at h1
            have e2 : i - M.length = 0 := by have := S.len; omega
            rw [e1] at h1; rw [e2] at h2
            simp at h1 h2
            subst h1; subst h2
            exact ⟨vs, hp, w2 r⟩
      refine h (as ++ [p]) H (.ref p) g1 S1 ⟨p, ?_, rfl⟩
      rw [← S.len, List.getElem?_append_right (Nat.le_refl _), Nat.sub_self]; rfl
  · exact h.elim
theorem wipe_idem (σ : St2) : ∀ vs ws : List Nat, (∀ v ∈ vs, v ∈ ws) → L2.wipe (L2.wipe σ vs) ws = L2.wipe σ ws
  | [], _, _ => rfl
  | v :: vs, ws, hs => by
    show L2.wipe ((L2.wipe σ vs).set v none) ws = _
    rw [wipe_set ws (hs v List.mem_cons_self), wipe_idem σ vs ws fun u hu => hs u (List.mem_cons_of_mem _ hu)]
theorem compL_nox (step : D → List Cell → R (Option D)) : ∀ (xs : List D) (M : List Cell) (k : Nat) (M' : List Cell), compL step xs M ≠ .exc k M'
  | [], M, k, M', h => by cases h
  | x :: xs, M, k, M', h => by
    have h' : ((step x M).nox.bind fun y M1 => (compL step xs M1).bind fun ys M2 => match y with
      | some y => R.ok (y :: ys) M2
      | none => .ok ys M2) = .exc k M' := h
    cases e : step x M with
    | ok y M1 =>
      rw [e] at h'
      dsimp only [R.nox_ok, R.bind_ok] at h'
      cases e2 : compL step xs M1 with
      | ok ys M2 =>
        rw [e2] at h'
        dsimp only [R.bind_ok] at h'
        split at h' <;> cases h'
      | exc k1 M2 => exact compL_nox step xs M1 k1 M2 e2
      | bad => rw [e2] at h'; cases h'
    | exc _ _ => rw [e] at h'; cases h'
    | bad => rw [e] at h'; cases h'
mutual
theorem beqX_eq : (a b : D) → beqX a b = true → a = b
  | .ref i, b, h => by
    cases b <;> first | (rw [beqX] at h; rw [eq_of_beq h]) | cases h
  | .non, b, h => by cases b <;> first | rfl | cases h
  | .bl a, b, h => by
    cases b <;> first | (rw [beqX] at h; rw [eq_of_beq h]) | cases h
  | .int a, b, h => by
    cases b <;> first | (rw [beqX] at h; rw [eq_of_beq h]) | cases h
  | .str a, b, h => by
    cases b <;> first | (rw [beqX] at h; rw [of_decide_eq_true h]) | cases h
  | .tup xs, b, h => by
    cases b <;> first | (rw [beqX] at h; rw [beqXs_eq xs _ h]) | cases h
  | .ktp xs, b, h => by
    cases b <;> first | (rw [beqX] at h; rw [beqXs_eq xs _ h]) | cases h
  | .lst xs, b, h => by
    cases b <;> first | (rw [beqX] at h; rw [beqXs_eq xs _ h]) | cases h
  | .fro _, b, h => by cases b <;> cases h
  | .dct _ _ _, b, h => by cases b <;> cases h
  | .exo _, b, h => by cases b <;> cases h
theorem beqXs_eq : (a b : List D) → beqXs a b = true → a = b
  | [], [], _ => rfl
  | [], _ :: _, h => by cases h
  | _ :: _, [], h => by cases h
  | x :: xs, y :: ys, h => by
    rw [beqXs, Bool.and_eq_true] at h
    rw [beqX_eq x y h.1, beqXs_eq xs ys h.2]
end
theorem holds_eq {i : Nat} {xs : List D} {M : List Cell} (h : holds i xs M = true) : M[i]? = some ⟨true, .lst xs⟩ := by
  unfold holds at h
  split at h
  · rename_i ys e
    rw [e, beqXs_eq ys xs h]
  · cases h
theorem prefix_get {xs ys : List Addr} {i : Nat} {a : Addr} (h : xs <+: ys) (e : xs[i]? = some a) : ys[i]? = some a := by
  obtain ⟨zs, rfl⟩ := h
  rw [List.getElem?_append_left (List.getElem?_eq_some_iff.mp e).1]
  exact e
theorem compVL_nox (i : Nat) (ys : List D) (step : D → List Cell → R (Option D)) : ∀ (xs : List D) (M : List Cell) (k : Nat) (M' : List Cell), compVL i ys step xs M ≠ .exc k M'
  | [], M, k, M', h => by
    unfold compVL at h
    split at h <;> cases h
  | x :: xs, M, k, M', h => by
    have h' : (if holds i ys M = true then (step x M).nox.bind fun y M1 => (compVL i ys step xs M1).bind fun zs M2 => match y with
      | some y => R.ok (y :: zs) M2
      | none => .ok zs M2 else .bad) = .exc k M' := h
    split at h'
    · cases e : step x M with
      | ok y M1 =>
        rw [e] at h'
        dsimp only [R.nox_ok, R.bind_ok] at h'
        cases e2 : compVL i ys step xs M1 with
        | ok ys M2 =>
          rw [e2] at h'
          dsimp only [R.bind_ok] at h'
          split at h' <;> cases h'
        | exc k1 M2 => exact compVL_nox i ys step xs M1 k1 M2 e2
        | bad => rw [e2] at h'; cases h'
      | exc _ _ => rw [e] at h'; cases h'
      | bad => rw [e] at h'; cases h'
    · cases h'
theorem grown_limV {K : PySem.W.Frag} {H : Hp} {B : Addr → Prop} {as : List Addr} {M M1 : List Cell} {E : Nat → Hp → Prop} {Q : VK} {m : Bool} {acc zs : List D} {i : Nat} {step : D → List Cell → R (Option D)} {xs : List D}
    (h : PostD K H B as M E ((compVL i zs step xs M1).bind fun ys M2 => new m (acc ++ ys) M2) Q) : acc.length ≤ LIM := by
  cases e : compVL i zs step xs M1 with
  | ok ys M2 =>
    rw [e] at h
    have h' : PostD K H B as M E (new m (acc ++ ys) M2) Q := h
    unfold new at h'
    split at h'
    · rename_i hl
      rw [List.length_append] at hl
      omega
    · exact h'.elim
  | exc k M2 => exact absurd e (compVL_nox i zs step xs M1 k M2)
  | bad => rw [e] at h; exact h.elim
/-- .. so it ends with a list of a size that is told -/
theorem grown_lim {K : PySem.W.Frag} {H : Hp} {B : Addr → Prop} {as : List Addr} {M M1 : List Cell} {E : Nat → Hp → Prop} {Q : VK} {m : Bool} {acc : List D} {step : D → List Cell → R (Option D)} {xs : List D}
    (h : PostD K H B as M E ((compL step xs M1).bind fun ys M2 => new m (acc ++ ys) M2) Q) : acc.length ≤ LIM := by
  cases e : compL step xs M1 with
  | ok ys M2 =>
    rw [e] at h
    have h' : PostD K H B as M E (new m (acc ++ ys) M2) Q := h
    unfold new at h'
    split at h'
    · rename_i hl
      rw [List.length_append] at hl
      omega
    · exact h'.elim
  | exc k M2 => exact absurd e (compL_nox step xs M1 k M2)
  | bad => rw [e] at h; exact h.elim
section
variable {X : Cx} {cv : Nat → Value} {W : WX} {Φ : Phi} {c : Ctx} {x y z tg iter elt : Expr} {pos : Pos}
theorem takes0N {X : Cx} : L2N.Takes X (fun _ _ _ _ => False) := fun _ _ x => by
  obtain ⟨_, _, _, _, _, _, _, _, _, _, _, _, _, _, _, _, z⟩ := x
  exact z.elim
theorem blk_XH {s : Shared} {H : Hp} {C : Addr} {cl : List (Str × Addr)} {fp : List Addr} {scope : Scope} (hcool : c.hot = false) (h : XH c Φ cv X W) :
    XH (blkX c scope) Φ cv (X.blk s H scope (compEnvC scope cl C X.env) fp) W0 where
  N := h.N
  nd := h.nd
  sc := by
    show relS scope X.env.scope = relS scope c.sc
    rw [h.sc]
  fn := fun x hx => hx
  calm := h.calm
  hotc := fun z => absurd (show c.hot = true from z) (by rw [hcool]; decide)
  xis := fun z => absurd (show c.hot = true from z) (by rw [hcool]; decide)
  room := h.room
  hd := h.hd
  bi := h.bi
  gl := h.gl
  fns := h.fns
  tk := takes0N
theorem hblk_XH {s : Shared} {H : Hp} {C : Addr} {cl : List (Str × Addr)} {fp : List Addr} {scope : Scope} (h : XH c Φ cv X W) :
    XH (blkX c scope) Φ cv (SgH.hblk X s H scope (compEnvC scope cl C X.env) fp) W0 where
  N := h.N
  nd := h.nd
  sc := by
    show relS scope X.env.scope = relS scope c.sc
    rw [h.sc]
  fn := fun x hx => hx
  calm := h.calm
  hotc := fun z => SgH.hotC_blk (h.hotc z)
  xis := fun _ k m e => by cases e
  room := h.room
  hd := h.hd
  bi := h.bi
  gl := h.gl
  fns := h.fns
  tk := takes0N
/-- a comprehension's step -/
def cStep (Φ : Phi) (own : List Nat) (t : T) (cd : O) (e : E) (env : St) : D → List Cell → R (Option D) := fun x M2 => (evT Φ t x (wipeD env own) M2).bind fun σ1 M3 =>
  (evC Φ cd σ1 M3).bind fun k M4 => if k then (evE Φ e σ1 M4).bind fun y M5 => .ok (some y) M5 else .ok none M4
theorem own_map (N : List Str) (own : List Nat) : (ownP N own).map (·.2) = own := by
  unfold ownP
  rw [List.map_map]
  exact List.map_id _
theorem s_comp {m : Bool} {own : List Nat} {t : T} {it : It} {cd : O} {e : E} {scope : Scope} (h : XH c Φ cv X W) (hb : blkC c.N c.sc scope (ownP c.N own) = true) (hsub : tSub t own = true) (hx : shp iter = true) :
    ∀ σ H Q, tE X cv W Φ (.comp m own t it cd e) σ H Q → tLc (tI X cv W Φ it) (tT' X Φ t) (tC X cv W0 Φ cd) (tE X cv W0 Φ e) ((ownP c.N own).map (·.2)) σ H Q := fun σ H Q q => by
  rw [own_map]
  obtain ⟨B, as, M, env, S, r, q⟩ := q
  refine ⟨B, as, M, env, S, r, post_bind q fun xs M1 as1 H1 J hq g1 S1 feed q1 => ?_⟩
  have r1 := r.go S g1
  intro p hp
  have q1 : PostD X.K H1 B as1 M1 (exW W cv σ) ((compL (cStep Φ own t cd e env) xs M1).bind fun ys M2 => new m ys M2) Q := q1
  have nb : ¬ B p := fun b => S1.b0 p b hp
  refine ⟨fun i k H => k = xs.length - i ∧ i ≤ xs.length ∧ ∃ as' M' acc accV, Go as1 M1 H1 as' M' H ∧ Sim X.K H (fun a => B a ∨ a = p) as' M' ∧ H p = some (.lst accV) ∧ Rps X.K H (Av (fun a => B a ∨ a = p) as' M') as' acc accV ∧
    EnvR X.K H (Av (fun a => B a ∨ a = p) as' M') as' (wipeD env own) (L2.wipe σ own) ∧ PostD X.K H1 B as1 M1 (exW W cv σ) ((compL (cStep Φ own t cd e env) (xs.drop i) M').bind fun ys M2 => new m (acc ++ ys) M2) Q,
    ⟨xs.length, by simp, Nat.zero_le _, as1, M1, [], [], Go.laid S1 hp, S1.hide hp, upd_same, rfl, EnvR.wipe ⟨r1.len, fun i d e => let ⟨v, e1, e2⟩ := r1.get i d e; ⟨v, e1, hide_rp hp e2⟩⟩ own, q1⟩, ?_⟩
  rintro i k H2 ⟨rfl, hi, as2, M2, acc, accV, g2, S2, hp2, ra, r2, q2⟩
  have S2' : Sim X.K H2 B as2 M2 := S2.drop fun a b => .inl b
  have hB : ∀ a, H1 a ≠ none → (B a ∨ a = p) → B a := fun a ha z => z.elim id fun e => absurd (e ▸ hp) ha
  obtain ⟨f1, f2, f3⟩ := feed _ as2 M2 H2 hB g2 S2
  by_cases hlt : i < xs.length
  · refine .inr ⟨f1 i hlt, fun H => i + 1 ≤ xs.length ∧ ∃ as' M' acc accV, Go as1 M1 H1 as' M' H ∧ Sim X.K H (fun a => B a ∨ a = p) as' M' ∧ H p = some (.lst accV) ∧ Rps X.K H (Av (fun a => B a ∨ a = p) as' M') as' acc accV ∧
      EnvR X.K H (Av (fun a => B a ∨ a = p) as' M') as' (wipeD env own) (L2.wipe σ own) ∧ PostD X.K H1 B as1 M1 (exW W cv σ) ((compL (cStep Φ own t cd e env) (xs.drop (i + 1)) M').bind fun ys M2 => new m (acc ++ ys) M2) Q,
      fun H' h' => ⟨xs.length - (i + 1), by omega, rfl, h'⟩, fun v H3 y => ?_⟩
    have ex : xs[i]? = some xs[i] := List.getElem?_eq_getElem hlt
    obtain ⟨g3, S3, rv, k3⟩ := f3 i _ v H3 ex y
    have hp3 : H3 p = some (.lst accV) := k3 _ _ hp2
    have ra3 := g3.rps S2 ra
    have r3 := r2.go S2 g3
    have g3' := g2.trans g3
    -- the turn
    have q3 : PostD X.K H1 B as1 M1 (exW W cv σ) ((evT Φ t xs[i] (wipeD env own) M2).nox.bind fun σ1 M3 => (evC Φ cd σ1 M3).nox.bind fun k M4 => (if k then (evE Φ e σ1 M4).bind fun y M5 => R.ok (some y) M5 else R.ok none M4).nox.bind fun yo M5 =>
        (compL (cStep Φ own t cd e env) (xs.drop (i + 1)) M5).bind fun ys M6 => new m (acc ++ (match yo with | some y => y :: ys | none => ys)) M6) Q := by
      refine PostG.eq ?_ q2
      rw [List.drop_eq_getElem_cons hlt]
      show (((cStep Φ own t cd e env xs[i] M2).nox.bind fun yo M1 => (compL (cStep Φ own t cd e env) (xs.drop (i + 1)) M1).bind fun ys M2 => match yo with | some y => R.ok (y :: ys) M2 | none => .ok ys M2).bind fun ys M2 => new m (acc ++ ys) M2) = _
      unfold cStep
      cases evT Φ t xs[i] (wipeD env own) M2 with
      | ok σ1 M3 =>
        dsimp only [R.bind_ok, R.nox_ok]
        cases evC Φ cd σ1 M3 with
        | ok k M4 =>
          dsimp only [R.bind_ok, R.nox_ok]
          cases k with
          | true =>
            simp only [if_true]
            cases evE Φ e σ1 M4 with
            | ok y M5 =>
              dsimp only [R.bind_ok, R.nox_ok]
              cases compL _ (xs.drop (i + 1)) M5 <;> rfl
            | exc _ _ => rfl
            | bad => rfl
          | false =>
            simp only [Bool.false_eq_true, if_false]
            dsimp only [R.bind_ok, R.nox_ok]
            cases compL _ (xs.drop (i + 1)) M4 <;> rfl
        | exc _ _ => rfl
        | bad => rfl
      | exc _ _ => rfl
      | bad => rfl
    refine ⟨_, as2, M2, _, xs[i], S3, r3, rv, post_bind0 q3 fun σ1 M3 as3 H4 σ2 hq4 g4 S4 rr q4 => ?_⟩
    have hp4 : H4 p = some (.lst accV) := g4.keep p _ hp3 fun l => S3.dj p l.mem (.inr rfl)
    have ra4 := g4.rps S3 ra3
    have r4 := r3.go S3 g4
    have g4' := g3'.trans g4
    refine ⟨?_, ?_⟩
    · rw [rr.2 own hsub]
      exact wipe_idem _ own own fun _ h => h
    · refine ⟨_, as3, M3, σ1, S4, rr.1, post_bind0 q4 fun k M4 as4 H5 b hq5 g5 S5 rb q5 => ?_⟩
      have hp5 : H5 p = some (.lst accV) := g5.keep p _ hp4 fun l => S4.dj p l.mem (.inr rfl)
      have ra5 := g5.rps S4 ra4
      have r5 := r4.go S4 g5
      have g5' := g4'.trans g5
      have rb : k = b := rb
      subst rb
      cases k with
      | true =>
        simp only [if_true] at q5 ⊢
        have q5' : PostD X.K H1 B as1 M1 (exW W cv σ) ((evE Φ e σ1 M4).nox.bind fun y M5 => (compL (cStep Φ own t cd e env) (xs.drop (i + 1)) M5).bind fun ys M6 => new m (acc ++ y :: ys) M6) Q := by
          refine PostG.eq ?_ q5
          cases evE Φ e σ1 M4 <;> rfl
        refine ⟨_, as4, M4, σ1, S5, rr.1.go S4 g5, post_bind0 q5' fun y M5 as5 H6 w hq6 g6 S6 ry q6 => ?_⟩
        have hp6 : H6 p = some (.lst accV) := g6.keep p _ hp5 fun l => S5.dj p l.mem (.inr rfl)
        have ra6 := g6.rps S5 ra5
        have r6 := r5.go S5 g6
        have g6' := g5'.trans g6
        have q7 : PostD X.K H1 B as1 M1 (exW W cv σ) ((compL (cStep Φ own t cd e env) (xs.drop (i + 1)) M5).bind fun ys M6 => new m ((acc ++ [y]) ++ ys) M6) Q := by
          refine PostG.eq ?_ q6
          simp only [List.append_assoc, List.singleton_append]
        have hl := grown_lim q7
        refine ⟨accV, hp6, ?_, hlt, as5, M5, acc ++ [y], accV ++ [w], g6'.poke hp, S6.poke hp6 (.inr rfl), upd_same, ?_, ⟨r6.len, fun i d e => let ⟨v, e1, e2⟩ := r6.get i d e; ⟨v, e1, poke_rp hp6 (.inr rfl) e2⟩⟩, q7⟩
        · rw [ra6.len]
          rw [List.length_append] at hl
          exact Nat.lt_of_lt_of_le (by simp at hl; omega) (Nat.le_of_lt LIM_lt)
        · exact poke_rps hp6 (.inr rfl) (ra6.append (Rps.one ry))
      | false =>
        simp only [Bool.false_eq_true, if_false] at q5 ⊢
        exact ⟨hlt, as4, M4, acc, accV, g5', S5, hp5, ra5, r5, q5⟩
  · have ei : xs.drop i = [] := List.drop_eq_nil_of_le (by omega)
    rw [ei] at q2
    refine .inl ⟨f2 i (by omega), ?_⟩
    have q2' : PostD X.K H1 B as1 M1 (exW W cv σ) (new m acc M2) Q := by
      refine PostG.eq ?_ q2
      show new m (acc ++ []) M2 = _
      rw [List.append_nil]
    exact end_new g2 S2 hp nb hp2 ra q2'
theorem s_compV {m : Bool} {own : List Nat} {t : T} {l : E} {cd : O} {e : E} (h : XH c Φ cv X W) (hsub : tSub t own = true) :
    ∀ σ H Q, tE X cv W Φ (.compV m own t l cd e) σ H Q → tLc (iList X.K (tE X cv W Φ l)) (tT' X Φ t) (tC X cv W0 Φ cd) (tE X cv W0 Φ e) ((ownP c.N own).map (·.2)) σ H Q := fun σ H Q q => by
  rw [own_map]
  obtain ⟨B, as, M, env, S, r, q⟩ := q
  refine ⟨B, as, M, env, S, r, post_bind q fun d M1 as1 H1 v hq g1 S1 rd q1 => ?_⟩
  have r1 := r.go S g1
  cases d with
  | ref ii =>
    dsimp only at q1
    cases hc : M1[ii]? with
    | none => rw [hc] at q1; exact q1.elim
    | some cc =>
      obtain ⟨mm, dd⟩ := cc
      rw [hc] at q1
      cases mm with
      | false => exact q1.elim
      | true =>
        cases dd with
        | lst xs =>
          dsimp only at q1
          obtain ⟨a, ha, rfl⟩ := rd
          obtain ⟨vs, hv1, hv2⟩ := S1.cell ii a _ ha hc
          refine ⟨a, rfl, ⟨vs, .inl (.inl hv1)⟩, ?_⟩
          intro p hp
          have nb : ¬ B p := fun b => S1.b0 p b hp
          refine ⟨fun i k H => k = xs.length - i ∧ i ≤ xs.length ∧ ∃ as' M' acc accV, Go as1 M1 H1 as' M' H ∧ Sim X.K H (fun a => B a ∨ a = p) as' M' ∧ H p = some (.lst accV) ∧ Rps X.K H (Av (fun a => B a ∨ a = p) as' M') as' acc accV ∧
            EnvR X.K H (Av (fun a => B a ∨ a = p) as' M') as' (wipeD env own) (L2.wipe σ own) ∧ PostD X.K H1 B as1 M1 (exW W cv σ) ((compVL ii xs (cStep Φ own t cd e env) (xs.drop i) M').bind fun ys M2 => new m (acc ++ ys) M2) Q,
            ⟨xs.length, by simp, Nat.zero_le _, as1, M1, [], [], Go.laid S1 hp, S1.hide hp, upd_same, rfl, EnvR.wipe ⟨r1.len, fun i d e => let ⟨v, e1, e2⟩ := r1.get i d e; ⟨v, e1, hide_rp hp e2⟩⟩ own, q1⟩, ?_⟩
          rintro i k H2 ⟨rfl, hi, as2, M2, acc, accV, g2, S2, hp2, ra, r2, q2⟩
          have S2' : Sim X.K H2 B as2 M2 := S2.drop fun a b => .inl b
          by_cases hlt : i < xs.length
          · obtain ⟨hh, q2⟩ : holds ii xs M2 = true ∧ PostD X.K H1 B as1 M1 (exW W cv σ) (((cStep Φ own t cd e env xs[i] M2).nox.bind fun yo M1 => (compVL ii xs (cStep Φ own t cd e env) (xs.drop (i + 1)) M1).bind fun ys M2 => match yo with | some y => R.ok (y :: ys) M2 | none => .ok ys M2).bind fun ys M2 => new m (acc ++ ys) M2) Q := by
              have e0 : ((compVL ii xs (cStep Φ own t cd e env) (xs.drop i) M2).bind fun ys M2 => new m (acc ++ ys) M2) = ((if holds ii xs M2 = true then ((cStep Φ own t cd e env xs[i] M2).nox.bind fun yo M1 => (compVL ii xs (cStep Φ own t cd e env) (xs.drop (i + 1)) M1).bind fun ys M2 => match yo with | some y => R.ok (y :: ys) M2 | none => .ok ys M2) else .bad).bind fun ys M2 => new m (acc ++ ys) M2) := by
                rw [List.drop_eq_getElem_cons hlt]
                rfl
              have q2 := PostG.eq e0 q2
              by_cases hh : holds ii xs M2 = true
              · rw [if_pos hh] at q2
                exact ⟨hh, q2⟩
              · rw [if_neg hh] at q2
                exact q2.elim
            have hcell := holds_eq hh
            obtain ⟨ws', hw1', hw2'⟩ := S2.cell ii a _ (prefix_get g2.pre ha) hcell
            obtain ⟨w, ew, rw1⟩ := hw2'.get (List.getElem?_eq_getElem hlt)
            refine .inr ⟨⟨ws', w, .inl (.inl hw1'), ew⟩, fun H => i + 1 ≤ xs.length ∧ ∃ as' M' acc accV, Go as1 M1 H1 as' M' H ∧ Sim X.K H (fun a => B a ∨ a = p) as' M' ∧ H p = some (.lst accV) ∧ Rps X.K H (Av (fun a => B a ∨ a = p) as' M') as' acc accV ∧
              EnvR X.K H (Av (fun a => B a ∨ a = p) as' M') as' (wipeD env own) (L2.wipe σ own) ∧ PostD X.K H1 B as1 M1 (exW W cv σ) ((compVL ii xs (cStep Φ own t cd e env) (xs.drop (i + 1)) M').bind fun ys M2 => new m (acc ++ ys) M2) Q,
              fun H' h' => ⟨xs.length - (i + 1), by omega, rfl, h'⟩, fun v H3 y => ?_⟩
            obtain ⟨rfl, y⟩ := y
            have ev := y ws' (.inl (.inl hw1'))
            rw [ew] at ev
            cases ev
            have g3' := g2
            have hp3 := hp2
            have ra3 := ra
            have r3 := r2
            have S3 := S2
            have rv := rw1
            -- the turn
            have q3 : PostD X.K H1 B as1 M1 (exW W cv σ) ((evT Φ t xs[i] (wipeD env own) M2).nox.bind fun σ1 M3 => (evC Φ cd σ1 M3).nox.bind fun k M4 => (if k then (evE Φ e σ1 M4).bind fun y M5 => R.ok (some y) M5 else R.ok none M4).nox.bind fun yo M5 =>
                (compVL ii xs (cStep Φ own t cd e env) (xs.drop (i + 1)) M5).bind fun ys M6 => new m (acc ++ (match yo with | some y => y :: ys | none => ys)) M6) Q := by
              refine PostG.eq ?_ q2
              show (((cStep Φ own t cd e env xs[i] M2).nox.bind fun yo M1 => (compVL ii xs (cStep Φ own t cd e env) (xs.drop (i + 1)) M1).bind fun ys M2 => match yo with | some y => R.ok (y :: ys) M2 | none => .ok ys M2).bind fun ys M2 => new m (acc ++ ys) M2) = _
              unfold cStep
              cases evT Φ t xs[i] (wipeD env own) M2 with
              | ok σ1 M3 =>
                dsimp only [R.bind_ok, R.nox_ok]
                cases evC Φ cd σ1 M3 with
                | ok k M4 =>
                  dsimp only [R.bind_ok, R.nox_ok]
                  cases k with
                  | true =>
                    simp only [if_true]
                    cases evE Φ e σ1 M4 with
                    | ok y M5 =>
                      dsimp only [R.bind_ok, R.nox_ok]
                      cases compVL _ _ _ (xs.drop (i + 1)) M5 <;> rfl
                    | exc _ _ => rfl
                    | bad => rfl
                  | false =>
                    simp only [Bool.false_eq_true, if_false]
                    dsimp only [R.bind_ok, R.nox_ok]
                    cases compVL _ _ _ (xs.drop (i + 1)) M4 <;> rfl
                | exc _ _ => rfl
                | bad => rfl
              | exc _ _ => rfl
              | bad => rfl
            refine ⟨_, as2, M2, _, xs[i], S3, r3, rv, post_bind0 q3 fun σ1 M3 as3 H4 σ2 hq4 g4 S4 rr q4 => ?_⟩
            have hp4 : H4 p = some (.lst accV) := g4.keep p _ hp3 fun l => S3.dj p l.mem (.inr rfl)
            have ra4 := g4.rps S3 ra3
            have r4 := r3.go S3 g4
            have g4' := g3'.trans g4
            refine ⟨?_, ?_⟩
            · rw [rr.2 own hsub]
              exact wipe_idem _ own own fun _ h => h
            · refine ⟨_, as3, M3, σ1, S4, rr.1, post_bind0 q4 fun k M4 as4 H5 b hq5 g5 S5 rb q5 => ?_⟩
              have hp5 : H5 p = some (.lst accV) := g5.keep p _ hp4 fun l => S4.dj p l.mem (.inr rfl)
              have ra5 := g5.rps S4 ra4
              have r5 := r4.go S4 g5
              have g5' := g4'.trans g5
              have rb : k = b := rb
              subst rb
              cases k with
              | true =>
                simp only [if_true] at q5 ⊢
                have q5' : PostD X.K H1 B as1 M1 (exW W cv σ) ((evE Φ e σ1 M4).nox.bind fun y M5 => (compVL ii xs (cStep Φ own t cd e env) (xs.drop (i + 1)) M5).bind fun ys M6 => new m (acc ++ y :: ys) M6) Q := by
                  refine PostG.eq ?_ q5
                  cases evE Φ e σ1 M4 <;> rfl
                refine ⟨_, as4, M4, σ1, S5, rr.1.go S4 g5, post_bind0 q5' fun y M5 as5 H6 w hq6 g6 S6 ry q6 => ?_⟩
                have hp6 : H6 p = some (.lst accV) := g6.keep p _ hp5 fun l => S5.dj p l.mem (.inr rfl)
                have ra6 := g6.rps S5 ra5
                have r6 := r5.go S5 g6
                have g6' := g5'.trans g6
                have q7 : PostD X.K H1 B as1 M1 (exW W cv σ) ((compVL ii xs (cStep Φ own t cd e env) (xs.drop (i + 1)) M5).bind fun ys M6 => new m ((acc ++ [y]) ++ ys) M6) Q := by
                  refine PostG.eq ?_ q6
                  simp only [List.append_assoc, List.singleton_append]
                have hl := grown_limV q7
                refine ⟨accV, hp6, ?_, hlt, as5, M5, acc ++ [y], accV ++ [w], g6'.poke hp, S6.poke hp6 (.inr rfl), upd_same, ?_, ⟨r6.len, fun i d e => let ⟨v, e1, e2⟩ := r6.get i d e; ⟨v, e1, poke_rp hp6 (.inr rfl) e2⟩⟩, q7⟩
                · rw [ra6.len]
                  rw [List.length_append] at hl
                  exact Nat.lt_of_lt_of_le (by simp at hl; omega) (Nat.le_of_lt LIM_lt)
                · exact poke_rps hp6 (.inr rfl) (ra6.append (Rps.one ry))
              | false =>
                simp only [Bool.false_eq_true, if_false] at q5 ⊢
                exact ⟨hlt, as4, M4, acc, accV, g5', S5, hp5, ra5, r5, q5⟩
          · have ei : xs.drop i = [] := List.drop_eq_nil_of_le (by omega)
            rw [ei] at q2
            have q2 : PostD X.K H1 B as1 M1 (exW W cv σ) ((if holds ii xs M2 = true then R.ok [] M2 else .bad).bind fun ys M2 => new m (acc ++ ys) M2) Q := q2
            by_cases hh : holds ii xs M2 = true
            · rw [if_pos hh] at q2
              obtain ⟨ws, hw1, hw2⟩ := S2.cell ii a _ (prefix_get g2.pre ha) (holds_eq hh)
              refine .inl ⟨⟨ws, .inl (.inl hw1), by rw [hw2.len]; omega⟩, ?_⟩
              have q2' : PostD X.K H1 B as1 M1 (exW W cv σ) (new m acc M2) Q := by
                refine PostG.eq ?_ q2
                show new m (acc ++ []) M2 = _
                rw [List.append_nil]
              exact end_new g2 S2 hp nb hp2 ra q2'
            · rw [if_neg hh] at q2
              exact q2.elim
        | _ => exact q1.elim
  | _ => exact q1.elim
end
end
end Sg

namespace SgR
noncomputable section
open PySem PySem.Spec PyProof.Rows L2 RT
theorem push_other {h : Heap} {o o' : Obj} {b : Addr} (hb : b ≠ h.objs.size) (e : (h.push o).get? b = some o') : h.get? b = some o' := by
  obtain ⟨e1, e2⟩ := Heap.get?_some_iff.mp e
  refine Heap.get?_some_iff.mpr ⟨?_, e2⟩
  cases h
  simpa [Heap.push, Array.getElem?_push, hb] using e1
section
variable {prog : Program} {w : World} {A : Around} {E : Value → Shared → Prop} {s : Shared}
theorem extend_rev {R : Result → Shared → Prop} {it l : Addr} {items : Array Value} (hh : A.handled = none) (hit : s.heap.IsRevIter it l ((items.size : Int) - 1)) (hl : s.heap.IsList l items) (hne : l ≠ it) (hn : items.size ≤ sizeLine) (S : Addr) (res : Value) (c₀ : Nat)
    (hS : s.heap.get? S = some { cls := .type "list", data := .seq #[] c₀ }) (hSi : S ≠ it) (hSl : S ≠ l)
    (hR : ∀ h' tk acc' c', (∀ b o, b ≠ S → b ≠ it → s.heap.get? b = some o → h'.get? b = some o) → h'.get? S = some { cls := .type "list", dict := none, data := .seq acc' c', slots := #[] } →
      ItemsOf (fun i v => items[items.size - 1 - i]? = some v) acc' items.size → R (.ok (.ret res)) { s with heap := h', toks := tk }) :
    wpAny (model prog w) A.in1 (Builtin.List.listExtendWith (.ref S) (.ref it) res)
      (fun fin s' => match fin with | .done f => R (.ok f) s' | .again c' => c'.quiet = true ∧ codeAny (model prog w) A c' R s') (fun e s' => R (.error e) s') s := by
  have W := (Walks.listRev (prog := prog) (w := w) (A := A.in1) hh it l hne items).toS
  have hSf : S ∉ [it, l] := by simp only [List.mem_cons, List.not_mem_nil, or_false, not_or]; exact ⟨hSi, hSl⟩
  have hT : s.TypeIs (.ref it) "list_reverseiterator" := Heap.IsRevIter.typeIs hit
  have h1 : Builtin.List.listSameRef (.ref S) (.ref it) = false := by simp [Builtin.List.listSameRef, hSi]
  unfold Builtin.List.listExtendWith
  refine wpAny_bind (wpAny_typeOf hT ?_)
  rw [if_neg (by rw [h1]; decide)]
  refine wpAny_bind (wpAny_pyIter_revIter hit ?_)
  refine wpAny_bind (wpAny_holding ?_)
  unfold Builtin.List.listLengthHint
  refine wpAny_bind (wpAny_specialOf hT nolen_lri ?_)
  show wpAny _ A.in1 (specialOf (Value.ref it) (Str.ofString "__length_hint__") >>= _) _ _ _
  refine wpAny_bind (wpAny_specialOf hT hint_lri ?_)
  generalize hid : ("list_reverseiterator.__length_hint__" : String) = id0
  wp_delta
  rw [show splitId id0 = some ("list_reverseiterator", "__length_hint__") from by subst hid; decide +kernel]
  subst hid
  refine wpAny_bind (wpAny_isInstance (b := true) hT (by rw [isSubtype_type]; kernel_rfl) ?_)
  refine wpAny_pure ?_
  rw [if_neg (by decide)]
  have e0 : ((items.size : Nat) : Int) - 1 - ((0 : Nat) : Int) = (items.size : Int) - 1 := by omega
  refine wpAny_pure ⟨plainId_quiet F.plain_extend_loop _, codeAny_extend_loopS W hn _ hSf _ items.size 0 _ _ _ rfl (Nat.zero_le _) ⟨Nat.zero_le _, by rw [e0]; exact hit, hl⟩ hS (ItemsOf.nil _) fun s' acc' c' hm hS' hacc => ?_⟩
  rw [Moved.eq_with hm]
  refine hR s'.heap s'.toks acc' c' (fun b o hb hb2 e => hm.heap b o (fun hmem => ?_) e) hS' hacc
  rcases List.mem_cons.mp hmem with e' | hmem
  · exact hb e'
  · exact hb2 (List.mem_singleton.mp hmem)
theorem call_list_rev {Q : Value → Shared → Prop} {it l : Addr} {items : Array Value} (hh : A.handled = none) (hit : s.heap.IsRevIter it l ((items.size : Int) - 1)) (hl : s.heap.IsList l items) (hne : l ≠ it) (hn : items.size ≤ sizeLine)
    (hQ : ∀ h' tk acc' c', (∀ b o, b ≠ it → s.heap.get? b = some o → h'.get? b = some o) →
      h'.get? s.heap.objs.size = some { cls := .type "list", dict := none, data := .seq acc' c', slots := #[] } → ItemsOf (fun i v => items[items.size - 1 - i]? = some v) acc' items.size → Q (.ref s.heap.objs.size) { s with heap := h', toks := tk }) :
    wpAny (model prog w) A (call (.type "list") [.ref it]) Q E s := by
  obtain ⟨oi, hoi, _⟩ := id hit
  obtain ⟨ol, hol, _⟩ := id hl
  refine callType_codes (Q₁ := fun obj s₁ => obj = .ref s.heap.objs.size ∧ s₁ = { s with heap := s.heap.push { cls := .type "list", data := .seq #[] } }) F.called_list (F.typeCall_list_1 _) F.entry_list_init
    (code_list_new _ ⟨rfl, rfl⟩) fun obj s₁ h₁ => ?_
  obtain ⟨rfl, rfl⟩ := h₁
  have hS : (s.heap.push { cls := .type "list", data := .seq #[] }).get? s.heap.objs.size = some { cls := .type "list", data := .seq #[] } := Heap.get?_push_size _ rfl
  have hSi : s.heap.objs.size ≠ it := Nat.ne_of_gt (Heap.lt_size hoi)
  have hSl : s.heap.objs.size ≠ l := Nat.ne_of_gt (Heap.lt_size hol)
  refine ⟨⟨_, hS, rfl⟩, F.args_list_init_2 _ _, ?_⟩
  show wpAny _ A.in1.in1 (do let old ← Builtin.List.listItems (.ref s.heap.objs.size); Builtin.List.listUpdate (.ref s.heap.objs.size) (fun _ => #[]); letGo old.toList.reverse; Builtin.List.listExtendWith (.ref s.heap.objs.size) (.ref it) .none) _ _ _
  refine wpAny_bind ?_
  unfold Builtin.List.listItems
  refine wpAny_bind (wpAny_seqItems hS rfl (wpAny_pure ?_))
  show wpAny _ _ (updateSeq s.heap.objs.size (fun _ => #[]) >>= fun _ => letGo (#[] : Array Value).toList.reverse >>= fun _ => Builtin.List.listExtendWith (.ref s.heap.objs.size) (.ref it) .none) _ _ _
  refine wpAny_bind (wpAny_updateSeq hS rfl ?_)
  have hS₂ := Heap.get?_update_self (Obj.mapSeq (fun _ => (#[] : Array Value))) hS rfl
  have oth : ∀ b o, b ≠ s.heap.objs.size → s.heap.get? b = some o → ((s.heap.push { cls := .type "list", data := .seq #[] }).update s.heap.objs.size (Obj.mapSeq (fun _ => (#[] : Array Value)))).get? b = some o :=
    fun b o hb e => (Heap.get?_update_other _ _ (Ne.symm hb)).trans (Heap.get?_push_of_some _ e)
  refine wpAny_bind (wpAny_letGo ?_)
  refine extend_rev (A := A.in1) hh (hit.at fun o e => oth it o (Ne.symm hSi) e) ?_ hne hn s.heap.objs.size .none _ hS₂ hSi hSl fun h' tk acc' c' hk hS' hacc => ?_
  · obtain ⟨o, e, r⟩ := hl
    exact ⟨o, oth l o (Ne.symm hSl) e, r⟩
  · exact ⟨rfl, hQ h' tk acc' c' (fun b o hb e => hk b o (Nat.ne_of_lt (Heap.lt_size e)) hb (oth b o (Nat.ne_of_lt (Heap.lt_size e)) e)) hS' hacc⟩
end
section
variable {X : Cx}
theorem pe_listRev {e : Expr} {te : TE} {p p2 pos pos2 : Pos} (hc : X.calm = true) (hg : Gl X "list") (hm : X.mg "list" = none) (hg2 : Gl X "reversed") (hm2 : X.mg "reversed" = none) (he : PE X e te)
    (hs : starEach [e] X.env = (false, eval e X.env) :: starEach [] X.env)
    (hs2 : starEach [.Call (.Name "reversed" p2) [e] [] pos2] X.env = (false, eval (.Call (.Name "reversed" p2) [e] [] pos2) X.env) :: starEach [] X.env := by rfl) :
    PE X (.Call (.Name "list" p) [.Call (.Name "reversed" p2) [e] [] pos2] [] pos) (tRevL X.K te) := by
  refine ⟨fun pins s σ H Q I h => ?_⟩
  refine Call_ (ld_blt I hg hm boot_list (PyProof.Rows.callWith_type1 (args_cons (Call_ (ld_blt I hg2 hm2 PyProof.Rows.boot_reversed (PyProof.Rows.callWith_type1 (args_cons (thn (he.run pins s σ H _ I h) fun u s1 ⟨v, H1, I1, r1, q1⟩ => args_nil ?_) hs) hs rfl))) hs2) hs2 rfl))
  obtain ⟨a, xs, ev, hq, q⟩ := q1
  subst ev
  obtain rfl : u = Value.ref a := r1
  obtain ⟨its, rv, p', hz⟩ := I1.list hq
  refine call_reversed_list p'.isList (args_nil ?_)
  have k0 : ∀ b o, s1.heap.get? b = some o → (s1.heap.push (revObj a ((its.toArray.size : Int) - 1))).get? b = some o := fun b o e => Heap.get?_push_of_some _ e
  have I2 : Inv X pins σ H1 { s1 with heap := s1.heap.push (revObj a ((its.toArray.size : Int) - 1)) } := I1.kept (t' := s1.toks) k0
  obtain ⟨f0, f1, f2, f3, f4, f5⟩ := I1.fpOk (H' := H1) (b := s1.heap.objs.size) (Nat.le_refl _) (I1.hok.fresh (Nat.le_refl _))
  have hl := p'.isList
  obtain ⟨ol, hol, _⟩ := id hl
  have hne : a ≠ s1.heap.objs.size := Nat.ne_of_lt (Heap.lt_size hol)
  have hn : its.toArray.size ≤ sizeLine := by rw [List.size_toArray, ← rv.length]; exact hz
  refine call_list_rev (s := { s1 with heap := s1.heap.push (revObj a ((its.toArray.size : Int) - 1)) }) (I1.ok.hd hc) ⟨_, Heap.get?_push_size _ rfl, rfl, rfl⟩ (hl.push _) hne hn fun h' tk acc c' hk hL hi => ?_
  generalize hs2h : s1.heap.push (revObj a ((its.toArray.size : Int) - 1)) = g at *
  have I2 : Inv X pins σ H1 { s1 with heap := g } := I2
  have hD : g.objs.size = s1.heap.objs.size + 1 := by rw [← hs2h]; exact Heap.size_push ..
  have nD : H1 g.objs.size = none := I2.hok.fresh (Nat.le_refl _)
  have I3 : Inv X pins σ (upd H1 g.objs.size (.lst xs.reverse)) { s1 with heap := g.push { cls := .type "list", dict := none, data := .seq acc c', slots := #[] }, toks := tk } :=
    I2.laid (t' := tk) (fun b o e => Heap.get?_push_of_some _ e) (Nat.le_refl _) (show ObjOk X.prog X.w _ _ _ (.lst xs.reverse) from ⟨by rw [List.length_reverse]; exact hz, acc.toList, c', vals_rev rv hi, by
      rw [Array.toArray_toList]
      exact Heap.get?_push_size _ rfl⟩)
  have nit : g.objs.size ≠ s1.heap.objs.size := by omega
  have I4 : Inv X pins σ (upd H1 g.objs.size (.lst xs.reverse)) { s1 with heap := h', toks := tk } := by
    refine Inv.turned (s := { s1 with heap := g.push { cls := .type "list", dict := none, data := .seq acc c', slots := #[] }, toks := tk }) (h' := h') I3 (t' := tk) (it := s1.heap.objs.size) (fun b o hb e => ?_) (by rw [upd_ne (Ne.symm nit)]; exact f0) f1 f3 f4 f5
    by_cases hbD : b = g.objs.size
    · subst hbD
      rw [Heap.get?_push_size _ rfl] at e
      cases e
      exact hL
    · exact hk b o hb (push_other hbD e)
  exact ⟨.ref g.objs.size, _, I4, rfl, q _ nD⟩
end
end
end SgR

namespace Sg
noncomputable section
open PySem PySem.Spec PyProof.Rows L2
section
variable {X : Cx} {cv : Nat → Value} {W : WX} {Φ : Phi} {c : Ctx} {x y z tg : Expr} {pos : Pos}
theorem rps_upTo {K : PySem.W.Frag} {H : Hp} {B : Addr → Prop} {as : List Addr} {i j : Int} : Rps K H B as (upTo i (j - i).toNat) (rgV i j) := by
  unfold upTo rgV
  have key : ∀ ks : List Nat, Rps K H B as (ks.map fun k => D.int (i + (k : Nat))) (ks.map fun k => V.int (i + (k : Nat))) := fun ks => by
    induction ks with
    | nil => rfl
    | cons k ks ih => exact ⟨.int (i + (k : Nat)), _, rfl, rfl, ih⟩
  exact key _
theorem lrng_post {K : PySem.W.Frag} {H : Hp} {B : Addr → Prop} {as : List Addr} {M : List Cell} {E : Nat → Hp → Prop} {Q : VK} {m : Bool} {i j : Int} (S : Sim K H B as M) (q : PostD K H B as M E (lrngD m (.int i) (.int j) M) Q) :
    RgOk i j ∧ ∀ p, H p = none → Q (.ref p) (upd H p (.lst (rgV i j))) := by
  have q : PostD K H B as M E (if B62 i ∧ B62 j then new m (upTo i (j - i).toNat) M else .bad) Q := q
  split at q
  · rename_i hb
    obtain ⟨hl, q2⟩ := new_post S rps_upTo q
    rw [rgV_length] at hl
    refine ⟨⟨hb.1.1, hb.1.2, hb.2.1, hb.2.2, ?_⟩, q2⟩
    unfold LIM at hl
    omega
  · exact q.elim
theorem s_lrng {m : Bool} {a : E} {p0 p1 p2 : Pos} (h : XH c Φ cv X W) (hcool : c.hot = false) (h1 : glOk c.sc ("list" : Str) = true) (h2 : glOk c.sc ("range" : Str) = true) (hx : shp x = true) (ha : PE X x (tE X cv W Φ a)) :
    PE X (.Call (.Name ("list" : Str) p0) [.Call (.Name ("range" : Str) p1) [x] [] p2] [] pos) (tE X cv W Φ (.lrng m a)) :=
  (pe_listRg (h.calm hcool) (gl_of h h1) (h.bi "list" (by decide)) (prg_1 (gl_of h h2) (h.bi "range" (by decide)) ha (shp_star hx))).imp fun σ H Q q => by
    obtain ⟨B, as, M, env, S, r, q⟩ := q
    refine ⟨B, as, M, env, S, r, post_bind q fun d M1 as1 H1 v hq1 g1 S1 ra q1 => ?_⟩
    cases d with
    | int j =>
      cases ra
      exact ⟨j, rfl, lrng_post S1 q1⟩
    | _ => exact q1.elim
theorem s_lrng2 {m : Bool} {a b : E} {p0 p1 p2 : Pos} (h : XH c Φ cv X W) (hcool : c.hot = false) (h1 : glOk c.sc ("list" : Str) = true) (h2 : glOk c.sc ("range" : Str) = true) (hx : shp x = true) (hy : shp y = true) (ha : PE X x (tE X cv W Φ a)) (hb : PE X y (tE X cv W Φ b)) :
    PE X (.Call (.Name ("list" : Str) p0) [.Call (.Name ("range" : Str) p1) [x, y] [] p2] [] pos) (tE X cv W Φ (.lrng2 m a b)) :=
  (pe_listRg (h.calm hcool) (gl_of h h1) (h.bi "list" (by decide)) (prg_2 (gl_of h h2) (h.bi "range" (by decide)) ha hb (by rw [shp_star hx, shp_star hy]) (shp_star hy) (by rw [shp_star hy]; rfl))).imp fun σ H Q q => by
    obtain ⟨B, as, M, env, S, r, q⟩ := q
    refine ⟨B, as, M, env, S, r, post_bind q fun d M1 as1 H1 v hq1 g1 S1 ra q1 => ?_⟩
    refine ⟨B, as1, M1, env, S1, r.go S g1, post_bind q1 fun e M2 as2 H2 w hq2 g2 S2 rb q2 => ?_⟩
    cases d with
    | int i =>
      cases e with
      | int j =>
        cases ra; cases rb
        exact ⟨i, j, rfl, rfl, lrng_post S2 q2⟩
      | _ => exact q2.elim
    | _ => cases e <;> exact q2.elim
theorem rvl_imp {m sl : Bool} {a : E} {σ : St2} {H : Hp} {Q : VK} (q : tE X cv W Φ (.rvl m sl a) σ H Q) : tRevL X.K (tE X cv W Φ a) σ H Q := by
  obtain ⟨B, as, M, env, S, r, q⟩ := q
  refine ⟨B, as, M, env, S, r, post_bind q fun d M1 as1 H1 v hq1 g1 S1 ra q1 => ?_⟩
  unfold rvlD at q1
  split at q1
  · rename_i xs e
    obtain ⟨p, vs, rfl, h1, h2, _⟩ := stop_nl S1 ra e
    exact ⟨p, vs, rfl, h1, (new_post S1 h2.reverse q1).2⟩
  · exact q1.elim
theorem s_rvl0 {m : Bool} {a : E} {p0 p1 p2 : Pos} (h : XH c Φ cv X W) (hcool : c.hot = false) (h1 : glOk c.sc ("list" : Str) = true) (h2 : glOk c.sc ("reversed" : Str) = true) (hx : shp x = true) (ha : PE X x (tE X cv W Φ a)) :
    PE X (.Call (.Name ("list" : Str) p0) [.Call (.Name ("reversed" : Str) p1) [x] [] p2] [] pos) (tE X cv W Φ (.rvl m false a)) :=
  (SgR.pe_listRev (h.calm hcool) (gl_of h h1) (h.bi "list" (by decide)) (gl_of h h2) (h.bi "reversed" (by decide)) ha (shp_star hx)).imp fun σ H Q q => rvl_imp q
theorem s_rvl1 {m : Bool} {a : E} {k : Nat} {p1 p2 p3 : Pos} (ha : PE X x (tE X cv W Φ a)) :
    PE X (.Subscript x (.Slice none none (some (.UnaryOp .USub (.Constant (.int 1) k p1) p2)) p3) pos) (tE X cv W Φ (.rvl m true a)) := (pe_revL ha).imp fun σ H Q q => rvl_imp q
theorem s_revR {a : E} {p0 p1 p2 : Pos} (h : XH c Φ cv X W) (h1 : glOk c.sc ("reversed" : Str) = true) (h2 : glOk c.sc ("range" : Str) = true) (hx : shp x = true) (ha : PE X x (tE X cv W Φ a)) :
    PI X tg (.Call (.Name ("reversed" : Str) p0) [.Call (.Name ("range" : Str) p1) [x] [] p2] [] pos) (tI X cv W Φ (.revR a)) :=
  (pi_revR (gl_of h h1) (h.bi "reversed" (by decide)) (prg_1 (gl_of h h2) (h.bi "range" (by decide)) ha (shp_star hx))).imp fun σ H R q => by
    obtain ⟨B, as, M, env, S, r, q⟩ := q
    refine ⟨B, as, M, env, S, r, post_bind q fun d M1 as1 H1 v hq1 g1 S1 ra q1 => ?_⟩
    split at q1
    · rename_i j
      split at q1
      · rename_i hb
        cases ra
        exact ⟨j, rfl, by decide, by decide, hb.1, hb.2, q1 as1 H1 _ Go.refl S1 feed_rangeC⟩
      · exact q1.elim
    · exact q1.elim
theorem s_revR2 {a b : E} {p0 p1 p2 : Pos} (h : XH c Φ cv X W) (h1 : glOk c.sc ("reversed" : Str) = true) (h2 : glOk c.sc ("range" : Str) = true) (hx : shp x = true) (hy : shp y = true) (ha : PE X x (tE X cv W Φ a)) (hb : PE X y (tE X cv W Φ b)) :
    PI X tg (.Call (.Name ("reversed" : Str) p0) [.Call (.Name ("range" : Str) p1) [x, y] [] p2] [] pos) (tI X cv W Φ (.revR2 a b)) :=
  (pi_revR (gl_of h h1) (h.bi "reversed" (by decide)) (prg_2 (gl_of h h2) (h.bi "range" (by decide)) ha hb (by rw [shp_star hx, shp_star hy]) (shp_star hy) (by rw [shp_star hy]; rfl))).imp fun σ H R q => by
    obtain ⟨B, as, M, env, S, r, q⟩ := q
    refine ⟨B, as, M, env, S, r, post_bind q fun d M1 as1 H1 v hq1 g1 S1 ra q1 => ?_⟩
    refine ⟨B, as1, M1, env, S1, r.go S g1, post_bind q1 fun e M2 as2 H2 w hq2 g2 S2 rb q2 => ?_⟩
    split at q2
    · rename_i i j
      split at q2
      · rename_i hb
        cases ra; cases rb
        exact ⟨i, j, rfl, rfl, hb.1.1, hb.1.2, hb.2.1, hb.2.2, q2 as2 H2 _ Go.refl S2 feed_rangeC⟩
      · exact q2.elim
    · exact q2.elim
end
end
end Sg

namespace Sg
noncomputable section
open PySem PySem.Spec PyProof.Rows L2

theorem keysOf_map : ∀ {ks : List D} {l : List Key}, keysOf ks = some l ↔ ks.map keyOf = l.map some
  | [], l => by
    cases l with
    | nil => exact ⟨fun _ => rfl, fun _ => rfl⟩
    | cons _ _ => exact ⟨fun h => (nomatch h), fun h => (nomatch h)⟩
  | x :: xs, l => by
    rw [keysOf]
    cases e : keyOf x with
    | none =>
      refine ⟨fun h => (nomatch h), fun h => ?_⟩
      rw [List.map_cons, e] at h
      cases l <;> cases h
    | some k =>
      cases l with
      | nil =>
        refine ⟨fun h => ?_, fun h => (nomatch h)⟩
        cases e2 : keysOf xs <;> (rw [e2] at h; cases h)
      | cons k2 l =>
        rw [List.map_cons, List.map_cons, e, List.cons.injEq, ← keysOf_map (ks := xs) (l := l)]
        cases e2 : keysOf xs with
        | none => exact ⟨fun h => (nomatch h), fun h => (nomatch h.2)⟩
        | some l2 =>
          show some (k :: l2) = some (k2 :: l) ↔ _
          simp
theorem keysT_map : ∀ {ks : List D} {l : List (List Key)}, keysT ks = some l ↔ ks.map keyT = l.map some
  | [], l => by
    cases l with
    | nil => exact ⟨fun _ => rfl, fun _ => rfl⟩
    | cons _ _ => exact ⟨fun h => (nomatch h), fun h => (nomatch h)⟩
  | x :: xs, l => by
    rw [keysT]
    cases e : keyT x with
    | none =>
      refine ⟨fun h => (nomatch h), fun h => ?_⟩
      rw [List.map_cons, e] at h
      cases l <;> cases h
    | some k =>
      cases l with
      | nil =>
        refine ⟨fun h => ?_, fun h => (nomatch h)⟩
        cases e2 : keysT xs <;> (rw [e2] at h; cases h)
      | cons k2 l =>
        rw [List.map_cons, List.map_cons, e, List.cons.injEq, ← keysT_map (ks := xs) (l := l)]
        cases e2 : keysT xs with
        | none => exact ⟨fun h => (nomatch h), fun h => (nomatch h.2)⟩
        | some l2 =>
          show some (k :: l2) = some (k2 :: l) ↔ _
          simp
theorem beq_key1 {x y : D} {k l : Key} (hx : keyOf x = some k) (hy : keyOf y = some l) : beqX x y = true ↔ k = l := by
  cases x <;> first | (cases hx; done) | skip
  all_goals cases y <;> first | (cases hy; done) | skip
  all_goals first
    | (cases hx; cases hy; rw [beqX]; simp; done)
    | (cases hx; cases hy; exact ⟨fun h => (nomatch h), fun h => (nomatch h)⟩)
theorem beq_keys1 : ∀ {xs ys : List D} {k l : List Key}, keysOf xs = some k → keysOf ys = some l → (beqXs xs ys = true ↔ k = l)
  | [], [], k, l, hx, hy => by cases hx; cases hy; exact ⟨fun _ => rfl, fun _ => rfl⟩
  | [], y :: ys, k, l, hx, hy => by
    cases hx
    rw [keysOf_map] at hy
    cases l with
    | nil => cases hy
    | cons _ _ => exact ⟨fun h => (nomatch h), fun h => (nomatch h)⟩
  | x :: xs, [], k, l, hx, hy => by
    cases hy
    rw [keysOf_map] at hx
    cases k with
    | nil => cases hx
    | cons _ _ => exact ⟨fun h => (nomatch h), fun h => (nomatch h)⟩
  | x :: xs, y :: ys, k, l, hx, hy => by
    rw [keysOf_map] at hx hy
    cases k with
    | nil => cases hx
    | cons k0 k =>
      cases l with
      | nil => cases hy
      | cons l0 l =>
        rw [List.map_cons, List.map_cons, List.cons.injEq] at hx hy
        rw [beqXs, Bool.and_eq_true, beq_key1 hx.1 hy.1, beq_keys1 (keysOf_map.mpr hx.2) (keysOf_map.mpr hy.2), List.cons.injEq]
theorem beq_keyT {x y : D} {k l : List Key} (hx : keyT x = some k) (hy : keyT y = some l) : beqX x y = true ↔ k = l := by
  cases x <;> first | (cases hx; done) | skip
  cases y <;> first | (cases hy; done) | skip
  rw [beqX]
  exact beq_keys1 hx hy
theorem keyOf_of {x : D} (h : key1 x = true) : ∃ k, keyOf x = some k := by
  cases x <;> first | (cases h; done) | exact ⟨_, rfl⟩
theorem keysOf_of : ∀ {xs : List D}, xs.all key1 = true → ∃ ks, keysOf xs = some ks
  | [], _ => ⟨[], rfl⟩
  | x :: xs, h => by
    rw [List.all_cons, Bool.and_eq_true] at h
    obtain ⟨k, e1⟩ := keyOf_of h.1
    obtain ⟨ks, e2⟩ := keysOf_of h.2
    exact ⟨k :: ks, by rw [keysOf, e1, e2]; rfl⟩
theorem keyT_of {x : D} (h : isKey true x = true) : ∃ k, keyT x = some k := by
  cases x <;> first | (cases h; done) | skip
  exact keysOf_of h
section
variable {κ : Type} [DecidableEq κ] {kf : D → Option κ} {K : PySem.W.Frag} {H : Hp} {B : Addr → Prop} {as : List Addr}
theorem look_gen (hbe : ∀ {x y : D} {k l : κ}, kf x = some k → kf y = some l → (beqX x y = true ↔ k = l)) : ∀ {ks vs : List D} {kvs : List (κ × V)}, ks.map kf = (kvs.map (·.1)).map some → Rps K H B as vs (kvs.map (·.2)) → ∀ {b : D} {k : κ}, kf b = some k →
    match dLook b ks vs with
    | some d => ∃ v, valV kvs k = some v ∧ Rp K H B as d v
    | none => valV kvs k = none
  | [], vs, [], _, _, b, k, _ => by
    cases vs <;> exact rfl
  | [], vs, _ :: _, h, _, b, k, _ => by cases h
  | _ :: _, vs, [], h, _, b, k, _ => by cases h
  | x :: ks, vs, (j, w) :: kvs, h, r, b, k, hb => by
    rw [List.map_cons, List.map_cons, List.map_cons, List.cons.injEq] at h
    cases vs with
    | nil => cases r
    | cons d vs =>
      obtain ⟨v, r2, e, h1, h2⟩ := r
      rw [List.map_cons, List.cons.injEq] at e
      have e1 := hbe h.1 hb
      rw [dLook]
      by_cases hj : j = k
      · rw [if_pos (e1.mpr hj)]
        refine ⟨w, valV_pos hj, ?_⟩
        have e2 : w = v := e.1
        rw [e2]
        exact h1
      · rw [if_neg fun z => hj (e1.mp z), valV_neg hj]
        have e3 : kvs.map (·.2) = r2 := e.2
        exact look_gen hbe h.2 (by rw [e3]; exact h2) hb
theorem has_gen (hbe : ∀ {x y : D} {k l : κ}, kf x = some k → kf y = some l → (beqX x y = true ↔ k = l)) : ∀ {ks : List D} {kvs : List (κ × V)}, ks.map kf = (kvs.map (·.1)).map some → ∀ {b : D} {k : κ}, kf b = some k → dHas b ks = kvs.any fun kv => decide (kv.1 = k)
  | [], [], _, b, k, _ => rfl
  | [], _ :: _, h, b, k, _ => by cases h
  | _ :: _, [], h, b, k, _ => by cases h
  | x :: ks, (j, w) :: kvs, h, b, k, hb => by
    rw [List.map_cons, List.map_cons, List.map_cons, List.cons.injEq] at h
    have ih := has_gen hbe (ks := ks) (kvs := kvs) h.2 hb
    unfold dHas at ih ⊢
    rw [List.any_cons, List.any_cons, ih]
    congr 1
    have e1 := hbe h.1 hb
    by_cases hj : j = k
    · rw [e1.mpr hj, decide_eq_true hj]
    · rw [decide_eq_false hj]
      exact Bool.eq_false_iff.mpr fun z => hj (e1.mp z)
theorem repl_gen (hbe : ∀ {x y : D} {k l : κ}, kf x = some k → kf y = some l → (beqX x y = true ↔ k = l)) : ∀ {ks vs : List D} {kvs : List (κ × V)}, ks.map kf = (kvs.map (·.1)).map some → Rps K H B as vs (kvs.map (·.2)) → ∀ {b d : D} {k : κ} {v : V}, kf b = some k → Rp K H B as d v →
    Rps K H B as (dRepl b d ks vs) ((kvs.map fun kv => if kv.1 = k then (kv.1, v) else kv).map (·.2))
  | [], vs, [], _, r, b, d, k, v, _, _ => r
  | [], vs, _ :: _, h, _, b, d, k, v, _, _ => by cases h
  | _ :: _, vs, [], h, _, b, d, k, v, _, _ => by cases h
  | x :: ks, vs, (j, w) :: kvs, h, r, b, d, k, v, hb, hd => by
    rw [List.map_cons, List.map_cons, List.map_cons, List.cons.injEq] at h
    cases vs with
    | nil => cases r
    | cons d0 vs =>
      obtain ⟨v0, r2, e, h1, h2⟩ := r
      rw [List.map_cons, List.cons.injEq] at e
      have e3 : kvs.map (·.2) = r2 := e.2
      have ih := repl_gen hbe (ks := ks) (vs := vs) (kvs := kvs) h.2 (by rw [e3]; exact h2) hb hd
      have e1 := hbe h.1 hb
      rw [dRepl, List.map_cons, List.map_cons]
      refine ⟨_, _, rfl, ?_, ih⟩
      by_cases hj : j = k
      · rw [if_pos (e1.mpr hj)]
        dsimp only
        rw [if_pos hj]
        exact hd
      · rw [if_neg fun z => hj (e1.mp z)]
        dsimp only
        rw [if_neg hj]
        have e2 : w = v0 := e.1
        rw [e2]
        exact h1
theorem put_gen (hbe : ∀ {x y : D} {k l : κ}, kf x = some k → kf y = some l → (beqX x y = true ↔ k = l)) {ks vs : List D} {kvs : List (κ × V)} (hk : ks.map kf = (kvs.map (·.1)).map some) (r : Rps K H B as vs (kvs.map (·.2))) {b d : D} {k : κ} {v : V} (hb : kf b = some k) (hd : Rp K H B as d v) :
    (dPutK b ks).map kf = ((putK kvs k v).map (·.1)).map some ∧ Rps K H B as (dPutV b d ks vs) ((putK kvs k v).map (·.2)) := by
  unfold dPutK dPutV putK
  rw [has_gen hbe hk hb]
  split
  · refine ⟨?_, repl_gen hbe hk r hb hd⟩
    rw [hk]
    congr 1
    rw [List.map_map]
    refine List.map_congr_left fun p _ => ?_
    show p.1 = (if p.1 = k then (p.1, v) else p).1
    split <;> rfl
  · refine ⟨?_, ?_⟩
    · rw [List.map_append, hk, List.map_append, List.map_append]
      congr 1
      show [kf b] = [some k]
      rw [hb]
    · rw [List.map_append]
      exact r.append (Rps.one hd)
end
section
variable {K : PySem.W.Frag} {H : Hp} {B : Addr → Prop} {as : List Addr} {M : List Cell}
theorem kV_rp {x : D} {k : Key} {y : V} (h : keyOf x = some k) (r : Rp K H B as x y) : y = kV k := by
  cases x <;> first | (cases h; done) | (cases h; exact r)
theorem rp_kV {x : D} {k : Key} (h : keyOf x = some k) : Rp K H B as x (kV k) := by
  cases x <;> first | (cases h; done) | (cases h; exact rfl)
theorem kVs_rp : ∀ {xs : List D} {ks : List Key} {ys : List V}, keysOf xs = some ks → Rps K H B as xs ys → ys = ks.map kV
  | [], ks, ys, h, r => by cases h; cases r; rfl
  | x :: xs, ks, ys, h, r => by
    rw [keysOf_map] at h
    cases ks with
    | nil => cases h
    | cons k ks =>
      rw [List.map_cons, List.map_cons, List.cons.injEq] at h
      obtain ⟨v, r2, rfl, h1, h2⟩ := r
      rw [kV_rp h.1 h1, kVs_rp (keysOf_map.mpr h.2) h2]
      rfl
theorem rps_kV : ∀ {xs : List D} {ks : List Key}, keysOf xs = some ks → Rps K H B as xs (ks.map kV)
  | [], ks, h => by cases h; rfl
  | x :: xs, ks, h => by
    rw [keysOf_map] at h
    cases ks with
    | nil => cases h
    | cons k ks =>
      rw [List.map_cons, List.map_cons, List.cons.injEq] at h
      exact ⟨_, _, rfl, rp_kV h.1, rps_kV (keysOf_map.mpr h.2)⟩
theorem kT_rp {x : D} {k : List Key} {y : V} (h : keyT x = some k) (r : Rp K H B as x y) : ∃ b, y = .ref b ∧ H b = some (.tup (k.map kV)) := by
  cases x <;> first | (cases h; done) | skip
  obtain ⟨b, vs, rfl, s, q⟩ := r
  have h : keysOf _ = some k := h
  rw [kVs_rp h q] at s
  exact ⟨b, rfl, s⟩
theorem rp_kT {x : D} {k : List Key} {b : Addr} (h : keyT x = some k) (s : H b = some (.tup (k.map kV))) : Rp K H B as x (.ref b) := by
  cases x <;> first | (cases h; done) | skip
  exact ⟨b, _, rfl, s, rps_kV h⟩
/-- a dict lies at p -/
def DK (K : PySem.W.Frag) (H : Hp) (B : Addr → Prop) (as : List Addr) (p : Addr) (ks vs : List D) (rd : Hp → Addr → HO → Prop) : Bool → Prop
  | false => ∃ kvs, rd H p (.dK kvs) ∧ ks.map keyOf = (kvs.map (·.1)).map some ∧ Rps K H B as vs (kvs.map (·.2))
  | true => ∃ kvs, rd H p (.dT kvs) ∧ ks.map keyT = (kvs.map (·.1)).map some ∧ Rps K H B as vs (kvs.map (·.2))
abbrev isAt (H : Hp) (p : Addr) (o : HO) : Prop := H p = some o
theorem dct_ref {i : Nat} {t : Bool} {ks vs : List D} (h : dctOf M (.ref i) = some (t, ks, vs)) : ∃ m, M[i]? = some ⟨m, .dct t ks vs⟩ := by
  have h' : (match M[i]? with
    | some ⟨_, .dct t ks vs⟩ => some (t, ks, vs)
    | _ => none) = some (t, ks, vs) := h
  split at h'
  · rename_i m t' ks' vs' hc
    cases h'
    exact ⟨m, hc⟩
  · cases h'
theorem dct_rp {d : D} {x : V} {t : Bool} {ks vs : List D} (S : Sim K H B as M) (r : Rp K H (Av B as M) as d x) (h : dctOf M d = some (t, ks, vs)) : ∃ p, x = .ref p ∧ DK K H (Av B as M) as p ks vs Rd t := by
  cases d with
  | dct t' ks' vs' =>
    cases h
    cases t
    · obtain ⟨p, kvs, e, s, n, k, q⟩ := r
      exact ⟨p, e, kvs, s, keysOf_map.mp k, q⟩
    · obtain ⟨p, kvs, e, s, n, k, q⟩ := r
      exact ⟨p, e, kvs, s, keysT_map.mp k, q⟩
  | ref i =>
    obtain ⟨a, e, rfl⟩ := r
    obtain ⟨m, hc⟩ := dct_ref h
    have q := S.cell i a _ e hc
    refine ⟨a, rfl, ?_⟩
    cases m <;> cases t
    · obtain ⟨o, kvs, s, n, k, q⟩ := q
      exact ⟨kvs, .inr ⟨o, s⟩, keysOf_map.mp k, q⟩
    · obtain ⟨o, kvs, s, n, k, q⟩ := q
      exact ⟨kvs, .inr ⟨o, s⟩, keysT_map.mp k, q⟩
    · obtain ⟨kvs, s, k, q⟩ := q
      exact ⟨kvs, .inl s, keysOf_map.mp k, q⟩
    · obtain ⟨kvs, s, k, q⟩ := q
      exact ⟨kvs, .inl s, keysT_map.mp k, q⟩
  | _ => cases h
theorem DK.isD {p : Addr} {ks vs : List D} {t : Bool} (h : DK K H B as p ks vs Rd t) : IsD H p := by
  cases t
  · obtain ⟨kvs, s, _⟩ := h
    exact .inl ⟨kvs, s⟩
  · obtain ⟨kvs, s, _⟩ := h
    exact .inr ⟨kvs, s⟩
/-- a key is looked up -/
theorem dget_of {b : D} {y : V} {t : Bool} {ks vs : List D} {p : Addr} (h : DK K H B as p ks vs Rd t) (rb : Rp K H B as b y) (hk : isKey t b = true) :
    ∃ o, DGet H p y o ∧ match dLook b ks vs with
      | some d => ∃ v, o = some v ∧ Rp K H B as d v
      | none => o = none := by
  cases t
  · obtain ⟨kvs, s, k, q⟩ := h
    obtain ⟨key, e⟩ := keyOf_of (x := b) hk
    refine ⟨valV kvs key, .inl ⟨kvs, key, s, kV_rp e rb, rfl⟩, ?_⟩
    have := look_gen beq_key1 k q e
    revert this
    cases dLook b ks vs <;> exact id
  · obtain ⟨kvs, s, k, q⟩ := h
    obtain ⟨key, e⟩ := keyT_of (x := b) hk
    obtain ⟨a, e1, e2⟩ := kT_rp e rb
    refine ⟨valV kvs key, .inr ⟨kvs, key, a, s, e1, e2, rfl⟩, ?_⟩
    have := look_gen beq_keyT k q e
    revert this
    cases dLook b ks vs <;> exact id
theorem Sim.pushO {p : Addr} {ob : HO} {c : Cell} (S : Sim K H B as M) (hp : H p = none) (hc : Cp K (upd H p ob) (Av B (as ++ [p]) (M ++ [c])) (as ++ [p]) p c) : Sim K (upd H p ob) B (as ++ [p]) (M ++ [c]) := by
  have g : Go as M H (as ++ [p]) (M ++ [c]) (upd H p ob) := Go.push S hp
  refine ⟨by simp [S.len], ?_, fun a h => g.dom a (S.b0 a h), fun a h => ?_, fun i a c' h1 h2 => ?_⟩
  · rw [List.nodup_append]
    refine ⟨S.nd, by simp, fun a ha b hb => ?_⟩
    simp at hb; subst hb
    exact fun e => S.fresh hp (e ▸ ha)
  · rcases List.mem_append.mp h with h | h
    · exact S.dj a h
    · simp at h; subst h
      exact fun b => S.b0 _ b hp
  · by_cases hi : i < as.length
    · rw [List.getElem?_append_left hi] at h1
      rw [List.getElem?_append_left (by rw [← S.len]; exact hi)] at h2
      exact (S.cell i a c' h1 h2).go S g fun _ o e => by rw [upd_ne (ne_of_none e hp)]; exact e
    · rw [List.getElem?_append_right (by omega)] at h1
      rw [List.getElem?_append_right (by have := S.len; omega)] at h2
      have e1 : i - as.length = 0 := by
        cases q : i - as.length with
        | zero => rfl
        | succ n => rw [q] at h1; simp at h1
      have e2 : i - M.length = 0 := by have := S.len; omega
      rw [e1] at h1; rw [e2] at h2
      simp at h1 h2
      subst h1; subst h2
      exact hc
/-- what was laid ahead, of which all keep clear, becomes a place -/
theorem Go.adopt {p : Addr} {ob : HO} {c : Cell} (S : Sim K H (fun a => B a ∨ a = p) as M) : Go as M H as M (upd H p ob) ∨ True := .inr trivial
theorem Sim.putO {i : Nat} {a : Addr} {d : D} {ob : HO} {d' : D} (S : Sim K H B as M) (ha : as[i]? = some a) (hc : M[i]? = some ⟨true, d⟩) (hcp : Cp K (upd H a ob) (Av B as (M.set i ⟨true, d'⟩)) as a ⟨true, d'⟩) : Sim K (upd H a ob) B as (M.set i ⟨true, d'⟩) := by
  have g : Go as M H as (M.set i ⟨true, d'⟩) (upd H a ob) := Go.put S ha hc
  refine ⟨by simp [S.len], S.nd, fun a h => g.dom a (S.b0 a h), S.dj, fun j b c h1 h2 => ?_⟩
  rcases set_get h2 with ⟨rfl, rfl, _⟩ | ⟨hj, h2⟩
  · rw [ha] at h1; cases h1
    exact hcp
  · refine (S.cell j b c h1 h2).go S g fun _ o e => ?_
    have : b ≠ a := fun e => hj (nd_ix S h1 (e ▸ ha))
    rw [upd_ne this]; exact e
/-- a new dict -/
theorem dnew_post {E : Nat → Hp → Prop} {Q : VK} {t : Bool} {ks vs : List D} {p : Addr} {ob : HO} (S : Sim K H B as M) (hp : H p = none)
    (hc : Cp K (upd H p ob) (Av B (as ++ [p]) (M ++ [⟨true, .dct t ks vs⟩])) (as ++ [p]) p ⟨true, .dct t ks vs⟩) (h : PostD K H B as M E (.ok (.ref M.length) (M ++ [⟨true, .dct t ks vs⟩])) Q) : Q (.ref p) (upd H p ob) := by
  refine h (as ++ [p]) _ _ (Go.push S hp) (Sim.pushO S hp hc) ⟨p, ?_, rfl⟩
  rw [← S.len, List.getElem?_append_right (Nat.le_refl _), Nat.sub_self]; rfl
/-- d[k] = v -/
theorem dset_rp {o i v : D} {x y z : V} {M' : List Cell} (S : Sim K H B as M) (ro : Rp K H (Av B as M) as o x) (ri : Rp K H (Av B as M) as i y) (rv : Rp K H (Av B as M) as v z) (h : dsetD o i v M = some M') :
    ∃ p H', x = .ref p ∧ DPut H p y z H' ∧ Go as M H as M' H' ∧ Sim K H' B as M' := by
  cases o with
  | ref j =>
    have h' : (match M[j]? with
      | some ⟨true, .dct t ks vs⟩ => if isKey t i = true ∧ ks.length < LIM then some (M.set j ⟨true, .dct t (dPutK i ks) (dPutV i v ks vs)⟩) else none
      | _ => none) = some M' := h
    split at h'
    · rename_i t ks vs hc
      split at h'
      · rename_i hk
        cases h'
        obtain ⟨a, e, rfl⟩ := ro
        have q := S.cell j a _ e hc
        cases t
        · obtain ⟨kvs, s, k, q⟩ := q
          obtain ⟨key, e1⟩ := keyOf_of (x := i) hk.1
          have hl : kvs.length < sizeLine := by
            have := congrArg List.length (keysOf_map.mp k)
            rw [List.length_map, List.length_map, List.length_map] at this
            have h2 := hk.2
            have h3 := LIM_lt
            omega
          have g : Go as M H as (M.set j ⟨true, .dct false (dPutK i ks) (dPutV i v ks vs)⟩) (upd H a (.dK (putK kvs key z))) := Go.put S e hc
          refine ⟨a, _, rfl, .inl ⟨kvs, key, s, kV_rp e1 ri, hl, rfl⟩, g, Sim.putO S e hc ?_⟩
          obtain ⟨p1, p2⟩ := put_gen beq_key1 (keysOf_map.mp k) (g.rps S q) e1 (g.rp S rv)
          exact ⟨_, upd_same, keysOf_map.mpr p1, p2⟩
        · obtain ⟨kvs, s, k, q⟩ := q
          obtain ⟨key, e1⟩ := keyT_of (x := i) hk.1
          obtain ⟨b, rfl, e2⟩ := kT_rp e1 ri
          have hl : kvs.length < sizeLine := by
            have := congrArg List.length (keysT_map.mp k)
            rw [List.length_map, List.length_map, List.length_map] at this
            have h2 := hk.2
            have h3 := LIM_lt
            omega
          have g : Go as M H as (M.set j ⟨true, .dct true (dPutK i ks) (dPutV i v ks vs)⟩) (upd H a (.dT (putK kvs key z))) := Go.put S e hc
          refine ⟨a, _, rfl, .inr ⟨kvs, key, b, s, rfl, e2, hl, rfl⟩, g, Sim.putO S e hc ?_⟩
          obtain ⟨p1, p2⟩ := put_gen beq_keyT (keysT_map.mp k) (g.rps S q) e1 (g.rp S rv)
          exact ⟨_, upd_same, keysT_map.mpr p1, p2⟩
      · cases h'
    · cases h'
  | _ => cases h
/-- a dict is locked -/
theorem lock_rp {d : D} {x : V} {t : Bool} {ks vs : List D} {M' : List Cell} (S : Sim K H B as M) (r : Rp K H (Av B as M) as d x) (h : lockD d M = some (t, ks, vs, M')) :
    ∃ p, x = .ref p ∧ ((DK K H (Av B as M) as p ks vs isAt t ∧ ∀ od u, H p = some u → Go as M H as M' (upd H p (.frz od u)) ∧ Sim K (upd H p (.frz od u)) B as M') ∨ (∃ od, DK K H (Av B as M) as p ks vs (fun H p u => H p = some (.frz od u)) t ∧ M' = M)) ∧ ¬ Live as M' p := by
  cases d with
  | ref j =>
    have h' : (match M[j]? with
      | some ⟨_, .dct t ks vs⟩ => some (t, ks, vs, M.set j ⟨false, .dct t ks vs⟩)
      | _ => none) = some (t, ks, vs, M') := h
    split at h'
    · rename_i m t' ks' vs' hc
      cases h'
      obtain ⟨a, e, rfl⟩ := r
      have q := S.cell j a _ e hc
      have nl : ¬ Live as (M.set j ⟨false, .dct t ks vs⟩) a := fun ⟨k, e', z1, z2⟩ => by
        have := nd_ix S z1 e
        subst this
        rcases set_get z2 with ⟨_, q, _⟩ | ⟨z, _⟩
        · cases q
        · exact z rfl
      refine ⟨a, rfl, ?_, nl⟩
      cases m
      · have eM : M.set j ⟨false, .dct t ks vs⟩ = M := by
          obtain ⟨hj, ej⟩ := List.getElem?_eq_some_iff.mp hc
          rw [← ej, List.set_getElem_self]
        refine .inr ?_
        cases t
        · obtain ⟨o, kvs, s, n, k, q⟩ := q
          exact ⟨o, ⟨kvs, s, keysOf_map.mp k, q⟩, eM⟩
        · obtain ⟨o, kvs, s, n, k, q⟩ := q
          exact ⟨o, ⟨kvs, s, keysT_map.mp k, q⟩, eM⟩
      · have go : ∀ od u, H a = some u → Go as M H as (M.set j ⟨false, .dct t ks vs⟩) (upd H a (.frz od u)) := fun od u hu => by
          refine ⟨List.prefix_rfl, fun b o hb n => ?_, fun b hb l => ?_, fun b hb => ?_, fun i a h1 h2 => by rw [List.getElem?_eq_none h1] at h2; cases h2⟩
          · have : b ≠ a := fun z => n (z ▸ ⟨j, _, e, hc⟩)
            rw [upd_ne this]; exact hb
          · obtain ⟨k, e', z1, z2⟩ := l
            rcases set_get z2 with ⟨rfl, q, _⟩ | ⟨z, z2⟩
            · cases q
            · exact ⟨k, e', z1, z2⟩
          · by_cases hba : b = a
            · rw [hba, upd_same]; simp
            · rw [upd_ne hba]; exact hb
        have nav : ¬ Av B as (M.set j ⟨false, .dct t ks vs⟩) a := fun z => z.elim (S.dj a (List.mem_of_getElem? e)) nl
        refine .inl ⟨?_, fun od u hu => ⟨go od u hu, by simp [S.len], S.nd, fun b hb => (go od u hu).dom b (S.b0 b hb), S.dj, fun k b c h1 h2 => ?_⟩⟩
        · cases t
          · obtain ⟨kvs, s, k, q⟩ := q
            exact ⟨kvs, s, keysOf_map.mp k, q⟩
          · obtain ⟨kvs, s, k, q⟩ := q
            exact ⟨kvs, s, keysT_map.mp k, q⟩
        · rcases set_get h2 with ⟨rfl, rfl, _⟩ | ⟨hk, h2⟩
          · rw [e] at h1; cases h1
            cases t
            · obtain ⟨kvs, s, k, q⟩ := q
              rw [hu] at s; cases s
              exact ⟨od, kvs, upd_same, nav, k, (go od _ hu).rps S q⟩
            · obtain ⟨kvs, s, k, q⟩ := q
              rw [hu] at s; cases s
              exact ⟨od, kvs, upd_same, nav, k, (go od _ hu).rps S q⟩
          · refine (S.cell k b c h1 h2).go S (go od u hu) fun _ o eo => ?_
            have : b ≠ a := fun z => hk (nd_ix S h1 (z ▸ e))
            rw [upd_ne this]; exact eo
    · cases h'
  | _ => cases h
end
section
variable {X : Cx} {pos : Pos}
/-- a dict is locked as it is read -/
def tLk (td : TE) : TE := fun σ H Q => td σ H fun x H1 => ∃ d, x = .ref d ∧ ((∃ u, H1 d = some u ∧ Mut (some u) ∧ ∀ od, Q x (upd H1 d (.frz od u))) ∨ Q x H1)
theorem pe_lk {e : Expr} {td : TE} (h : PE X e td) : PE X e (tLk td) := ⟨fun pins s σ H Q I q =>
  thn (h.run pins s σ H _ I q) fun v s1 ⟨x, H1, I1, r1, d, ex, q1⟩ => by
    rcases q1 with ⟨u, hu, mu, q1⟩ | q1
    · obtain ⟨od, I2⟩ := I1.lock hu mu
      exact ⟨x, _, I2, r1, q1 od⟩
    · exact ⟨x, H1, I1, r1, q1⟩⟩
/-- {k: v}, k a tuple -/
def tDun (tk tv : TE) : TE := fun σ H Q => ∀ p, H p = none → tk σ (upd H p (.dT [])) fun x H1 => tv σ H1 fun y H2 => H2 p = some (.dT []) ∧ ∃ b ks, x = .ref b ∧ H2 b = some (.tup (ks.map kV)) ∧ Q (.ref p) (upd H2 p (.dT [(ks, y)]))
theorem pe_dun {k v : Expr} {tk tv : TE} (hu : X.A.units + 1 < cLine) (hk : PE X k tk) (hv : PE X v tv) : PE X (.Dict [some k] [v] pos) (tDun tk tv) := by
  refine ⟨fun pins s σ H Q I q => ?_⟩
  have hn := I.hok.fresh (Nat.le_refl s.heap.objs.size)
  have I1 := I.laid (a := s.heap.objs.size) (o := .dT []) (h' := s.heap.push { cls := .type "dict", data := .dict #[] }) (t' := s.toks) (fun _ _ q => Heap.get?_push_of_some _ q) (Nat.le_refl _) (dt_empty s.heap I.big)
  have run := (pps_cons (pos := pos) hk hv pps_nil).run pins _ σ _ (fun ps H2 => match ps with
    | [(x, y)] => H2 s.heap.objs.size = some (.dT []) ∧ ∃ b ks, x = .ref b ∧ H2 b = some (.tup (ks.map kV)) ∧ Q (.ref s.heap.objs.size) (upd H2 s.heap.objs.size (.dT [(ks, y)]))
    | _ => False) I1 (q _ hn)
  have hl := pairTrees_length [some k] [v] X.env pos rfl rfl
  rw [arm_eval_Dict, zip_pairTrees [some k] [v] X.env pos rfl rfl, dictDisplay_pairs _ (fun z => by rw [z] at hl; cases hl) (by rw [hl]; show 1 < 17; decide)]
  refine wpAny_bind (wpAny_standAt (wpAny_bind (wpAny_subDictH (knd := tupleKind (mixKind X.prog X.w)) (Q := fun d s' => wpAny (model X.prog X.w) X.A (pure (Value.ref d)) (EP X pins σ Q) X.xe s') (show X.A.units < cLine by omega) (by rw [hl]; show 1 ≤ 15; decide) (thn run fun ws s2 ⟨ps, H2, I2, rel, q2⟩ => ?_))))
  match ps, rel, q2 with
  | [(x, y)], rel, ⟨e1, b, ks, ex, e2, q3⟩ =>
    subst ex
    cases ws with
    | nil => cases rel
    | cons p2 ws =>
      obtain ⟨u, w⟩ := p2
      cases rel with
      | cons hr ht =>
        cases ht
        obtain ⟨r1, r2⟩ := hr
        obtain rfl : u = Value.ref b := r1
        obtain ⟨z, hd, xs, rx, dd⟩ := dt_of I2.hok e1
        cases rx
        refine ⟨[(ks, b, w)], ⟨rfl, rfl, key_of I2.hok e2, trivial⟩, dd, fun h' tk dd' hs => wpAny_pure ⟨.ref s.heap.objs.size, _, ?_, rfl, q3⟩⟩
        obtain ⟨o, es, ep, ho, h2, h3, h4, _, h5⟩ := dd'
        refine d_write I2 (t' := tk) (by rw [e1]; exact True.intro) hs ⟨o, ho⟩ ⟨by rw [sizeLine_eq]; show 1 ≤ 16777216; decide, hd, [(ks, b, w)], .cons ⟨rfl, ?_, r2⟩ .nil, o, es, ep, ho, h2, h3, h4, h5⟩
        rw [upd_ne (ne_of e2 e1 (fun z => nomatch z))]
        exact e2
end
end
end Sg

namespace Sg
noncomputable section
open PySem PySem.Spec PyProof.Rows L2
section
variable {X : Cx} {cv : Nat → Value} {W : WX} {Φ : Phi} {c : Ctx} {x y z tg : Expr} {pos : Pos}
theorem s_ktup {es : Es} {xs : List Expr} {k : Nat} (h : PA X xs (tEs X cv W Φ es)) : PE X (.Tuple xs k pos) (tE X cv W Φ (.ktup es)) :=
  (pe_tup h).imp fun σ H Q q => by
    obtain ⟨B, as, M, env, S, rr, q⟩ := q
    refine ⟨B, as, M, env, S, rr, post_bind q fun ds M1 as1 H1 vs _ g1 S1 rs q1 => ?_⟩
    split at q1
    · rename_i hl
      exact ⟨by rw [rs.len]; exact Nat.le_trans hl LIM_le, ktup_post' S1 rs q1⟩
    · exact q1.elim
theorem s_dnew {t : Bool} : PE X (.Dict [] [] pos) (tE X cv W Φ (.dnew t)) := by
  cases t
  · refine pe_dnewK.imp fun σ H Q q p hp => ?_
    obtain ⟨B, as, M, env, S, rr, q⟩ := q
    exact dnew_post (t := false) (ks := []) (vs := []) S hp ⟨[], upd_same, rfl, rfl⟩ q
  · refine pe_dnewT.imp fun σ H Q q p hp => ?_
    obtain ⟨B, as, M, env, S, rr, q⟩ := q
    exact dnew_post (t := true) (ks := []) (vs := []) S hp ⟨[], upd_same, rfl, rfl⟩ q
theorem hu1 (h : XH c Φ cv X W) : X.A.units + 1 < cLine := by
  have := hu64 h
  omega
theorem s_dget {a b : E} (h : XH c Φ cv X W) (ha : PE X x (tE X cv W Φ a)) (hb : PE X y (tE X cv W Φ b)) (hy : shp y = true) : PE X (.Subscript x y pos) (tE X cv W Φ (.dget a b)) := by
  refine (pe_dget (hu1 h) ha hb (by cases y <;> first | (intro o i; rfl) | cases hy)).imp fun σ H Q q => ?_
  obtain ⟨B, as, M, env, S, rr, q⟩ := q
  refine ⟨B, as, M, env, S, rr, post_bind q fun d M1 as1 H1 v _ g1 S1 ra q1 => ?_⟩
  refine ⟨B, as1, M1, env, S1, rr.go S g1, post_bind q1 fun e M2 as2 H2 w _ g2 S2 rb q2 => ?_⟩
  have ra2 := g2.rp S1 ra
  unfold dgetD at q2
  split at q2
  · rename_i t ks vs e1
    split at q2
    · rename_i hk
      obtain ⟨p, rfl, dk⟩ := dct_rp S2 ra2 e1
      obtain ⟨o, dg, m⟩ := dget_of dk rb hk
      split at q2
      · rename_i dv e2
        rw [e2] at m
        obtain ⟨u, rfl, ru⟩ := m
        exact ⟨p, u, rfl, dg, q2 as2 H2 u Go.refl S2 ru⟩
      · exact q2.elim
    · exact q2.elim
  · exact q2.elim
theorem din_key {ng : Bool} {a b : E} {σ : St2} {H : Hp} {Q : VK} (q : tE X cv W Φ (.din ng a b) σ H Q) : tE X cv W Φ a σ H fun y H1 => tE X cv W Φ b σ H1 fun x H2 => ∃ a o, x = .ref a ∧ DGet H2 a y o ∧ Q (.bl (if ng then !o.isSome else o.isSome)) H2 := by
  obtain ⟨B, as, M, env, S, rr, q⟩ := q
  refine ⟨B, as, M, env, S, rr, post_bind q fun d M1 as1 H1 v _ g1 S1 ra q1 => ?_⟩
  refine ⟨B, as1, M1, env, S1, rr.go S g1, post_bind q1 fun e M2 as2 H2 w _ g2 S2 rb q2 => ?_⟩
  have ra2 := g2.rp S1 ra
  unfold dinD at q2
  split at q2
  · rename_i t ks vs e1
    split at q2
    · rename_i hk
      obtain ⟨p, rfl, dk⟩ := dct_rp S2 rb e1
      obtain ⟨o, dg, m⟩ := dget_of dk ra2 hk
      refine ⟨p, o, rfl, dg, ?_⟩
      have eo : (dLook d ks vs).isSome = o.isSome := by
        cases e3 : dLook d ks vs with
        | none =>
          rw [e3] at m
          rw [show o = none from m]
          rfl
        | some dv =>
          rw [e3] at m
          obtain ⟨u, rfl, _⟩ := m
          rfl
      rw [eo] at q2
      exact q2 as2 H2 _ Go.refl S2 rfl
    · exact q2.elim
  · exact q2.elim
theorem s_din {ng : Bool} {a b : E} {o : CmpOp} (ho : o = if ng then .NotIn else .In) (h : XH c Φ cv X W) (ha : PE X x (tE X cv W Φ a)) (hb : PE X y (tE X cv W Φ b)) (hy : shp y = true) : PE X (.Compare x [o] [y] pos) (tE X cv W Φ (.din ng a b)) := by
  subst ho
  cases ng
  · exact (pe_cmp (pc_din (hu1 h) ha hb) (shp_mark hy)).imp fun σ H Q q => din_key q
  · exact (pe_cmp (pc_dnotin (hu1 h) ha hb) (shp_mark hy)).imp fun σ H Q q => din_key q
theorem st_din {ng : Bool} {a b : E} {o : CmpOp} (ho : o = if ng then .NotIn else .In) (h : XH c Φ cv X W) (ha : PE X x (tE X cv W Φ a)) (hb : PE X y (tE X cv W Φ b)) (hy : shp y = true) : PT X (.Compare x [o] [y] pos) (tT X cv W Φ (.din ng a b)) := by
  subst ho
  cases ng
  · exact (pt_cmp (pc_din (hu1 h) ha hb) (shp_mark hy)).imp fun σ H Q q => din_key (toT q)
  · exact (pt_cmp (pc_dnotin (hu1 h) ha hb) (shp_mark hy)).imp fun σ H Q q => din_key (toT q)
theorem s_dgetd {a b d : E} {apos : Pos} (hl : (apos.endLine == pos.line) = true) (h : XH c Φ cv X W) (ha : PE X x (tE X cv W Φ a)) (hb : PE X y (tE X cv W Φ b)) (hd : PE X z (tE X cv W Φ d)) (hx : shp x = true) (hy : shp y = true) (hz : shp z = true) :
    PE X (.Call (.Attribute x ("get" : Str) apos) [y, z] [] pos) (tE X cv W Φ (.dgetd a b d)) := by
  have st : starEach [y, z] X.env = [(false, eval y X.env), (false, eval z X.env)] := by rw [shp_star hy, shp_star hz]; rfl
  refine (pe_dget2 (hu1 h) ha hb hd ⟨shp_base hx, by rw [st]; rfl, hl, by rw [st]; rfl⟩).imp fun σ H Q q => ?_
  obtain ⟨B, as, M, env, S, rr, q⟩ := q
  refine ⟨B, as, M, env, S, rr, post_bind q fun dd M1 as1 H1 v hq1 g1 S1 ra q1 => ?_⟩
  split at q1
  case h_2 => exact q1.elim
  rename_i dk0 hk0
  obtain ⟨t0, ks0, vs0⟩ := dk0
  obtain ⟨p, rfl, dk0⟩ := dct_rp S1 ra hk0
  have hp := dk0.isD
  refine ⟨p, rfl, hp, B, as1, M1, env, S1, rr.go S g1, post_bind q1 fun e M2 as2 H2 w _ g2 S2 rb q2 => ?_⟩
  refine ⟨B, as2, M2, env, S2, (rr.go S g1).go S1 g2, post_bind q2 fun f M3 as3 H3 u _ g3 S3 rc q3 => ?_⟩
  have ra3 := g3.rp S2 (g2.rp S1 ra)
  have rb3 := g3.rp S2 rb
  unfold dgetdD at q3
  split at q3
  · rename_i t ks vs e1
    split at q3
    · rename_i hk
      obtain ⟨p', ep, dk⟩ := dct_rp S3 ra3 e1
      cases ep
      obtain ⟨o, dg, m⟩ := dget_of dk rb3 hk
      refine ⟨o, dg, ?_⟩
      cases e3 : dLook e ks vs with
      | none =>
        rw [e3] at m q3
        rw [show o = none from m]
        exact q3 as3 H3 u Go.refl S3 rc
      | some dv =>
        rw [e3] at m q3
        obtain ⟨u', rfl, ru⟩ := m
        exact q3 as3 H3 u' Go.refl S3 ru
    · exact q3.elim
  · exact q3.elim
theorem lit_pe {d : D} {xe : Expr} (h : litOk d xe = true) : PE X xe (L2.tC (flV d)) ∧ flatD d = true ∧ ∀ {K : PySem.W.Frag} {H : Hp} {B : Addr → Prop} {as : List Addr}, Rp K H B as d (flV d) := by
  unfold litOk at h
  split at h
  · unfold constOk at h
    split at h
    · exact ⟨pe_non, rfl, rfl⟩
    · have e := eq_of_beq h
      subst e
      exact ⟨pe_bl, rfl, rfl⟩
    · have e := eq_of_beq h
      subst e
      exact ⟨pe_int, rfl, rfl⟩
    · have e := of_decide_eq_true h
      subst e
      exact ⟨pe_str, rfl, rfl⟩
    · cases h
  · split at h
    · have e := eq_of_beq h
      subst e
      exact ⟨(pe_un un_neg pe_int).imp fun σ H Q q => ⟨_, rfl, q⟩, rfl, rfl⟩
    · cases h
  · cases h
theorem merge_new {kvs : List (Key × V)} : ∀ {acc : List (Key × V)}, (kvs.map (·.1)).Nodup → (∀ kv ∈ kvs, ∀ a ∈ acc, a.1 ≠ kv.1) → mergeK acc kvs = acc ++ kvs := by
  induction kvs with
  | nil => intro acc _ _; exact (List.append_nil _).symm
  | cons q kvs ih =>
    intro acc hn ha
    rw [List.map_cons, List.nodup_cons] at hn
    have e : putK acc q.1 q.2 = acc ++ [q] := by
      unfold putK
      rw [if_neg]
      intro z
      rw [List.any_eq_true] at z
      obtain ⟨a, h1, h2⟩ := z
      exact ha q List.mem_cons_self a h1 (of_decide_eq_true h2)
    show mergeK (putK acc q.1 q.2) kvs = _
    rw [e, ih hn.2, List.append_assoc]
    · rfl
    · intro kv hk a h1
      rcases List.mem_append.mp h1 with h1 | h1
      · exact ha kv (List.mem_cons_of_mem _ hk) a h1
      · rw [List.mem_singleton] at h1
        subst h1
        exact fun z => hn.1 (z ▸ List.mem_map_of_mem (f := (·.1)) hk)
theorem lits_pps : ∀ {ks vs : List D} {xs : List (Option Expr)} {ys : List Expr}, litsOk ks vs xs ys = true → ∃ kvs : List (Key × V), PPs X pos xs ys (kvs.map fun kv => (L2.tC (kV kv.1), L2.tC kv.2)) ∧ ks.map keyOf = (kvs.map (·.1)).map some ∧ (kvs.map (·.1)).Nodup ∧
    (∀ {K : PySem.W.Frag} {H : Hp} {B : Addr → Prop} {as : List Addr}, Rps K H B as vs (kvs.map (·.2))) ∧ xs.all (·.isSome) = true ∧ xs.length = ys.length ∧ ks.length = xs.length ∧ kvs.length = ks.length
  | [], [], [], [], _ => ⟨[], pps_nil, rfl, List.nodup_nil, rfl, rfl, rfl, rfl, rfl⟩
  | k :: ks, v :: vs, some x :: xs, y :: ys, h => by
    rw [litsOk] at h
    simp only [Bool.and_eq_true, Bool.not_eq_true'] at h
    obtain ⟨h1, h2, h3, h4, h5⟩ := h
    obtain ⟨kvs, p1, p2, p3, p4, p5, p6, p7, p8⟩ := lits_pps h5
    obtain ⟨ek, _, rk⟩ := lit_pe (X := X) h1
    obtain ⟨ev, _, rv⟩ := lit_pe (X := X) h2
    obtain ⟨key, e⟩ := keyOf_of h3
    have e1 : flV k = kV key := kV_rp (K := X.K) (H := fun _ => none) (B := fun _ => False) (as := []) e rk
    refine ⟨(key, flV v) :: kvs, pps_cons (by rw [← e1]; exact ek) ev p1, ?_, ?_, ⟨_, _, rfl, rv, p4⟩, ?_, ?_, ?_, ?_⟩
    · rw [List.map_cons, List.map_cons, List.map_cons, e, p2]
    · rw [List.map_cons, List.nodup_cons]
      refine ⟨fun z => ?_, p3⟩
      rw [has_gen beq_key1 p2 e] at h4
      obtain ⟨kv, z1, z2⟩ := List.mem_map.mp z
      have := List.any_eq_false.mp h4 kv z1
      exact this (decide_eq_true z2)
    · rw [List.all_cons, p5]; rfl
    · rw [List.length_cons, List.length_cons, p6]
    · rw [List.length_cons, List.length_cons, p7]
    · rw [List.length_cons, List.length_cons, p8]
  | [], _ :: _, _, _, h => by cases h
  | _ :: _, [], _, _, h => by cases h
  | [], [], _ :: _, _, h => by cases h
  | [], [], [], _ :: _, h => by cases h
  | _ :: _, _ :: _, [], _, h => by cases h
  | _ :: _, _ :: _, none :: _, _, h => by cases h
  | _ :: _, _ :: _, some _ :: _, [], h => by cases h
theorem pairs_c {σ : St2} : ∀ {kvs : List (Key × V)} {H : Hp} {Q : List (V × V) → Hp → Prop}, Q (kvs.map fun kv => (kV kv.1, kv.2)) H → tPairs (kvs.map fun kv => (L2.tC (kV kv.1), L2.tC kv.2)) σ H Q
  | [], _, _, h => h
  | q :: kvs, H, Q, h => pairs_c (kvs := kvs) (H := H) (Q := fun ps H3 => Q ((kV q.1, q.2) :: ps) H3) h
theorem s_dlit {ks vs : List D} {xs : List (Option Expr)} {ys : List Expr} (h : litsOk ks vs xs ys = true) (h0 : ks.isEmpty = false) (h15 : ks.length ≤ 15) : PE X (.Dict xs ys pos) (tE X cv W Φ (.dlit ks vs)) := by
  obtain ⟨kvs, p1, p2, p3, p4, p5, p6, p7, p8⟩ := lits_pps (X := X) (pos := pos) h
  refine (pe_disp p1 p5 p6 (fun z => ?_) (by rw [← p7]; exact h15)).imp fun σ H Q q p hp => ?_
  · rw [z] at p7
    cases ks with
    | nil => cases h0
    | cons _ _ => cases p7
  · obtain ⟨B, as, M, env, S, rr, q⟩ := q
    refine pairs_c ⟨upd_same, kvs, rfl, by rw [p8]; exact h15, ?_⟩
    rw [upd_upd, merge_new p3 (fun _ _ a z => (List.not_mem_nil z).elim), List.nil_append]
    exact dnew_post (t := false) (ks := ks) (vs := vs) S hp ⟨kvs, upd_same, keysOf_map.mpr p2, p4⟩ q
theorem s_dun {e : E} {k : Nat} {p1 : Pos} (h : XH c Φ cv X W) (he : PE X y (tE X cv W Φ e)) : PE X (.Dict [some (.Tuple [] k p1)] [y] pos) (tE X cv W Φ (.dun e)) := by
  refine (pe_dun (hu1 h) (pe_tup pa_nil) he).imp fun σ H Q q p hp => ?_
  obtain ⟨B, as, M, env, S, rr, q⟩ := q
  refine ⟨by rw [sizeLine_eq]; decide, fun b hb => ?_⟩
  have nb : ¬ B p := fun b => S.b0 p b hp
  have hbp : b ≠ p := fun z => by
    rw [z, upd_same] at hb
    cases hb
  have S1 := S.hide (o := .dT []) hp
  have S2 : Sim X.K (upd (upd H p (.dT [])) b (.tup [])) (fun a => B a ∨ a = p) as M := Sim.laid S1 hb
  have g2 : Go as M (upd H p (.dT [])) as M (upd (upd H p (.dT [])) b (.tup [])) := Go.laid S1 hb
  have r2 : EnvR X.K (upd (upd H p (.dT [])) b (.tup [])) (Av (fun a => B a ∨ a = p) as M) as env σ := ⟨rr.len, fun i d e => by
    obtain ⟨v, z1, z2⟩ := rr.get i d e
    exact ⟨v, z1, g2.rp S1 (hide_rp hp z2)⟩⟩
  have g0 : Go as M H as M (upd (upd H p (.dT [])) b (.tup [])) := (Go.laid S hp).trans g2
  refine ⟨fun a => B a ∨ a = p, as, M, env, S2, r2, ?_⟩
  have q : PostD X.K H B as M (exW W cv σ) ((evE Φ e env M).bind fun d M1 => .ok (.ref M1.length) (M1 ++ [⟨true, .dct true [.ktp []] [d]⟩])) Q := q
  cases ee : evE Φ e env M with
  | ok d M1 =>
    rw [ee] at q
    intro as1 H1 v g1 S1' rv
    have hp1 : H1 p = some (.dT []) := g1.keep p _ (by rw [upd_ne (Ne.symm hbp), upd_same]) fun l => S.fresh hp l.mem
    have hb1 : H1 b = some (.tup ([] : List V)) := g1.keep b _ upd_same fun l => by
      exact S1.fresh hb l.mem
    refine ⟨hp1, b, [], rfl, hb1, ?_⟩
    obtain ⟨ga, Sa⟩ := adopt (ob1 := .dT [([], v)]) (d := .dct true [.ktp []] [d]) (g0.trans g1) S1' hp nb hp1 (fun _ z => by cases z) (fun _ _ z => by cases z) rfl (fun w1 => ⟨[([], v)], upd_same, rfl, Rps.one (w1 rv)⟩)
    refine q _ _ _ ga Sa ⟨p, ?_, rfl⟩
    rw [← S1'.len, List.getElem?_append_right (Nat.le_refl _), Nat.sub_self]; rfl
  | exc k M1 =>
    rw [ee] at q
    intro as1 H1 g1 S1'
    exact q as1 H1 (g0.trans g1) (S1'.drop fun a b => .inl b)
  | bad => rw [ee] at q; exact q
theorem s_dlst {m : Bool} {a : E} {p0 : Pos} (h : XH c Φ cv X W) (hcool : c.hot = false) (h1 : glOk c.sc ("list" : Str) = true) (hx : shp x = true) (ha : PE X x (tE X cv W Φ a)) : PE X (.Call (.Name ("list" : Str) p0) [x] [] pos) (tE X cv W Φ (.dlst m a)) := by
  have rule : CallR X (.type "list") (fun xs H Q => (∃ p kvs, xs = [.ref p] ∧ H p = some (.dK kvs) ∧ ∀ q, H q = none → Q (.ref q) (upd H q (.lst (kvs.map fun kv => kV kv.1)))) ∨
      ∃ d kvs, xs = [V.ref d] ∧ Rd H d (.dT kvs) ∧ ∀ p bs, H p = none → IsKeys H kvs bs → Q (.ref p) (upd H p (.lst (bs.map V.ref)))) := fun pins s σ H xs us Q I r q => by
    rcases q with q | q
    · exact call_list_dK (h.calm hcool) pins s σ H xs us Q I r q
    · exact call_list_dT (h.calm hcool) pins s σ H xs us Q I r q
  refine (pe_callTy rule (gl_of h h1) (h.bi "list" (by decide)) boot_list (pa_cons ha pa_nil (shp_star hx)) (by decide) (by decide) (shp_star hx) rfl).imp fun σ H Q q => ?_
  obtain ⟨B, as, M, env, S, rr, q⟩ := q
  refine ⟨B, as, M, env, S, rr, post_bind q fun d M1 as1 H1 v hq1 g1 S1 ra q1 => ?_⟩
  unfold dlstD at q1
  split at q1
  · rename_i i
    split at q1
    · rename_i t ks vs hc
      obtain ⟨p, e, rfl⟩ := ra
      have qc := S1.cell i p _ e hc
      cases t
      · obtain ⟨kvs, s, k, _⟩ := qc
        refine .inl ⟨p, kvs, rfl, s, ?_⟩
        have rk : Rps X.K H1 (Av B as1 M1) as1 ks (kvs.map fun kv => kV kv.1) := by
          have e3 : (kvs.map fun kv => kV kv.1) = (kvs.map (·.1)).map kV := by rw [List.map_map]; rfl
          rw [e3]
          exact rps_kV k
        exact (new_post S1 rk q1).2
      · obtain ⟨kvs, s, k, _⟩ := qc
        refine .inr ⟨p, kvs, rfl, .inl s, fun q bs hq hb => ?_⟩
        have rk : ∀ {ks : List D} {kvs : List (List Key × V)} {bs : List Addr}, ks.map keyT = (kvs.map (·.1)).map some → IsKeys H1 kvs bs → Rps X.K H1 (Av B as1 M1) as1 ks (bs.map V.ref) := fun {ks} => by
          induction ks with
          | nil =>
            intro kvs bs hk hb
            cases kvs with
            | nil => cases hb; rfl
            | cons _ _ => cases hk
          | cons x ks ih =>
            intro kvs bs hk hb
            cases kvs with
            | nil => cases hk
            | cons kv kvs =>
              rw [List.map_cons, List.map_cons, List.map_cons, List.cons.injEq] at hk
              cases bs with
              | nil => cases hb
              | cons b bs =>
                cases hb with
                | cons h1 h2 => exact ⟨_, _, rfl, rp_kT hk.1 h1, ih hk.2 h2⟩
        exact (new_post S1 (rk (keysT_map.mp k) hb) q1).2 q hq
    · exact q1.elim
  · exact q1.elim
theorem feed_keysK {B : Addr → Prop} {as : List Addr} {M : List Cell} {H : Hp} {d : Addr} {o : Obj} {kvs : List (Key × V)} {ks : List D} (hd : H d = some (.frz o (.dK kvs))) (nl : ¬ Live as M d) (hk : ks.map keyOf = (kvs.map (·.1)).map some) : Feed X B as M H ks (Itk d o kvs) := by
  intro B' as' M' H' hB g S'
  have h' := g.keep _ _ hd nl
  have hl : ks.length = kvs.length := by
    have := congrArg List.length hk
    simpa using this
  refine ⟨fun i hi => ⟨h', by omega⟩, fun i hi => ⟨h', by omega⟩, fun i dd x H'' e y => ?_⟩
  obtain ⟨rfl, k, v, e1, rfl⟩ := y
  refine ⟨Go.refl, S', rp_kV ?_, fun _ _ h => h⟩
  have := congrArg (fun l => l[i]?) hk
  simp only [List.getElem?_map, e, e1, Option.map_some] at this
  exact Option.some.inj this
theorem feed_keysT {B : Addr → Prop} {as : List Addr} {M : List Cell} {H : Hp} {d : Addr} {o : Obj} {kvs : List (List Key × V)} {ks : List D} (hd : H d = some (.frz o (.dT kvs))) (nl : ¬ Live as M d) (hk : ks.map keyT = (kvs.map (·.1)).map some) : Feed X B as M H ks (Itkt d o kvs) := by
  intro B' as' M' H' hB g S'
  have h' := g.keep _ _ hd nl
  have hl : ks.length = kvs.length := by
    have := congrArg List.length hk
    simpa using this
  refine ⟨fun i hi => ⟨h', by omega⟩, fun i hi => ⟨h', by omega⟩, fun i dd x H'' e y => ?_⟩
  obtain ⟨rfl, k, v, q, e1, rfl, e2⟩ := y
  refine ⟨Go.refl, S', rp_kT ?_ e2, fun _ _ h => h⟩
  have := congrArg (fun l => l[i]?) hk
  simp only [List.getElem?_map, e, e1, Option.map_some] at this
  exact Option.some.inj this
theorem feed_vals {B : Addr → Prop} {as : List Addr} {M : List Cell} {H : Hp} {d : Addr} {o : Obj} {kvs : List (Key × V)} {vs : List D} (S : Sim X.K H B as M) (hd : H d = some (.frz o (.dK kvs))) (nl : ¬ Live as M d) (r : Rps X.K H (Av B as M) as vs (kvs.map (·.2))) : Feed X B as M H vs (Itd d o kvs) := by
  intro B' as' M' H' hB g S'
  have h' := g.keep _ _ hd nl
  have r' := g.rps2 S hB r
  have hl : vs.length = kvs.length := by
    have := r.len
    rw [List.length_map] at this
    omega
  refine ⟨fun i hi => ⟨h', by omega⟩, fun i hi => ⟨h', by omega⟩, fun i dd x H'' e y => ?_⟩
  obtain ⟨rfl, k, e1⟩ := y
  obtain ⟨v, e2, e3⟩ := r'.get e
  rw [List.getElem?_map, e1] at e2
  cases e2
  exact ⟨Go.refl, S', e3, fun _ _ h => h⟩
theorem s_keys {a : E} (ha : PE X x (tE X cv W Φ a)) : PI X tg x (tI X cv W Φ (.keys a)) :=
  (pi_keys (pe_lk ha)).imp fun σ H R q => by
    obtain ⟨B, as, M, env, S, r, q⟩ := q
    refine ⟨B, as, M, env, S, r, post_bind q fun d M1 as1 H1 v hq1 g1 S1 ra q1 => ?_⟩
    split at q1
    · rename_i t ks vs M2 e
      obtain ⟨p, rfl, hc, nl⟩ := lock_rp S1 ra e
      refine ⟨p, rfl, ?_⟩
      rcases hc with ⟨dk, go⟩ | ⟨od, dk, rfl⟩
      · cases t
        · obtain ⟨kvs, s, k, _⟩ := dk
          refine .inl ⟨_, s, True.intro, fun od => ?_⟩
          obtain ⟨g2, S2⟩ := go od _ s
          exact ⟨p, od, rfl, .inl ⟨kvs, upd_same, q1 as1 _ _ g2 S2 (feed_keysK upd_same nl k)⟩⟩
        · obtain ⟨kvs, s, k, _⟩ := dk
          refine .inl ⟨_, s, True.intro, fun od => ?_⟩
          obtain ⟨g2, S2⟩ := go od _ s
          exact ⟨p, od, rfl, .inr ⟨kvs, upd_same, q1 as1 _ _ g2 S2 (feed_keysT upd_same nl k)⟩⟩
      · refine .inr ?_
        cases t
        · obtain ⟨kvs, s, k, _⟩ := dk
          exact ⟨p, od, rfl, .inl ⟨kvs, s, q1 as1 _ _ Go.refl S1 (feed_keysK s nl k)⟩⟩
        · obtain ⟨kvs, s, k, _⟩ := dk
          exact ⟨p, od, rfl, .inr ⟨kvs, s, q1 as1 _ _ Go.refl S1 (feed_keysT s nl k)⟩⟩
    · exact q1.elim
theorem s_vals {a : E} {apos : Pos} (hl : (apos.endLine == pos.line) = true) (hx : shp x = true) (ha : PE X x (tE X cv W Φ a)) : PI X tg (.Call (.Attribute x ("values" : Str) apos) [] [] pos) (tI X cv W Φ (.vals a)) :=
  (pi_values (pe_lk ha) (shp_base hx) hl).imp fun σ H R q => by
    obtain ⟨B, as, M, env, S, r, q⟩ := q
    refine ⟨B, as, M, env, S, r, post_bind q fun d M1 as1 H1 v hq1 g1 S1 ra q1 => ?_⟩
    split at q1
    · rename_i ks vs M2 e
      obtain ⟨p, rfl, hc, nl⟩ := lock_rp S1 ra e
      refine ⟨p, rfl, ?_⟩
      rcases hc with ⟨dk, go⟩ | ⟨od, dk, rfl⟩
      · obtain ⟨kvs, s, k, rv⟩ := dk
        refine .inl ⟨_, s, True.intro, fun od => ?_⟩
        obtain ⟨g2, S2⟩ := go od _ s
        exact ⟨p, od, kvs, rfl, upd_same, q1 as1 _ _ g2 S2 (feed_vals S2 upd_same nl (g2.rps S1 rv))⟩
      · obtain ⟨kvs, s, k, rv⟩ := dk
        exact .inr ⟨p, od, kvs, rfl, s, q1 as1 _ _ Go.refl S1 (feed_vals S1 s nl rv)⟩
    · exact q1.elim
end
end
end Sg

namespace Sg
noncomputable section
open PySem PySem.Spec PyProof.Rows L2
section
variable {X : Cx} {o : Expr} {p pos apos mpos : Pos} {td : TE}
def tMaxVals (td : TE) : TE := fun σ H Q => td σ H fun x H1 => ∃ a kvs is, x = V.ref a ∧ Rd H1 a (.dK kvs) ∧ kvs.map (·.2) = is.map V.int ∧ is ≠ [] ∧ ∀ m, m ∈ is → (∀ j ∈ is, j ≤ m) → Q (.int m) H1
theorem pe_maxVals (hc : X.calm = true) (hg : Gl X "max") (hm : X.mg "max" = none) (hd : PE X o td) (hbase : attributeBase o "values" X.env (eval o X.env) = eval o X.env) (hline : (apos.endLine == mpos.line) = true) :
    PE X (.Call (.Name "max" p) [.Call (.Attribute o "values" apos) [] [] mpos] [] pos) (tMaxVals td) := by
  refine ⟨fun pins s σ H Q I h => ?_⟩
  refine wpAny_Call_Name_kw (ld_blt I hg hm (u := .builtin "max") (by first | rfl | decide +kernel) ?_ (by first | decide +kernel | decide) (by first | decide +kernel | decide))
  have hse : starEach [Expr.Call (.Attribute o "values" apos) [] [] mpos] X.env = [(false, eval (Expr.Call (.Attribute o "values" apos) [] [] mpos) X.env)] := rfl
  rw [hse]
  refine PySem.callWith_builtin1 (wpAny_Call_method0_late hbase hline (thn (hd.run pins s σ H _ I h) fun v s1 ⟨x, H1, I1, r1, a, kvs, is, ex, ha, hv, hne, q⟩ => ?_))
  subst ex
  cases (show v = Value.ref a from r1)
  obtain ⟨_, hsys, vs, rel, dof⟩ := dk_rd I1.hok ha
  obtain ⟨ep, dat⟩ := dof.dictAt
  obtain ⟨ob, es, ho, ex, hdat, hko, hpr, hnd⟩ := id dat
  refine ⟨"dict", "dict.values", F.plainAttrs_dict, F.slot_dict_values, F.type_dict_values, ⟨ob, ho, ex.1⟩, fun b e => ?_, Calls.callWith_builtin rfl (PySem.evalArgs_none ?_)⟩
  · cases e
    exact ⟨ob, ho, ex.2.1⟩
  refine call_meetsIn F.slot_dict_values ⟨ob, ho, ex.1⟩ F.entry_dict_values (F.args_dict_values_1 _) (meets_dict_values (mixKind X.prog X.w) a hsys) ⟨⟨vs, dof⟩, ?_⟩
  generalize hh : s1.heap.push { cls := .type "dict_values", data := .fields #[.ref a] } = h2
  have k1 : ∀ b u, s1.heap.get? b = some u → h2.get? b = some u := fun b u e => by rw [← hh]; exact Heap.get?_push_of_some _ e
  have hview : h2.get? s1.heap.objs.size = some { cls := .type "dict_values", data := .fields #[.ref a] } := by rw [← hh]; exact Heap.get?_push_size _ rfl
  have hsz : h2.objs.size = s1.heap.objs.size + 1 := by rw [← hh]; exact Heap.size_push _ _
  have dat1 : h2.DictAt (mixKind X.prog X.w) a vs ep := dat.keep k1
  have hlv : vs.length = is.length := by
    have e1 := congrArg List.length hv
    simp only [List.length_map] at e1
    rw [← e1, KV.length rel]
  have hpos : 0 < vs.length := by rw [hlv]; exact List.length_pos_iff.mpr hne
  have hval : ∀ (i : Nat) (v : Value), (∃ k, vs[i]? = some (k, v)) → ∃ t, v = Value.int (is.getD i 0) t := fun i v ⟨k, hk⟩ => by
    obtain ⟨x, h1, h2⟩ := KV.at' rel hk
    have e1 : (is.map V.int)[i]? = some x := by rw [← hv, List.getElem?_map, h1]; rfl
    rw [List.getElem?_map] at e1
    cases hj : is[i]? with
    | none => rw [hj] at e1; cases e1
    | some j =>
      rw [hj] at e1
      cases e1
      obtain ⟨t, e3⟩ := h2
      exact ⟨t, by rw [e3, List.getD_eq_getElem?_getD, hj]; rfl⟩
  have hlt : a < s1.heap.objs.size := Heap.lt_size ho
  refine call_max_walk (wpAny_pyIter_values (v := s1.heap.objs.size) (d := a) ⟨_, hview, rfl, rfl⟩ dat1 ?_)
  refine ⟨_, _, _, _, _, _, _, rfl, Walks.dictValues (knd := mixKind X.prog X.w) (A := X.A.in1) (I.ok.hd hc) h2.objs.size a (by rw [hsz]; exact Nat.ne_of_lt (Nat.lt_succ_of_lt hlt)) vs ep,
    ⟨⟨_, Heap.get?_push_size _ rfl, rfl, rfl⟩, dat1.keep fun b u e => Heap.get?_push_of_some _ e⟩, fun b hb => ?_, hpos, CmpOf.ints_gt (fun i => is.getD i 0) hval, fun v h' tk hP hk => ?_⟩
  · show b < (h2.push _).objs.size
    rw [Heap.size_push]
    rcases List.mem_cons.mp hb with e | hb
    · rw [e]
      exact Nat.lt_succ_self _
    · rw [List.mem_singleton.mp hb, hsz]
      exact Nat.lt_succ_of_lt (Nat.lt_succ_of_lt hlt)
  · obtain ⟨t, rfl⟩ := hval _ v hP
    obtain ⟨b1, b2⟩ := argBest_gt (fun i => is.getD i 0) (vs.length - 1)
    refine ⟨.int _, H1, I1.kept (t' := tk) fun b u e => hk b u (fun hmem => ?_) (Heap.get?_push_of_some _ (k1 b u e)), ⟨t, rfl⟩, q _ ?_ fun j hj => ?_⟩
    · have e1 : b = h2.objs.size := List.mem_singleton.mp hmem
      have e2 := Heap.lt_size e
      rw [e1, hsz] at e2
      exact absurd e2 (Nat.not_lt.mpr (Nat.le_succ _))
    · have hb : argBest (fun i j => decide (is.getD i 0 > is.getD j 0)) (vs.length - 1) < is.length := by omega
      rw [List.getD_eq_getElem?_getD, List.getElem?_eq_getElem hb]
      exact List.getElem_mem hb
    · obtain ⟨i, hi, e⟩ := List.mem_iff_getElem.mp hj
      have e2 : is.getD i 0 = j := by rw [List.getD_eq_getElem?_getD, List.getElem?_eq_getElem hi, ← e]; rfl
      rw [← e2]
      exact b2 i (by omega)
end
section
variable {X : Cx} {cv : Nat → Value} {W : WX} {Φ : Phi} {c : Ctx} {x : Expr} {pos apos mpos p0 : Pos}
theorem ints_rps {K : PySem.W.Frag} {H : Hp} {B : Addr → Prop} {as : List Addr} : ∀ {vs : List D} {us : List V} {r : List Int}, intsOf vs = some r → Rps K H B as vs us → us = r.map V.int
  | [], us, r, h, q => by
    cases h
    exact q
  | d :: vs, us, r, h, q => by
    cases d with
    | int i =>
      cases e : intsOf vs with
      | none =>
        have h : (intsOf vs).map _ = some r := h
        rw [e] at h
        cases h
      | some r' =>
        have h : (intsOf vs).map (fun r => i :: r) = some r := h
        rw [e] at h
        cases h
        obtain ⟨u, us', rfl, h1, h2⟩ := q
        have h1 : u = .int i := h1
        rw [h1, ints_rps e h2, List.map_cons]
    | _ => cases h
theorem maxI_is : ∀ (i : Int) (r : List Int) (m : Int), m ∈ i :: r → (∀ j ∈ i :: r, j ≤ m) → maxI (i :: r) = m := fun i r m h1 h2 => by
  obtain ⟨h3, h4⟩ := maxI_max i r
  exact Int.le_antisymm (h2 _ h3) (h4 _ h1)
theorem s_dmax {a : E} (h : XH c Φ cv X W) (hcool : c.hot = false) (h1 : glOk c.sc ("max" : Str) = true) (hl : (apos.endLine == mpos.line) = true) (hx : shp x = true) (ha : PE X x (tE X cv W Φ a)) :
    PE X (.Call (.Name ("max" : Str) p0) [.Call (.Attribute x ("values" : Str) apos) [] [] mpos] [] pos) (tE X cv W Φ (.dmax a)) :=
  (pe_maxVals (h.calm hcool) (gl_of h h1) (h.bi "max" (by decide)) ha (shp_base hx) hl).imp fun σ H Q q => by
    obtain ⟨B, as, M, env, S, rr, q⟩ := q
    refine ⟨B, as, M, env, S, rr, post_bind q fun d M1 as1 H1 v hq1 g1 S1 ra q1 => ?_⟩
    cases e : dvalsD M1 d with
    | none => rw [e] at q1; exact q1.elim
    | some l =>
      rw [e] at q1
      cases l with
      | nil => exact q1.elim
      | cons i r =>
        unfold dvalsD at e
        split at e
        · rename_i ks vs e1
          obtain ⟨p, rfl, dk⟩ := dct_rp S1 ra e1
          obtain ⟨kvs, s, k, rv⟩ := dk
          have ev := ints_rps e rv
          refine ⟨p, kvs, i :: r, rfl, s, ev, by simp, fun m hm1 hm2 => ?_⟩
          rw [← maxI_is i r m hm1 hm2]
          exact q1 as1 H1 _ Go.refl S1 rfl
        · cases e
end
end
end Sg

namespace Sg
noncomputable section
open PySem PySem.Spec PyProof.Rows L2
section
variable {cv : Nat → Value} {Φ : Phi}
theorem _root_.L2.PTs.imp {X : Cx} {xs : List Expr} {t t' : TT} (h : PTs X xs t) (k : ∀ σ H Q, t' σ H Q → t σ H Q) : PTs X xs t' := ⟨fun pins s σ H Q I q => h.run pins s σ H Q I (k σ H Q q)⟩
theorem okT_shape {t : T} {c : Ctx} {x : Expr} (h : okT t c x = true) : (∃ n p, x = .Name n p) ∨ (∃ es k p, x = .Tuple es k p) ∨ ∃ a b p, x = .Subscript a b p := by
  cases t <;> (unfold okT at h; split at h <;> first | exact .inl ⟨_, _, rfl⟩ | exact .inr (.inl ⟨_, _, _, rfl⟩) | exact .inr (.inr ⟨_, _, _, rfl⟩) | cases h)
theorem okTs_facts : (ts : Ts) → (c : Ctx) → (xs : List Expr) → okTs ts c xs = true → noStar xs = true ∧ tsLen ts = xs.length
  | .nil, c, xs, h => by
    unfold okTs at h
    cases xs with
    | nil => exact ⟨rfl, rfl⟩
    | cons _ _ => cases h
  | .cons t ts, c, xs, h => by
    unfold okTs at h
    cases xs with
    | nil => cases h
    | cons y ys =>
      simp only [Bool.and_eq_true] at h
      obtain ⟨h1, h2⟩ := okTs_facts ts c ys h.2
      refine ⟨?_, by simp [tsLen, h2]⟩
      rcases okT_shape h.1 with ⟨_, _, rfl⟩ | ⟨_, _, _, rfl⟩ | ⟨_, _, _, rfl⟩ <;> exact h1
theorem okT_each {t : T} {c : Ctx} {x : Expr} {ys : List Expr} {env : Env} (h : okT t c x = true) : (assignEach (x :: ys) env).map (·.2) = assign x env :: (assignEach ys env).map (·.2) := by
  rcases okT_shape h with ⟨_, _, rfl⟩ | ⟨_, _, _, rfl⟩ | ⟨_, _, _, rfl⟩ <;> rfl
theorem okIt_shp : (it : It) → (c : Ctx) → (tp : Bool) → (x : Expr) → okIt it c tp x = true → shp x = true
  | .val e, c, tp, x, k => by unfold okIt at k; exact okE_shp _ _ _ k
  | .rng1 _, c, tp, x, k => by unfold okIt at k; split at k <;> first | rfl | cases k
  | .rng2 _ _, c, tp, x, k => by unfold okIt at k; split at k <;> first | rfl | cases k
  | .rng3 _ _ _, c, tp, x, k => by unfold okIt at k; split at k <;> first | rfl | cases k
  | .zip _ _, c, tp, x, k => by unfold okIt at k; split at k <;> first | rfl | cases k
  | .enum _, c, tp, x, k => by unfold okIt at k; split at k <;> first | rfl | cases k
  | .rev _, c, tp, x, k => by unfold okIt at k; split at k <;> first | rfl | cases k
  | .revR _, c, tp, x, k => by unfold okIt at k; split at k <;> first | rfl | cases k
  | .revR2 _ _, c, tp, x, k => by unfold okIt at k; split at k <;> first | rfl | cases k
  | .keys _, c, tp, x, k => by unfold okIt at k; exact okE_shp _ _ _ k
  | .chars _, c, tp, x, k => by unfold okIt at k; exact okE_shp _ _ _ k
  | .vals _, c, tp, x, k => by unfold okIt at k; split at k <;> first | rfl | cases k
/-- what the slots are by now -/
theorem snap_env {K : PySem.W.Frag} {H : Hp} {B : Addr → Prop} {as : List Addr} {M : List Cell} {env : St} {σ : St2} (S : Sim K H B as M) (r : EnvR K H (Av B as M) as env σ) : EnvR K H (Av B [] []) [] (env.map fun o => o.bind (imm M)) σ := by
  refine ⟨by rw [List.length_map]; exact r.len, fun i d e => ?_⟩
  rw [List.getElem?_map] at e
  cases e1 : env[i]? with
  | none => rw [e1] at e; cases e
  | some o =>
    rw [e1] at e
    cases o with
    | none => cases e
    | some d0 =>
      have e2 : imm M d0 = some d := Option.some.inj e
      obtain ⟨v, h1, h2⟩ := r.get i d0 e1
      exact ⟨v, h1, Rp.mono List.prefix_rfl (fun _ _ z => z) (fun _ _ z => z) (fun a u z w => ⟨z, av_none w⟩) (fun _ _ _ z => z) d v (imm_rp S e2 h2)⟩
theorem s_snap {X : Cx} {W : WX} {x : Expr} {e : E} (h : PE X x (tE X cv W Φ e)) : PE X x (tE X cv W Φ (.snap e)) := h.imp fun σ H Q q => by
  obtain ⟨B, as, M, env, S, r, q⟩ := q
  refine ⟨B, [], [], env.map fun o => o.bind (imm M), sim_none S.b0, snap_env S r, ?_⟩
  have q : PostD X.K H B as M (exW W cv σ) (match evE Φ e (env.map fun o => o.bind (imm M)) [] with
    | .ok d _ => if isFlat d = true then .ok d M else .bad
    | .exc c _ => .exc c M
    | .bad => .bad) Q := q
  cases e1 : evE Φ e (env.map fun o => o.bind (imm M)) [] with
  | ok d M1 =>
    rw [e1] at q
    intro as' H' v g S' rv
    dsimp only at q
    split at q
    · rename_i hf
      obtain ⟨g1, S1⟩ := go_none S g
      exact q as H' v g1 S1 (isFlat_rp d v hf rv)
    · exact q.elim
  | exc c M1 =>
    rw [e1] at q
    intro as' H' g S'
    obtain ⟨g1, S1⟩ := go_none S g
    exact q as H' g1 S1
  | bad => rw [e1] at q; exact q
theorem toBl_content {d : D} {M : List Cell} {xs : List D} (h : content M d = some xs) : (toBl d M : R Bool) = .bad := by
  cases d <;> first | rfl | cases h
theorem st_snap {X : Cx} {W : WX} {x : Expr} {e : E} (h : PT X x (tT X cv W Φ e)) : PT X x (tT X cv W Φ (.snap e)) := h.imp fun σ H Q q => by
  obtain ⟨B, as, M, env, S, r, q⟩ := q
  refine ⟨B, [], [], env.map fun o => o.bind (imm M), sim_none S.b0, snap_env S r, ?_⟩
  have q : PostG X.K H B as M (exW W cv σ) relEq ((match evE Φ e (env.map fun o => o.bind (imm M)) [] with
    | .ok d _ => if isFlat d = true then .ok d M else .bad
    | .exc c _ => .exc c M
    | .bad => .bad : R D).bind toBl) Q := q
  show PostG X.K H B [] [] (exW W cv σ) relEq ((evE Φ e (env.map fun o => o.bind (imm M)) []).bind toBl) Q
  cases e1 : evE Φ e (env.map fun o => o.bind (imm M)) [] with
  | ok d M1 =>
    rw [e1] at q
    cases d with
    | bl k =>
      intro as' H' v g S' rv
      obtain ⟨g1, S1⟩ := go_none S g
      exact q as H' v g1 S1 rv
    | _ =>
      have q : PostG X.K H B as M (exW W cv σ) relEq ((if _ = true then R.ok _ M else R.bad).bind toBl) Q := q
      split at q <;> exact q.elim
  | exc c M1 =>
    rw [e1] at q
    intro as' H' g S'
    obtain ⟨g1, S1⟩ := go_none S g
    exact q as H' g1 S1
  | bad => rw [e1] at q; exact q
theorem cool_bi {c : Ctx} {f : Bi} (h : (!c.hot || coolBi f) = true) (z : coolBi f = false) : c.hot = false := by
  rw [z, Bool.or_false, Bool.not_eq_true'] at h
  exact h
mutual
theorem soundE : (e : E) → (c : Ctx) → (X : Cx) → (W : WX) → (x : Expr) → XH c Φ cv X W → okE e c x = true → PE X x (tE X cv W Φ e)
  | .var i, c, X, W, x, h, k => by
    unfold okE at k
    split at k
    · simp only [Bool.and_eq_true] at k
      exact s_var h (of_decide_eq_true k.1.1) k.1.2 k.2
    · cases k
  | .c d, c, X, W, x, h, k => by
    unfold okE at k
    split at k
    · exact s_const k
    · cases k
  | .glob n d, c, X, W, x, h, k => by
    unfold okE at k
    split at k
    · simp only [Bool.and_eq_true] at k
      have e := of_decide_eq_true k.1.1.1
      subst e
      exact s_glob h k.1.1.2 k.1.2 k.2
    · cases k
  | .bin m op a b, c, X, W, x, h, k => by
    unfold okE at k
    split at k
    · simp only [Bool.and_eq_true] at k
      have e := of_decide_eq_true k.1.1
      subst e
      exact s_bin (soundE a c X W _ h k.1.2) (soundE b c X W _ h k.2)
    · cases k
  | .un op a, c, X, W, x, h, k => by
    unfold okE at k
    split at k
    · simp only [Bool.and_eq_true] at k
      have e := of_decide_eq_true k.1
      subst e
      exact s_un (soundE a c X W _ h k.2)
    · cases k
  | .cmp op a b, c, X, W, x, h, k => by
    unfold okE at k
    split at k
    · simp only [Bool.and_eq_true] at k
      have e := of_decide_eq_true k.1.1
      subst e
      exact s_cmp h (soundE a c X W _ h k.1.2) (soundE b c X W _ h k.2) (okE_shp _ _ _ k.2)
    · cases k
  | .chain o1 o2 a b d, c, X, W, x, h, k => by
    unfold okE at k
    split at k
    · simp only [Bool.and_eq_true] at k
      obtain ⟨⟨⟨⟨k1, k2⟩, k3⟩, k4⟩, k5⟩ := k
      have e1 := of_decide_eq_true k1
      have e2 := of_decide_eq_true k2
      subst e1 e2
      exact s_chain h (soundE a c X W _ h k3) (soundE b c X W _ h k4) (soundE d c X W _ h k5) (okE_shp _ _ _ k5)
    · cases k
  | .bop op es, c, X, W, x, h, k => by
    unfold okE at k
    split at k
    · simp only [Bool.and_eq_true] at k
      have e := of_decide_eq_true k.1
      subst e
      exact soundB es op c X W _ _ h k.2
    · cases k
  | .ite a b d, c, X, W, x, h, k => by
    unfold okE at k
    split at k
    · simp only [Bool.and_eq_true] at k
      exact s_ite (soundT a c X W _ h k.1.1) (soundE b c X W _ h k.1.2) (soundE d c X W _ h k.2)
    · cases k
  | .tup es, c, X, W, x, h, k => by
    unfold okE at k
    split at k
    · exact s_tup (soundEs es c X W _ h k)
    · cases k
  | .lst m es, c, X, W, x, h, k => by
    unfold okE at k
    split at k
    · exact s_lst (soundEs es c X W _ h k)
    · cases k
  | .idx a b, c, X, W, x, h, k => by
    unfold okE at k
    split at k
    · simp only [Bool.and_eq_true] at k
      exact s_idx (soundE a c X W _ h k.1) (soundE b c X W _ h k.2) (okE_shp _ _ _ k.2)
    · cases k
  | .slc m a lo hi, c, X, W, x, h, k => by
    unfold okE at k
    split at k
    · simp only [Bool.and_eq_true] at k
      exact s_slc (soundE a c X W _ h k.1.1) (soundO lo c X W _ h k.1.2) (soundO hi c X W _ h k.2)
    · cases k
  | .call f mode es, c, X, W, x, h, k => by
    unfold okE at k
    split at k
    · simp only [Bool.and_eq_true] at k
      rw [Bool.not_eq_true'] at k
      obtain ⟨k0, k⟩ := k
      exact s_call h k0 (of_decide_eq_true k.1.1.1) k.1.1.2 k.1.2 (okEs_shp es c _ k.2) (soundEs es c X W _ h k.2)
    · cases k
  | .bi f es, c, X, W, x, h, k => by
    unfold okE at k
    split at k
    · simp only [Bool.and_eq_true] at k
      have e := of_decide_eq_true k.1.1.1
      subst e
      exact s_bi h (fun z => cool_bi k.1.1.2 z) k.1.2 (okEs_shp es c _ k.2) (soundEs es c X W _ h k.2)
    · cases k
  | .isi a t, c, X, W, x, h, k => by
    unfold okE at k
    split at k
    · simp only [Bool.and_eq_true] at k
      obtain ⟨⟨⟨⟨k1, k2⟩, k3⟩, k4⟩, k5⟩ := k
      have e1 := of_decide_eq_true k1
      have e2 := of_decide_eq_true k2
      subst e1 e2
      exact s_isi h k3 k4 (okE_shp _ _ _ k5) (soundE a c X W _ h k5)
    · cases k
  | .meth f a es, c, X, W, x, h, k => by
    unfold okE at k
    split at k
    · simp only [Bool.and_eq_true] at k
      obtain ⟨⟨⟨⟨k1, k2⟩, k3⟩, k4⟩, k5⟩ := k
      have e1 := of_decide_eq_true k1
      subst e1
      refine s_meth k2 (soundE a c X W _ h k3) (okE_shp _ _ _ k3) (okEs_shp es c _ k4) (of_decide_eq_true k5) (soundEs es c X W _ h k4) fun env M e => ?_
      subst e
      cases es with
      | nil => rfl
      | cons _ _ => unfold okEs at k4; cases k4
    · cases k
  | .tm f a es, c, X, W, x, h, k => by
    unfold okE at k
    split at k
    · simp only [Bool.and_eq_true] at k
      obtain ⟨⟨⟨⟨k1, k2⟩, k3⟩, k4⟩, k5⟩ := k
      have e1 := of_decide_eq_true k1
      subst e1
      refine s_tm k2 (soundE a c X W _ h k3) (okE_shp _ _ _ k3) (okEs_shp es c _ k4) (of_decide_eq_true k5) (soundEs es c X W _ h k4) fun env M e => ?_
      subst e
      cases es with
      | nil => rfl
      | cons _ _ => unfold okEs at k4; cases k4
    · cases k
  | .comp m own t it cd e, c, X, W, x, h, k => by
    unfold okE at k
    split at k
    · simp only [Bool.and_eq_true] at k
      rename_i elt tg iter ifs scope pos
      obtain ⟨⟨⟨⟨⟨⟨k1, k0⟩, k2⟩, k3⟩, k4⟩, k5⟩, k6⟩ := k
      have hsh := okIt_shp it c _ _ k2
      by_cases hot : c.hot = true
      · cases it with
        | rng1 a =>
          have hi : L2H.PIH X tg iter (tI X cv W Φ (.rng1 a)) := by
            unfold okIt at k2
            split at k2
            · simp only [Bool.and_eq_true] at k2
              have e := of_decide_eq_true k2.1.1
              subst e
              exact s_rng1H h k2.1.2 (okE_shp _ _ _ k2.2) (soundE a c X W _ h k2.2)
            · cases k2
          have hg : ∀ (s : Shared) (H : Hp) (C : Addr) (cl : List (Str × Addr)) (fp : List Addr), PG (SgH.hblk X s H scope (compEnvC scope cl C X.env) fp) tg (tT' X Φ t) := fun s H C cl fp => soundTg t _ (SgH.hblk X s H scope (compEnvC scope cl C X.env) fp) W0 _ (hblk_XH h) k3
          have ht : ∀ (s : Shared) (H : Hp) (C : Addr) (cl : List (Str × Addr)) (fp : List Addr), PTs (SgH.hblk X s H scope (compEnvC scope cl C X.env) fp) ifs (tC X cv W0 Φ cd) := fun s H C cl fp => soundC cd _ (SgH.hblk X s H scope (compEnvC scope cl C X.env) fp) W0 _ (hblk_XH h) k5
          have he : ∀ (s : Shared) (H : Hp) (C : Addr) (cl : List (Str × Addr)) (fp : List Addr), PE (SgH.hblk X s H scope (compEnvC scope cl C X.env) fp) elt (tE X cv W0 Φ e) := fun s H C cl fp => soundE e _ (SgH.hblk X s H scope (compEnvC scope cl C X.env) fp) W0 _ (hblk_XH h) k6
          exact PE.imp (SgH.pe_hlc (own := ownP c.N own) (h.hotc hot) (by rw [h.N]; exact h.nd) hi (blkOk_by (by rw [h.N, h.sc]; exact k1)) hg ht he (fun x => shp_fold hsh x)) (s_comp h k1 k4 hsh)
        | _ => rw [hot] at k0; cases k0
      · have hcool : c.hot = false := Bool.eq_false_iff.mpr hot
        have hi := soundIt it c X W tg iter h k2
        have hg : ∀ (s : Shared) (H : Hp) (C : Addr) (cl : List (Str × Addr)) (fp : List Addr), PG (X.blk s H scope (compEnvC scope cl C X.env) fp) tg (tT' X Φ t) := fun s H C cl fp => soundTg t _ (X.blk s H scope (compEnvC scope cl C X.env) fp) W0 _ (blk_XH hcool h) k3
        have ht : ∀ (s : Shared) (H : Hp) (C : Addr) (cl : List (Str × Addr)) (fp : List Addr), PTs (X.blk s H scope (compEnvC scope cl C X.env) fp) ifs (tC X cv W0 Φ cd) := fun s H C cl fp => soundC cd _ (X.blk s H scope (compEnvC scope cl C X.env) fp) W0 _ (blk_XH hcool h) k5
        have he : ∀ (s : Shared) (H : Hp) (C : Addr) (cl : List (Str × Addr)) (fp : List Addr), PE (X.blk s H scope (compEnvC scope cl C X.env) fp) elt (tE X cv W0 Φ e) := fun s H C cl fp => soundE e _ (X.blk s H scope (compEnvC scope cl C X.env) fp) W0 _ (blk_XH hcool h) k6
        exact PE.imp (pe_lc (own := ownP c.N own) (h.calm hcool) (by rw [h.N]; exact h.nd) hi (blkOk_by (by rw [h.N, h.sc]; exact k1)) hg ht he (fun x => shp_fold hsh x)) (s_comp h k1 k4 hsh)
    · cases k
  | .compV m own t l cd e, c, X, W, x, h, k => by
    unfold okE at k
    split at k
    · simp only [Bool.and_eq_true] at k
      rename_i elt tg iter ifs scope pos
      obtain ⟨⟨⟨⟨⟨⟨k1, k0⟩, k2⟩, k3⟩, k4⟩, k5⟩, k6⟩ := k
      have hcool : c.hot = false := by
        cases hh : c.hot with
        | false => rfl
        | true => rw [hh] at k0; cases k0
      have hsh := okE_shp l c _ k2
      have hi := pi_list (tg := tg) (soundE l c X W iter h k2)
      have hg : ∀ (s : Shared) (H : Hp) (C : Addr) (cl : List (Str × Addr)) (fp : List Addr), PG (X.blk s H scope (compEnvC scope cl C X.env) fp) tg (tT' X Φ t) := fun s H C cl fp => soundTg t _ (X.blk s H scope (compEnvC scope cl C X.env) fp) W0 _ (blk_XH hcool h) k3
      have ht : ∀ (s : Shared) (H : Hp) (C : Addr) (cl : List (Str × Addr)) (fp : List Addr), PTs (X.blk s H scope (compEnvC scope cl C X.env) fp) ifs (tC X cv W0 Φ cd) := fun s H C cl fp => soundC cd _ (X.blk s H scope (compEnvC scope cl C X.env) fp) W0 _ (blk_XH hcool h) k5
      have he : ∀ (s : Shared) (H : Hp) (C : Addr) (cl : List (Str × Addr)) (fp : List Addr), PE (X.blk s H scope (compEnvC scope cl C X.env) fp) elt (tE X cv W0 Φ e) := fun s H C cl fp => soundE e _ (X.blk s H scope (compEnvC scope cl C X.env) fp) W0 _ (blk_XH hcool h) k6
      exact PE.imp (pe_lc (own := ownP c.N own) (h.calm hcool) (by rw [h.N]; exact h.nd) hi (blkOk_by (by rw [h.N, h.sc]; exact k1)) hg ht he (fun x => shp_fold hsh x)) (s_compV h k4)
    · cases k
  | .rep m a b, c, X, W, x, h, k => by
    unfold okE at k
    split at k
    · simp only [Bool.and_eq_true] at k
      have e := of_decide_eq_true k.1.1
      subst e
      exact s_rep (soundE a c X W _ h k.1.2) (soundE b c X W _ h k.2)
    · cases k
  | .snap e, c, X, W, x, h, k => by
    unfold okE at k
    rw [Bool.and_eq_true] at k
    exact s_snap (soundE e c X W x h k.2)
  | .orL a b, c, X, W, x, h, k => by
    unfold okE at k
    split at k
    · simp only [Bool.and_eq_true] at k
      exact s_orL (soundE a c X W _ h k.1) (soundE b c X W _ h k.2)
    · cases k
  | .xis i j, c, X, W, x, h, k => by
    unfold okE at k
    split at k
    · simp only [Bool.and_eq_true] at k
      obtain ⟨k1, k2, k3, k4, k5, k9, k6, k7, k8⟩ := k
      have e := of_decide_eq_true k2
      subst e
      exact s_xis h k1 k3 (of_decide_eq_true k4) k5 k9 (of_decide_eq_true k6) k7 k8
    · cases k
  | .hole, c, X, W, x, h, k => ⟨fun pins s σ H Q I q => by
    obtain ⟨B, as, M, env, S, r, q⟩ := q
    exact q.elim⟩
  | .lrng m a, c, X, W, x, h, k => by
    unfold okE at k
    split at k
    · simp only [Bool.and_eq_true, Bool.not_eq_true'] at k
      obtain ⟨k1, k2, k3, k4, k5, k6⟩ := k
      have e1 := of_decide_eq_true k2
      have e2 := of_decide_eq_true k3
      subst e1 e2
      exact s_lrng h k1 k4 k5 (okE_shp _ _ _ k6) (soundE a c X W _ h k6)
    · cases k
  | .lrng2 m a b, c, X, W, x, h, k => by
    unfold okE at k
    split at k
    · simp only [Bool.and_eq_true, Bool.not_eq_true'] at k
      obtain ⟨k1, k2, k3, k4, k5, k6, k7⟩ := k
      have e1 := of_decide_eq_true k2
      have e2 := of_decide_eq_true k3
      subst e1 e2
      exact s_lrng2 h k1 k4 k5 (okE_shp _ _ _ k6) (okE_shp _ _ _ k7) (soundE a c X W _ h k6) (soundE b c X W _ h k7)
    · cases k
  | .rvl m sl a, c, X, W, x, h, k => by
    unfold okE at k
    split at k
    · simp only [Bool.and_eq_true, Bool.not_eq_true'] at k
      obtain ⟨k0, k1, k2, k3, k4, k5, k6⟩ := k
      have e1 := of_decide_eq_true k2
      have e2 := of_decide_eq_true k3
      subst e1 e2 k0
      exact s_rvl0 h k1 k4 k5 (okE_shp _ _ _ k6) (soundE a c X W _ h k6)
    · simp only [Bool.and_eq_true] at k
      obtain ⟨k0, k1⟩ := k
      subst k0
      exact s_rvl1 (soundE a c X W _ h k1)
    · cases k
  | .ktup es, c, X, W, x, h, k => by
    unfold okE at k
    split at k
    · exact s_ktup (soundEs es c X W _ h k)
    · cases k
  | .dnew t, c, X, W, x, h, k => by
    unfold okE at k
    split at k
    · exact s_dnew
    · cases k
  | .dlit ks vs, c, X, W, x, h, k => by
    unfold okE at k
    split at k
    · simp only [Bool.and_eq_true, Bool.not_eq_true'] at k
      exact s_dlit k.1 k.2.1 (of_decide_eq_true k.2.2)
    · cases k
  | .dun e, c, X, W, x, h, k => by
    unfold okE at k
    split at k
    · exact s_dun h (soundE e c X W _ h k)
    · cases k
  | .dget a b, c, X, W, x, h, k => by
    unfold okE at k
    split at k
    · simp only [Bool.and_eq_true] at k
      exact s_dget h (soundE a c X W _ h k.1) (soundE b c X W _ h k.2) (okE_shp _ _ _ k.2)
    · cases k
  | .dgetd a b d, c, X, W, x, h, k => by
    unfold okE at k
    split at k
    · simp only [Bool.and_eq_true] at k
      obtain ⟨k1, k2, k3, k4, k5⟩ := k
      have e := of_decide_eq_true k1
      subst e
      exact s_dgetd k2 h (soundE a c X W _ h k3) (soundE b c X W _ h k4) (soundE d c X W _ h k5) (okE_shp _ _ _ k3) (okE_shp _ _ _ k4) (okE_shp _ _ _ k5)
    · cases k
  | .din ng a b, c, X, W, x, h, k => by
    unfold okE at k
    split at k
    · simp only [Bool.and_eq_true] at k
      exact s_din (of_decide_eq_true k.1) h (soundE a c X W _ h k.2.1) (soundE b c X W _ h k.2.2) (okE_shp _ _ _ k.2.2)
    · cases k
  | .dlst m a, c, X, W, x, h, k => by
    unfold okE at k
    split at k
    · simp only [Bool.and_eq_true, Bool.not_eq_true'] at k
      obtain ⟨k1, k2, k3, k4⟩ := k
      have e := of_decide_eq_true k2
      subst e
      exact s_dlst h k1 k3 (okE_shp _ _ _ k4) (soundE a c X W _ h k4)
    · cases k
  | .dmax a, c, X, W, x, h, k => by
    unfold okE at k
    split at k
    · simp only [Bool.and_eq_true, Bool.not_eq_true'] at k
      obtain ⟨k1, k2, k3, k4, k5, k6⟩ := k
      have e := of_decide_eq_true k2
      have e3 := of_decide_eq_true k3
      subst e e3
      exact s_dmax h k1 k4 k5 (okE_shp _ _ _ k6) (soundE a c X W _ h k6)
    · cases k
  | .dsum a, c, X, W, x, h, k => by unfold okE at k; cases k
theorem soundT : (e : E) → (c : Ctx) → (X : Cx) → (W : WX) → (x : Expr) → XH c Φ cv X W → okE e c x = true → PT X x (tT X cv W Φ e)
  | .un op a, c, X, W, x, h, k => by
    have k0 := k
    unfold okE at k
    split at k
    · simp only [Bool.and_eq_true] at k
      have e := of_decide_eq_true k.1
      subst e
      cases op with
      | Not => exact st_not (soundT a c X W _ h k.2)
      | _ => exact st_val (s_un (soundE a c X W _ h k.2)) fun _ => rfl
    · cases k
  | .cmp op a b, c, X, W, x, h, k => by
    unfold okE at k
    split at k
    · simp only [Bool.and_eq_true] at k
      have e := of_decide_eq_true k.1.1
      subst e
      exact st_cmp h (soundE a c X W _ h k.1.2) (soundE b c X W _ h k.2) (okE_shp _ _ _ k.2)
    · cases k
  | .chain o1 o2 a b d, c, X, W, x, h, k => by
    unfold okE at k
    split at k
    · simp only [Bool.and_eq_true] at k
      obtain ⟨⟨⟨⟨k1, k2⟩, k3⟩, k4⟩, k5⟩ := k
      have e1 := of_decide_eq_true k1
      have e2 := of_decide_eq_true k2
      subst e1 e2
      exact st_chain h (soundE a c X W _ h k3) (soundE b c X W _ h k4) (soundE d c X W _ h k5) (okE_shp _ _ _ k5)
    · cases k
  | .bop op es, c, X, W, x, h, k => by
    unfold okE at k
    split at k
    · simp only [Bool.and_eq_true] at k
      have e := of_decide_eq_true k.1
      subst e
      exact (soundBT es op c X W _ _ h k.2).pt
    · cases k
  | .ite a b d, c, X, W, x, h, k => by
    unfold okE at k
    split at k
    · simp only [Bool.and_eq_true] at k
      exact st_ite (soundT a c X W _ h k.1.1) (soundT b c X W _ h k.1.2) (soundT d c X W _ h k.2)
    · cases k
  | .var i, c, X, W, x, h, k => by
    have k0 := soundE (.var i) c X W x h k
    unfold okE at k
    split at k <;> first | exact st_val k0 fun _ => rfl | cases k
  | .c d, c, X, W, x, h, k => by
    have k0 := soundE (.c d) c X W x h k
    unfold okE at k
    split at k <;> first | exact st_val k0 fun _ => rfl | cases k
  | .glob n d, c, X, W, x, h, k => by
    have k0 := soundE (.glob n d) c X W x h k
    unfold okE at k
    split at k <;> first | exact st_val k0 fun _ => rfl | cases k
  | .bin m op a b, c, X, W, x, h, k => by
    have k0 := soundE (.bin m op a b) c X W x h k
    unfold okE at k
    split at k <;> first | exact st_val k0 fun _ => rfl | cases k
  | .tup es, c, X, W, x, h, k => by
    have k0 := soundE (.tup es) c X W x h k
    unfold okE at k
    split at k <;> first | exact st_val k0 fun _ => rfl | cases k
  | .lst m es, c, X, W, x, h, k => by
    have k0 := soundE (.lst m es) c X W x h k
    unfold okE at k
    split at k <;> first | exact st_val k0 fun _ => rfl | cases k
  | .idx a b, c, X, W, x, h, k => by
    have k0 := soundE (.idx a b) c X W x h k
    unfold okE at k
    split at k <;> first | exact st_val k0 fun _ => rfl | cases k
  | .slc m a lo hi, c, X, W, x, h, k => by
    have k0 := soundE (.slc m a lo hi) c X W x h k
    unfold okE at k
    split at k <;> first | exact st_val k0 fun _ => rfl | cases k
  | .call f mode es, c, X, W, x, h, k => by
    have k0 := soundE (.call f mode es) c X W x h k
    unfold okE at k
    split at k <;> first | exact st_val k0 fun _ => rfl | cases k
  | .bi f es, c, X, W, x, h, k => by
    have k0 := soundE (.bi f es) c X W x h k
    unfold okE at k
    split at k <;> first | exact st_val k0 fun _ => rfl | cases k
  | .isi a t, c, X, W, x, h, k => by
    have k0 := soundE (.isi a t) c X W x h k
    unfold okE at k
    split at k <;> first | exact st_val k0 fun _ => rfl | cases k
  | .meth f a es, c, X, W, x, h, k => by
    have k0 := soundE (.meth f a es) c X W x h k
    unfold okE at k
    split at k <;> first | exact st_val k0 fun _ => rfl | cases k
  | .tm f a es, c, X, W, x, h, k => by
    have k0 := soundE (.tm f a es) c X W x h k
    unfold okE at k
    split at k <;> first | exact st_val k0 fun _ => rfl | cases k
  | .comp m own t it cd e, c, X, W, x, h, k => by
    have k0 := soundE (.comp m own t it cd e) c X W x h k
    unfold okE at k
    split at k <;> first | exact st_val k0 fun _ => rfl | cases k
  | .compV m own t l cd e, c, X, W, x, h, k => by
    have k0 := soundE (.compV m own t l cd e) c X W x h k
    unfold okE at k
    split at k <;> first | exact st_val k0 fun _ => rfl | cases k
  | .rep m a b, c, X, W, x, h, k => by
    have k0 := soundE (.rep m a b) c X W x h k
    unfold okE at k
    split at k <;> first | exact st_val k0 fun _ => rfl | cases k
  | .xis i j, c, X, W, x, h, k => by
    have k0 := soundE (.xis i j) c X W x h k
    unfold okE at k
    split at k <;> first | exact st_val k0 fun _ => rfl | cases k
  | .snap e, c, X, W, x, h, k => by
    unfold okE at k
    rw [Bool.and_eq_true] at k
    exact st_snap (soundT e c X W x h k.2)
  | .orL a b, c, X, W, x, h, k => ⟨fun pins s σ H Q I q => by
    obtain ⟨B, as, M, env, S, r, q⟩ := q
    refine absurd q ?_
    have e : (evE Φ (.orL a b) env M).bind toBl = .bad := by
      unfold evE
      repeat' split
      all_goals first | rfl | (exact toBl_content (by assumption))
    show ¬ PostG X.K H B as M (exW W cv σ) relEq ((evE Φ (.orL a b) env M).bind toBl) Q
    rw [e]
    exact id⟩
  | .hole, c, X, W, x, h, k => ⟨fun pins s σ H Q I q => by
    obtain ⟨B, as, M, env, S, r, q⟩ := q
    exact q.elim⟩
  | .lrng m a, c, X, W, x, h, k => by
    have k0 := soundE (.lrng m a) c X W x h k
    unfold okE at k
    split at k <;> first | exact st_val k0 fun _ => rfl | cases k
  | .lrng2 m a b, c, X, W, x, h, k => by
    have k0 := soundE (.lrng2 m a b) c X W x h k
    unfold okE at k
    split at k <;> first | exact st_val k0 fun _ => rfl | cases k
  | .rvl m sl a, c, X, W, x, h, k => by
    have k0 := soundE (.rvl m sl a) c X W x h k
    unfold okE at k
    split at k <;> first | exact st_val k0 fun _ => rfl | cases k
  | .ktup es, c, X, W, x, h, k => by
    have k0 := soundE (.ktup es) c X W x h k
    unfold okE at k
    split at k <;> first | exact st_val k0 fun _ => rfl | cases k
  | .dnew t, c, X, W, x, h, k => by
    have k0 := soundE (.dnew t) c X W x h k
    unfold okE at k
    split at k <;> first | exact st_val k0 fun _ => rfl | cases k
  | .dlit ks vs, c, X, W, x, h, k => by
    have k0 := soundE (.dlit ks vs) c X W x h k
    unfold okE at k
    split at k <;> first | exact st_val k0 fun _ => rfl | cases k
  | .dun e, c, X, W, x, h, k => by
    have k0 := soundE (.dun e) c X W x h k
    unfold okE at k
    split at k <;> first | exact st_val k0 fun _ => rfl | cases k
  | .dget a b, c, X, W, x, h, k => by
    have k0 := soundE (.dget a b) c X W x h k
    unfold okE at k
    split at k <;> first | exact st_val k0 fun _ => rfl | cases k
  | .dgetd a b d, c, X, W, x, h, k => by
    have k0 := soundE (.dgetd a b d) c X W x h k
    unfold okE at k
    split at k <;> first | exact st_val k0 fun _ => rfl | cases k
  | .din ng a b, c, X, W, x, h, k => by
    unfold okE at k
    split at k
    · simp only [Bool.and_eq_true] at k
      exact st_din (of_decide_eq_true k.1) h (soundE a c X W _ h k.2.1) (soundE b c X W _ h k.2.2) (okE_shp _ _ _ k.2.2)
    · cases k
  | .dlst m a, c, X, W, x, h, k => by
    have k0 := soundE (.dlst m a) c X W x h k
    unfold okE at k
    split at k <;> first | exact st_val k0 fun _ => rfl | cases k
  | .dmax a, c, X, W, x, h, k => by
    have k0 := soundE (.dmax a) c X W x h k
    unfold okE at k
    split at k <;> first | exact st_val k0 fun _ => rfl | cases k
  | .dsum a, c, X, W, x, h, k => by unfold okE at k; cases k
theorem soundB : (es : Es) → (op : BoolOp) → (c : Ctx) → (X : Cx) → (W : WX) → (xs : List Expr) → (pos : Pos) → XH c Φ cv X W → okEs es c xs = true → PE X (.BoolOp op xs pos) (tB' X cv W Φ op es)
  | .nil, op, c, X, W, xs, pos, h, k => ⟨fun pins s σ H Q I q => by
    obtain ⟨B, as, M, env, S, r, q⟩ := q
    exact q.elim⟩
  | .cons a .nil, op, c, X, W, xs, pos, h, k => by
    unfold okEs at k
    cases xs with
    | nil => cases k
    | cons y ys =>
      simp only [Bool.and_eq_true] at k
      obtain ⟨k1, k2⟩ := k
      unfold okEs at k2
      cases ys with
      | nil => exact s_bop1 (soundE a c X W _ h k1)
      | cons _ _ => cases k2
  | .cons a (.cons b r), op, c, X, W, xs, pos, h, k => by
    unfold okEs at k
    cases xs with
    | nil => cases k
    | cons y ys =>
      simp only [Bool.and_eq_true] at k
      obtain ⟨k1, k2⟩ := k
      cases ys with
      | nil => unfold okEs at k2; cases k2
      | cons z zs => exact s_bop2 (soundE a c X W _ h k1) (soundB (.cons b r) op c X W _ pos h k2)
theorem soundBT : (es : Es) → (op : BoolOp) → (c : Ctx) → (X : Cx) → (W : WX) → (xs : List Expr) → (pos : Pos) → XH c Φ cv X W → okEs es c xs = true → PW X (.BoolOp op xs pos) (tBT X cv W Φ op es)
  | .nil, op, c, X, W, xs, pos, h, k => ⟨fun wh pins s σ H Q I q => by
    obtain ⟨B, as, M, env, S, r, q⟩ := q
    exact q.elim⟩
  | .cons a .nil, op, c, X, W, xs, pos, h, k => by
    unfold okEs at k
    cases xs with
    | nil => cases k
    | cons y ys =>
      simp only [Bool.and_eq_true] at k
      obtain ⟨k1, k2⟩ := k
      unfold okEs at k2
      cases ys with
      | nil => exact st_bop1 (soundT a c X W _ h k1)
      | cons _ _ => cases k2
  | .cons a (.cons b r), op, c, X, W, xs, pos, h, k => by
    unfold okEs at k
    cases xs with
    | nil => cases k
    | cons y ys =>
      simp only [Bool.and_eq_true] at k
      obtain ⟨k1, k2⟩ := k
      cases ys with
      | nil => unfold okEs at k2; cases k2
      | cons z zs => exact st_bop2 (soundT a c X W _ h k1) (soundBT (.cons b r) op c X W _ pos h k2)
theorem soundO : (o : O) → (c : Ctx) → (X : Cx) → (W : WX) → (x : Option Expr) → XH c Φ cv X W → okO o c x = true → PO X x (tO X cv W Φ o)
  | .no, c, X, W, x, h, k => by
    unfold okO at k
    cases x with
    | none => exact s_o0
    | some _ => cases k
  | .so e, c, X, W, x, h, k => by
    unfold okO at k
    cases x with
    | none => cases k
    | some y => exact s_o1 (soundE e c X W y h k)
theorem soundC : (o : O) → (c : Ctx) → (X : Cx) → (W : WX) → (xs : List Expr) → XH c Φ cv X W → okC o c xs = true → PTs X xs (tC X cv W Φ o)
  | .no, c, X, W, xs, h, k => by
    unfold okC at k
    cases xs with
    | nil =>
      exact pts_nil.imp fun σ H Q q => by
        obtain ⟨B, as, M, env, S, r, q⟩ := q
        exact q as H true Go.refl S rfl
    | cons _ _ => cases k
  | .so e, c, X, W, xs, h, k => by
    unfold okC at k
    split at k
    · exact pts_one (soundT e c X W _ h k)
    · cases k
theorem soundEs : (es : Es) → (c : Ctx) → (X : Cx) → (W : WX) → (xs : List Expr) → XH c Φ cv X W → okEs es c xs = true → PA X xs (tEs X cv W Φ es)
  | .nil, c, X, W, xs, h, k => by
    unfold okEs at k
    cases xs with
    | nil => exact s_nil
    | cons _ _ => cases k
  | .cons e es, c, X, W, xs, h, k => by
    unfold okEs at k
    cases xs with
    | nil => cases k
    | cons y ys =>
      simp only [Bool.and_eq_true] at k
      exact s_cons (soundE e c X W _ h k.1) (soundEs es c X W _ h k.2) (okE_shp _ _ _ k.1)
theorem soundIt : (it : It) → (c : Ctx) → (X : Cx) → (W : WX) → (tg x : Expr) → XH c Φ cv X W → okIt it c (isTup tg) x = true → PI X tg x (tI X cv W Φ it)
  | .val e, c, X, W, tg, x, h, k => by
    unfold okIt at k
    exact s_val (soundE e c X W _ h k)
  | .rng1 a, c, X, W, tg, x, h, k => by
    unfold okIt at k
    split at k
    · simp only [Bool.and_eq_true] at k
      have e := of_decide_eq_true k.1.1
      subst e
      exact s_rng1 h k.1.2 (okE_shp _ _ _ k.2) (soundE a c X W _ h k.2)
    · cases k
  | .rng2 a b, c, X, W, tg, x, h, k => by
    unfold okIt at k
    split at k
    · simp only [Bool.and_eq_true] at k
      have e := of_decide_eq_true k.1.1.1
      subst e
      exact s_rng2 h k.1.1.2 (okE_shp _ _ _ k.1.2) (okE_shp _ _ _ k.2) (soundE a c X W _ h k.1.2) (soundE b c X W _ h k.2)
    · cases k
  | .rng3 a b d, c, X, W, tg, x, h, k => by
    unfold okIt at k
    split at k
    · simp only [Bool.and_eq_true] at k
      obtain ⟨⟨⟨⟨k1, k2⟩, k3⟩, k4⟩, k5⟩ := k
      have e := of_decide_eq_true k1
      subst e
      exact s_rng3 h k2 (okE_shp _ _ _ k3) (okE_shp _ _ _ k4) (okE_shp _ _ _ k5) (soundE a c X W _ h k3) (soundE b c X W _ h k4) (soundE d c X W _ h k5)
    · cases k
  | .zip a b, c, X, W, tg, x, h, k => by
    unfold okIt at k
    split at k
    · simp only [Bool.and_eq_true] at k
      obtain ⟨⟨⟨⟨k1, k2⟩, k3⟩, k4⟩, k5⟩ := k
      have e := of_decide_eq_true k1
      subst e
      cases tg <;> first | exact s_zip h k2 (okE_shp _ _ _ k3) (okE_shp _ _ _ k4) (soundE a c X W _ h k3) (soundE b c X W _ h k4) | cases k5
    · cases k
  | .enum a, c, X, W, tg, x, h, k => by
    unfold okIt at k
    split at k
    · simp only [Bool.and_eq_true] at k
      obtain ⟨⟨⟨k1, k2⟩, k3⟩, k4⟩ := k
      have e := of_decide_eq_true k1
      subst e
      cases tg <;> first | exact s_enum h k2 (okE_shp _ _ _ k3) (soundE a c X W _ h k3) | cases k4
    · cases k
  | .rev a, c, X, W, tg, x, h, k => by
    unfold okIt at k
    split at k
    · simp only [Bool.and_eq_true] at k
      have e := of_decide_eq_true k.1.1
      subst e
      exact s_rev h k.1.2 (okE_shp _ _ _ k.2) (soundE a c X W _ h k.2)
    · cases k
  | .revR a, c, X, W, tg, x, h, k => by
    unfold okIt at k
    split at k
    · simp only [Bool.and_eq_true] at k
      obtain ⟨k1, k2, k3, k4, k5⟩ := k
      have e1 := of_decide_eq_true k1
      have e2 := of_decide_eq_true k2
      subst e1 e2
      exact s_revR h k3 k4 (okE_shp _ _ _ k5) (soundE a c X W _ h k5)
    · cases k
  | .revR2 a b, c, X, W, tg, x, h, k => by
    unfold okIt at k
    split at k
    · simp only [Bool.and_eq_true] at k
      obtain ⟨k1, k2, k3, k4, k5, k6⟩ := k
      have e1 := of_decide_eq_true k1
      have e2 := of_decide_eq_true k2
      subst e1 e2
      exact s_revR2 h k3 k4 (okE_shp _ _ _ k5) (okE_shp _ _ _ k6) (soundE a c X W _ h k5) (soundE b c X W _ h k6)
    · cases k
  | .keys a, c, X, W, tg, x, h, k => by
    unfold okIt at k
    exact s_keys (soundE a c X W _ h k)
  | .chars a, c, X, W, tg, x, h, k => by
    unfold okIt at k
    exact s_chars (soundE a c X W _ h k)
  | .vals a, c, X, W, tg, x, h, k => by
    unfold okIt at k
    split at k
    · simp only [Bool.and_eq_true] at k
      obtain ⟨k1, k2, k3⟩ := k
      have e := of_decide_eq_true k1
      subst e
      exact s_vals k2 (okE_shp _ _ _ k3) (soundE a c X W _ h k3)
    · cases k
theorem soundTg : (t : T) → (c : Ctx) → (X : Cx) → (W : WX) → (x : Expr) → XH c Φ cv X W → okT t c x = true → PG X x (tT' X Φ t)
  | .var i, c, X, W, x, h, k => by
    unfold okT at k
    split at k
    · simp only [Bool.and_eq_true] at k
      exact s_tvar h (of_decide_eq_true k.1.1) k.1.2 k.2
    · cases k
  | .tup ts, c, X, W, x, h, k => by
    unfold okT at k
    split at k
    · rw [Bool.and_eq_true, Bool.not_eq_true'] at k
      obtain ⟨k0, k⟩ := k
      obtain ⟨f1, f2⟩ := okTs_facts ts c _ k
      exact s_ttup h k0 (soundTgs ts c X W _ h k) f1 f2
    · cases k
  | .idx o i, c, X, W, x, h, k => by
    unfold okT at k
    split at k
    · simp only [Bool.and_eq_true] at k
      exact s_tidx (soundE o c X W _ h k.1) (soundE i c X W _ h k.2) (okE_shp _ _ _ k.2) (okE_shp _ _ _ k.1)
    · cases k
theorem soundTgs : (ts : Ts) → (c : Ctx) → (X : Cx) → (W : WX) → (xs : List Expr) → XH c Φ cv X W → okTs ts c xs = true → PGs X xs (tTs' X Φ ts)
  | .nil, c, X, W, xs, h, k => by
    unfold okTs at k
    cases xs with
    | nil => exact s_tnil
    | cons _ _ => cases k
  | .cons t ts, c, X, W, xs, h, k => by
    unfold okTs at k
    cases xs with
    | nil => cases k
    | cons y ys =>
      simp only [Bool.and_eq_true] at k
      exact s_tcons (soundTg t c X W _ h k.1) (soundTgs ts c X W _ h k.2) (okT_each k.1)
end
end
end
end Sg

namespace Sg
noncomputable section
open PySem PySem.Spec PyProof.Rows L2

def notTup : Expr → Bool
  | .Tuple _ _ _ => false
  | .List _ _ => false
  | _ => true
/-- how the value goes to the target -/
def asgOk (c : Ctx) : Expr → Expr → Bool
  | .Name _ _, _ => true
  | .Tuple ts _ _, .Tuple _ _ _ => ts.any fun t => !isNm t
  | .Tuple _ _ _, v => notTup v
  | .List _ _, _ => false
  | _, _ => true
/-- the error's word is asked -/
def okTwC (c : Ctx) (n : Str) : Expr → Bool
  | .Call (.Name f _) [.Name v _] [] _ => decide (c.wd = some f) && (glOk c.sc f && (plainN f && decide (v = n)))
  | _ => false
def okTwL (c : Ctx) (n : Str) : Expr → Bool
  | .List [z] _ => okTwC c n z
  | _ => false
def okTwE (x : Str) (c : Ctx) (n : Str) : Expr → Bool
  | .Compare z [.Eq] [.Constant (.str x') _ _] _ => decide (x' = x) && okTwC c n z
  | _ => false
def okTw : Tw → Ctx → Str → Expr → Bool
  | .word, c, n, y => okTwC c n y
  | .lword, c, n, y => okTwL c n y
  | .weq x, c, n, y => okTwE x c n y
mutual
def okS : S → Ctx → Stmt → Bool
  | .expr e, c, x => match x with
    | .Expr y _ => okE e c y && notComp y
    | _ => false
  | .asg t e, c, x => match x with
    | .Assign [tg] y _ => okT t c tg && okE e c y && asgOk c tg y
    | _ => false
  | .par _ _ _ _, _, _ => false
  | .aug i op e, c, x => match x with
    | .AugAssign (.Name n _) o y _ => decide (op = o) && (decide (op = .Add) || decide (op = .Sub)) && decide (c.N[i]? = some n) && decide (c.sc.names.lookup n = some .local) && okE e c y
    | _ => false
  | .ite e a b, c, x => match x with
    | .If y as bs _ => okE e c y && okSs a c as && okSs b c bs
    | _ => false
  | .whl e b, c, x => match x with
    | .While y bs [] _ => okE e c y && okSs b c bs
    | _ => false
  | .for t it b, c, x => match x with
    | .For tg y bs [] _ => !c.hot && (okT t c tg && okIt it c (isTup tg) y && okSs b c bs)
    | _ => false
  | .forL t e b, c, x => match x with
    | .For tg y bs [] _ => !c.hot && (okT t c tg && okE e c y && okSs b c bs)
    | _ => false
  | .forE t e b, c, x => match x with
    | .For tg (.Call (.Name n _) [y] [] _) bs [] _ => !c.hot && (okT t c tg && (decide (n = ("enumerate" : Str)) && (glOk c.sc n && (isTup tg && okE e c y))) && okSs b c bs)
    | _ => false
  | .ret e, c, x => match x with
    | .Return y _ => okO e c y
    | _ => false
  | .pass, _, x => match x with
    | .Pass _ => true
    | _ => false
  | .brk, _, x => match x with
    | .Break _ => true
    | _ => false
  | .cont, _, x => match x with
    | .Continue _ => true
    | _ => false
  | .raise k, c, x => match x with
    | .Raise (some (.Call (.Name n _) [.Constant (.str _) _ _] [] _)) none _ => !c.hot && (decide (c.ex k = some n) && glOk c.sc n && plainN n)
    | _ => false
  | .hole, _, _ => true
  | .dset o i v, c, x => match x with
    | .Assign [.Subscript p q _] y _ => notComp y && (okE v c y && (okE o c p && okE i c q))
    | _ => false
  | .tryN k b d, c, x => match x with
    | .Try bs [.ExceptHandler (some (.Name sm _)) none [.Return (some (.Constant kk _ _)) _] _] [] [] _ => !c.hot && (decide (c.ex k = some sm) && (glOk c.sc sm && (plainN sm && (constOk d kk && okSs b c bs))))
    | _ => false
  | .tryW i b w, c, x => match x with
    | .Try bs [.ExceptHandler (some (.Name sm _)) (some n) [.Return (some y) _] _] [] [] _ => !c.hot && (decide (sm = ("SmoothError" : Str)) && (glOk c.sc sm && (plainN sm && (decide (c.N[i]? = some n) && (decide (c.sc.names.lookup n = some .local) && (plainN n && (okTw w c n y && okSs b c bs)))))))
    | _ => false
def okSs : Ss → Ctx → List Stmt → Bool
  | .nil, _, xs => xs.isEmpty
  | .cons s ss, c, xs => match xs with
    | y :: ys => okS s c y && okSs ss c ys
    | [] => false
end

theorem PostG.mono {α β : Type} {K : PySem.W.Frag} {H : Hp} {B : Addr → Prop} {as : List Addr} {M : List Cell} {E : Nat → Hp → Prop} {rel : List Addr → List Cell → Hp → α → β → Prop} {r : R α} {Q Q' : β → Hp → Prop}
    (h : PostG K H B as M E rel r Q) (k : ∀ b H, Q b H → Q' b H) : PostG K H B as M E rel r Q' := by
  cases r with
  | ok d M' => exact fun as' H' v g S q => k _ _ (h as' H' v g S q)
  | exc c M' => exact h
  | bad => exact h
def PostQ (K : PySem.W.Frag) (cv : Nat → Value) (W : WX) (H : Hp) (B : Addr → Prop) (as : List Addr) (M : List Cell) (r : Qr) (D : Ends) : Prop := match r with
  | .ok .nx env M' => ∀ as' H' σ', Go as M H as' M' H' → Sim K H' B as' M' → EnvR K H' (Av B as' M') as' env σ' → D.nx σ' H'
  | .ok (.rt d) _ M' => ∀ as' H' v, Go as M H as' M' H' → Sim K H' B as' M' → Rp K H' (Av B as' M') as' d v → D.rt v H'
  | .ok .bk env M' => ∀ as' H' σ', Go as M H as' M' H' → Sim K H' B as' M' → EnvR K H' (Av B as' M') as' env σ' → D.bk σ' H'
  | .ok .ct env M' => ∀ as' H' σ', Go as M H as' M' H' → Sim K H' B as' M' → EnvR K H' (Av B as' M') as' env σ' → D.ct σ' H'
  | .exc c env M' => ∀ as' H' σ', Go as M H as' M' H' → Sim K H' B as' M' → EnvR K H' (Av B as' M') as' env σ' → W (cv c) none σ' H'
  | .bad => False
section
variable {K : PySem.W.Frag} {cv : Nat → Value} {W : WX} {H H1 : Hp} {B : Addr → Prop} {as as1 : List Addr} {M M1 : List Cell}
theorem PostQ.go {r : Qr} {D : Ends} (h : PostQ K cv W H B as M r D) (g : Go as M H as1 M1 H1) : PostQ K cv W H1 B as1 M1 r D := by
  cases r with
  | ok f env M' => cases f <;> exact fun as' H' v g' S q => h as' H' v (g.trans g') S q
  | exc c env M' => exact fun as' H' v g' S q => h as' H' v (g.trans g') S q
  | bad => exact h
theorem PostQ.eq {r r' : Qr} {D : Ends} (e : r = r') (h : PostQ K cv W H B as M r D) : PostQ K cv W H B as M r' D := e ▸ h
/-- an expression's step within a statement -/
theorem st_bind {α β : Type} {rel : List Addr → List Cell → Hp → α → β → Prop} {r : R α} {f : α → List Cell → Qr} {D : Ends} {Q' : β → Hp → Prop} {env : St} {σ : St2} (S : Sim K H B as M) (re : EnvR K H (Av B as M) as env σ) (h : PostQ K cv W H B as M (r.st env f) D)
    (k : ∀ a M1 as1 H1 b, r = .ok a M1 → Go as M H as1 M1 H1 → Sim K H1 B as1 M1 → rel as1 M1 H1 a b → PostQ K cv W H1 B as1 M1 (f a M1) D → Q' b H1) : PostG K H B as M (exW W cv σ) rel r Q' := by
  cases r with
  | ok a M1 => exact fun as' H' v g S q => k a M1 as' H' v rfl g S q (PostQ.go h g)
  | exc c M1 => exact fun as' H' g S' => h as' H' σ g S' (re.go S g)
  | bad => exact h
theorem st_nox {α β : Type} {rel : List Addr → List Cell → Hp → α → β → Prop} {E : Nat → Hp → Prop} {r : R α} {f : α → List Cell → Qr} {D : Ends} {Q' : β → Hp → Prop} {env : St} (h : PostQ K cv W H B as M (r.nox.st env f) D)
    (k : ∀ a M1 as1 H1 b, r = .ok a M1 → Go as M H as1 M1 H1 → Sim K H1 B as1 M1 → rel as1 M1 H1 a b → PostQ K cv W H1 B as1 M1 (f a M1) D → Q' b H1) : PostG K H B as M E rel r Q' := by
  cases r with
  | ok a M1 => exact fun as' H' v g S q => k a M1 as' H' v rfl g S q (PostQ.go h g)
  | exc c M1 => exact h.elim
  | bad => exact h
end
/-- what is promised of the def that tells an error's word -/
def spW (cv : Nat → Value) (F : List D → List Cell → R D) : Addr × Obj → Sp := fun p vs H Q E => vs = [.ref p.1] ∧ ∃ k x M, L2N.Zn (cv k) none p.2 ∧ (∃ us, p.2.data = .fields us) ∧ F [.int (k : Nat)] [] = .ok (.str x) M ∧ ∀ H', (∀ a o, H a = some o → H' a = some o) → Q (.str x) H'
/-- the context of a def's statements -/
structure XS (c : Ctx) (Φ : Phi) (cv : Nat → Value) (X : Cx) (W : WX) : Prop where
  x : XH c Φ cv X W
  po : PassesOwn (model X.prog X.w) X.A X.env X.xe
  kd : X.env.scope.kind = .function
  cls : ∀ k n, c.ex k = some n → ∃ C, X.mg n = some (.ref C) ∧ cv k = .ref C ∧ PySem.W.excIn X.K C [.type "ValueError", .type "Exception", .type "BaseException", .type "object"] "ValueError.__new__" = true ∧ PySem.W.keepIn X.K (.ref C) = true ∧ Raises X (.ref C)
  slf : ∀ k n, c.ex k = some n → PySem.W.exmOne X.K (cv k) (cv k) = some true
  hs : X.stack = X.env :: X.outer
  hf : X.env.frame = some X.env.locals
  wd : ∀ f, c.wd = some f → ∃ (sm : Value) (fa : Addr) (fd : FuncData) (p : Str), X.mg ("SmoothError" : Str) = some sm ∧ X.mg f = some (.ref fa) ∧ PySem.W.keepIn X.K (.ref fa) = true ∧ Binds X.K fd [p] [] ∧
    SgH.FnP X.prog X.w X.K X.mg X.base (L2N.CX X.prog X.w) c.k fa fd [p] (spW cv (Φ 0)) ∧ ∀ (k : Nat) x M, Φ 0 [.int (k : Nat)] [] = .ok (.str x) M → PySem.W.exmOne X.K (cv k) sm = some true
section
variable {X : Cx} {cv : Nat → Value} {W : WX} {Φ : Phi} {c : Ctx} {pos : Pos}
def tS (X : Cx) (cv : Nat → Value) (W : WX) (f : St → List Cell → Qr) : TS := fun D σ H => ∃ B as M env, Sim X.K H B as M ∧ EnvR X.K H (Av B as M) as env σ ∧ PostQ X.K cv W H B as M (f env M) D
theorem _root_.L2.PS.imp {st : Stmt} {t t' : TS} (h : PS X st t) (k : ∀ D σ H, t' D σ H → t D σ H) : PS X st t' := ⟨fun pins s σ H D I q => h.run pins s σ H D I (k D σ H q)⟩
theorem _root_.L2.PSs.imp {st : List Stmt} {t t' : TS} (h : PSs X st t) (k : ∀ D σ H, t' D σ H → t D σ H) : PSs X st t' := ⟨fun pins s σ H D I q => h.run pins s σ H D I (k D σ H q)⟩
theorem swaps_no {e : Expr} {t : Option Expr} {l : Nat} {env : Env} (h : notComp e = true) : swapsWith e t l env = pure false := by
  cases e <;> first | rfl | cases h
theorem ss_expr {e : E} {y : Expr} (he : PE X y (tE X cv W Φ e)) (hn : notComp y = true) : PS X (.Expr y pos) (tS X cv W (evS Φ (.expr e))) :=
  (ps_expr he (swaps_no hn)).imp fun D σ H q => by
    obtain ⟨B, as, M, env, S, r, q⟩ := q
    refine ⟨B, as, M, env, S, r, st_bind S r q fun d M1 as1 H1 v hq1 g1 S1 ra q1 => ?_⟩
    exact q1 as1 H1 σ Go.refl S1 (r.go S g1)
theorem asg_post {t : T} {e : E} {D : Ends} {σ : St2} {H : Hp} (q : tS X cv W (evS Φ (.asg t e)) D σ H) : tAsg (tE X cv W Φ e) (tT' X Φ t) D σ H := by
  obtain ⟨B, as, M, env, S, r, q⟩ := q
  refine ⟨B, as, M, env, S, r, st_bind S r q fun d M1 as1 H1 v hq1 g1 S1 ra q1 => ?_⟩
  refine ⟨B, as1, M1, env, d, S1, r.go S g1, ra, st_nox q1 fun e M2 as2 H2 σ2 hq2 g2 S2 rr q2 => ?_⟩
  exact q2 as2 H2 σ2 Go.refl S2 rr.1
theorem names_lt {env : Env} {line : Nat} : ∀ (ts : List Expr), (ts.any fun t => !isNm t) = true → (ts.filterMap fun
    | .Name id pos => if env.kindOf id == some .local && pos.line == line then some id else none
    | _ => none).length < ts.length
  | [], h => by cases h
  | t :: ts, h => by
    rw [List.any_cons, Bool.or_eq_true] at h
    have le : (ts.filterMap fun
      | Expr.Name id pos => if env.kindOf id == some .local && pos.line == line then some id else none
      | _ => none).length ≤ ts.length := List.length_filterMap_le _ _
    rw [List.filterMap_cons]
    rcases h with h | h
    · cases t <;> first | (simp only [List.length_cons]; omega) | cases h
    · have ih := names_lt (env := env) (line := line) ts h
      split
      · simp only [List.length_cons]; omega
      · simp only [List.length_cons]; omega
theorem swapped_no {tg y : Expr} {env : Env} (h : asgOk c tg y = true) : swappedStores [tg] y env = pure none := by
  cases tg with
  | Tuple ts k p =>
    cases y with
    | Tuple vs k2 p2 =>
      have h' : (ts.any fun t => !isNm t) = true := h
      unfold swappedStores
      dsimp only
      split
      · rfl
      · split
        · rfl
        · split
          · rfl
          · rename_i _ _ hn
            exfalso
            refine hn ?_
            rw [Bool.or_eq_true]
            left
            rw [bne_iff_ne]
            exact Nat.ne_of_lt (names_lt (env := env) (line := (ts.head?.map (·.pos.line)).getD 0) ts h')
    | List _ _ => cases h
    | _ => rfl
  | List ts p => cases h
  | _ => rfl
theorem ss_asg {t : T} {e : E} {tg y : Expr} (h : XS c Φ cv X W) (ht : okT t c tg = true) (hg : PG X tg (tT' X Φ t)) (he : PE X y (tE X cv W Φ e)) (hn : notComp y = true) (ha : asgOk c tg y = true) : PS X (.Assign [tg] y pos) (tS X cv W (evS Φ (.asg t e))) :=
  (ps_asg he hg (by show swapsWith y (some tg) pos.line X.env = _; exact swaps_no hn) (swapped_no ha) (okT_each ht)).imp fun D σ H q => asg_post q
/-- a comprehension's list, stored as any value or within its block -/
theorem ss_asgc {t : T} {m : Bool} {own : List Nat} {t' : T} {it : It} {cd : O} {e : E} {tg elt itg iter : Expr} {ifs : List Expr} {scope : Scope} {ep : Pos} (h : XS c Φ cv X W) (ht : okT t c tg = true) (hg : PG X tg (tT' X Φ t)) (ha : asgOk c tg (.ListComp elt [⟨itg, iter, ifs, 0⟩] scope ep) = true)
    (k : okE (.comp m own t' it cd e) c (.ListComp elt [⟨itg, iter, ifs, 0⟩] scope ep) = true) : PS X (.Assign [tg] (.ListComp elt [⟨itg, iter, ifs, 0⟩] scope ep) pos) (tS X cv W (evS Φ (.asg t (.comp m own t' it cd e)))) := by
  have he := soundE (.comp m own t' it cd e) c X W _ h.x k
  by_cases hs : swapsWith (.ListComp elt [⟨itg, iter, ifs, 0⟩] scope ep) (some tg) pos.line X.env = pure false
  · exact (ps_asg he hg hs (swapped_no ha) (okT_each ht)).imp fun D σ H q => asg_post q
  · -- a name
    have hx := h.x
    rcases okT_shape ht with ⟨n, py, rfl⟩ | ⟨_, _, _, rfl⟩ | ⟨_, _, _, rfl⟩
    · have hv : swapsWith (.ListComp elt [⟨itg, iter, ifs, 0⟩] scope ep) (some (.Name n py)) pos.line X.env = pure (X.env.blockKind == .function && X.env.kindOf n == some .local && py.line == ep.line && !(scope.names.any fun (m, k) => m == n && (k == .local || k == .cell))) := rfl
      cases hb : (X.env.blockKind == .function && X.env.kindOf n == some .local && py.line == ep.line && !(scope.names.any fun (m, k) => m == n && (k == .local || k == .cell))) with
      | false => exact absurd (hv.trans (by rw [hb])) hs
      | true =>
        have hl : X.env.scope.names.lookup n = some .local := by
          simp only [Bool.and_eq_true] at hb
          exact eq_of_beq hb.1.1.2
        cases t with
        | var i =>
          unfold okT at ht
          simp only [Bool.and_eq_true] at ht
          have hi := of_decide_eq_true ht.1.1
          unfold okE at k
          simp only [Bool.and_eq_true] at k
          obtain ⟨⟨⟨⟨⟨⟨k1, k0⟩, k2⟩, k3⟩, k4⟩, k5⟩, k6⟩ := k
          have hsh := okIt_shp it c _ _ k2
          by_cases hot : c.hot = true
          · cases it with
            | rng1 a =>
              have hi' : L2H.PIH X itg iter (tI X cv W Φ (.rng1 a)) := by
                unfold okIt at k2
                split at k2
                · simp only [Bool.and_eq_true] at k2
                  have e := of_decide_eq_true k2.1.1
                  subst e
                  exact s_rng1H hx k2.1.2 (okE_shp _ _ _ k2.2) (soundE a c X W _ hx k2.2)
                · cases k2
              have hg' : ∀ (s : Shared) (H : Hp) (C : Addr) (cl : List (Str × Addr)) (fp : List Addr), PG (SgH.hblk X s H scope (compEnvC scope cl C X.env) fp) itg (tT' X Φ t') := fun s H C cl fp => soundTg t' _ (SgH.hblk X s H scope (compEnvC scope cl C X.env) fp) W0 _ (hblk_XH hx) k3
              have ht' : ∀ (s : Shared) (H : Hp) (C : Addr) (cl : List (Str × Addr)) (fp : List Addr), PTs (SgH.hblk X s H scope (compEnvC scope cl C X.env) fp) ifs (Sg.tC X cv W0 Φ cd) := fun s H C cl fp => soundC cd _ (SgH.hblk X s H scope (compEnvC scope cl C X.env) fp) W0 _ (hblk_XH hx) k5
              have he' : ∀ (s : Shared) (H : Hp) (C : Addr) (cl : List (Str × Addr)) (fp : List Addr), PE (SgH.hblk X s H scope (compEnvC scope cl C X.env) fp) elt (tE X cv W0 Φ e) := fun s H C cl fp => soundE e _ (SgH.hblk X s H scope (compEnvC scope cl C X.env) fp) W0 _ (hblk_XH hx) k6
              refine (SgH.ps_setHlc (own := ownP c.N own) (i := i) (hx.hotc hot) (by rw [hx.N]; exact hx.nd) (by rw [hx.N]; exact hi) hl (by rw [hv, hb]) hi' (blkOk_by (by rw [hx.N, hx.sc]; exact k1)) hg' ht' he' (fun x => shp_fold hsh x)).imp fun D σ H q => ?_
              have q2 := asg_post q
              have q3 : tE X cv W Φ (.comp m own t' (.rng1 a) cd e) σ H fun x H1 => gName i x σ H1 D.nx := by
                obtain ⟨B, as, M, env, S, r, q⟩ := q2
                refine ⟨B, as, M, env, S, r, q.mono fun v H1 q1 => ?_⟩
                obtain ⟨B, as, M, env, d, S, r, rd, q⟩ := q1
                exact q as H1 _ Go.refl S ⟨r.set rd, fun vs hv => wipe_set vs (by simpa [tSub] using hv)⟩
              exact s_comp hx k1 k4 hsh σ H _ q3
            | _ => rw [hot] at k0; cases k0
          have hcool : c.hot = false := Bool.eq_false_iff.mpr hot
          have hi' := soundIt it c X W itg iter hx k2
          have hg' : ∀ (s : Shared) (H : Hp) (C : Addr) (cl : List (Str × Addr)) (fp : List Addr), PG (X.blk s H scope (compEnvC scope cl C X.env) fp) itg (tT' X Φ t') := fun s H C cl fp => soundTg t' _ (X.blk s H scope (compEnvC scope cl C X.env) fp) W0 _ (blk_XH hcool hx) k3
          have ht' : ∀ (s : Shared) (H : Hp) (C : Addr) (cl : List (Str × Addr)) (fp : List Addr), PTs (X.blk s H scope (compEnvC scope cl C X.env) fp) ifs (Sg.tC X cv W0 Φ cd) := fun s H C cl fp => soundC cd _ (X.blk s H scope (compEnvC scope cl C X.env) fp) W0 _ (blk_XH hcool hx) k5
          have he' : ∀ (s : Shared) (H : Hp) (C : Addr) (cl : List (Str × Addr)) (fp : List Addr), PE (X.blk s H scope (compEnvC scope cl C X.env) fp) elt (tE X cv W0 Φ e) := fun s H C cl fp => soundE e _ (X.blk s H scope (compEnvC scope cl C X.env) fp) W0 _ (blk_XH hcool hx) k6
          refine (ps_setLc (own := ownP c.N own) (i := i) (hx.calm hcool) (by rw [hx.N]; exact hx.nd) (by rw [hx.N]; exact hi) hl (by rw [hv, hb]) hi' (blkOk_by (by rw [hx.N, hx.sc]; exact k1)) hg' ht' he' (fun x => shp_fold hsh x)).imp fun D σ H q => ?_
          have q2 := asg_post q
          have q3 : tE X cv W Φ (.comp m own t' it cd e) σ H fun x H1 => gName i x σ H1 D.nx := by
            obtain ⟨B, as, M, env, S, r, q⟩ := q2
            refine ⟨B, as, M, env, S, r, q.mono fun v H1 q1 => ?_⟩
            obtain ⟨B, as, M, env, d, S, r, rd, q⟩ := q1
            exact q as H1 _ Go.refl S ⟨r.set rd, fun vs hv => wipe_set vs (by simpa [tSub] using hv)⟩
          exact s_comp hx k1 k4 hsh σ H _ q3
        | _ => unfold okT at ht; cases ht
    · exact absurd rfl hs
    · exact absurd rfl hs
/-- a comprehension's list, stored as any value or within its block -/
theorem ss_asgcV {t : T} {m : Bool} {own : List Nat} {t' : T} {l : E} {cd : O} {e : E} {tg elt itg iter : Expr} {ifs : List Expr} {scope : Scope} {ep : Pos} (h : XS c Φ cv X W) (ht : okT t c tg = true) (hg : PG X tg (tT' X Φ t)) (ha : asgOk c tg (.ListComp elt [⟨itg, iter, ifs, 0⟩] scope ep) = true)
    (k : okE (.compV m own t' l cd e) c (.ListComp elt [⟨itg, iter, ifs, 0⟩] scope ep) = true) : PS X (.Assign [tg] (.ListComp elt [⟨itg, iter, ifs, 0⟩] scope ep) pos) (tS X cv W (evS Φ (.asg t (.compV m own t' l cd e)))) := by
  have he := soundE (.compV m own t' l cd e) c X W _ h.x k
  by_cases hs : swapsWith (.ListComp elt [⟨itg, iter, ifs, 0⟩] scope ep) (some tg) pos.line X.env = pure false
  · exact (ps_asg he hg hs (swapped_no ha) (okT_each ht)).imp fun D σ H q => asg_post q
  · -- a name
    have hx := h.x
    rcases okT_shape ht with ⟨n, py, rfl⟩ | ⟨_, _, _, rfl⟩ | ⟨_, _, _, rfl⟩
    · have hv : swapsWith (.ListComp elt [⟨itg, iter, ifs, 0⟩] scope ep) (some (.Name n py)) pos.line X.env = pure (X.env.blockKind == .function && X.env.kindOf n == some .local && py.line == ep.line && !(scope.names.any fun (m, k) => m == n && (k == .local || k == .cell))) := rfl
      cases hb : (X.env.blockKind == .function && X.env.kindOf n == some .local && py.line == ep.line && !(scope.names.any fun (m, k) => m == n && (k == .local || k == .cell))) with
      | false => exact absurd (hv.trans (by rw [hb])) hs
      | true =>
        have hl : X.env.scope.names.lookup n = some .local := by
          simp only [Bool.and_eq_true] at hb
          exact eq_of_beq hb.1.1.2
        cases t with
        | var i =>
          unfold okT at ht
          simp only [Bool.and_eq_true] at ht
          have hi := of_decide_eq_true ht.1.1
          unfold okE at k
          simp only [Bool.and_eq_true] at k
          obtain ⟨⟨⟨⟨⟨⟨k1, k0⟩, k2⟩, k3⟩, k4⟩, k5⟩, k6⟩ := k
          have hsh := okE_shp l c _ k2
          have hcool : c.hot = false := by
            cases hh : c.hot with
            | false => rfl
            | true => rw [hh] at k0; cases k0
          have hi' := pi_list (tg := itg) (soundE l c X W iter hx k2)
          have hg' : ∀ (s : Shared) (H : Hp) (C : Addr) (cl : List (Str × Addr)) (fp : List Addr), PG (X.blk s H scope (compEnvC scope cl C X.env) fp) itg (tT' X Φ t') := fun s H C cl fp => soundTg t' _ (X.blk s H scope (compEnvC scope cl C X.env) fp) W0 _ (blk_XH hcool hx) k3
          have ht' : ∀ (s : Shared) (H : Hp) (C : Addr) (cl : List (Str × Addr)) (fp : List Addr), PTs (X.blk s H scope (compEnvC scope cl C X.env) fp) ifs (Sg.tC X cv W0 Φ cd) := fun s H C cl fp => soundC cd _ (X.blk s H scope (compEnvC scope cl C X.env) fp) W0 _ (blk_XH hcool hx) k5
          have he' : ∀ (s : Shared) (H : Hp) (C : Addr) (cl : List (Str × Addr)) (fp : List Addr), PE (X.blk s H scope (compEnvC scope cl C X.env) fp) elt (tE X cv W0 Φ e) := fun s H C cl fp => soundE e _ (X.blk s H scope (compEnvC scope cl C X.env) fp) W0 _ (blk_XH hcool hx) k6
          refine (ps_setLc (own := ownP c.N own) (i := i) (hx.calm hcool) (by rw [hx.N]; exact hx.nd) (by rw [hx.N]; exact hi) hl (by rw [hv, hb]) hi' (blkOk_by (by rw [hx.N, hx.sc]; exact k1)) hg' ht' he' (fun x => shp_fold hsh x)).imp fun D σ H q => ?_
          have q2 := asg_post q
          have q3 : tE X cv W Φ (.compV m own t' l cd e) σ H fun x H1 => gName i x σ H1 D.nx := by
            obtain ⟨B, as, M, env, S, r, q⟩ := q2
            refine ⟨B, as, M, env, S, r, q.mono fun v H1 q1 => ?_⟩
            obtain ⟨B, as, M, env, d, S, r, rd, q⟩ := q1
            exact q as H1 _ Go.refl S ⟨r.set rd, fun vs hv => wipe_set vs (by simpa [tSub] using hv)⟩
          exact s_compV hx k4 σ H _ q3
        | _ => unfold okT at ht; cases ht
    · exact absurd rfl hs
    · exact absurd rfl hs
end
end
end Sg

namespace Sg
noncomputable section
open PySem PySem.Spec PyProof.Rows L2
section
variable {X : Cx} {cv : Nat → Value} {W : WX} {Φ : Phi} {c : Ctx} {pos : Pos}
theorem ss_aug {i : Nat} {op : Operator} {e : E} {n : Str} {p : Pos} {y : Expr} (h : XS c Φ cv X W) (ho : op = .Add ∨ op = .Sub) (h1 : c.N[i]? = some n) (h2 : c.sc.names.lookup n = some .local) (he : PE X y (tE X cv W Φ e)) :
    PS X (.AugAssign (.Name n p) op y pos) (tS X cv W (evS Φ (.aug i op e))) :=
  (ps_aug (by rw [h.x.N]; exact h.x.nd) (by rw [h.x.N]; exact h1) (by rw [h.x.sc]; exact .inl h2) he (ip_aug (E := fun _ _ => False) op) (.inr (by rw [h.x.sc]; exact h2))).imp fun D σ H q => by
    obtain ⟨B, as, M, env, S, r, q⟩ := q
    have q : PostQ X.K cv W H B as M (match env[i]? with
      | some (some x) => (evE Φ e env M).st env fun y M1 => (match x, y with
        | .int a, .int b => (bopI op (.int a) (.int b) M1).st env fun z M2 => .ok .nx (env.set i (some z)) M2
        | _, _ => .bad)
      | _ => .bad) D := q
    split at q
    · rename_i x ex
      obtain ⟨v, e1, e2⟩ := r.get i x ex
      refine ⟨v, e1, B, as, M, env, S, r, st_bind S r q fun d M1 as1 H1 w hq1 g1 S1 ra q1 => ?_⟩
      split at q1
      · rename_i a b
        cases e2; cases ra
        refine ⟨ho, B, as1, M1, a, b, S1, rfl, rfl, ?_⟩
        have hok : ∃ z M2, bopI op (.int a) (.int b) M1 = .ok z M2 := by
          rcases ho with rfl | rfl <;> exact ⟨_, _, rfl⟩
        obtain ⟨z, M2, hz⟩ := hok
        rw [hz] at q1 ⊢
        intro as2 H2 zv g2 S2 rz
        exact q1 as2 H2 _ g2 S2 (((r.go S g1).go S1 g2).set rz)
      · exact q1.elim
    · exact q.elim
theorem ss_ret {o : O} {y : Option Expr} (h : XS c Φ cv X W) (k : okO o c y = true) : PS X (.Return y pos) (tS X cv W (evS Φ (.ret o))) := by
  cases o with
  | no =>
    unfold okO at k
    cases y with
    | some _ => cases k
    | none =>
      exact ps_retN.imp fun D σ H q => by
        obtain ⟨B, as, M, env, S, r, q⟩ := q
        exact q as H .non Go.refl S rfl
  | so e =>
    unfold okO at k
    cases y with
    | none => cases k
    | some y =>
      refine (ps_ret (soundE e c X W y h.x k)).imp fun D σ H q => ?_
      obtain ⟨B, as, M, env, S, r, q⟩ := q
      refine ⟨B, as, M, env, S, r, st_bind S r q fun d M1 as1 H1 v hq1 g1 S1 ra q1 => ?_⟩
      exact q1 as1 H1 v Go.refl S1 ra
theorem ss_raise {k : Nat} {n m : Str} {j : Nat} {p p2 p3 : Pos} (h : XS c Φ cv X W) (hcool : c.hot = false) (h1 : c.ex k = some n) (h2 : glOk c.sc n = true) (h3 : plainN n = true) : PS X (.Raise (some (.Call (.Name n p) [.Constant (.str m) j p2] [] p3)) none pos) (tS X cv W (evS Φ (.raise k))) := by
  obtain ⟨C, g1, g2, g3, g4, g5⟩ := h.cls k n h1
  refine (L2N.ps_raise (h.x.calm hcool) h.x.tk (L2N.pmk_own PySem.F.excBase_ValueError g3 g1 g4 g5 (gl_of h.x h2) (plain_of h3).1)).imp fun D σ H q => ?_
  obtain ⟨B, as, M, env, S, r, q⟩ := q
  rw [← g2]
  exact q as H σ Go.refl S r
def tSs (X : Cx) (cv : Nat → Value) (W : WX) (Φ : Phi) (ss : Ss) : TS := tS X cv W (evSs Φ ss)
theorem ss_nil : PSs X [] (tSs X cv W Φ .nil) := pss_nil.imp fun D σ H q => by
  obtain ⟨B, as, M, env, S, r, q⟩ := q
  exact q as H σ Go.refl S r
theorem ss_cons {s : S} {ss : Ss} {x : Stmt} {xs : List Stmt} (h1 : PS X x (tS X cv W (evS Φ s))) (h2 : PSs X xs (tSs X cv W Φ ss)) : PSs X (x :: xs) (tSs X cv W Φ (.cons s ss)) :=
  (pss_cons h1 h2).imp fun D σ H q => by
    obtain ⟨B, as, M, env, S, r, q⟩ := q
    refine ⟨B, as, M, env, S, r, ?_⟩
    have q : PostQ X.K cv W H B as M ((evS Φ s env M).seq fun σ1 M1 => evSs Φ ss σ1 M1) D := q
    cases e : evS Φ s env M with
    | ok f env1 M1 =>
      rw [e] at q
      cases f with
      | nx => exact fun as1 H1 σ1 g1 S1 r1 => ⟨B, as1, M1, env1, S1, r1, q.go g1⟩
      | rt d => exact q
      | bk => exact q
      | ct => exact q
    | exc k env1 M1 => rw [e] at q; exact q
    | bad => rw [e] at q; exact q
/-- the error's word is asked -/
def tWord (cv : Nat → Value) (Φ : Phi) (i : Nat) (a : Addr) (cls : Value) (d : Option Addr) : TE := fun σ H Q => σ[i]? = some (some (.ref a)) ∧ d = none ∧ ∃ k x M, cls = cv k ∧ Φ 0 [.int (k : Nat)] [] = .ok (.str x) M ∧ ∀ H', (∀ a o, H a = some o → H' a = some o) → Q (.str x) H'
def tSuite (K : PySem.W.Frag) (cv : Nat → Value) (Φ : Phi) (i : Nat) (w : Tw) (a : Addr) (cls : Value) (d : Option Addr) : TS := match w with
  | .word => fun D σ H => tWord cv Φ i a cls d σ H D.rt
  | .lword => fun D σ H => L2.tLst (L2.tCons (tWord cv Φ i a cls d) L2.tNil) σ H D.rt
  | .weq y => fun D σ H => L2.tOp (rOp2 K (fun _ _ => False) (cop .Eq)) (tWord cv Φ i a cls d) (L2.tC (.str y)) σ H D.rt
theorem pe_word {i : Nat} {n f : Str} {a : Addr} {oe : Obj} {cls : Value} {d : Option Addr} {pn : List (Addr × Obj)} {p0 p1 pos : Pos} (h : XS c Φ cv X W) (hi : c.N[i]? = some n) (hl : c.sc.names.lookup n = some .local) (hn : plainN n = true) (hw : c.wd = some f) (hg : glOk c.sc f = true) (hp : plainN f = true)
    (hz : L2N.Zn cls d oe) (hv : ∃ vs, oe.data = .fields vs) : PE (X.suite a ((a, oe) :: pn)) (.Call (.Name f p0) [.Name n p1] [] pos) (tWord cv Φ i a cls d) := by
  obtain ⟨sm, fa, fd, p, g1, g2, g3, g4, g5, g6⟩ := h.wd f hw
  obtain ⟨n1, n2, _⟩ := plain_of hn
  obtain ⟨vs, ev⟩ := hv
  have hc2 : vs[2]? = some .none := hz.2.2 vs ev
  have hvar : PE (X.suite a ((a, oe) :: pn)) (.Name n p1) (L2.tVar i) := pe_var (X := X.suite a ((a, oe) :: pn)) (by show X.N[i]? = some n; rw [h.x.N]; exact hi) (.inl (by show X.env.scope.names.lookup n = _; rw [h.x.sc]; exact hl)) n1 n2
  have hr : L2H.RoomH c.k (X.suite a ((a, oe) :: pn)).A := ⟨h.x.room.dp, h.x.room.un⟩
  have hgl : Gl (X.suite a ((a, oe) :: pn)) f := gl_of h.x hg
  refine (SgH.pe_callP (X := X.suite a ((a, oe) :: pn)) (p := (a, oe)) (E := fun _ _ _ _ => False) g5 hr ⟨rfl, vs, ev, hc2⟩ List.mem_cons_self hgl g2 g3 g4 (fun σ pins H s e s' I z => ?_) (pa_cons hvar pa_nil) (plain_of hp).1 rfl rfl).imp fun σ H Q q => ?_
  · obtain ⟨_, _, _, _, _, _, _, _, _, _, _, _, z⟩ := z
    exact z.elim
  · obtain ⟨q1, q2, k, x, M, q3, q4, q5⟩ := q
    subst q2 q3
    exact ⟨_, q1, rfl, k, x, M, hz, ⟨vs, ev⟩, q4, q5⟩
theorem okTwC_shp {n : Str} {z : Expr} (h : okTwC c n z = true) : shp z = true := by
  unfold okTwC at h
  split at h
  · rfl
  · cases h
theorem ss_try {i : Nat} {b : Ss} {w : Tw} {bs : List Stmt} {n : Str} {y : Expr} {np rp pos' : Pos} (h : XS c Φ cv X W) (hcool : c.hot = false) (hg : glOk c.sc ("SmoothError" : Str) = true) (hp : plainN ("SmoothError" : Str) = true) (hi : c.N[i]? = some n)
    (hl : c.sc.names.lookup n = some .local) (hn : plainN n = true) (hw : okTw w c n y = true) (hb : ∀ (X' : Cx) (W' : WX), XS c Φ cv X' W' → PSs X' bs (tSs X' cv W' Φ b)) :
    PS X (.Try bs [.ExceptHandler (some (.Name ("SmoothError" : Str) np)) (some n) [.Return (some y) rp] pos'] [] [] pos) (tS X cv W (evS Φ (.tryW i b w))) := by
  obtain ⟨f, hf⟩ : ∃ f, c.wd = some f := by
    have key : ∀ z, okTwC c n z = true → ∃ f, c.wd = some f := fun z hz => by
      unfold okTwC at hz
      split at hz
      · simp only [Bool.and_eq_true] at hz
        exact ⟨_, of_decide_eq_true hz.1⟩
      · cases hz
    cases w with
    | word => exact key _ hw
    | lword =>
      have hw : okTwL c n y = true := hw
      unfold okTwL at hw
      split at hw
      · exact key _ hw
      · cases hw
    | weq x =>
      have hw : okTwE x c n y = true := hw
      unfold okTwE at hw
      split at hw
      · rw [Bool.and_eq_true] at hw
        exact key _ hw.2
      · cases hw
  obtain ⟨sm, fa, fd, p, g1, g2, g3, g4, g5, g6⟩ := h.wd f hf
  have one : ∀ (a : Addr) (oe : Obj) (cls : Value) (d : Option Addr) (pn : List (Addr × Obj)) (z : Expr), okTwC c n z = true → L2N.Zn cls d oe → (∃ vs, oe.data = .fields vs) → PE (X.suite a ((a, oe) :: pn)) z (tWord cv Φ i a cls d) := fun a oe cls d pn z hz hzn hv => by
    unfold okTwC at hz
    split at hz
    · simp only [Bool.and_eq_true] at hz
      obtain ⟨z1, z2, z3, z4⟩ := hz
      have e := of_decide_eq_true z4
      subst e
      exact pe_word h hi hl hn (of_decide_eq_true z1) z2 z3 hzn hv
    · cases hz
  refine (L2N.ps_try_as (c := sm) (tb := fun W' => tSs X cv W' Φ b) (ts := tSuite X.K cv Φ i w) h.hs h.hf (by rw [h.x.N]; exact h.x.nd) (by rw [h.x.N]; exact hi) (by show X.env.scope.names.lookup n = _; rw [h.x.sc]; exact hl) ⟨gl_of h.x hg, (plain_of hp).1, .inl g1⟩ h.x.tk (fun W' pn xe tk po => ?_) (fun a oe cls d pn hz hv => ?_)).imp fun D σ H q => ?_
  · refine hb (X.tr pn xe) W' ⟨⟨h.x.N, h.x.nd, h.x.sc, h.x.fn, h.x.calm, fun z => absurd z (by rw [hcool]; decide), fun z => absurd z (by rw [hcool]; decide), h.x.room, h.x.hd, h.x.bi, h.x.gl, h.x.fns, tk⟩, po, h.kd, h.cls, h.slf, h.hs, h.hf, h.wd⟩
  · cases w with
    | word => exact (pss_cons (ps_ret (one a oe cls d pn _ hw hz hv)) pss_nil).imp fun D σ H q => q
    | lword =>
      have hw : okTwL c n y = true := hw
      unfold okTwL at hw
      split at hw
      · exact (pss_cons (ps_ret (pe_lst (pa_cons (one a oe cls d pn _ hw hz hv) pa_nil (shp_star (okTwC_shp hw))))) pss_nil).imp fun D σ H q => q
      · cases hw
    | weq x =>
      have hw : okTwE x c n y = true := hw
      unfold okTwE at hw
      split at hw
      · rw [Bool.and_eq_true] at hw
        have e := of_decide_eq_true hw.1
        subst e
        exact (pss_cons (ps_ret (pe_cmpR (X := X.suite a ((a, oe) :: pn)) (op_cop (X := X.suite a ((a, oe) :: pn)) (E := fun _ _ => False) (by have z := hu64 h.x; exact z) .Eq) (one a oe cls d pn _ hw.2 hz hv) pe_str rfl)) pss_nil).imp fun D σ H q => q
      · cases hw
  · obtain ⟨B, as, M, env, S, r, q⟩ := q
    refine ⟨B, as, M, env, S, r, ?_⟩
    have q : PostQ X.K cv W H B as M ((evSs Φ b env M).look fun k σ1 M1 => match Φ 0 [.int (k : Nat)] [] with
      | .ok (.str x) _ => if i < σ1.length then (match twR w x M1 with
        | .ok d M2 => .ok (.rt d) (σ1.set i none) M2
        | _ => .bad) else .bad
      | _ => .bad) D := q
    cases e : evSs Φ b env M with
    | ok fl env1 M1 => rw [e] at q; cases fl <;> exact q
    | bad => rw [e] at q; exact q
    | exc k env1 M1 =>
      rw [e] at q
      have q : PostQ X.K cv W H B as M (match Φ 0 [.int (k : Nat)] [] with
        | .ok (.str x) _ => if i < env1.length then (match twR w x M1 with
          | .ok d M2 => .ok (.rt d) (env1.set i none) M2
          | _ => .bad) else .bad
        | _ => .bad) D := q
      split at q
      · rename_i x M2 ew
        split at q
        · rename_i hlen
          intro as1 H1 σ1 g S1 r1
          refine ⟨true, g6 k x M2 ew, fun _ a ha => ?_, fun z => by cases z⟩
          have hs : (σ1.set i (some (V.ref a)))[i]? = some (some (.ref a)) := List.getElem?_set_self (by rw [← r1.len]; exact hlen)
          have sk : ∀ H', (∀ a o, H1 a = some o → H' a = some o) → Go as1 M1 H1 as1 M1 H' ∧ Sim X.K H' B as1 M1 := fun H' hk => by
            have hd : ∀ a, H1 a ≠ none → H' a ≠ none := fun a z e => by
              cases e1 : H1 a with
              | none => exact z e1
              | some o =>
                rw [hk a o e1] at e
                cases e
            have hn : ∀ (i : Nat) (a : Addr), as1.length ≤ i → as1[i]? = some a → H1 a = none := fun i a h1 h2 => by
              rw [List.getElem?_eq_none h1] at h2
              cases h2
            have g' : Go as1 M1 H1 as1 M1 H' := ⟨List.prefix_rfl, fun a o e _ => hk a o e, fun _ _ z => z, hd, hn⟩
            exact ⟨g', S1.stay g' hk⟩
          cases w with
          | word => exact ⟨hs, rfl, k, x, M2, rfl, ew, fun H' hk => q as1 H' _ (g.trans (sk H' hk).1) (sk H' hk).2 rfl⟩
          | lword =>
            refine ⟨hs, rfl, k, x, M2, rfl, ew, fun H' hk => ⟨by rw [sizeLine_eq]; show 1 ≤ 16777216; decide, fun p hp => ?_⟩⟩
            obtain ⟨g', S'⟩ := sk H' hk
            exact q as1 _ _ ((g.trans g').trans (Go.laid S' hp)) (Sim.laid S' hp) ⟨p, [.str x], rfl, upd_same, S'.notAv hp, ⟨.str x, [], rfl, rfl, rfl⟩⟩
          | weq y =>
            refine ⟨hs, rfl, k, x, M2, rfl, ew, fun H' hk => ?_⟩
            obtain ⟨g', S'⟩ := sk H' hk
            refine ⟨B, as1, M1, .str x, .str y, S', rfl, rfl, ?_⟩
            have q : PostQ X.K cv W H B as M (match cop .Eq (.str x) (.str y) M1 with
              | .ok d M2 => .ok (.rt d) (env1.set i none) M2
              | _ => .bad) D := q
            cases ec : cop .Eq (.str x) (.str y) M1 with
            | ok d M3 =>
              rw [ec] at q
              exact fun as2 H2 v g2 S2 rv => q as2 H2 v ((g.trans g').trans g2) S2 rv
            | exc c M3 => rw [ec] at q; exact q.elim
            | bad => rw [ec] at q; exact q.elim
        · exact q.elim
      · exact q.elim
/-- an error of one class, its suite a constant -/
theorem ss_tryN {k : Nat} {b : Ss} {dd : D} {bs : List Stmt} {sm : Str} {kk : Const} {j : Nat} {np rp pos' cp : Pos} (h : XS c Φ cv X W) (hcool : c.hot = false) (he : c.ex k = some sm) (hg : glOk c.sc sm = true) (hp : plainN sm = true) (hk : constOk dd kk = true)
    (hb : ∀ (X' : Cx) (W' : WX), XS c Φ cv X' W' → PSs X' bs (tSs X' cv W' Φ b)) :
    PS X (.Try bs [.ExceptHandler (some (.Name sm np)) none [.Return (some (.Constant kk j cp)) rp] pos'] [] [] pos) (tS X cv W (evS Φ (.tryN k b dd))) := by
  obtain ⟨C, g1, g2, _⟩ := h.cls k sm he
  refine (L2N.ps_try_many (l := [(cv k, fun _ _ _ => tRet (L2.tC (flV dd)))]) (tb := fun W' => tSs X cv W' Φ b) h.hs h.hf h.x.tk (fun W' pn xe tk po => ?_) (.cons ⟨gl_of h.x hg, (plain_of hp).1, .inl (by rw [g1, g2])⟩ (fun a oe cls d pn hz hv => ?_) .nil)).imp fun D σ H q => ?_
  · refine hb (X.tr pn xe) W' ⟨⟨h.x.N, h.x.nd, h.x.sc, h.x.fn, h.x.calm, fun z => absurd z (by rw [hcool]; decide), fun z => absurd z (by rw [hcool]; decide), h.x.room, h.x.hd, h.x.bi, h.x.gl, h.x.fns, tk⟩, po, h.kd, h.cls, h.slf, h.hs, h.hf, h.wd⟩
  · refine (pss_cons (ps_ret (te := L2.tC (flV dd)) ?_) pss_nil).imp fun D σ H q => q
    unfold constOk at hk
    split at hk
    · exact pe_non
    · have e := eq_of_beq hk
      subst e
      exact pe_bl
    · have e := eq_of_beq hk
      subst e
      exact pe_int
    · have e := of_decide_eq_true hk
      subst e
      exact pe_str
    · cases hk
  · obtain ⟨B, as, M, env, S, r, q⟩ := q
    refine ⟨B, as, M, env, S, r, ?_⟩
    have q : PostQ X.K cv W H B as M ((evSs Φ b env M).look fun c σ1 M1 => if c = k then .ok (.rt dd) σ1 M1 else .bad) D := q
    cases e : evSs Φ b env M with
    | ok fl env1 M1 => rw [e] at q; cases fl <;> exact q
    | bad => rw [e] at q; exact q
    | exc c' env1 M1 =>
      rw [e] at q
      have q2 : PostQ X.K cv W H B as M (if c' = k then .ok (.rt dd) env1 M1 else .bad) D := q
      by_cases hc : c' = k
      · rw [if_pos hc] at q2
        subst hc
        intro as1 H1 σ1 g S1 r1
        refine ⟨true, h.slf _ _ he, fun _ a ha => ?_, fun z => by cases z⟩
        refine q2 as1 H1 _ g S1 ?_
        cases dd <;> cases kk <;> first | (cases hk; done) | rfl
      · rw [if_neg hc] at q2
        exact q2.elim
theorem ss_dset {o i v : E} {x y z : Expr} {sp : Pos} (h : XS c Φ cv X W) (hn : notComp z = true) (hy : shp y = true) (hv : PE X z (tE X cv W Φ v)) (ho : PE X x (tE X cv W Φ o)) (hi : PE X y (tE X cv W Φ i)) : PS X (.Assign [.Subscript x y sp] z pos) (tS X cv W (evS Φ (.dset o i v))) := by
  refine (ps_dput (hu1 h.x) ho hi hv (swaps_no hn)).imp fun D σ H q => ?_
  obtain ⟨B, as, M, env, S, r, q⟩ := q
  refine ⟨B, as, M, env, S, r, st_bind S r q fun zd M1 as1 H1 zv _ g1 S1 rz q1 => ?_⟩
  have r1 := r.go S g1
  refine ⟨B, as1, M1, env, S1, r1, st_bind S1 r1 q1 fun xd M2 as2 H2 xv _ g2 S2 rx q2 => ?_⟩
  have r2 := r1.go S1 g2
  refine ⟨B, as2, M2, env, S2, r2, st_bind S2 r2 q2 fun yd M3 as3 H3 yv _ g3 S3 ry q3 => ?_⟩
  have r3 := r2.go S2 g3
  cases e : dsetD xd yd zd M3 with
  | none => rw [e] at q3; exact q3.elim
  | some M4 =>
    rw [e] at q3
    obtain ⟨p, H4, rfl, dp, g4, S4⟩ := dset_rp S3 (g3.rp S2 rx) ry (g3.rp S2 (g2.rp S1 rz)) e
    exact ⟨p, H4, rfl, dp, q3 as3 H4 σ g4 S4 (r3.go S3 g4)⟩
theorem ss_ite {e : E} {a b : Ss} {y : Expr} {as bs : List Stmt} (h1 : PT X y (tT X cv W Φ e)) (h2 : PSs X as (tSs X cv W Φ a)) (h3 : PSs X bs (tSs X cv W Φ b)) : PS X (.If y as bs pos) (tS X cv W (evS Φ (.ite e a b))) :=
  (ps_if h1 h2 h3).imp fun D σ H q => by
    obtain ⟨B, as, M, env, S, r, q⟩ := q
    refine ⟨B, as, M, env, S, r, st_bind S r q fun k M1 as1 H1 v hq1 g1 S1 ra q1 => ?_⟩
    have ra : k = v := ra
    subst ra
    cases k with
    | true => exact ⟨B, as1, M1, env, S1, r.go S g1, q1⟩
    | false => exact ⟨B, as1, M1, env, S1, r.go S g1, q1⟩
theorem ss_whl {e : E} {b : Ss} {y : Expr} {bs : List Stmt} (h : XS c Φ cv X W) (h1 : PT X y (tT X cv W Φ e)) (h2 : PSs X bs (tSs X cv W Φ b)) : PS X (.While y bs [] pos) (tS X cv W (evS Φ (.whl e b))) :=
  (ps_while h.po h1 h2).imp fun D σ H q => by
    obtain ⟨B, as, M, env, S, r, q⟩ := q
    have q : PostQ X.K cv W H B as M (whlL (fun σ1 M1 => evE Φ e σ1 M1) (fun σ1 M1 => evSs Φ b σ1 M1) FUEL env M) D := q
    refine ⟨fun m σ H => ∃ B as M env, Sim X.K H B as M ∧ EnvR X.K H (Av B as M) as env σ ∧ PostQ X.K cv W H B as M (whlL (fun σ1 M1 => evE Φ e σ1 M1) (fun σ1 M1 => evSs Φ b σ1 M1) m env M) D, ⟨FUEL, B, as, M, env, S, r, q⟩, ?_⟩
    rintro m σ H ⟨B, as, M, env, S, r, q⟩
    cases m with
    | zero => exact q.elim
    | succ m =>
      refine ⟨B, as, M, env, S, r, st_bind S r q fun k M1 as1 H1 v hq1 g1 S1 ra q1 => ?_⟩
      have ra : k = v := ra
      subst ra
      have r1 := r.go S g1
      cases k with
      | true =>
        simp only [if_true] at q1 ⊢
        refine ⟨fun σ H => ∃ B as M env, Sim X.K H B as M ∧ EnvR X.K H (Av B as M) as env σ ∧ PostQ X.K cv W H B as M (whlL (fun σ1 M1 => evE Φ e σ1 M1) (fun σ1 M1 => evSs Φ b σ1 M1) m env M) D, fun σ' H' z => ⟨m, Nat.lt_succ_self m, z⟩, ?_⟩
        refine ⟨B, as1, M1, env, S1, r1, ?_⟩
        cases e2 : evSs Φ b env M1 with
        | ok f env2 M2 =>
          rw [e2] at q1
          cases f with
          | nx => exact fun as2 H2 σ2 g2 S2 r2 => ⟨B, as2, M2, env2, S2, r2, PostQ.go q1 g2⟩
          | ct => exact fun as2 H2 σ2 g2 S2 r2 => ⟨B, as2, M2, env2, S2, r2, PostQ.go q1 g2⟩
          | bk => exact q1
          | rt d => exact q1
        | exc k env2 M2 => rw [e2] at q1; exact q1
        | bad => rw [e2] at q1; exact q1
      | false =>
        simp only [Bool.false_eq_true, if_false] at q1 ⊢
        exact q1 as1 H1 σ Go.refl S1 r1
theorem ss_for {t : T} {it : It} {b : Ss} {tg y : Expr} {bs : List Stmt} (h : XS c Φ cv X W) (hcool : c.hot = false) (hg : PG X tg (tT' X Φ t)) (hi : PI X tg y (tI X cv W Φ it)) (hy : shp y = true) (h2 : PSs X bs (tSs X cv W Φ b)) : PS X (.For tg y bs [] pos) (tS X cv W (evS Φ (.for t it b))) :=
  (ps_for h.po (h.x.calm hcool) hi hg h2 (fun x => shp_fold hy x)).imp fun D σ H q => by
    obtain ⟨B, as, M, env, S, r, q⟩ := q
    refine ⟨B, as, M, env, S, r, st_bind S r q fun xs M1 as1 H1 J hq1 g1 S1 feed q1 => ?_⟩
    have r1 := r.go S g1
    refine ⟨fun i m σ H => m = xs.length - i ∧ i ≤ xs.length ∧ ∃ as' M' env, Go as1 M1 H1 as' M' H ∧ Sim X.K H B as' M' ∧ EnvR X.K H (Av B as' M') as' env σ ∧
      PostQ X.K cv W H B as' M' (forL (fun x σ1 M2 => (evT Φ t x σ1 M2).nox.st σ1 fun σ2 M3 => evSs Φ b σ2 M3) (xs.drop i) env M') D, ⟨xs.length, by simp, Nat.zero_le _, as1, M1, env, Go.refl, S1, r1, q1⟩, ?_⟩
    rintro i m σ H2 ⟨rfl, hi, as2, M2, env2, g2, S2, r2, q2⟩
    obtain ⟨f1, f2, f3⟩ := feed B as2 M2 H2 (fun _ _ z => z) g2 S2
    by_cases hlt : i < xs.length
    · refine .inr ⟨f1 i hlt, fun σ H => i + 1 ≤ xs.length ∧ ∃ as' M' env, Go as1 M1 H1 as' M' H ∧ Sim X.K H B as' M' ∧ EnvR X.K H (Av B as' M') as' env σ ∧
        PostQ X.K cv W H B as' M' (forL (fun x σ1 M2 => (evT Φ t x σ1 M2).nox.st σ1 fun σ2 M3 => evSs Φ b σ2 M3) (xs.drop (i + 1)) env M') D, fun σ' H' z => ⟨xs.length - (i + 1), by omega, rfl, z⟩, fun v H3 y => ?_⟩
      obtain ⟨g3, S3, rv, k3⟩ := f3 i _ v H3 (List.getElem?_eq_getElem hlt) y
      have r3 := r2.go S2 g3
      have q3 := q2.go g3
      have q3 : PostQ X.K cv W H3 B as2 M2 (((evT Φ t xs[i] env2 M2).nox.st env2 fun σ2 M3 => evSs Φ b σ2 M3).turn fun σ1 M3 => forL (fun x σ1 M2 => (evT Φ t x σ1 M2).nox.st σ1 fun σ2 M3 => evSs Φ b σ2 M3) (xs.drop (i + 1)) σ1 M3) D := by
        refine PostQ.eq ?_ q3
        rw [List.drop_eq_getElem_cons hlt]
        rfl
      refine ⟨B, as2, M2, env2, xs[i], S3, r3, rv, ?_⟩
      cases e1 : evT Φ t xs[i] env2 M2 with
      | ok env4 M4 =>
        rw [e1] at q3
        intro as4 H4 σ4 g4 S4 rr
        refine ⟨B, as4, M4, env4, S4, rr.1, ?_⟩
        have q4 := q3.go g4
        have q4 : PostQ X.K cv W H4 B as4 M4 ((evSs Φ b env4 M4).turn fun σ1 M3 => forL (fun x σ1 M2 => (evT Φ t x σ1 M2).nox.st σ1 fun σ2 M3 => evSs Φ b σ2 M3) (xs.drop (i + 1)) σ1 M3) D := q4
        have g4' := (g2.trans g3).trans g4
        cases e2 : evSs Φ b env4 M4 with
        | ok f env5 M5 =>
          rw [e2] at q4
          cases f with
          | nx => exact fun as5 H5 σ5 g5 S5 r5 => ⟨hlt, as5, M5, env5, g4'.trans g5, S5, r5, q4.go g5⟩
          | ct => exact fun as5 H5 σ5 g5 S5 r5 => ⟨hlt, as5, M5, env5, g4'.trans g5, S5, r5, q4.go g5⟩
          | bk => exact q4
          | rt d => exact q4
        | exc k env5 M5 => rw [e2] at q4; exact q4
        | bad => rw [e2] at q4; exact q4
      | exc k M4 => rw [e1] at q3; exact q3.elim
      | bad => rw [e1] at q3; exact q3.elim
    · refine .inl ⟨f2 i (by omega), ?_⟩
      have ei : xs.drop i = [] := List.drop_eq_nil_of_le (by omega)
      rw [ei] at q2
      exact q2 as2 H2 σ Go.refl S2 r2
theorem ss_forL {t : T} {e : E} {b : Ss} {tg y : Expr} {bs : List Stmt} (h : XS c Φ cv X W) (hcool : c.hot = false) (hg : PG X tg (tT' X Φ t)) (hi : PE X y (tE X cv W Φ e)) (hy : shp y = true) (h2 : PSs X bs (tSs X cv W Φ b)) : PS X (.For tg y bs [] pos) (tS X cv W (evS Φ (.forL t e b))) :=
  (ps_for h.po (h.x.calm hcool) (pi_list hi) hg h2 (fun x => shp_fold hy x)).imp fun D σ H q => by
    obtain ⟨B, as, M, env, S, r, q⟩ := q
    refine ⟨B, as, M, env, S, r, st_bind S r q fun d M1 as1 H1 v hq1 g1 S1 rd q1 => ?_⟩
    have r1 := r.go S g1
    cases d with
    | ref i =>
      dsimp only at q1
      cases hc : M1[i]? with
      | none => rw [hc] at q1; exact q1.elim
      | some cc =>
        obtain ⟨m, dd⟩ := cc
        rw [hc] at q1
        cases m with
        | false => exact q1.elim
        | true =>
          cases dd with
          | lst xs =>
            dsimp only at q1
            obtain ⟨a, ha, rfl⟩ := rd
            obtain ⟨vs, hv1, hv2⟩ := S1.cell i a _ ha hc
            refine ⟨a, rfl, ⟨vs, .inl (.inl hv1)⟩, ?_⟩
            refine ⟨fun j m σ H => m = xs.length - j ∧ j ≤ xs.length ∧ ∃ as' M' env, Go as1 M1 H1 as' M' H ∧ Sim X.K H B as' M' ∧ EnvR X.K H (Av B as' M') as' env σ ∧
              PostQ X.K cv W H B as' M' (forV i xs (fun x σ1 M2 => (evT Φ t x σ1 M2).nox.st σ1 fun σ2 M3 => evSs Φ b σ2 M3) (xs.drop j) env M') D, ⟨xs.length, by simp, Nat.zero_le _, as1, M1, env, Go.refl, S1, r1, q1⟩, ?_⟩
            rintro j m σ H2 ⟨rfl, hj, as2, M2, env2, g2, S2, r2, q2⟩
            by_cases hlt : j < xs.length
            · have e0 : forV i xs (fun x σ1 M2 => (evT Φ t x σ1 M2).nox.st σ1 fun σ2 M3 => evSs Φ b σ2 M3) (xs.drop j) env2 M2 = if holds i xs M2 = true then (((evT Φ t xs[j] env2 M2).nox.st env2 fun σ2 M3 => evSs Φ b σ2 M3).turn fun σ1 M3 => forV i xs (fun x σ1 M2 => (evT Φ t x σ1 M2).nox.st σ1 fun σ2 M3 => evSs Φ b σ2 M3) (xs.drop (j + 1)) σ1 M3) else .bad := by
                rw [List.drop_eq_getElem_cons hlt]
                rfl
              have q2 := PostQ.eq e0 q2
              split at q2
              · rename_i hh
                have hcell := holds_eq hh
                obtain ⟨ws, hw1, hw2⟩ := S2.cell i a _ (prefix_get g2.pre ha) hcell
                obtain ⟨w, e1, rw1⟩ := hw2.get (List.getElem?_eq_getElem hlt)
                refine .inr ⟨⟨ws, w, .inl (.inl hw1), e1⟩, fun σ H => j + 1 ≤ xs.length ∧ ∃ as' M' env, Go as1 M1 H1 as' M' H ∧ Sim X.K H B as' M' ∧ EnvR X.K H (Av B as' M') as' env σ ∧
                  PostQ X.K cv W H B as' M' (forV i xs (fun x σ1 M2 => (evT Φ t x σ1 M2).nox.st σ1 fun σ2 M3 => evSs Φ b σ2 M3) (xs.drop (j + 1)) env M') D, fun σ' H' z => ⟨xs.length - (j + 1), by omega, rfl, z⟩, fun v H3 y => ?_⟩
                obtain ⟨rfl, y⟩ := y
                have ev := y ws (.inl (.inl hw1))
                rw [e1] at ev
                cases ev
                refine ⟨B, as2, M2, env2, xs[j], S2, r2, rw1, ?_⟩
                cases e1 : evT Φ t xs[j] env2 M2 with
                | ok env4 M4 =>
                  rw [e1] at q2
                  intro as4 H4 σ4 g4 S4 rr
                  refine ⟨B, as4, M4, env4, S4, rr.1, ?_⟩
                  have q4 := q2.go g4
                  have q4 : PostQ X.K cv W H4 B as4 M4 ((evSs Φ b env4 M4).turn fun σ1 M3 => forV i xs (fun x σ1 M2 => (evT Φ t x σ1 M2).nox.st σ1 fun σ2 M3 => evSs Φ b σ2 M3) (xs.drop (j + 1)) σ1 M3) D := q4
                  have g4' := g2.trans g4
                  cases e2 : evSs Φ b env4 M4 with
                  | ok f env5 M5 =>
                    rw [e2] at q4
                    cases f with
                    | nx => exact fun as5 H5 σ5 g5 S5 r5 => ⟨hlt, as5, M5, env5, g4'.trans g5, S5, r5, q4.go g5⟩
                    | ct => exact fun as5 H5 σ5 g5 S5 r5 => ⟨hlt, as5, M5, env5, g4'.trans g5, S5, r5, q4.go g5⟩
                    | bk => exact q4
                    | rt d => exact q4
                  | exc k env5 M5 => rw [e2] at q4; exact q4
                  | bad => rw [e2] at q4; exact q4
                | exc k M4 => rw [e1] at q2; exact q2.elim
                | bad => rw [e1] at q2; exact q2.elim
              · exact q2.elim
            · have ei : xs.drop j = [] := List.drop_eq_nil_of_le (by omega)
              rw [ei] at q2
              have q2 : PostQ X.K cv W H2 B as2 M2 (if holds i xs M2 = true then .ok .nx env2 M2 else .bad) D := q2
              split at q2
              · rename_i hh
                obtain ⟨ws, hw1, hw2⟩ := S2.cell i a _ (prefix_get g2.pre ha) (holds_eq hh)
                exact .inl ⟨⟨ws, .inl (.inl hw1), by rw [hw2.len]; omega⟩, q2 as2 H2 σ Go.refl S2 r2⟩
              · exact q2.elim
          | _ => exact q1.elim
    | _ => exact q1.elim
theorem ss_forE {t : T} {e : E} {b : Ss} {y : Expr} {bs : List Stmt} {ts : List Expr} {kk : Nat} {tp p0 p1 : Pos} (h : XS c Φ cv X W) (hcool : c.hot = false) (h3 : glOk c.sc ("enumerate" : Str) = true) (hg : PG X (.Tuple ts kk tp) (tT' X Φ t)) (hi : PE X y (tE X cv W Φ e)) (hy : shp y = true) (h2 : PSs X bs (tSs X cv W Φ b)) : PS X (.For (.Tuple ts kk tp) (.Call (.Name ("enumerate" : Str) p0) [y] [] p1) bs [] pos) (tS X cv W (evS Φ (.forE t e b))) :=
  (ps_for h.po (h.x.calm hcool) (pi_enum (gl_of h.x h3) (h.x.bi "enumerate" (by decide)) (pa_cons hi pa_nil (shp_star hy)) (shp_star hy)) hg h2 (fun x => shp_fold (by rfl) x)).imp fun D σ H q => by
    obtain ⟨B, as, M, env, S, r, q⟩ := q
    refine ⟨B, as, M, env, S, r, st_bind S r q fun d M1 as1 H1 v hq1 g1 S1 rd q1 => ?_⟩
    have r1 := r.go S g1
    cases d with
    | ref i =>
      dsimp only at q1
      cases hc : M1[i]? with
      | none => rw [hc] at q1; exact q1.elim
      | some cc =>
        obtain ⟨m, dd⟩ := cc
        rw [hc] at q1
        cases m with
        | false => exact q1.elim
        | true =>
          cases dd with
          | lst xs =>
            dsimp only at q1
            obtain ⟨a, ha, rfl⟩ := rd
            obtain ⟨vs, hv1, hv2⟩ := S1.cell i a _ ha hc
            refine ⟨a, vs, rfl, .inl (.inl hv1), ?_⟩
            have hlen := enum_len xs 0
            refine ⟨fun j m σ H => m = xs.length - j ∧ j ≤ xs.length ∧ ∃ as' M' env, Go as1 M1 H1 as' M' H ∧ Sim X.K H B as' M' ∧ EnvR X.K H (Av B as' M') as' env σ ∧
              PostQ X.K cv W H B as' M' (forV i xs (fun x σ1 M2 => (evT Φ t x σ1 M2).nox.st σ1 fun σ2 M3 => evSs Φ b σ2 M3) ((enumD 0 xs).drop j) env M') D, ⟨xs.length, by simp, Nat.zero_le _, as1, M1, env, Go.refl, S1, r1, q1⟩, ?_⟩
            rintro j m σ H2 ⟨rfl, hj, as2, M2, env2, g2, S2, r2, q2⟩
            by_cases hlt : j < xs.length
            · have e0 : forV i xs (fun x σ1 M2 => (evT Φ t x σ1 M2).nox.st σ1 fun σ2 M3 => evSs Φ b σ2 M3) ((enumD 0 xs).drop j) env2 M2 = if holds i xs M2 = true then (((evT Φ t (.tup [.int (j : Nat), xs[j]]) env2 M2).nox.st env2 fun σ2 M3 => evSs Φ b σ2 M3).turn fun σ1 M3 => forV i xs (fun x σ1 M2 => (evT Φ t x σ1 M2).nox.st σ1 fun σ2 M3 => evSs Φ b σ2 M3) ((enumD 0 xs).drop (j + 1)) σ1 M3) else .bad := by
                have ej : (enumD 0 xs)[j]'(by omega) = .tup [.int (j : Nat), xs[j]] := by
                  obtain ⟨z, e5, e6⟩ := enum_get (List.getElem?_eq_getElem (show j < (enumD 0 xs).length by omega))
                  rw [List.getElem?_eq_getElem hlt] at e5
                  rw [e6, Nat.zero_add, Option.some.inj e5]
                rw [List.drop_eq_getElem_cons (show j < (enumD 0 xs).length by omega), ej]
                rfl
              have q2 := PostQ.eq e0 q2
              split at q2
              · rename_i hh
                have hcell := holds_eq hh
                obtain ⟨ws, hw1, hw2⟩ := S2.cell i a _ (prefix_get g2.pre ha) hcell
                obtain ⟨w, e1, rw1⟩ := hw2.get (List.getElem?_eq_getElem hlt)
                refine .inr ⟨⟨ws, w, .inl (.inl hw1), e1⟩, fun σ H => j + 1 ≤ xs.length ∧ ∃ as' M' env, Go as1 M1 H1 as' M' H ∧ Sim X.K H B as' M' ∧ EnvR X.K H (Av B as' M') as' env σ ∧
                  PostQ X.K cv W H B as' M' (forV i xs (fun x σ1 M2 => (evT Φ t x σ1 M2).nox.st σ1 fun σ2 M3 => evSs Φ b σ2 M3) ((enumD 0 xs).drop (j + 1)) env M') D, fun σ' H' z => ⟨xs.length - (j + 1), by omega, rfl, z⟩, fun v H3 y => ?_⟩
                obtain ⟨p, w2, rfl, hp, rfl, y⟩ := y
                have ev := y ws (.inl (.inl hw1))
                rw [e1] at ev
                cases ev
                obtain ⟨g3, S3, rv, k3⟩ := tup_new (ds := [.int (j : Nat), xs[j]]) S2 hp ⟨.int (j : Nat), [w], rfl, rfl, w, [], rfl, rw1, rfl⟩
                have r3 := r2.go S2 g3
                have q2 := q2.go g3
                refine ⟨B, as2, M2, env2, .tup [.int (j : Nat), xs[j]], S3, r3, rv, ?_⟩
                cases e1 : evT Φ t (.tup [.int (j : Nat), xs[j]]) env2 M2 with
                | ok env4 M4 =>
                  rw [e1] at q2
                  intro as4 H4 σ4 g4 S4 rr
                  refine ⟨B, as4, M4, env4, S4, rr.1, ?_⟩
                  have q4 := q2.go g4
                  have q4 : PostQ X.K cv W H4 B as4 M4 ((evSs Φ b env4 M4).turn fun σ1 M3 => forV i xs (fun x σ1 M2 => (evT Φ t x σ1 M2).nox.st σ1 fun σ2 M3 => evSs Φ b σ2 M3) ((enumD 0 xs).drop (j + 1)) σ1 M3) D := q4
                  have g4' := (g2.trans g3).trans g4
                  cases e2 : evSs Φ b env4 M4 with
                  | ok f env5 M5 =>
                    rw [e2] at q4
                    cases f with
                    | nx => exact fun as5 H5 σ5 g5 S5 r5 => ⟨hlt, as5, M5, env5, g4'.trans g5, S5, r5, q4.go g5⟩
                    | ct => exact fun as5 H5 σ5 g5 S5 r5 => ⟨hlt, as5, M5, env5, g4'.trans g5, S5, r5, q4.go g5⟩
                    | bk => exact q4
                    | rt d => exact q4
                  | exc k env5 M5 => rw [e2] at q4; exact q4
                  | bad => rw [e2] at q4; exact q4
                | exc k M4 => rw [e1] at q2; exact q2.elim
                | bad => rw [e1] at q2; exact q2.elim
              · exact q2.elim
            · have ei : (enumD 0 xs).drop j = [] := List.drop_eq_nil_of_le (by omega)
              rw [ei] at q2
              have q2 : PostQ X.K cv W H2 B as2 M2 (if holds i xs M2 = true then .ok .nx env2 M2 else .bad) D := q2
              split at q2
              · rename_i hh
                obtain ⟨ws, hw1, hw2⟩ := S2.cell i a _ (prefix_get g2.pre ha) (holds_eq hh)
                exact .inl ⟨⟨ws, .inl (.inl hw1), by rw [hw2.len]; omega⟩, q2 as2 H2 σ Go.refl S2 r2⟩
              · exact q2.elim
          | _ => exact q1.elim
    | _ => exact q1.elim
mutual
theorem soundS : (s : S) → (X : Cx) → (W : WX) → (x : Stmt) → XS c Φ cv X W → okS s c x = true → PS X x (tS X cv W (evS Φ s))
  | .expr e, X, W, x, h, k => by
    unfold okS at k
    split at k
    · simp only [Bool.and_eq_true] at k
      exact ss_expr (soundE e c X W _ h.x k.1) k.2
    · cases k
  | .asg t e, X, W, x, h, k => by
    unfold okS at k
    split at k
    · rename_i tg y pos
      simp only [Bool.and_eq_true] at k
      obtain ⟨⟨k1, k2⟩, k3⟩ := k
      have hg := soundTg t c X W tg h.x k1
      by_cases hc : notComp y = true
      · exact ss_asg h k1 hg (soundE e c X W _ h.x k2) hc k3
      · cases e with
        | comp m own t' it cd e' =>
          have k2' := k2
          unfold okE at k2'
          split at k2'
          · exact ss_asgc h k1 hg k3 k2
          · cases k2'
        | compV m own t' l cd e' =>
          have k2' := k2
          unfold okE at k2'
          split at k2'
          · exact ss_asgcV h k1 hg k3 k2
          · cases k2'
        | snap e' =>
          unfold okE at k2
          rw [Bool.and_eq_true] at k2
          exact absurd k2.1 hc
        | hole =>
          unfold okE at k2
          rw [Bool.and_eq_true] at k2
          exact absurd k2.1 hc
        | dsum _ => unfold okE at k2; cases k2
        | _ => (unfold okE at k2; split at k2 <;> first | exact absurd rfl hc | cases k2)
    · cases k
  | .par _ _ _ _, X, W, x, h, k => by unfold okS at k; cases k
  | .aug i op e, X, W, x, h, k => by
    unfold okS at k
    split at k
    · simp only [Bool.and_eq_true, Bool.or_eq_true] at k
      obtain ⟨⟨⟨⟨k1, k2⟩, k3⟩, k4⟩, k5⟩ := k
      have e1 := of_decide_eq_true k1
      subst e1
      exact ss_aug h (k2.imp of_decide_eq_true of_decide_eq_true) (of_decide_eq_true k3) (of_decide_eq_true k4) (soundE e c X W _ h.x k5)
    · cases k
  | .ite e a b, X, W, x, h, k => by
    unfold okS at k
    split at k
    · simp only [Bool.and_eq_true] at k
      exact ss_ite (soundT e c X W _ h.x k.1.1) (soundSs a X W _ h k.1.2) (soundSs b X W _ h k.2)
    · cases k
  | .whl e b, X, W, x, h, k => by
    unfold okS at k
    split at k
    · simp only [Bool.and_eq_true] at k
      exact ss_whl h (soundT e c X W _ h.x k.1) (soundSs b X W _ h k.2)
    · cases k
  | .for t it b, X, W, x, h, k => by
    unfold okS at k
    split at k
    · simp only [Bool.and_eq_true] at k
      have k0 : c.hot = false := by have := k.1; rwa [Bool.not_eq_true'] at this
      have k := k.2
      exact ss_for h k0 (soundTg t c X W _ h.x k.1.1) (soundIt it c X W _ _ h.x k.1.2) (okIt_shp it c _ _ k.1.2) (soundSs b X W _ h k.2)
    · cases k
  | .forL t e b, X, W, x, h, k => by
    unfold okS at k
    split at k
    · simp only [Bool.and_eq_true] at k
      have k0 : c.hot = false := by have := k.1; rwa [Bool.not_eq_true'] at this
      have k := k.2
      exact ss_forL h k0 (soundTg t c X W _ h.x k.1.1) (soundE e c X W _ h.x k.1.2) (okE_shp e c _ k.1.2) (soundSs b X W _ h k.2)
    · cases k
  | .forE t e b, X, W, x, h, k => by
    unfold okS at k
    split at k
    · rename_i tg n p0 y p1 bs pos
      simp only [Bool.and_eq_true] at k
      have k0 : c.hot = false := by have := k.1; rwa [Bool.not_eq_true'] at this
      have k := k.2
      obtain ⟨⟨kt, kn, kg, ki, ke⟩, kb⟩ := k
      have kn := of_decide_eq_true kn
      subst kn
      cases tg <;> first | (cases ki; done) | skip
      exact ss_forE h k0 kg (soundTg t c X W _ h.x kt) (soundE e c X W _ h.x ke) (okE_shp e c _ ke) (soundSs b X W _ h kb)
    · cases k
  | .ret e, X, W, x, h, k => by
    unfold okS at k
    split at k
    · exact ss_ret h k
    · cases k
  | .pass, X, W, x, h, k => by
    unfold okS at k
    split at k
    · exact ps_pass.imp fun D σ H q => by
        obtain ⟨B, as, M, env, S, r, q⟩ := q
        exact q as H σ Go.refl S r
    · cases k
  | .brk, X, W, x, h, k => by
    unfold okS at k
    split at k
    · exact ps_break.imp fun D σ H q => by
        obtain ⟨B, as, M, env, S, r, q⟩ := q
        exact q as H σ Go.refl S r
    · cases k
  | .cont, X, W, x, h, k => by
    unfold okS at k
    split at k
    · exact ps_continue.imp fun D σ H q => by
        obtain ⟨B, as, M, env, S, r, q⟩ := q
        exact q as H σ Go.refl S r
    · cases k
  | .hole, X, W, x, h, k => ⟨fun pins s σ H D I q => by
    obtain ⟨B, as, M, env, S, r, q⟩ := q
    exact q.elim⟩
  | .dset o i v, X, W, x, h, k => by
    unfold okS at k
    split at k
    · simp only [Bool.and_eq_true] at k
      obtain ⟨k1, k2, k3, k4⟩ := k
      exact ss_dset h k1 (okE_shp _ _ _ k4) (soundE v c X W _ h.x k2) (soundE o c X W _ h.x k3) (soundE i c X W _ h.x k4)
    · cases k
  | .tryN kk b d, X, W, x, h, k => by
    unfold okS at k
    split at k
    · simp only [Bool.and_eq_true, Bool.not_eq_true'] at k
      obtain ⟨k0, k1, k2, k3, k4, k5⟩ := k
      exact ss_tryN h k0 (of_decide_eq_true k1) k2 k3 k4 fun X' W' h' => soundSs b X' W' _ h' k5
    · cases k
  | .raise kk, X, W, x, h, k => by
    unfold okS at k
    split at k
    · simp only [Bool.and_eq_true] at k
      have k0 : c.hot = false := by have := k.1; rwa [Bool.not_eq_true'] at this
      have k := k.2
      exact ss_raise h k0 (of_decide_eq_true k.1.1) k.1.2 k.2
    · cases k
  | .tryW i b w, X, W, x, h, k => by
    unfold okS at k
    split at k
    · simp only [Bool.and_eq_true] at k
      obtain ⟨k0, k1, k2, k3, k4, k5, k6, k7, k8⟩ := k
      have k0 : c.hot = false := by rwa [Bool.not_eq_true'] at k0
      have e := of_decide_eq_true k1
      subst e
      exact ss_try h k0 k2 k3 (of_decide_eq_true k4) (of_decide_eq_true k5) k6 k7 fun X' W' h' => soundSs b X' W' _ h' k8
    · cases k
theorem soundSs : (ss : Ss) → (X : Cx) → (W : WX) → (xs : List Stmt) → XS c Φ cv X W → okSs ss c xs = true → PSs X xs (tSs X cv W Φ ss)
  | .nil, X, W, xs, h, k => by
    unfold okSs at k
    cases xs with
    | nil => exact ss_nil
    | cons _ _ => cases k
  | .cons s ss, X, W, xs, h, k => by
    unfold okSs at k
    cases xs with
    | nil => cases k
    | cons y ys =>
      simp only [Bool.and_eq_true] at k
      exact ss_cons (soundS s X W y h k.1) (soundSs ss X W ys h k.2)
end
end
end
end Sg

namespace Sg
noncomputable section
open PySem PySem.Spec PyProof.Rows L2
/-- a def of the program: its number, name, parameters, what it computes -/
structure Ent where
  id : Nat
  x : Str
  ps : List Str
  F : List D → List Cell → R D
  dds : List D := []
/-- .. with its last arguments left out -/
def Ent.G (e : Ent) : List D → List Cell → R D := match e.dds with
  | [] => e.F
  | d :: dd => fun ds M => e.F (ds ++ d :: dd) M
theorem Ent.G_eq (e : Ent) (ds : List D) (M : List Cell) : e.G ds M = e.F (ds ++ e.dds) M := by
  unfold Ent.G
  cases e.dds with
  | nil => rw [List.append_nil]
  | cons d dd => rfl
def look : List Ent → Phi
  | [], _ => fun _ _ => .bad
  | e :: L, i => if e.id = i then e.G else look L i
def nameOf : List Ent → Nat → Option Str
  | [], _ => none
  | e :: L, i => if e.id = i then some e.x else nameOf L i
/-- the error's word, by the class's number -/
def wordF (tb : List (Nat × Str)) : List D → List Cell → R D := fun ds _ => match ds with
  | [.int k] => (match tb.lookup k.toNat with
    | some x => .ok (.str x) []
    | none => .bad)
  | _ => .bad
def lookW (tb : List (Nat × Str)) (L : List Ent) : Phi := fun i => match i with
  | 0 => wordF tb
  | i + 1 => look L (i + 1)
def nameW (L : List Ent) : Nat → Option Str := fun i => match i with
  | 0 => none
  | i + 1 => nameOf L (i + 1)
/-- the scope's facts, decided -/
def scopeB (N ps : List Str) (sc : Scope) : Bool :=
  (match sc.kind with | .function => true | _ => false) && !sc.isCoroutine && !sc.isGenerator && decide N.Nodup && decide (N.take ps.length = ps) &&
    (ps.all fun x => match sc.names.lookup x with | some .local => true | some .cell => true | _ => false) && (sc.names.all fun y => match y.2 with | .free => false | _ => true)
theorem scope_of {N ps : List Str} {sc : Scope} (h : scopeB N ps sc = true) : FnScope N ps sc := by
  unfold scopeB at h
  simp only [Bool.and_eq_true, Bool.not_eq_true', List.all_eq_true] at h
  obtain ⟨⟨⟨⟨⟨⟨h1, h2⟩, h3⟩, h4⟩, h5⟩, h6⟩, h7⟩ := h
  refine ⟨?_, h2, h3, of_decide_eq_true h4, of_decide_eq_true h5, fun x hx => ?_, fun y hy e => ?_⟩
  · split at h1
    · assumption
    · cases h1
  · have := h6 x hx
    split at this
    · exact .inl (by assumption)
    · exact .inr (by assumption)
    · cases this
  · have := h7 y hy
    rw [e] at this
    cases this
def ctxOf (tb : List (Nat × Str)) (L : List Ent) (ex : Nat → Option Str) (gl : List (Str × D)) (k : Nat) (N : List Str) (sc : Scope) : Ctx := ⟨N, sc, fun _ => true, nameW L, ex, gl, k, false, fun _ => none, if tb.isEmpty || k == 0 then none else some ("_law_word" : Str)⟩
/-- what stands around all defs -/
structure Top (P : Program) (w : World) (K : PySem.W.Frag) (mg : Str → Option Value) (cv : Nat → Value) (ex : Nat → Option Str) (gl : List (Str × D)) : Prop where
  bi : ∀ x ∈ builtins, mg (x : Str) = none
  gl : ∀ p ∈ gl, ∃ u v, mg p.1 = some u ∧ RelV v u ∧ ∀ H B as, Rp K H B as p.2 v
  cls : ∀ k n, ex k = some n → ∃ C, mg n = some (.ref C) ∧ cv k = .ref C ∧ PySem.W.excIn K C [.type "ValueError", .type "Exception", .type "BaseException", .type "object"] "ValueError.__new__" = true ∧ PySem.W.keepIn K (.ref C) = true ∧
    PySem.W.subIn K (.ref C) (.type "BaseException") = some true ∧ PySem.W.typeIn K (.ref C) = some (.type "type")
  slf : ∀ k n, ex k = some n → PySem.W.exmOne K (cv k) (cv k) = some true
/-- the def that tells an error's word -/
def WdOk (P : Program) (w : World) (K : PySem.W.Frag) (mg : Str → Option Value) (base : Heap) (cv : Nat → Value) (tb : List (Nat × Str)) : Prop := tb ≠ [] → ∃ (sm : Value) (fa : Addr) (fd : FuncData) (p : Str), mg ("SmoothError" : Str) = some sm ∧ mg ("_law_word" : Str) = some (.ref fa) ∧
  PySem.W.keepIn K (.ref fa) = true ∧ Binds K fd [p] [] ∧ SgH.FnP P w K mg base (L2N.CX P w) 1 fa fd [p] (spW cv (wordF tb)) ∧ ∀ k x, tb.lookup k = some x → PySem.W.exmOne K (cv k) sm = some true
def EntOk (P : Program) (w : World) (K : PySem.W.Frag) (mg : Str → Option Value) (base : Heap) (cv : Nat → Value) (k : Nat) (e : Ent) : Prop :=
  ∃ (fa : Addr) (fd : FuncData) (dvs : List V) (dss : List Value), mg e.x = some (.ref fa) ∧ (∃ o, K.lookup fa = some o ∧ o.data = .func fd) ∧ PySem.W.keepIn K (.ref fa) = true ∧ Binds K fd e.ps dss ∧ Vals dvs dss ∧ (∀ H B as, Rps K H B as e.dds dvs) ∧ e.dds.length ≤ e.ps.length ∧ (∀ ds M, ds.length ≠ e.ps.length → e.F ds M = .bad) ∧ FnOk P w K mg base (L2N.CX P w) k fa fd e.ps (spD K cv e.F e.ps.length)
theorem evD_len {Φ : Phi} {d : Df} {ds : List D} {M : List Cell} (h : ds.length ≠ d.ps) : evD Φ d ds M = .bad := by
  unfold evD
  rw [if_neg h]
theorem start_env {K : PySem.W.Frag} {H : Hp} {B : Addr → Prop} {as : List Addr} {N : List Str} {ds : List D} {vs : List V} (r : Rps K H B as ds vs) : EnvR K H B as (start N.length ds) (L2.start N vs) := by
  unfold start L2.start
  have hl := r.len
  refine ⟨by simp [hl], fun i d e => ?_⟩
  by_cases hi : i < ds.length
  · have hv : i < vs.length := by omega
    rw [List.getElem?_append_left (by rw [List.length_map]; exact hi), List.getElem?_map, List.getElem?_eq_getElem hi] at e
    cases e
    obtain ⟨v, e1, e2⟩ := r.get (List.getElem?_eq_getElem hi)
    refine ⟨v, ?_, e2⟩
    rw [List.getElem?_append_left (by rw [List.length_map]; exact hv), List.getElem?_map, e1]; rfl
  · rw [List.getElem?_append_right (by simpa using hi)] at e
    rw [List.getElem?_replicate] at e
    split at e <;> cases e
section
variable {P : Program} {w : World} {K : PySem.W.Frag} {mg : Str → Option Value} {base : Heap} {cv : Nat → Value} {ex : Nat → Option Str} {gl : List (Str × D)} {L : List Ent} {k : Nat}
theorem look_mem : ∀ {L : List Ent} {i : Nat} {x : Str}, nameOf L i = some x → ∃ e ∈ L, e.x = x ∧ look L i = e.G
  | [], _, _, h => by cases h
  | e :: L, i, x, h => by
    unfold nameOf at h
    split at h
    · rename_i hi
      cases h
      exact ⟨e, List.mem_cons_self, rfl, by unfold look; rw [if_pos hi]⟩
    · rename_i hi
      obtain ⟨e', h1, h2, h3⟩ := look_mem h
      exact ⟨e', List.mem_cons_of_mem _ h1, h2, by unfold look; rw [if_neg hi]; exact h3⟩
theorem look_memW {tb : List (Nat × Str)} {L : List Ent} {i : Nat} {x : Str} (h : nameW L i = some x) : ∃ e ∈ L, e.x = x ∧ lookW tb L i = e.G := by
  cases i with
  | zero => cases h
  | succ i => exact look_mem h
/-- THE STEP: a def more -/
theorem ent_ok {st : Stmt} {x qn : Str} {f : Addr} {fd : FuncData} {id : Nat} {d : Df} {N ps : List Str} {dvs : List V} {tb : List (Nat × Str)} (T : Top P w K mg cv ex gl) (hw : WdOk P w K mg base cv tb) (hL : ∀ e ∈ L, EntOk P w K mg base cv k e) (F : FunD K qn qn (defArgs st) (defBody st) (defScope st) dvs [] f fd) (hf : mg x = some (.ref f))
    (hb : Binds K fd ps []) (hs : scopeB N ps (defScope st) = true) (h1 : d.ps = ps.length) (h2 : d.n = N.length) (ok : okSs d.body (ctxOf tb L ex gl k N (defScope st)) (defBody st) = true) :
    EntOk P w K mg base cv (k + 1) ⟨id, x, ps, evD (lookW tb L) d, []⟩ := by
  refine ⟨f, fd, [], [], hf, (by
    obtain ⟨oc, od, dV, kV, dc, pm, an, cd, ct, sl, e, l, c⟩ := F.ex
    exact ⟨_, l, rfl⟩), F.kp, hb, .nil, fun _ _ _ => rfl, Nat.zero_le _, fun ds M h => evD_len (by rw [h1]; exact h), ?_⟩
  have S := scope_of hs
  refine F.ok (CX := L2N.CX P w) S (fun vs H Q E h => h.1) (fun cdv A outer s H vs Q E hr hsp => ?_)
  have hX : XH (ctxOf tb L ex gl k N (defScope st)) (lookW tb L) cv (cxOf (L2N.CX P w) P w K mg base N qn (defScope st) f cdv A outer s H E) (fun cls d _ H => E cls d H) :=
    ⟨rfl, S.nd, rfl, fun _ _ => rfl, fun _ => rfl, fun z => (by cases z), fun z => (by cases z), ⟨hr.dp, hr.un⟩, fun _ => hr.hd, T.bi, T.gl, fun i y hy => by
      obtain ⟨e, h1, h2, h3⟩ := look_memW (tb := tb) hy
      obtain ⟨fa, fd', dvs, dss, g1, _, g2, g3, gv, gr, gl, g4, g5⟩ := hL e h1
      rw [h2] at g1
      exact ⟨fa, fd', e.ps, dvs, dss, e.dds, e.F, e.ps.length - e.dds.length, g1, g2, g3, gv, gr, by omega, fun ds M hl => by rw [h3, Ent.G_eq]; exact g4 _ M (by rw [List.length_append]; omega), fun ds M => by rw [h3, Ent.G_eq], g5⟩, L2N.takes_of rfl rfl rfl rfl⟩
  have hS : XS (ctxOf tb L ex gl k N (defScope st)) (lookW tb L) cv (cxOf (L2N.CX P w) P w K mg base N qn (defScope st) f cdv A outer s H E) (fun cls d _ H => E cls d H) :=
    ⟨hX, passes_of rfl, S.kind, fun i n hn => by
      obtain ⟨C, g1, g2, g3, g4, g5, g6⟩ := T.cls i n hn
      exact ⟨C, g1, g2, g3, g4, raises_own g5 g6⟩, T.slf, rfl, rfl, fun f hf => by
      have hf : (if (tb.isEmpty || k == 0) = true then none else some ("_law_word" : Str)) = some f := hf
      split at hf
      · cases hf
      · rename_i hb
        cases hf
        rw [Bool.or_eq_true, not_or] at hb
        obtain ⟨sm, fa, fd, p, g1, g2, g3, g4, g5, g6⟩ := hw (fun z => hb.1 (by rw [z]; rfl))
        refine ⟨sm, fa, fd, p, g1, g2, g3, g4, g5.mono (by
          have := hb.2
          rw [beq_iff_eq] at this
          show 1 ≤ k
          omega), fun j x M e => ?_⟩
        have e : (match tb.lookup (j : Int).toNat with
          | some x => R.ok (D.str x) []
          | none => .bad) = R.ok (D.str x) M := e
        rw [Int.toNat_natCast] at e
        cases e1 : tb.lookup j with
        | none => rw [e1] at e; cases e
        | some y => exact g6 j y e1⟩
  refine ⟨_, soundSs d.body _ _ _ hS ok, ?_⟩
  obtain ⟨hl, B, as, M, ds, Sm, rs, q⟩ := hsp
  have hdl : ds.length = d.ps := by rw [h1, ← hl, rs.len]
  refine ⟨B, as, M, start d.n ds, Sm, by rw [h2]; exact start_env rs, ?_⟩
  have q : PostD K H B as M (fun c H' => E (cv c) none H') (evD (lookW tb L) d ds M) Q := q
  unfold evD at q
  rw [if_pos hdl] at q
  revert q
  cases evSs (lookW tb L) d.body (start d.n ds) M with
  | ok fl env M' =>
    cases fl with
    | nx => exact fun q as' H' σ' g S' r => q as' H' .non g S' rfl
    | rt x => exact fun q => q
    | bk => exact fun q => q.elim
    | ct => exact fun q => q.elim
  | exc c env M' => exact fun q as' H' σ' g S' r => q as' H' g S'
  | bad => exact fun q => q.elim
theorem EntOk.mono {j : Nat} {e : Ent} (h : EntOk P w K mg base cv k e) (hk : k ≤ j) : EntOk P w K mg base cv j e := by
  obtain ⟨fa, fd, dvs, dss, g1, g0, g2, g3, gv, gr, gl, g4, g5⟩ := h
  exact ⟨fa, fd, dvs, dss, g1, g0, g2, g3, gv, gr, gl, g4, g5.mono hk⟩
theorem ents_cons {e : Ent} (hL : ∀ e ∈ L, EntOk P w K mg base cv k e) (h : EntOk P w K mg base cv (k + 1) e) : ∀ e' ∈ e :: L, EntOk P w K mg base cv (k + 1) e' := fun e' he => by
  rcases List.mem_cons.mp he with rfl | he
  · exact h
  · exact (hL e' he).mono (Nat.le_succ k)
end
/-- .. whatever the small heap holds in the end -/
theorem law_sp' {K : PySem.W.Frag} {cv : Nat → Value} {F : List D → List Cell → R D} {H : Hp} {a : Addr} {ns : List Int} (hO : Only H) (hS : SqL K H a (ns.map V.int)) (h : ∃ M, F [.fro (ns.map D.int)] [] = .ok (.bl true) M) :
    spD K cv F 1 [.ref a] H (fun v _ => v = .bl true) fun _ _ _ => False := by
  obtain ⟨M, h⟩ := h
  have hf : FroK K H a (ns.map V.int) := by
    rcases hS with (h | ⟨o, h⟩) | h
    · rcases hO a with e | ⟨o, xs, e⟩ <;> rw [h] at e <;> cases e
    · exact .inl ⟨o, h⟩
    · exact .inr h
  have hr : ∀ ns : List Int, Rps K H (Av (fun _ => False) [] []) [] (ns.map D.int) (ns.map V.int) := fun ns => by
    induction ns with
    | nil => rfl
    | cons n ns ih => exact ⟨.int n, ns.map V.int, rfl, rfl, ih⟩
  refine ⟨rfl, fun _ => False, [], [], [.fro (ns.map D.int)], sim_none fun _ z => z.elim, ⟨.ref a, [], rfl, ⟨a, ns.map V.int, rfl, hf, hr ns⟩, rfl⟩, ?_⟩
  rw [h]
  exact fun as' H' v g S r => r
theorem cx_none {P : Program} {w : World} {H : Hp} {s : Shared} {e : Value} {s' : Shared} (h : L2N.CX P w [] H s (fun _ _ _ => False) e s') : False := by
  obtain ⟨_, _, _, _, _, _, _, _, _, _, _, _, z⟩ := h
  exact z
end
end Sg

namespace Sg
noncomputable section
open PySem PySem.Spec PyProof.Rows L2
mutual
theorem litB_ok {K : PySem.W.Frag} : (d : D) → (u : Value) → litB K d u = true → ∃ v, RelV v u ∧ ∀ H B as, Rp K H B as d v
  | .non, u, h => by
    cases u <;> first | (cases h; done) | skip
    exact ⟨.non, rfl, fun _ _ _ => rfl⟩
  | .bl b, u, h => by
    cases u <;> first | (cases h; done) | skip
    rename_i c
    have e : b = c := by
      have h1 : (b == c) = true := h
      exact eq_of_beq h1
    subst e
    exact ⟨.bl b, rfl, fun _ _ _ => rfl⟩
  | .int i, u, h => by
    cases u <;> first | (cases h; done) | skip
    rename_i j t
    have e : i = j := of_decide_eq_true h
    subst e
    exact ⟨.int i, ⟨t, rfl⟩, fun _ _ _ => rfl⟩
  | .str x, u, h => by
    cases u <;> first | (cases h; done) | skip
    rename_i y t
    have e : x = y := of_decide_eq_true h
    subst e
    exact ⟨.str x, ⟨t, rfl⟩, fun _ _ _ => rfl⟩
  | .tup ds, u, h => by
    cases u <;> first | (cases h; done) | skip
    rename_i a
    unfold litB at h
    split at h
    · rename_i c dd its n sl e
      simp only [Bool.and_eq_true] at h
      obtain ⟨vs, r, g⟩ := litBs_ok ds its.toList h.2.2
      have hc : c = "tuple" := of_decide_eq_true h.1
      refine ⟨.ref a, rfl, fun H B as => ⟨a, vs, rfl, .inr ⟨_, its, n, e, ?_, rfl, of_decide_eq_true h.2.1, r⟩, g H B as⟩⟩
      rw [hc]
    · cases h
  | .lst _, u, h => by cases u <;> cases h
  | .fro _, u, h => by cases u <;> cases h
  | .dct _ _ _, u, h => by cases u <;> cases h
  | .exo _, u, h => by cases u <;> cases h
  | .ref _, u, h => by cases u <;> cases h
theorem litBs_ok {K : PySem.W.Frag} : (ds : List D) → (us : List Value) → litBs K ds us = true → ∃ vs, Vals vs us ∧ ∀ H B as, Rps K H B as ds vs
  | [], [], _ => ⟨[], .nil, fun _ _ _ => rfl⟩
  | [], _ :: _, h => by cases h
  | _ :: _, [], h => by cases h
  | d :: ds, u :: us, h => by
    have h2 : (litB K d u && litBs K ds us) = true := h
    rw [Bool.and_eq_true] at h2
    obtain ⟨v, r, g⟩ := litB_ok d u h2.1
    obtain ⟨vs, r2, g2⟩ := litBs_ok ds us h2.2
    exact ⟨v :: vs, .cons r r2, fun H B as => ⟨v, vs, rfl, g H B as, g2 H B as⟩⟩
end
def exOf (exs : List (Nat × Str)) (k : Nat) : Option Str := exs.lookup k
def cvOf (K : PySem.W.Frag) (exs : List (Nat × Str)) (k : Nat) : Value := match exs.lookup k with
  | some x => .ref (He.ga K x)
  | none => .none
theorem fact_of {fa : List He.Fa} {fn : List He.DefD} {K : PySem.W.Frag} (c : He.SaysD fa fn K) {f : He.Fa} (h : f ∈ fa) : f.ok K = true := by
  obtain ⟨i, hi, e⟩ := List.mem_iff_getElem.mp h
  exact c.fact i (f := f) (by rw [List.getElem?_eq_getElem hi, e])
theorem look_of_mem {α : Type} {k : Nat} {x : α} : ∀ {l : List (Nat × α)}, l.lookup k = some x → (k, x) ∈ l
  | [], h => by cases h
  | (j, y) :: l, h => by
    rw [List.lookup_cons] at h
    split at h
    · rename_i e
      rw [beq_iff_eq] at e
      cases h
      subst e
      exact List.mem_cons_self
    · exact List.mem_cons_of_mem _ (look_of_mem h)
section
variable {P : Program} {w : World} {K : PySem.W.Frag} {h : Heap} {mg : Str → Option Value} {exs : List (Nat × Str)} {xs : List Str} {fn : List He.DefD} {gl : List (Str × D)} {tb : List (Nat × Str)}
theorem top_of (X : K.In h) (G : h.Ns mainGlobals mg) (c : He.SaysD (facts exs xs) fn K) (cg : topB gl exs tb K = true) : Top P w K mg (cvOf K exs) (exOf exs) gl where
  bi := fun x hx => He.free_ok X G (fact_of c (by
    unfold facts
    exact List.mem_append_left _ (List.mem_append_left _ (List.mem_append_left _ (List.mem_map.mpr ⟨x, hx, rfl⟩)))))
  gl := fun p hp => by
    have cg1 : gl.all (constB K) = true := by
      unfold topB at cg
      rw [Bool.and_eq_true] at cg
      exact cg.1
    have h1 := List.all_eq_true.mp cg1 p hp
    unfold constB at h1
    split at h1
    · rename_i u e
      obtain ⟨v, r, g⟩ := litB_ok p.2 u h1
      exact ⟨u, v, PySem.W.mg_of X G e, r, g⟩
    · cases h1
  cls := fun k n hk => by
    have hm := look_of_mem hk
    have h1 := He.exc_ok (fact_of c (f := .exc n) (by
      unfold facts
      exact List.mem_append_left _ (List.mem_append_left _ (List.mem_append_right _ (List.mem_map.mpr ⟨(k, n), hm, rfl⟩)))))
    have h2 := He.glo_ok X G (fact_of c (f := .glo n) (by
      unfold facts
      exact List.mem_append_left _ (List.mem_append_right _ (List.mem_map.mpr ⟨(k, n), hm, rfl⟩))))
    refine ⟨He.ga K n, h2, ?_, h1⟩
    unfold cvOf
    have hk : exs.lookup k = some n := hk
    rw [hk]
  slf := fun k n hk => by
    have hm := look_of_mem hk
    unfold topB at cg
    simp only [Bool.and_eq_true] at cg
    have h1 := of_decide_eq_true (List.all_eq_true.mp cg.2.1 (k, n) hm)
    unfold cvOf
    have hk : exs.lookup k = some n := hk
    rw [hk]
    exact h1
/-- a def of the text -/
structure Dt where
  id : Nat
  x : Str
  st : Stmt
  ps : List Str
  N : List Str
  d : Df
  dfl : List He.Dv := []
  q : Str
def Dt.dd (t : Dt) : He.DefD := ddOf t.x t.st t.dfl t.q
def Dt.ent (t : Dt) (tb : List (Nat × Str)) (L : List Ent) : Ent := ⟨t.id, t.x, t.ps, evD (lookW tb L) t.d, []⟩
/-- how the arguments are bound: all are written -/
def BindsE (t : Dt) : Prop := (t.dfl = [] ∧ ∀ (kV doc pm : Value) (an : Option Addr) (cdv ct : Value) (us : List Value), us.length = t.ps.length →
  bindArgs (PySem.W.fnOf t.q t.q (defArgs t.st) (defBody t.st) (defScope t.st) .none kV doc pm an cdv ct) ⟨us, []⟩ = pure (t.ps.zip us)) ∨
  (t.dfl ≠ [] ∧ ∀ (T : Addr) (kV doc pm : Value) (an : Option Addr) (cdv ct : Value) (us its : List Value), us.length = t.ps.length → its.length = t.dfl.length →
    ∃ k, bindArgs (PySem.W.fnOf t.q t.q (defArgs t.st) (defBody t.st) (defScope t.st) (.ref T) kV doc pm an cdv ct) ⟨us, []⟩ = seqItems? (.ref T) >>= k ∧ k (some its.toArray) = pure (t.ps.zip us))
theorem binds_of {t : Dt} {K : PySem.W.Frag} {f : Addr} {fd : FuncData} (hb : BindsE t) (F : FunD K t.q t.q (defArgs t.st) (defBody t.st) (defScope t.st) (t.dfl.map (He.Dv.v K)) [] f fd) : Binds K fd t.ps [] := by
  rcases hb with ⟨e, hb⟩ | ⟨e, hb⟩
  · rw [e] at F
    exact FunD.bindsN (ps := t.ps) F hb
  · obtain ⟨ds, h1, h2⟩ := FunD.binds1 (ps := t.ps) F t.ps.length (t.dfl.map (He.Dv.v K)).length (fun z => e (List.map_eq_nil_iff.mp z)) (by omega) (fun T kV doc pm an cdv ct us its hu hi => by
      obtain ⟨k, e1, e2⟩ := hb T kV doc pm an cdv ct us its hu (by rw [hi, List.length_map])
      refine ⟨k, e1, ?_⟩
      rw [e2, ← hi, List.drop_length, List.append_nil])
    rw [List.drop_length] at h1
    cases h1
    exact h2
def itB (t : Dt) (tb : List (Nat × Str)) (L : List Ent) (exs : List (Nat × Str)) (gl : List (Str × D)) (k : Nat) : Bool :=
  scopeB t.N t.ps (defScope t.st) && (decide (t.d.ps = t.ps.length) && (decide (t.d.n = t.N.length) && okSs t.d.body (ctxOf tb L (exOf exs) gl k t.N (defScope t.st)) (defBody t.st)))
theorem step {base : Heap} {L : List Ent} {k : Nat} (t : Dt) (X : K.In h) (G : h.Ns mainGlobals mg) (c : He.SaysD (facts exs xs) fn K) (cg : topB gl exs tb K = true) (hw : WdOk P w K mg base (cvOf K exs) tb) (hx : t.x ∈ xs) (hfn : t.dd ∈ fn) (hb : BindsE t)
    (hB : itB t tb L exs gl k = true) (hL : ∀ e ∈ L, EntOk P w K mg base (cvOf K exs) k e) : ∀ e ∈ t.ent tb L :: L, EntOk P w K mg base (cvOf K exs) (k + 1) e := by
  have T : Top P w K mg (cvOf K exs) (exOf exs) gl := top_of (tb := tb) X G c cg
  obtain ⟨i, hi, e⟩ := List.mem_iff_getElem.mp hfn
  obtain ⟨fd, F⟩ := c.def_ i (d := t.dd) (by rw [List.getElem?_eq_getElem hi, e])
  have F : FunD K t.q t.q (defArgs t.st) (defBody t.st) (defScope t.st) (t.dfl.map (He.Dv.v K)) [] (He.ga K t.x) fd := F
  have hg := He.glo_ok X G (fact_of c (f := .glo t.x) (by
    unfold facts
    exact List.mem_append_right _ (List.mem_map.mpr ⟨t.x, hx, rfl⟩)))
  unfold itB at hB
  simp only [Bool.and_eq_true, decide_eq_true_eq] at hB
  obtain ⟨h1, h2, h3, h4⟩ := hB
  exact ents_cons hL (ent_ok T hw hL F hg (binds_of hb F) h1 h2 h3 h4)
end
/-- the law's end over the defs -/
theorem law_end {l : PySem.W.OpenLaw} {n k : Nat} {q : Program} {loose : List Str} {XP : (Str → Option Value) → Heap → Prop} {d : DefRec} {N : Nat} {exs : List (Nat × Str)} {xs : List Str} {fn : List He.DefD} {gl : List (Str × D)} {tb : List (Nat × Str)} {x : Str}
    (t : Dt) (L : List Ent) (hn : l.most = some n) (hn2 : n ≤ sizeLine) (hdf : d.params.defaults = []) (hr : Room k callerA) (hdn : d.name = t.x) (hx : t.x ∈ xs) (hfn : t.dd ∈ fn) (hb : BindsE t) (hp : t.ps = [x]) (hdl : t.dfl = [])
    (hE : ∀ (w : World) (K : PySem.W.Frag) (h : Heap) (mg : Str → Option Value) (base : Heap), K.In h → h.Ns mainGlobals mg → He.SaysD (facts exs xs) fn K → topB gl exs tb K = true → ∀ e ∈ t.ent tb L :: L, EntOk l.prog w K mg base (cvOf K exs) k e)
    (hlaw : ∀ ns : List Int, ns.length ≤ n → ∃ M, evD (lookW tb L) t.d [.fro (ns.map D.int)] [] = .ok (.bl true) M) :
    PySem.W.WalkO q loose XP (hookS N (facts exs xs) fn (topB gl exs tb)).says l.row.toRowW d [] (fun f vs => PySem.call f vs) := by
  refine Att.attach_call hn hdf fun w s₀ s₁ mg mb fa o pm cd doc a vs ns G Y ho hd hcd hmg hobj hints hlen hg => ?_
  obtain ⟨K, KX, c, cg⟩ := Y
  have hmg2 : mg t.x = some (.ref fa) := by
    rw [← hdn]
    exact hmg
  obtain ⟨i, hi, e⟩ := List.mem_iff_getElem.mp hfn
  obtain ⟨fd, F⟩ := c.def_ i (d := t.dd) (by rw [List.getElem?_eq_getElem hi, e])
  have F : FunD K t.q t.q (defArgs t.st) (defBody t.st) (defScope t.st) (t.dfl.map (He.Dv.v K)) [] (He.ga K t.x) fd := F
  have hga := He.glo_ok KX G.T.g (fact_of c (f := .glo t.x) (by
    unfold facts
    exact List.mem_append_right _ (List.mem_map.mpr ⟨t.x, hx, rfl⟩)))
  have hfa : He.ga K t.x = fa := by
    rw [hga] at hmg2
    cases hmg2
    rfl
  rw [hfa, hdl, List.map_nil] at F
  have hF : ∀ base : Heap, K.In base → base.Ns mainGlobals mg → FnOk l.prog w K mg base (L2N.CX l.prog w) k fa fd [x] (spD K (cvOf K exs) (evD (lookW tb L) t.d) 1) := fun base _ _ => by
    obtain ⟨fa', fd', _, _, g1, ⟨o, g0, g0'⟩, g2, g3, _, _, _, g4, g5⟩ := hE w K _ mg base KX G.T.g c cg (t.ent tb L) List.mem_cons_self
    have g1 : mg t.x = some (.ref fa') := g1
    rw [hmg2] at g1
    cases g1
    have g5 : FnOk l.prog w K mg base (L2N.CX l.prog w) k fa fd' t.ps (spD K (cvOf K exs) (evD (lookW tb L) t.d) t.ps.length) := g5
    rw [hp] at g5
    have e2 : fd' = fd := by
      obtain ⟨oc, od, dV, kV, doc, pm, an, cdv, ct, osl, e, l, _⟩ := F.ex
      rw [g0] at l
      cases l
      cases g0'
      rfl
    rw [← e2]
    exact g5
  refine law_call KX G.T.g G.T.b G.T.builtins G.T.nolimit hg hobj hints (Nat.le_trans hlen hn2) hr hF (fun s v => ?_) (fun H hO hS => law_sp' hO hS (hlaw ns hlen)) fun H e s' => cx_none
  have hb : BindsE t := hb
  have hb := hb.resolve_right fun z => z.1 hdl
  have := FunD.bindsA (ps := t.ps) F hb.2 s [v] (by rw [hp]; rfl)
  rw [hp] at this
  exact this
end
end Sg

namespace Sg
open PySem
def b1 : Df := ⟨2, 3, .cons (.asg (.var 0) (.bi .abs (.cons (.var 0) .nil))) (.cons (.asg (.var 1) (.bi .abs (.cons (.var 1) .nil))) (.cons (.whl (.cmp .Gt (.var 1) (.c (.int 0))) (.cons (.asg (.var 2) (.bin false .Mod (.var 0) (.var 1))) (.cons (.asg (.var 0) (.var 1)) (.cons (.asg (.var 1) (.var 2)) .nil)))) (.cons (.ret (.so (.var 0))) .nil)))⟩
def b2 : Df := ⟨2, 3, .cons (.ite (.cmp .Eq (.var 1) (.c (.int 0))) (.cons (.raise 1) .nil) .nil) (.cons (.asg (.var 2) (.call 1 0 (.cons (.var 0) (.cons (.var 1) .nil)))) (.cons (.ite (.cmp .Lt (.var 1) (.c (.int 0))) (.cons (.asg (.var 2) (.un .USub (.var 2))) .nil) .nil) (.cons (.ret (.so (.tup (.cons (.bin false .FloorDiv (.var 0) (.var 2)) (.cons (.bin false .FloorDiv (.var 1) (.var 2)) .nil))))) .nil)))⟩
def b3 : Df := ⟨2, 2, .cons (.ret (.so (.call 2 0 (.cons (.bin false .Add (.bin false .Mult (.idx (.var 0) (.c (.int 0))) (.idx (.var 1) (.c (.int 1)))) (.bin false .Mult (.idx (.var 1) (.c (.int 0))) (.idx (.var 0) (.c (.int 1))))) (.cons (.bin false .Mult (.idx (.var 0) (.c (.int 1))) (.idx (.var 1) (.c (.int 1)))) .nil))))) .nil⟩
def b4 : Df := ⟨2, 2, .cons (.ret (.so (.call 2 0 (.cons (.bin false .Sub (.bin false .Mult (.idx (.var 0) (.c (.int 0))) (.idx (.var 1) (.c (.int 1)))) (.bin false .Mult (.idx (.var 1) (.c (.int 0))) (.idx (.var 0) (.c (.int 1))))) (.cons (.bin false .Mult (.idx (.var 0) (.c (.int 1))) (.idx (.var 1) (.c (.int 1)))) .nil))))) .nil⟩
def b5 : Df := ⟨2, 2, .cons (.ret (.so (.call 2 0 (.cons (.bin false .Mult (.idx (.var 0) (.c (.int 0))) (.idx (.var 1) (.c (.int 0)))) (.cons (.bin false .Mult (.idx (.var 0) (.c (.int 1))) (.idx (.var 1) (.c (.int 1)))) .nil))))) .nil⟩
def b6 : Df := ⟨2, 2, .cons (.ite (.cmp .Lt (.var 1) (.bi .len (.cons (.var 0) .nil))) (.cons (.ret (.so (.idx (.var 0) (.var 1)))) .nil) .nil) (.cons (.ret (.so (.c (.int 0)))) .nil)⟩
def b7 : Df := ⟨2, 6, .cons (.asg (.var 2) (.lst true .nil)) (.cons (.ite (.cmp .GtE (.bi .abs (.cons (.var 0) .nil)) (.bin false .Pow (.c (.int 10)) (.c (.int 18)))) (.cons (.for (.var 3) (.val (.var 1)) (.cons (.expr (.meth .append (.var 2) (.cons (.bin false .Mod (.var 0) (.var 3)) .nil))) (.cons (.asg (.var 0) (.bin false .FloorDiv (.var 0) (.var 3))) .nil))) (.cons (.ret (.so (.var 2))) .nil)) .nil) (.cons (.for (.tup (.cons (.var 4) (.cons (.var 3) .nil))) (.enum (.var 1)) (.cons (.asg (.var 5) (.bin false .Mod (.bin false .Add (.bin false .Add (.bin false .Add (.bin false .Mult (.var 0) (.c (.int 48271))) (.bin false .Mult (.bin false .Mult (.var 4) (.var 4)) (.c (.int 69621)))) (.bin false .Mult (.var 4) (.c (.int 16807)))) (.c (.int 11))) (.c (.int 2147483647)))) (.cons (.expr (.meth .append (.var 2) (.cons (.bin false .Mod (.bin false .FloorDiv (.bin false .Mod (.bin false .Add (.bin false .Add (.bin false .Mult (.var 5) (.c (.int 40692))) (.var 0)) (.bin false .Mult (.c (.int 31)) (.var 4))) (.c (.int 2147483399))) (.c (.int 7))) (.var 3)) .nil))) .nil))) (.cons (.ret (.so (.var 2))) .nil)))⟩
def b8 : Df := ⟨2, 3, .cons (.asg (.var 0) (.bi .abs (.cons (.var 0) .nil))) (.cons (.asg (.var 1) (.bi .abs (.cons (.var 1) .nil))) (.cons (.whl (.cmp .Gt (.var 1) (.c (.int 0))) (.cons (.asg (.var 2) (.bin false .Mod (.var 0) (.var 1))) (.cons (.asg (.var 0) (.var 1)) (.cons (.asg (.var 1) (.var 2)) .nil)))) (.cons (.ret (.so (.var 0))) .nil)))⟩
def b9 : Df := ⟨2, 3, .cons (.asg (.var 2) (.call 8 0 (.cons (.var 0) (.cons (.var 1) .nil)))) (.cons (.ret (.so (.tup (.cons (.bin false .FloorDiv (.var 0) (.var 2)) (.cons (.bin false .FloorDiv (.var 1) (.var 2)) .nil))))) .nil)⟩
def b10 : Df := ⟨2, 3, .cons (.ite (.cmp .Eq (.var 0) (.c (.int 1))) (.cons (.ret (.so (.tup (.cons (.bin false .Sub (.bin false .Mod (.var 1) (.c (.int 5))) (.c (.int 2))) (.cons (.c (.int 1)) .nil))))) .nil) .nil) (.cons (.ite (.cmp .Eq (.var 0) (.c (.int 3))) (.cons (.asg (.var 2) (.bin false .Mult (.bin false .Mod (.bin false .FloorDiv (.var 1) (.c (.int 2))) (.bin false .Pow (.c (.int 10)) (.c (.int 40)))) (.bin false .Sub (.c (.int 1)) (.bin false .Mult (.c (.int 2)) (.bin false .Mod (.var 1) (.c (.int 2))))))) (.cons (.ret (.so (.call 9 0 (.cons (.var 2) (.cons (.bin false .Add (.c (.int 1)) (.bin false .Mod (.bin false .FloorDiv (.var 1) (.bin false .Mult (.c (.int 2)) (.bin false .Pow (.c (.int 10)) (.c (.int 40))))) (.bin false .Sub (.bin false .Pow (.c (.int 10)) (.c (.int 40))) (.c (.int 1))))) .nil))))) .nil)) .nil) (.cons (.ite (.cmp .Eq (.var 0) (.c (.int 2))) (.cons (.ret (.so (.call 9 0 (.cons (.bin false .Mod (.var 1) (.c (.int 10))) (.cons (.bin false .Add (.c (.int 1)) (.bin false .Mod (.bin false .FloorDiv (.var 1) (.c (.int 10))) (.c (.int 6)))) .nil))))) .nil) .nil) (.cons (.ret (.so (.call 9 0 (.cons (.bin false .Sub (.bin false .Mod (.var 1) (.c (.int 19))) (.c (.int 9))) (.cons (.bin false .Add (.c (.int 1)) (.bin false .Mod (.bin false .FloorDiv (.var 1) (.c (.int 19))) (.c (.int 6)))) .nil))))) .nil)))⟩
def b11 : Df := ⟨1, 1, .cons (.ret (.so (.bop .And (.cons (.isi (.var 0) .int) (.cons (.un .Not (.isi (.var 0) .bool)) .nil))))) .nil⟩
def b12 : Df := ⟨3, 3, .cons (.ite (.bop .Or (.cons (.un .Not (.isi (.var 0) .tuple)) (.cons (.cmp .NotEq (.bi .len (.cons (.var 0) .nil)) (.c (.int 2))) (.cons (.un .Not (.call 11 0 (.cons (.idx (.var 0) (.c (.int 0))) .nil))) (.cons (.un .Not (.call 11 0 (.cons (.idx (.var 0) (.c (.int 1))) .nil))) .nil))))) (.cons (.ret (.so (.c (.bl false)))) .nil) .nil) (.cons (.ite (.bop .Or (.cons (.cmp .Lt (.idx (.var 0) (.c (.int 1))) (.c (.int 1))) (.cons (.cmp .NotEq (.call 8 0 (.cons (.idx (.var 0) (.c (.int 0))) (.cons (.idx (.var 0) (.c (.int 1))) .nil))) (.c (.int 1))) .nil))) (.cons (.ret (.so (.c (.bl false)))) .nil) .nil) (.cons (.ret (.so (.cmp .Eq (.bin false .Mult (.idx (.var 0) (.c (.int 0))) (.var 2)) (.bin false .Mult (.var 1) (.idx (.var 0) (.c (.int 1))))))) .nil))⟩
def b32 : Df := ⟨2, 2, .cons (.ite (.cmp .GtE (.bi .abs (.cons (.var 0) .nil)) (.bin false .Pow (.c (.int 10)) (.c (.int 18)))) (.cons (.ret (.so (.bin false .FloorDiv (.var 0) (.var 1)))) .nil) .nil) (.cons (.ret (.so (.bin false .Add (.var 0) (.var 1)))) .nil)⟩
def b16 : Df := ⟨1, 1, .cons (.ret (.so (.bop .And (.cons (.isi (.var 0) .int) (.cons (.un .Not (.isi (.var 0) .bool)) .nil))))) .nil⟩
def b17 : Df := ⟨1, 1, .cons (.ite (.bop .Or (.cons (.un .Not (.isi (.var 0) .tuple)) (.cons (.cmp .NotEq (.bi .len (.cons (.var 0) .nil)) (.c (.int 2))) .nil))) (.cons (.ret (.so (.c (.bl false)))) .nil) .nil) (.cons (.ite (.bop .Or (.cons (.un .Not (.call 16 0 (.cons (.idx (.var 0) (.c (.int 0))) .nil))) (.cons (.un .Not (.call 16 0 (.cons (.idx (.var 0) (.c (.int 1))) .nil))) (.cons (.cmp .Lt (.idx (.var 0) (.c (.int 1))) (.c (.int 1))) .nil)))) (.cons (.ret (.so (.c (.bl false)))) .nil) .nil) (.cons (.ret (.so (.cmp .Eq (.call 1 0 (.cons (.idx (.var 0) (.c (.int 0))) (.cons (.idx (.var 0) (.c (.int 1))) .nil))) (.c (.int 1))))) .nil))⟩
def b508 : Df := ⟨1, 1, .cons (.ite (.cmp .Eq (.idx (.var 0) (.c (.int 1))) (.c (.int 1))) (.cons (.ret (.so (.bi .str (.cons (.idx (.var 0) (.c (.int 0))) .nil)))) .nil) .nil) (.cons (.ret (.so (.bin false .Add (.bin false .Add (.bi .str (.cons (.idx (.var 0) (.c (.int 0))) .nil)) (.c (.str "/"))) (.bi .str (.cons (.idx (.var 0) (.c (.int 1))) .nil))))) .nil)⟩
def b511 : Df := ⟨1, 1, .cons (.ite (.un .Not (.isi (.var 0) .str)) (.cons (.raise 14) .nil) .nil) .nil⟩
def tail965 : Ss := .cons (.for (.var 1) (.chars (.var 0)) (.cons (.ite (.cmp .NotIn (.var 1) (.glob "FIGURES" (.str "0123456789"))) (.cons (.raise 14) .nil) .nil) .nil)) (.cons (.ret (.so (.bi .int (.cons (.var 0) .nil)))) .nil)
def b965 : Df := ⟨1, 2, .cons (.ite (.bop .Or (.cons (.cmp .Eq (.bi .len (.cons (.var 0) .nil)) (.c (.int 0))) (.cons (.bop .And (.cons (.cmp .Gt (.bi .len (.cons (.var 0) .nil)) (.c (.int 1))) (.cons (.cmp .Eq (.idx (.var 0) (.c (.int 0))) (.c (.str "0"))) .nil))) .nil))) (.cons (.raise 14) .nil) .nil) tail965⟩
def b966 : Df := ⟨1, 2, .cons (.ite (.un .Not (.tm .startswith (.var 0) (.cons (.c (.str "-")) .nil))) (.cons (.ret (.so (.call 965 0 (.cons (.var 0) .nil)))) .nil) .nil) (.cons (.asg (.var 1) (.call 965 0 (.cons (.slc false (.var 0) (.so (.c (.int 1))) .no) .nil))) (.cons (.ite (.cmp .Eq (.var 1) (.c (.int 0))) (.cons (.raise 14) .nil) .nil) (.cons (.ret (.so (.un .USub (.var 1)))) .nil)))⟩
def b967 : Df := ⟨1, 3, .cons (.expr (.call 511 0 (.cons (.var 0) .nil))) (.cons (.asg (.var 1) (.tm (.split false) (.var 0) (.cons (.c (.str "/")) .nil))) (.cons (.ite (.cmp .Eq (.bi .len (.cons (.var 1) .nil)) (.c (.int 1))) (.cons (.ret (.so (.tup (.cons (.call 966 0 (.cons (.var 0) .nil)) (.cons (.c (.int 1)) .nil))))) .nil) .nil) (.cons (.ite (.cmp .Gt (.bi .len (.cons (.var 1) .nil)) (.c (.int 2))) (.cons (.raise 14) .nil) .nil) (.cons (.asg (.var 2) (.tup (.cons (.call 966 0 (.cons (.idx (.var 1) (.c (.int 0))) .nil)) (.cons (.call 965 0 (.cons (.idx (.var 1) (.c (.int 1))) .nil)) .nil)))) (.cons (.ite (.bop .Or (.cons (.cmp .Lt (.idx (.var 2) (.c (.int 1))) (.c (.int 2))) (.cons (.un .Not (.call 17 0 (.cons (.var 2) .nil))) .nil))) (.cons (.raise 14) .nil) .nil) (.cons (.ret (.so (.var 2))) .nil))))))⟩
def b119 : Df := ⟨1, 1, .cons (.ret (.so (.bop .And (.cons (.call 17 0 (.cons (.var 0) .nil)) (.cons (.cmp .GtE (.idx (.var 0) (.c (.int 0))) (.c (.int 0))) .nil))))) .nil⟩
def b120 : Df := ⟨2, 2, .cons (.ite (.bop .Or (.cons (.un .Not (.isi (.var 0) .tuple)) (.cons (.cmp .NotEq (.bi .len (.cons (.var 0) .nil)) (.c (.int 3))) (.cons (.un .Not (.isi (.idx (.var 0) (.c (.int 0))) .str)) .nil)))) (.cons (.ret (.so (.c (.bl false)))) .nil) .nil) (.cons (.ite (.bop .Or (.cons (.un .Not (.call 16 0 (.cons (.idx (.var 0) (.c (.int 1))) .nil))) (.cons (.un .Not (.call 119 0 (.cons (.idx (.var 0) (.c (.int 2))) .nil))) .nil))) (.cons (.ret (.so (.c (.bl false)))) .nil) .nil) (.cons (.ite (.cmp .Eq (.idx (.var 0) (.c (.int 0))) (.c (.str "weigh"))) (.cons (.ret (.so (.chain .LtE .Lt (.c (.int 0)) (.idx (.var 0) (.c (.int 1))) (.var 1)))) .nil) .nil) (.cons (.ret (.so (.bop .And (.cons (.cmp .In (.idx (.var 0) (.c (.int 0))) (.tup (.cons (.c (.str "down")) (.cons (.c (.str "up")) .nil)))) (.cons (.chain .LtE .Lt (.c (.int 0)) (.idx (.var 0) (.c (.int 1))) (.bin false .Sub (.var 1) (.c (.int 1)))) .nil))))) .nil)))⟩
def b121 : Df := ⟨1, 7, .cons (.ite (.bop .Or (.cons (.un .Not (.isi (.var 0) .tuple)) (.cons (.cmp .NotEq (.bi .len (.cons (.var 0) .nil)) (.c (.int 4))) (.cons (.un .Not (.bi .all (.cons (.comp false [6] (.var 6) (.val (.slc false (.var 0) .no (.so (.c (.int 3))))) .no (.call 16 0 (.cons (.var 6) .nil))) .nil))) .nil)))) (.cons (.ret (.so (.c (.bl false)))) .nil) .nil) (.cons (.asg (.tup (.cons (.var 1) (.cons (.var 2) (.cons (.var 3) (.cons (.var 4) .nil))))) (.var 0)) (.cons (.ite (.bop .Or (.cons (.un .Not (.chain .LtE .LtE (.c (.int 1)) (.var 1) (.glob "MOST_TRACKS" (.int 7)))) (.cons (.un .Not (.chain .LtE .LtE (.c (.int 1)) (.var 2) (.var 1))) (.cons (.un .Not (.chain .LtE .LtE (.c (.int 1)) (.var 3) (.var 1))) .nil)))) (.cons (.ret (.so (.c (.bl false)))) .nil) .nil) (.cons (.ite (.bop .Or (.cons (.un .Not (.isi (.var 4) .list)) (.cons (.cmp .Gt (.bi .len (.cons (.var 4) .nil)) (.glob "MOST_STEPS" (.int 400))) .nil))) (.cons (.ret (.so (.c (.bl false)))) .nil) .nil) (.cons (.ret (.so (.bi .all (.cons (.comp false [5] (.var 5) (.val (.var 4)) .no (.call 120 0 (.cons (.var 5) (.cons (.var 1) .nil)))) .nil)))) .nil))))⟩
def b122 : Df := ⟨1, 1, .cons (.ite (.un .Not (.call 121 0 (.cons (.var 0) .nil))) (.cons (.raise 7) .nil) .nil) .nil⟩
def b977 : Df := ⟨1, 5, .cons (.asg (.var 1) (.lst true (.cons (.bin false .Add (.bin false .Add (.bin false .Add (.bin false .Add (.bin false .Add (.c (.str "ladder ")) (.bi .str (.cons (.idx (.var 0) (.c (.int 0))) .nil))) (.c (.str " "))) (.bi .str (.cons (.idx (.var 0) (.c (.int 1))) .nil))) (.c (.str " "))) (.bi .str (.cons (.idx (.var 0) (.c (.int 2))) .nil))) .nil))) (.cons (.for (.tup (.cons (.var 2) (.cons (.var 3) (.cons (.var 4) .nil)))) (.val (.idx (.var 0) (.c (.int 3)))) (.cons (.expr (.meth .append (.var 1) (.cons (.bin false .Add (.bin false .Add (.bin false .Add (.bin false .Add (.var 2) (.c (.str " "))) (.bi .str (.cons (.var 3) .nil))) (.c (.str " "))) (.call 508 0 (.cons (.var 4) .nil))) .nil))) .nil)) (.cons (.ret (.so (.tm .join (.c (.str "\n")) (.cons (.var 1) .nil)))) .nil))⟩
def b978 : Df := ⟨1, 2, .cons (.asg (.var 1) (.tm (.split false) (.var 0) (.cons (.c (.str " ")) .nil))) (.cons (.ite (.bop .Or (.cons (.cmp .NotEq (.bi .len (.cons (.var 1) .nil)) (.c (.int 3))) (.cons (.cmp .NotIn (.idx (.var 1) (.c (.int 0))) (.glob "WORDS" (.tup [.str "down", .str "up", .str "weigh"]))) .nil))) (.cons (.raise 14) .nil) .nil) (.cons (.ret (.so (.tup (.cons (.idx (.var 1) (.c (.int 0))) (.cons (.call 966 0 (.cons (.idx (.var 1) (.c (.int 1))) .nil)) (.cons (.call 967 0 (.cons (.idx (.var 1) (.c (.int 2))) .nil)) .nil)))))) .nil))⟩
def b979 : Df := ⟨1, 6, .cons (.expr (.call 511 0 (.cons (.var 0) .nil))) (.cons (.asg (.var 1) (.tm (.split false) (.var 0) (.cons (.c (.str "\n")) .nil))) (.cons (.asg (.var 2) (.tm (.split false) (.idx (.var 1) (.c (.int 0))) (.cons (.c (.str " ")) .nil))) (.cons (.ite (.bop .Or (.cons (.cmp .NotEq (.bi .len (.cons (.var 2) .nil)) (.c (.int 4))) (.cons (.cmp .NotEq (.idx (.var 2) (.c (.int 0))) (.c (.str "ladder"))) .nil))) (.cons (.raise 14) .nil) .nil) (.cons (.asg (.var 3) (.comp false [4] (.var 4) (.val (.slc false (.var 2) (.so (.c (.int 1))) .no)) .no (.call 966 0 (.cons (.var 4) .nil)))) (.cons (.ret (.so (.tup (.cons (.idx (.var 3) (.c (.int 0))) (.cons (.idx (.var 3) (.c (.int 1))) (.cons (.idx (.var 3) (.c (.int 2))) (.cons (.comp true [5] (.var 5) (.val (.slc false (.var 1) (.so (.c (.int 1))) .no)) .no (.call 978 0 (.cons (.var 5) .nil))) .nil))))))) .nil)))))⟩
def b980 : Df := ⟨1, 2, .cons (.asg (.var 1) (.call 979 2 (.cons (.var 0) .nil))) (.cons (.expr (.call 122 1 (.cons (.var 1) .nil))) (.cons (.ret (.so (.var 1))) .nil))⟩
def tail536 : Ss := .cons (.asg (.var 9) (.bin false .Mod (.bin false .Mod (.bin false .FloorDiv (.var 7) (.c (.int 3))) (.c (.int 7))) (.bin false .Sub (.var 3) (.bi .int (.cons (.cmp .NotEq (.var 8) (.c (.str "weigh"))) .nil))))) (.cons (.expr (.meth .append (.var 6) (.cons (.tup (.cons (.var 8) (.cons (.var 9) (.cons (.call 10 0 (.cons (.c (.int 2)) (.cons (.bin false .FloorDiv (.var 7) (.c (.int 21))) .nil))) .nil)))) .nil))) .nil)
def b536 : Df := ⟨2, 10, .cons (.asg (.var 2) (.call 7 0 (.cons (.var 0) (.cons (.bin false .Add (.lst false (.cons (.c (.int 7)) (.cons (.c (.int 7)) (.cons (.c (.int 7)) (.cons (.c (.int 4)) .nil))))) (.comp false [9] (.var 9) (.rng1 (.var 1)) .no (.bin false .Mult (.bin false .Mult (.c (.int 3)) (.c (.int 7))) (.c (.int 60))))) .nil)))) (.cons (.asg (.var 3) (.bin false .Add (.c (.int 1)) (.idx (.var 2) (.c (.int 0))))) (.cons (.asg (.var 4) (.bin false .Add (.c (.int 1)) (.bin false .Mod (.idx (.var 2) (.c (.int 1))) (.var 3)))) (.cons (.asg (.var 5) (.bin false .Add (.c (.int 1)) (.bin false .Mod (.idx (.var 2) (.c (.int 2))) (.var 3)))) (.cons (.asg (.var 6) (.lst true .nil)) (.cons (.for (.var 7) (.val (.slc false (.var 2) (.so (.c (.int 4))) .no)) (.cons (.asg (.var 8) (.idx (.lst false (.cons (.c (.str "down")) (.cons (.c (.str "up")) (.cons (.c (.str "weigh")) .nil)))) (.bin false .Mod (.var 7) (.c (.int 3))))) (.cons (.ite (.cmp .Eq (.var 3) (.c (.int 1))) (.cons (.asg (.var 8) (.c (.str "weigh"))) .nil) .nil) tail536))) (.cons (.ret (.so (.tup (.cons (.var 3) (.cons (.var 4) (.cons (.var 5) (.cons (.var 6) .nil))))))) .nil))))))⟩
def b981 : Df := ⟨1, 7, .cons (.asg (.var 1) (.lst true (.cons (.bin false .Add (.c (.str "ladder ")) (.tm .join (.c (.str " ")) (.cons (.comp false [6] (.var 6) (.val (.slc false (.var 0) .no (.so (.c (.int 3))))) .no (.bi .str (.cons (.var 6) .nil))) .nil))) .nil))) (.cons (.for (.tup (.cons (.var 2) (.cons (.var 3) (.cons (.var 4) .nil)))) (.val (.idx (.var 0) (.c (.int 3)))) (.cons (.asg (.var 5) (.bi .str (.cons (.idx (.var 4) (.c (.int 0))) .nil))) (.cons (.ite (.cmp .Gt (.idx (.var 4) (.c (.int 1))) (.c (.int 1))) (.cons (.asg (.var 5) (.bin false .Add (.bin false .Add (.var 5) (.c (.str "/"))) (.bi .str (.cons (.idx (.var 4) (.c (.int 1))) .nil)))) .nil) .nil) (.cons (.expr (.meth .append (.var 1) (.cons (.bin false .Add (.bin false .Add (.bin false .Add (.bin false .Add (.var 2) (.c (.str " "))) (.bi .str (.cons (.var 3) .nil))) (.c (.str " "))) (.var 5)) .nil))) .nil)))) (.cons (.ret (.so (.tm .join (.c (.str "\n")) (.cons (.var 1) .nil)))) .nil))⟩
def b538 : Df := ⟨2, 5, .cons (.ite (.bop .Or (.cons (.un .Not (.isi (.var 0) .tuple)) (.cons (.cmp .NotEq (.bi .len (.cons (.var 0) .nil)) (.c (.int 4))) (.cons (.un .Not (.bi .all (.cons (.comp false [4] (.var 4) (.val (.slc false (.var 0) .no (.so (.c (.int 3))))) .no (.call 11 0 (.cons (.var 4) .nil))) .nil))) .nil)))) (.cons (.ret (.so (.c (.bl false)))) .nil) .nil) (.cons (.ite (.bop .Or (.cons (.cmp .NotEq (.slc false (.var 0) .no (.so (.c (.int 3)))) (.slc false (.var 1) .no (.so (.c (.int 3))))) (.cons (.un .Not (.isi (.idx (.var 0) (.c (.int 3))) .list)) (.cons (.cmp .NotEq (.bi .len (.cons (.idx (.var 0) (.c (.int 3))) .nil)) (.bi .len (.cons (.idx (.var 1) (.c (.int 3))) .nil))) .nil)))) (.cons (.ret (.so (.c (.bl false)))) .nil) .nil) (.cons (.for (.tup (.cons (.var 2) (.cons (.var 3) .nil))) (.zip (.idx (.var 0) (.c (.int 3))) (.idx (.var 1) (.c (.int 3)))) (.cons (.ite (.bop .Or (.cons (.un .Not (.isi (.var 2) .tuple)) (.cons (.cmp .NotEq (.bi .len (.cons (.var 2) .nil)) (.c (.int 3))) (.cons (.cmp .NotEq (.idx (.var 2) (.c (.int 0))) (.idx (.var 3) (.c (.int 0)))) (.cons (.un .Not (.call 11 0 (.cons (.idx (.var 2) (.c (.int 1))) .nil))) .nil))))) (.cons (.ret (.so (.c (.bl false)))) .nil) .nil) (.cons (.ite (.bop .Or (.cons (.cmp .NotEq (.idx (.var 2) (.c (.int 1))) (.idx (.var 3) (.c (.int 1)))) (.cons (.un .Not (.call 12 0 (.cons (.idx (.var 2) (.c (.int 2))) (.cons (.idx (.idx (.var 3) (.c (.int 2))) (.c (.int 0))) (.cons (.idx (.idx (.var 3) (.c (.int 2))) (.c (.int 1))) .nil))))) .nil))) (.cons (.ret (.so (.c (.bl false)))) .nil) .nil) .nil))) (.cons (.ret (.so (.c (.bl true)))) .nil)))⟩
def b982 : Df := ⟨1, 5, .cons (.asg (.var 1) (.call 981 0 (.cons (.var 0) .nil))) (.cons (.asg (.var 2) (.call 977 0 (.cons (.var 0) .nil))) (.cons (.ite (.bop .Or (.cons (.un .Not (.isi (.var 2) .str)) (.cons (.cmp .NotEq (.var 2) (.var 1)) .nil))) (.cons (.ret (.so (.c (.bl false)))) .nil) .nil) (.cons (.for (.var 3) (.rng1 (.c (.int 2))) (.cons (.asg (.var 4) (.call 980 2 (.cons (.var 1) .nil))) (.cons (.ite (.bop .Or (.cons (.un .Not (.call 538 1 (.cons (.var 4) (.cons (.var 0) .nil)))) (.cons (.cmp .NotEq (.call 977 1 (.cons (.var 4) .nil)) (.var 1)) .nil))) (.cons (.ret (.so (.c (.bl false)))) .nil) .nil) (.cons (.expr (.meth .append (.idx (.var 4) (.c (.int 3))) (.cons (.c (.int 3)) .nil))) .nil)))) (.cons (.ret (.so (.c (.bl true)))) .nil))))⟩
def tail991 : Ss := .cons (.asg (.var 5) (.call 536 2 (.cons (.call 32 0 (.cons (.var 2) (.cons (.bin false .Mult (.bin false .Mult (.c (.int 125112)) (.bin false .Pow (.c (.int 10)) (.c (.int 40)))) (.bin false .Pow (.c (.int 10)) (.c (.int 40)))) .nil))) (.cons (.var 4) .nil)))) (.cons (.ite (.bop .And (.cons (.cmp .Eq (.idx (.var 3) (.c (.int 2))) (.c (.int 1))) (.cons (.cmp .Gt (.var 4) (.c (.int 0))) .nil))) (.cons (.asg (.var 6) (.idx (.idx (.var 5) (.c (.int 3))) (.c (.int 0)))) (.cons (.asg (.idx (.idx (.var 5) (.c (.int 3))) (.c (.int 0))) (.tup (.cons (.idx (.var 6) (.c (.int 0))) (.cons (.idx (.var 6) (.c (.int 1))) (.cons (.call 9 0 (.cons (.idx (.var 3) (.c (.int 3))) (.cons (.bin false .Add (.c (.int 1)) (.bin false .Mod (.idx (.var 3) (.c (.int 4))) (.bin false .Sub (.bin false .Pow (.c (.int 10)) (.c (.int 40))) (.c (.int 1))))) .nil))) .nil))))) .nil)) .nil) (.cons (.ite (.un .Not (.call 982 1 (.cons (.var 5) .nil))) (.cons (.ret (.so (.c (.bl false)))) .nil) .nil) .nil))
def b991 : Df := ⟨1, 7, .cons (.for (.var 1) (.rng1 (.bi .max2 (.cons (.c (.int 1)) (.cons (.bi .min2 (.cons (.c (.int 10)) (.cons (.bi .len (.cons (.var 0) .nil)) .nil))) .nil)))) (.cons (.asg (.var 2) (.call 6 0 (.cons (.var 0) (.cons (.var 1) .nil)))) (.cons (.asg (.var 3) (.call 7 0 (.cons (.var 2) (.cons (.lst false (.cons (.c (.int 13)) (.cons (.c (.int 4)) (.cons (.c (.int 6)) (.cons (.bin false .Pow (.c (.int 10)) (.c (.int 40))) (.cons (.bin false .Pow (.c (.int 10)) (.c (.int 40))) (.cons (.c (.int 401)) .nil))))))) .nil)))) (.cons (.asg (.var 4) (.idx (.var 3) (.c (.int 0)))) (.cons (.ite (.bop .And (.cons (.cmp .Eq (.var 1) (.c (.int 0))) (.cons (.cmp .Eq (.idx (.var 3) (.c (.int 1))) (.c (.int 1))) .nil))) (.cons (.asg (.var 4) (.idx (.var 3) (.c (.int 5)))) .nil) .nil) tail991))))) (.cons (.ret (.so (.call 982 0 (.cons (.tup (.cons (.c (.int 1)) (.cons (.c (.int 1)) (.cons (.c (.int 1)) (.cons (.lst false .nil) .nil))))) .nil)))) .nil)⟩
end Sg
namespace Sg
noncomputable section
open PySem PySem.Spec
def V {α : Type} (r : R α) (Q : α → List Cell → Prop) (X : Nat → List Cell → Prop) : Prop := match r with
  | .ok a M => Q a M
  | .exc c M => X c M
  | .bad => False
def VQ (r : Qr) (Q : Fl → St → List Cell → Prop) (X : Nat → List Cell → Prop) : Prop := match r with
  | .ok f σ M => Q f σ M
  | .exc c _ M => X c M
  | .bad => False
section
variable {α β : Type} {Φ : Phi} {σ : St} {M : List Cell} {X : Nat → List Cell → Prop}
theorem V_ok {a : α} {Q} : V (.ok a M) Q X = Q a M := rfl
theorem V_exc {c : Nat} {Q : α → List Cell → Prop} : V (.exc c M) Q X = X c M := rfl
theorem V_bad {Q : α → List Cell → Prop} : V .bad Q X = False := rfl
theorem VQ_ok {a : Fl} {Q} : VQ (.ok a σ M) Q X = Q a σ M := rfl
theorem VQ_exc {c : Nat} {Q} : VQ (.exc c σ M) Q X = X c M := rfl
theorem VQ_bad {Q} : VQ .bad Q X = False := rfl
theorem V_bind {r : R α} {f : α → List Cell → R β} {Q} : V (r.bind f) Q X = V r (fun a M1 => V (f a M1) Q X) X := by cases r <;> rfl
theorem V_st {r : R α} {f : α → List Cell → Qr} {Q} : VQ (r.st σ f) Q X = V r (fun a M1 => VQ (f a M1) Q X) X := by cases r <;> rfl
theorem V_nox {r : R α} {Q} : V r.nox Q X = V r Q (fun _ _ => False) := by cases r <;> rfl
theorem VQ_mono {r : Qr} {Q Q' : Fl → St → List Cell → Prop} {X' : Nat → List Cell → Prop} (h : VQ r Q X) (hq : ∀ f σ M, Q f σ M → Q' f σ M) (hx : ∀ c M, X c M → X' c M) : VQ r Q' X' := by
  cases r with
  | ok a M => exact hq _ _ _ h
  | exc c M => exact hx _ _ h
  | bad => exact h
variable {Q : D → List Cell → Prop}
def gv (σ : St) (i : Nat) (Q : D → Prop) : Prop := match σ, i with
  | some d :: _, 0 => Q d
  | _ :: r, i + 1 => gv r i Q
  | _, _ => False
theorem gv_eq : ∀ {σ : St} {i : Nat} {Q : D → Prop}, (match σ[i]? with | some (some d) => Q d | _ => False) = gv σ i Q
  | [], i, Q => by cases i <;> rfl
  | none :: r, 0, Q => rfl
  | some d :: r, 0, Q => rfl
  | x :: r, i + 1, Q => by
    rw [List.getElem?_cons_succ, gv_eq (σ := r)]
    cases x <;> rfl
theorem V_var {i : Nat} : V (evE Φ (.var i) σ M) Q X = gv σ i (fun d => Q d M) := by
  rw [← gv_eq, evE]
  cases σ[i]? with
  | none => rfl
  | some o => cases o <;> rfl
theorem gv0 {d : D} {r : St} {Q : D → Prop} : gv (some d :: r) 0 Q = Q d := rfl
theorem gv1 {x : Option D} {r : St} {Q : D → Prop} : gv (x :: r) 1 Q = gv r 0 Q := by cases x <;> rfl
theorem gv2 {x y : Option D} {r : St} {Q : D → Prop} : gv (x :: y :: r) 2 Q = gv r 0 Q := by cases x <;> cases y <;> rfl
theorem gvs {x : Option D} {r : St} {i : Nat} {Q : D → Prop} : gv (x :: r) (i + 1) Q = gv r i Q := by cases x <;> rfl
theorem V_c {d : D} : V (evE Φ (.c d) σ M) Q X = Q d M := rfl
theorem V_glob {x : Str} {d : D} : V (evE Φ (.glob x d) σ M) Q X = Q d M := rfl
theorem V_bin {m op a b} : V (evE Φ (.bin m op a b) σ M) Q X = V (evE Φ a σ M) (fun x M1 => V (evE Φ b σ M1) (fun y M2 => V (bop m op x y M2) Q X) X) X := by rw [evE, V_bind]; simp only [V_bind]
theorem V_un {op a} : V (evE Φ (.un op a) σ M) Q X = V (evE Φ a σ M) (fun x M1 => V (uop op x M1) Q X) X := by rw [evE, V_bind]
theorem V_cmp {op a b} : V (evE Φ (.cmp op a b) σ M) Q X = V (evE Φ a σ M) (fun x M1 => V (evE Φ b σ M1) (fun y M2 => V (cop op x y M2) Q X) X) X := by rw [evE, V_bind]; simp only [V_bind]
theorem V_chain {o1 o2 a b c} : V (evE Φ (.chain o1 o2 a b c) σ M) Q X = V (evE Φ a σ M) (fun x M1 => V (evE Φ b σ M1) (fun y M2 => V (cop o1 x y M2) (fun k M3 => V (toBl k M3) (fun k M3 =>
    if k = true then V (evE Φ c σ M3) (fun z M4 => V (cop o2 y z M4) Q X) X else Q (.bl false) M3) X) X) X) X := by
  rw [evE, V_bind]
  simp only [V_bind]
  congr 1; funext x M1; congr 1; funext y M2; congr 1; funext k M3; congr 1; funext k M3
  cases k <;> simp [V_ok, V_bind]
theorem V_toBl {k : Bool} {Q : Bool → List Cell → Prop} : V (toBl (.bl k) M) Q X = Q k M := rfl
theorem V_bop {op es} : V (evE Φ (.bop op es) σ M) Q X = V (evB Φ op es σ M) Q X := rfl
theorem V_B1 {op a} : V (evB Φ op (.cons a .nil) σ M) Q X = V (evE Φ a σ M) Q X := rfl
theorem V_And {a b r} : V (evB Φ .And (.cons a (.cons b r)) σ M) Q X = V (evE Φ a σ M) (fun k M1 => V (toBl k M1) (fun k M1 => if k = true then V (evB Φ .And (.cons b r) σ M1) Q X else Q (.bl false) M1) X) X := by
  rw [evB, V_bind, V_bind]
  congr 1; funext k M1; congr 1; funext k M3
  cases k <;> simp [V_ok]
theorem V_Or {a b r} : V (evB Φ .Or (.cons a (.cons b r)) σ M) Q X = V (evE Φ a σ M) (fun k M1 => V (toBl k M1) (fun k M1 => if k = true then Q (.bl true) M1 else V (evB Φ .Or (.cons b r) σ M1) Q X) X) X := by
  rw [evB, V_bind, V_bind]
  congr 1; funext k M1; congr 1; funext k M3
  cases k <;> simp [V_ok]
theorem V_ite {c a b} : V (evE Φ (.ite c a b) σ M) Q X = V (evE Φ c σ M) (fun k M1 => V (toBl k M1) (fun k M1 => if k = true then V (evE Φ a σ M1) Q X else V (evE Φ b σ M1) Q X) X) X := by
  rw [evE, V_bind, V_bind]
  congr 1; funext k M1; congr 1; funext k M3
  cases k <;> simp
theorem V_tup {es} : V (evE Φ (.tup es) σ M) Q X = V (evEs Φ es σ M) (fun ds M1 => ds.length ≤ LIM ∧ Q (.tup ds) M1) X := by
  rw [evE, V_bind]
  congr 1; funext ds M1
  split <;> simp [V_ok, V_bad, *]
theorem V_lst {m es} : V (evE Φ (.lst m es) σ M) Q X = V (evEs Φ es σ M) (fun ds M1 => V (new m ds M1) Q X) X := by rw [evE, V_bind]
theorem V_idx {a b} : V (evE Φ (.idx a b) σ M) Q X = V (evE Φ a σ M) (fun x M1 => V (evE Φ b σ M1) (fun y M2 => V (idxD x y M2) Q X) X) X := by rw [evE, V_bind]; simp only [V_bind]
theorem V_slc {m a lo hi} : V (evE Φ (.slc m a lo hi) σ M) Q X = V (evE Φ a σ M) (fun x M1 => V (evO Φ lo σ M1) (fun l M2 => V (evO Φ hi σ M2) (fun h M3 => V (slcD m x l h M3) Q X) X) X) X := by rw [evE, V_bind]; simp only [V_bind]
theorem V_call {f mode es} : V (evE Φ (.call f mode es) σ M) Q X = V (evEs Φ es σ M) (fun ds M1 => V (callD Φ f mode ds M1) Q X) X := by rw [evE, V_bind]
theorem V_bi {f es} : V (evE Φ (.bi f es) σ M) Q X = V (evEs Φ es σ M) (fun ds M1 => V (bi f ds M1) Q X) X := by rw [evE, V_bind]
def W_isiR (t : Ty) (x : D) (M : List Cell) : R D := match isi t x M with
  | some k => .ok (.bl k) M
  | none => .bad
theorem V_isi {a t} : V (evE Φ (.isi a t) σ M) Q X = V (evE Φ a σ M) (fun x M1 => V (W_isiR t x M1) Q X) X := by
  rw [evE, V_bind]
  rfl
theorem V_meth {f a es} : V (evE Φ (.meth f a es) σ M) Q X = V (evE Φ a σ M) (fun x M1 => (content M1 x).isSome ∧ V (evEs Φ es σ M1) (fun ds M2 => V (meth f x ds M2) Q X) X) X := by
  rw [evE, V_bind]
  congr 1; funext x M1
  cases h : content M1 x with
  | none => simp [V_bad]
  | some _ => simp [V_bind]
def compS (Φ : Phi) (σ : St) (own : List Nat) (t : T) (c : O) (e : E) (x : D) (M2 : List Cell) : R (Option D) := (evT Φ t x (wipeD σ own) M2).bind fun σ1 M3 =>
  (evC Φ c σ1 M3).bind fun k M4 => if k then (evE Φ e σ1 M4).bind fun y M5 => .ok (some y) M5 else .ok none M4
theorem V_compV {m own t l c e} : V (evE Φ (.compV m own t l c e) σ M) Q X = V (evE Φ l σ M) (fun d M1 => V (match d with
    | .ref i => match M1[i]? with
      | some ⟨true, .lst xs⟩ => (compVL i xs (compS Φ σ own t c e) xs M1).bind fun ys M2 => new m ys M2
      | _ => .bad
    | _ => .bad : R D) Q X) X := by rw [evE, V_bind]; rfl
theorem V_comp {m own t it c e} : V (evE Φ (.comp m own t it c e) σ M) Q X = V (evIt Φ it σ M) (fun xs M1 => V (compL (compS Φ σ own t c e) xs M1) (fun ys M2 => V (new m ys M2) Q X) X) X := by
  rw [evE, V_bind]
  simp only [V_bind]
  rfl
theorem V_compS {own : List Nat} {t : T} {c : O} {e : E} {x : D} {Q : Option D → List Cell → Prop} : V (compS Φ σ own t c e x M) Q X = V (evT Φ t x (wipeD σ own) M) (fun σ1 M3 => V (evC Φ c σ1 M3) (fun k M4 => if k = true then V (evE Φ e σ1 M4) (fun y M5 => Q (some y) M5) X else Q none M4) X) X := by
  unfold compS
  rw [V_bind]
  simp only [V_bind]
  congr 1; funext σ1 M3; congr 1; funext k M4
  cases k <;> simp [V_ok, V_bind]
theorem V_Ono {Q : Option Int → List Cell → Prop} : V (evO Φ .no σ M) Q X = Q none M := rfl
def asI (d : D) (Q : Int → Prop) : Prop := match d with
  | .int i => Q i
  | _ => False
theorem asI_int {i : Int} {Q : Int → Prop} : asI (.int i) Q = Q i := rfl
theorem V_Oso {e} {Q : Option Int → List Cell → Prop} : V (evO Φ (.so e) σ M) Q X = V (evE Φ e σ M) (fun d M1 => asI d fun i => Q (some i) M1) X := by
  rw [evO, V_bind]
  congr 1; funext d M1
  cases d <;> rfl
theorem V_Cno {Q : Bool → List Cell → Prop} : V (evC Φ .no σ M) Q X = Q true M := rfl
theorem V_Cso {e} {Q : Bool → List Cell → Prop} : V (evC Φ (.so e) σ M) Q X = V (evE Φ e σ M) (fun k M1 => V (toBl k M1) Q X) X := by rw [evC, V_bind]
theorem V_nil {Q : List D → List Cell → Prop} : V (evEs Φ .nil σ M) Q X = Q [] M := rfl
theorem V_cons {e es} {Q : List D → List Cell → Prop} : V (evEs Φ (.cons e es) σ M) Q X = V (evE Φ e σ M) (fun d M1 => V (evEs Φ es σ M1) (fun ds M2 => Q (d :: ds) M2) X) X := by
  rw [evEs, V_bind]
  simp only [V_bind]
  rfl
variable {QL : List D → List Cell → Prop}
def valR (d : D) (M : List Cell) : R (List D) := match seqOf M d with
  | some xs => .ok xs (stop1 d M)
  | none => .bad
def lstR (f : List D → List D) (d : D) (M : List Cell) : R (List D) := match listOf M d with
  | some xs => .ok (f xs) (stop1 d M)
  | none => .bad
def zipR (d e : D) (M : List Cell) : R (List D) := match listOf M d, listOf M e with
  | some xs, some ys => .ok (zipD xs ys) (stop1 e (stop1 d M))
  | _, _ => .bad
theorem V_val {e} : V (evIt Φ (.val e) σ M) QL X = V (evE Φ e σ M) (fun d M1 => V (valR d M1) QL X) X := by rw [evIt, V_bind]; rfl
theorem V_rng1 {a} : V (evIt Φ (.rng1 a) σ M) QL X = V (evE Φ a σ M) (fun d M1 => asI d fun j => B62 j ∧ QL (upTo 0 j.toNat) M1) X := by
  rw [evIt, V_bind]
  congr 1; funext d M1
  cases d <;> first | rfl | skip
  simp only [asI]
  split <;> simp [V_ok, V_bad, *]
theorem V_rng2 {a b} : V (evIt Φ (.rng2 a b) σ M) QL X = V (evE Φ a σ M) (fun d M1 => V (evE Φ b σ M1) (fun e M2 => asI d fun i => asI e fun j => (B62 i ∧ B62 j) ∧ QL (upTo i (j - i).toNat) M2) X) X := by
  rw [evIt, V_bind]
  simp only [V_bind]
  congr 1; funext d M1; congr 1; funext e M2
  cases d <;> cases e <;> first | rfl | skip
  simp only [asI]
  split <;> simp [V_ok, V_bad, *]
theorem V_rng3 {a b c} : V (evIt Φ (.rng3 a b c) σ M) QL X = V (evE Φ a σ M) (fun d M1 => V (evE Φ b σ M1) (fun e M2 => V (evE Φ c σ M2) (fun g M3 => asI d fun i => asI e fun j => asI g fun k => (k = -1 ∧ B62 i ∧ B62 j) ∧ QL (upBy i (-1) (i - j).toNat) M3) X) X) X := by
  rw [evIt, V_bind]
  simp only [V_bind]
  congr 1; funext d M1; congr 1; funext e M2; congr 1; funext g M3
  cases d <;> cases e <;> cases g <;> first | rfl | skip
  simp only [asI]
  split <;> simp [V_ok, V_bad, *]
theorem V_zip {a b} : V (evIt Φ (.zip a b) σ M) QL X = V (evE Φ a σ M) (fun d M1 => V (evE Φ b σ M1) (fun e M2 => V (zipR d e M2) QL X) X) X := by
  rw [evIt, V_bind]
  simp only [V_bind]
  rfl
theorem V_enum {a} : V (evIt Φ (.enum a) σ M) QL X = V (evE Φ a σ M) (fun d M1 => V (lstR (enumD 0) d M1) QL X) X := by rw [evIt, V_bind]; rfl
theorem V_rev {a} : V (evIt Φ (.rev a) σ M) QL X = V (evE Φ a σ M) (fun d M1 => V (lstR List.reverse d M1) QL X) X := by rw [evIt, V_bind]; rfl
variable {QS : St → List Cell → Prop}
theorem V_Tv {i : Nat} {d : D} : V (evT Φ (.var i) d σ M) QS X = QS (σ.set i (some d)) M := rfl
theorem V_Tt {ts : Ts} {xs : List D} : V (evT Φ (.tup ts) (.tup xs) σ M) QS X = V (evTs Φ ts xs σ M) QS X := rfl
def setR (x y d : D) (σ : St) (M : List Cell) : R St := match setD x y d M with
  | some M3 => .ok σ M3
  | none => .bad
theorem V_Ti {o i : E} {d : D} : V (evT Φ (.idx o i) d σ M) QS X = V (evE Φ o σ M) (fun x M1 => V (evE Φ i σ M1) (fun y M2 => V (setR x y d σ M2) QS X) (fun _ _ => False)) (fun _ _ => False) := by
  rw [evT, V_bind, V_nox]
  simp only [V_bind, V_nox]
  rfl
theorem V_Tn : V (evTs Φ .nil [] σ M) QS X = QS σ M := rfl
theorem V_Tc {t ts d ds} : V (evTs Φ (.cons t ts) (d :: ds) σ M) QS X = V (evT Φ t d σ M) (fun σ1 M1 => V (evTs Φ ts ds σ1 M1) QS X) X := by rw [evTs, V_bind]
variable {QF : Fl → St → List Cell → Prop}
def Kv (Φ : Phi) (ss : Ss) (Q : Fl → St → List Cell → Prop) (X : Nat → List Cell → Prop) (f : Fl) (σ : St) (M : List Cell) : Prop := match f with
  | .nx => VQ (evSs Φ ss σ M) Q X
  | f => Q f σ M
theorem U_nil : VQ (evSs Φ .nil σ M) QF X = QF .nx σ M := rfl
theorem U_cons {s ss} : VQ (evSs Φ (.cons s ss) σ M) QF X = VQ (evS Φ s σ M) (Kv Φ ss QF X) X := by
  rw [evSs]
  cases evS Φ s σ M with
  | ok f σ M => cases f <;> rfl
  | exc c σ M => rfl
  | bad => rfl
theorem U_expr {e} : VQ (evS Φ (.expr e) σ M) QF X = V (evE Φ e σ M) (fun _ M1 => QF .nx σ M1) X := by rw [evS, V_st]; rfl
theorem U_asg {t e} : VQ (evS Φ (.asg t e) σ M) QF X = V (evE Φ e σ M) (fun d M1 => V (evT Φ t d σ M1) (fun σ1 M2 => QF .nx σ1 M2) (fun _ _ => False)) X := by
  rw [evS, V_st]
  simp only [V_st, V_nox]
  rfl
def augv (i : Nat) (op : Operator) (x : D) (σ : St) (y : D) (M : List Cell) (Q : St → List Cell → Prop) (X : Nat → List Cell → Prop) : Prop := match x, y with
  | .int a, .int b => V (bopI op (.int a) (.int b) M) (fun z M2 => Q (σ.set i (some z)) M2) X
  | _, _ => False
theorem augv_int {i op a b QS} : augv i op (.int a) σ (.int b) M QS X = V (bopI op (.int a) (.int b) M) (fun z M2 => QS (σ.set i (some z)) M2) X := rfl
theorem U_aug {i op e} : VQ (evS Φ (.aug i op e) σ M) QF X = gv σ i (fun x => V (evE Φ e σ M) (fun y M1 => augv i op x σ y M1 (QF .nx) X) X) := by
  rw [← gv_eq, evS]
  cases σ[i]? with
  | none => rfl
  | some o =>
    cases o with
    | none => rfl
    | some x =>
      show VQ (R.st _ _ _) QF X = V _ _ _
      rw [V_st]
      congr 1; funext y M1
      cases x <;> cases y <;> first | rfl | skip
      simp only [augv, V_st]
      rfl
theorem U_ite {c a b} : VQ (evS Φ (.ite c a b) σ M) QF X = V (evE Φ c σ M) (fun k M1 => V (toBl k M1) (fun k M1 => if k = true then VQ (evSs Φ a σ M1) QF X else VQ (evSs Φ b σ M1) QF X) X) X := by
  rw [evS, V_st, V_bind]
  congr 1; funext k M1; congr 1; funext k M3
  cases k <;> simp
def forS (Φ : Phi) (t : T) (b : Ss) (x : D) (σ1 : St) (M2 : List Cell) : Qr := (evT Φ t x σ1 M2).nox.st σ1 fun σ2 M3 => evSs Φ b σ2 M3
theorem V_forS {t b x} : VQ (forS Φ t b x σ M) QF X = V (evT Φ t x σ M) (fun σ2 M3 => VQ (evSs Φ b σ2 M3) QF X) (fun _ _ => False) := by
  unfold forS
  rw [V_st, V_nox]
theorem U_for {t it b} : VQ (evS Φ (.for t it b) σ M) QF X = V (evIt Φ it σ M) (fun xs M1 => VQ (forL (forS Φ t b) xs σ M1) QF X) X := by rw [evS, V_st]; rfl
theorem U_whl {c b} : VQ (evS Φ (.whl c b) σ M) QF X = VQ (whlL (evE Φ c) (evSs Φ b) FUEL σ M) QF X := rfl
theorem U_ret {e} : VQ (evS Φ (.ret (.so e)) σ M) QF X = V (evE Φ e σ M) (fun d M1 => QF (.rt d) σ M1) X := by rw [evS, V_st]; rfl
theorem U_ret0 : VQ (evS Φ (.ret .no) σ M) QF X = QF (.rt .non) σ M := rfl
theorem U_pass : VQ (evS Φ .pass σ M) QF X = QF .nx σ M := rfl
theorem U_brk : VQ (evS Φ .brk σ M) QF X = QF .bk σ M := rfl
theorem U_cont : VQ (evS Φ .cont σ M) QF X = QF .ct σ M := rfl
theorem U_raise {c} : VQ (evS Φ (.raise c) σ M) QF X = X c M := rfl
/-- behind the body -/
def retQ (Q : D → List Cell → Prop) (f : Fl) (_ : St) (M : List Cell) : Prop := match f with
  | .nx => Q .non M
  | .rt x => Q x M
  | _ => False
theorem retQ_nx : retQ Q .nx σ M = Q .non M := rfl
theorem retQ_rt {d} : retQ Q (.rt d) σ M = Q d M := rfl
theorem V_evD {ps n : Nat} {b : Ss} {ds : List D} : V (evD Φ ⟨ps, n, b⟩ ds M) Q X = (ds.length = ps ∧ VQ (evSs Φ b (start n ds) M) (retQ Q) X) := by
  unfold evD
  by_cases h : ds.length = ps
  · simp only [h, if_true, true_and]
    cases evSs Φ b (start n ds) M with
    | ok f σ M => cases f <;> rfl
    | exc c σ M => rfl
    | bad => rfl
  · simp [h, V_bad]
theorem V_add {m : Bool} {i j : Int} : V (bop m .Add (.int i) (.int j) M) Q X = Q (.int (i + j)) M := rfl
theorem V_sub {m : Bool} {i j : Int} : V (bop m .Sub (.int i) (.int j) M) Q X = Q (.int (i - j)) M := rfl
theorem V_mul {m : Bool} {i j : Int} : V (bop m .Mult (.int i) (.int j) M) Q X = (mulOk i j = true ∧ Q (.int (i * j)) M) := by
  show V (if mulOk i j = true then _ else _) Q X = _
  split <;> simp [V_ok, V_bad, *]
theorem V_mulI {i j : Int} : V (bopI .Mult (.int i) (.int j) M) Q X = (mulOk i j = true ∧ Q (.int (i * j)) M) := V_mul (m := true)
theorem V_addI {i j : Int} : V (bopI .Add (.int i) (.int j) M) Q X = Q (.int (i + j)) M := rfl
theorem V_subI {i j : Int} : V (bopI .Sub (.int i) (.int j) M) Q X = Q (.int (i - j)) M := rfl
theorem V_neg {i : Int} : V (uop .USub (.int i) M) Q X = Q (.int (-i)) M := rfl
theorem V_not {b : Bool} : V (uop .Not (.bl b) M) Q X = Q (.bl (!b)) M := rfl
theorem V_lt {i j : Int} : V (cop .Lt (.int i) (.int j) M) Q X = Q (.bl (decide (i < j))) M := rfl
theorem V_le {i j : Int} : V (cop .LtE (.int i) (.int j) M) Q X = Q (.bl (decide (i ≤ j))) M := rfl
theorem V_gt {i j : Int} : V (cop .Gt (.int i) (.int j) M) Q X = Q (.bl (decide (j < i))) M := rfl
theorem V_ge {i j : Int} : V (cop .GtE (.int i) (.int j) M) Q X = Q (.bl (decide (j ≤ i))) M := rfl
def eqR (a b : D) (M : List Cell) : R D := match eqD M a b with
  | some k => .ok (.bl k) M
  | none => .bad
def neR (a b : D) (M : List Cell) : R D := match eqD M a b with
  | some k => .ok (.bl (!k)) M
  | none => .bad
theorem V_eq {a b : D} : V (cop .Eq a b M) Q X = V (eqR a b M) Q X := by cases a <;> cases b <;> rfl
theorem V_ne {a b : D} : V (cop .NotEq a b M) Q X = V (neR a b M) Q X := by cases a <;> cases b <;> rfl
theorem V_is {a : D} : V (cop .Is a .non M) Q X = Q (.bl (isNon a)) M := by cases a <;> rfl
theorem V_isnot {a : D} : V (cop .IsNot a .non M) Q X = Q (.bl (!isNon a)) M := by cases a <;> rfl
theorem V_new0 {xs : List D} : V (new false xs M) Q X = (xs.length ≤ LIM ∧ Q (.lst xs) M) := by
  unfold new
  split <;> simp [V_ok, V_bad, *]
theorem V_new1 {xs : List D} : V (new true xs M) Q X = (xs.length ≤ LIM ∧ Q (.ref M.length) (M ++ [⟨true, .lst xs⟩])) := by
  unfold new
  split <;> simp [V_ok, V_bad, *]
theorem V_abs {i : Int} : V (bi .abs [.int i] M) Q X = Q (.int i.natAbs) M := by
  show Q (.int (if i < 0 then -i else i)) M = _
  have : (if i < 0 then -i else i) = (i.natAbs : Int) := by split <;> omega
  rw [this]
theorem V_max2 {i j : Int} : V (bi .max2 [.int i, .int j] M) Q X = Q (.int (max i j)) M := by
  show Q (.int (if j > i then j else i)) M = _
  have : (if j > i then j else i) = max i j := by split <;> omega
  rw [this]
theorem V_min2 {i j : Int} : V (bi .min2 [.int i, .int j] M) Q X = Q (.int (min i j)) M := by
  show Q (.int (if j < i then j else i)) M = _
  have : (if j < i then j else i) = min i j := by split <;> omega
  rw [this]
theorem V_div {m : Bool} {i j : Int} (h : 0 < j) (h2 : j.natAbs.log2 < 9000) : V (bop m .FloorDiv (.int i) (.int j) M) Q X = Q (.int (i / j)) M := by
  show V (if 0 < j ∧ j.natAbs.log2 < 9000 then _ else _) Q X = _
  rw [if_pos ⟨h, h2⟩]; rfl
theorem V_mod {m : Bool} {i j : Int} (h : 0 < j) : V (bop m .Mod (.int i) (.int j) M) Q X = Q (.int (i % j)) M := by
  show V (if 0 < j then _ else _) Q X = _
  rw [if_pos h]; rfl
theorem V_pow {m : Bool} {i j : Int} : V (bop m .Pow (.int i) (.int j) M) Q X = ((0 ≤ j ∧ j ≤ 1000000 ∧ i.natAbs < 2 ^ 64) ∧ Q (.int (i ^ j.toNat)) M) := by
  show V (if 0 ≤ j ∧ Le6 j ∧ i.natAbs < 2 ^ 64 then _ else _) Q X = ((0 ≤ j ∧ Le6 j ∧ i.natAbs < 2 ^ 64) ∧ _)
  split <;> simp [V_ok, V_bad, *]
end
end
end Sg

namespace Sg
noncomputable section
open PySem PySem.Spec
/-- keeps simp out of a continuation -/
abbrev Pin {α β : Type} (_ : α → β → Prop) : Type := Unit
abbrev Pin3 {α β γ : Type} (_ : α → β → γ → Prop) : Type := Unit
def W {α : Type} (r : R α) (Q : α → List Cell → Prop) (X : Nat → List Cell → Prop) (_ : Pin Q := ()) (_ : Pin X := ()) : Prop := V r Q X
def WQ (r : Qr) (Q : Fl → St → List Cell → Prop) (X : Nat → List Cell → Prop) (_ : Pin3 Q := ()) (_ : Pin X := ()) : Prop := VQ r Q X
section
variable {α β : Type} {Φ : Phi} {σ : St} {M : List Cell} {X : Nat → List Cell → Prop}
theorem W_ok {a : α} {Q} : W (.ok a M) Q X = Q a M := V_ok
theorem W_exc {c : Nat} {Q : α → List Cell → Prop} : W (.exc c M) Q X = X c M := V_exc
theorem W_bad {Q : α → List Cell → Prop} : W .bad Q X = False := V_bad
theorem WQ_ok {a : Fl} {Q} : WQ (.ok a σ M) Q X = Q a σ M := VQ_ok
theorem WQ_exc {c : Nat} {Q} : WQ (.exc c σ M) Q X = X c M := VQ_exc
theorem WQ_bad {Q} : WQ .bad Q X = False := VQ_bad
theorem W_bind {r : R α} {f : α → List Cell → R β} {Q} : W (r.bind f) Q X = W r (fun a M1 => W (f a M1) Q X) X := V_bind
theorem W_st {r : R α} {f : α → List Cell → Qr} {Q} : WQ (r.st σ f) Q X = W r (fun a M1 => WQ (f a M1) Q X) X := V_st
theorem W_nox {r : R α} {Q} : W r.nox Q X = W r Q (fun _ _ => False) := V_nox
variable {Q : D → List Cell → Prop}
theorem W_var {i : Nat} : W (evE Φ (.var i) σ M) Q X = gv σ i (fun d => Q d M) := V_var
theorem W_c {d : D} : W (evE Φ (.c d) σ M) Q X = Q d M := V_c
theorem W_glob {x : Str} {d : D} : W (evE Φ (.glob x d) σ M) Q X = Q d M := V_glob
theorem W_bin {m op a b} : W (evE Φ (.bin m op a b) σ M) Q X = W (evE Φ a σ M) (fun x M1 => W (evE Φ b σ M1) (fun y M2 => W (bop m op x y M2) Q X) X) X := V_bin
theorem W_un {op a} : W (evE Φ (.un op a) σ M) Q X = W (evE Φ a σ M) (fun x M1 => W (uop op x M1) Q X) X := V_un
theorem W_cmp {op a b} : W (evE Φ (.cmp op a b) σ M) Q X = W (evE Φ a σ M) (fun x M1 => W (evE Φ b σ M1) (fun y M2 => W (cop op x y M2) Q X) X) X := V_cmp
theorem W_chain {o1 o2 a b c} : W (evE Φ (.chain o1 o2 a b c) σ M) Q X = W (evE Φ a σ M) (fun x M1 => W (evE Φ b σ M1) (fun y M2 => W (cop o1 x y M2) (fun k M3 => W (toBl k M3) (fun k M3 =>
    if k = true then W (evE Φ c σ M3) (fun z M4 => W (cop o2 y z M4) Q X) X else Q (.bl false) M3) X) X) X) X := V_chain
theorem W_toBl {k : Bool} {Q : Bool → List Cell → Prop} : W (toBl (.bl k) M) Q X = Q k M := V_toBl
theorem W_bop {op es} : W (evE Φ (.bop op es) σ M) Q X = W (evB Φ op es σ M) Q X := V_bop
theorem W_B1 {op a} : W (evB Φ op (.cons a .nil) σ M) Q X = W (evE Φ a σ M) Q X := V_B1
theorem W_And {a b r} : W (evB Φ .And (.cons a (.cons b r)) σ M) Q X = W (evE Φ a σ M) (fun k M1 => W (toBl k M1) (fun k M1 => if k = true then W (evB Φ .And (.cons b r) σ M1) Q X else Q (.bl false) M1) X) X := V_And
theorem W_Or {a b r} : W (evB Φ .Or (.cons a (.cons b r)) σ M) Q X = W (evE Φ a σ M) (fun k M1 => W (toBl k M1) (fun k M1 => if k = true then Q (.bl true) M1 else W (evB Φ .Or (.cons b r) σ M1) Q X) X) X := V_Or
theorem W_ite {c a b} : W (evE Φ (.ite c a b) σ M) Q X = W (evE Φ c σ M) (fun k M1 => W (toBl k M1) (fun k M1 => if k = true then W (evE Φ a σ M1) Q X else W (evE Φ b σ M1) Q X) X) X := V_ite
theorem W_tup {es} : W (evE Φ (.tup es) σ M) Q X = W (evEs Φ es σ M) (fun ds M1 => ds.length ≤ LIM ∧ Q (.tup ds) M1) X := V_tup
theorem W_lst {m es} : W (evE Φ (.lst m es) σ M) Q X = W (evEs Φ es σ M) (fun ds M1 => W (new m ds M1) Q X) X := V_lst
theorem W_idx {a b} : W (evE Φ (.idx a b) σ M) Q X = W (evE Φ a σ M) (fun x M1 => W (evE Φ b σ M1) (fun y M2 => W (idxD x y M2) Q X) X) X := V_idx
theorem W_slc {m a lo hi} : W (evE Φ (.slc m a lo hi) σ M) Q X = W (evE Φ a σ M) (fun x M1 => W (evO Φ lo σ M1) (fun l M2 => W (evO Φ hi σ M2) (fun h M3 => W (slcD m x l h M3) Q X) X) X) X := V_slc
theorem W_call {f mode es} : W (evE Φ (.call f mode es) σ M) Q X = W (evEs Φ es σ M) (fun ds M1 => W (callD Φ f mode ds M1) Q X) X := V_call
theorem W_bi {f es} : W (evE Φ (.bi f es) σ M) Q X = W (evEs Φ es σ M) (fun ds M1 => W (bi f ds M1) Q X) X := V_bi
theorem W_isi {a t} : W (evE Φ (.isi a t) σ M) Q X = W (evE Φ a σ M) (fun x M1 => W (W_isiR t x M1) Q X) X := V_isi
theorem W_meth {f a es} : W (evE Φ (.meth f a es) σ M) Q X = W (evE Φ a σ M) (fun x M1 => (content M1 x).isSome ∧ W (evEs Φ es σ M1) (fun ds M2 => W (meth f x ds M2) Q X) X) X := V_meth
theorem W_compV {m own t l c e} : W (evE Φ (.compV m own t l c e) σ M) Q X = W (evE Φ l σ M) (fun d M1 => W (match d with
    | .ref i => match M1[i]? with
      | some ⟨true, .lst xs⟩ => (compVL i xs (compS Φ σ own t c e) xs M1).bind fun ys M2 => new m ys M2
      | _ => .bad
    | _ => .bad : R D) Q X) X := V_compV
theorem W_comp {m own t it c e} : W (evE Φ (.comp m own t it c e) σ M) Q X = W (evIt Φ it σ M) (fun xs M1 => W (compL (compS Φ σ own t c e) xs M1) (fun ys M2 => W (new m ys M2) Q X) X) X := V_comp
theorem W_compS {own : List Nat} {t : T} {c : O} {e : E} {x : D} {Q : Option D → List Cell → Prop} : W (compS Φ σ own t c e x M) Q X = W (evT Φ t x (wipeD σ own) M) (fun σ1 M3 => W (evC Φ c σ1 M3) (fun k M4 => if k = true then W (evE Φ e σ1 M4) (fun y M5 => Q (some y) M5) X else Q none M4) X) X := V_compS
theorem W_Ono {Q : Option Int → List Cell → Prop} : W (evO Φ .no σ M) Q X = Q none M := V_Ono
theorem W_Oso {e} {Q : Option Int → List Cell → Prop} : W (evO Φ (.so e) σ M) Q X = W (evE Φ e σ M) (fun d M1 => asI d fun i => Q (some i) M1) X := V_Oso
theorem W_Cno {Q : Bool → List Cell → Prop} : W (evC Φ .no σ M) Q X = Q true M := V_Cno
theorem W_Cso {e} {Q : Bool → List Cell → Prop} : W (evC Φ (.so e) σ M) Q X = W (evE Φ e σ M) (fun k M1 => W (toBl k M1) Q X) X := V_Cso
theorem W_nil {Q : List D → List Cell → Prop} : W (evEs Φ .nil σ M) Q X = Q [] M := V_nil
theorem W_cons {e es} {Q : List D → List Cell → Prop} : W (evEs Φ (.cons e es) σ M) Q X = W (evE Φ e σ M) (fun d M1 => W (evEs Φ es σ M1) (fun ds M2 => Q (d :: ds) M2) X) X := V_cons
variable {QL : List D → List Cell → Prop}
theorem W_val {e} : W (evIt Φ (.val e) σ M) QL X = W (evE Φ e σ M) (fun d M1 => W (valR d M1) QL X) X := V_val
theorem W_rng1 {a} : W (evIt Φ (.rng1 a) σ M) QL X = W (evE Φ a σ M) (fun d M1 => asI d fun j => B62 j ∧ QL (upTo 0 j.toNat) M1) X := V_rng1
theorem W_rng2 {a b} : W (evIt Φ (.rng2 a b) σ M) QL X = W (evE Φ a σ M) (fun d M1 => W (evE Φ b σ M1) (fun e M2 => asI d fun i => asI e fun j => (B62 i ∧ B62 j) ∧ QL (upTo i (j - i).toNat) M2) X) X := V_rng2
theorem W_rng3 {a b c} : W (evIt Φ (.rng3 a b c) σ M) QL X = W (evE Φ a σ M) (fun d M1 => W (evE Φ b σ M1) (fun e M2 => W (evE Φ c σ M2) (fun g M3 => asI d fun i => asI e fun j => asI g fun k => (k = -1 ∧ B62 i ∧ B62 j) ∧ QL (upBy i (-1) (i - j).toNat) M3) X) X) X := V_rng3
theorem W_zip {a b} : W (evIt Φ (.zip a b) σ M) QL X = W (evE Φ a σ M) (fun d M1 => W (evE Φ b σ M1) (fun e M2 => W (zipR d e M2) QL X) X) X := V_zip
theorem W_enum {a} : W (evIt Φ (.enum a) σ M) QL X = W (evE Φ a σ M) (fun d M1 => W (lstR (enumD 0) d M1) QL X) X := V_enum
theorem W_rev {a} : W (evIt Φ (.rev a) σ M) QL X = W (evE Φ a σ M) (fun d M1 => W (lstR List.reverse d M1) QL X) X := V_rev
variable {QS : St → List Cell → Prop}
theorem W_Tv {i : Nat} {d : D} : W (evT Φ (.var i) d σ M) QS X = QS (σ.set i (some d)) M := V_Tv
theorem W_Tt {ts : Ts} {xs : List D} : W (evT Φ (.tup ts) (.tup xs) σ M) QS X = W (evTs Φ ts xs σ M) QS X := V_Tt
theorem W_Ti {o i : E} {d : D} : W (evT Φ (.idx o i) d σ M) QS X = W (evE Φ o σ M) (fun x M1 => W (evE Φ i σ M1) (fun y M2 => W (setR x y d σ M2) QS X) (fun _ _ => False)) (fun _ _ => False) := V_Ti
theorem W_Tn : W (evTs Φ .nil [] σ M) QS X = QS σ M := V_Tn
theorem W_Tc {t ts d ds} : W (evTs Φ (.cons t ts) (d :: ds) σ M) QS X = W (evT Φ t d σ M) (fun σ1 M1 => W (evTs Φ ts ds σ1 M1) QS X) X := V_Tc
variable {QF : Fl → St → List Cell → Prop}
def Kq (Φ : Phi) (ss : Ss) (Q : Fl → St → List Cell → Prop) (X : Nat → List Cell → Prop) (f : Fl) (σ : St) (M : List Cell) : Prop := match f with
  | .nx => WQ (evSs Φ ss σ M) Q X
  | f => Q f σ M
theorem Kq_nx {ss} : Kq Φ ss QF X .nx σ M = WQ (evSs Φ ss σ M) QF X := rfl
theorem Kq_rt {ss d} : Kq Φ ss QF X (.rt d) σ M = QF (.rt d) σ M := rfl
theorem Kq_bk {ss} : Kq Φ ss QF X .bk σ M = QF .bk σ M := rfl
theorem Kq_ct {ss} : Kq Φ ss QF X .ct σ M = QF .ct σ M := rfl
theorem Q_nil : WQ (evSs Φ .nil σ M) QF X = QF .nx σ M := U_nil
theorem Q_cons {s ss} : WQ (evSs Φ (.cons s ss) σ M) QF X = WQ (evS Φ s σ M) (Kq Φ ss QF X) X := U_cons
theorem Q_expr {e} : WQ (evS Φ (.expr e) σ M) QF X = W (evE Φ e σ M) (fun _ M1 => QF .nx σ M1) X := U_expr
theorem Q_asg {t e} : WQ (evS Φ (.asg t e) σ M) QF X = W (evE Φ e σ M) (fun d M1 => W (evT Φ t d σ M1) (fun σ1 M2 => QF .nx σ1 M2) (fun _ _ => False)) X := U_asg
def aug (i : Nat) (op : Operator) (x : D) (σ : St) (y : D) (M : List Cell) (Q : St → List Cell → Prop) (X : Nat → List Cell → Prop) : Prop := match x, y with
  | .int a, .int b => W (bopI op (.int a) (.int b) M) (fun z M2 => Q (σ.set i (some z)) M2) X
  | _, _ => False
theorem aug_int {i op a b QS} : aug i op (.int a) σ (.int b) M QS X = W (bopI op (.int a) (.int b) M) (fun z M2 => QS (σ.set i (some z)) M2) X := augv_int
theorem Q_aug {i op e} : WQ (evS Φ (.aug i op e) σ M) QF X = gv σ i (fun x => W (evE Φ e σ M) (fun y M1 => aug i op x σ y M1 (QF .nx) X) X) := U_aug
theorem Q_ite {c a b} : WQ (evS Φ (.ite c a b) σ M) QF X = W (evE Φ c σ M) (fun k M1 => W (toBl k M1) (fun k M1 => if k = true then WQ (evSs Φ a σ M1) QF X else WQ (evSs Φ b σ M1) QF X) X) X := U_ite
theorem W_forS {t b x} : WQ (forS Φ t b x σ M) QF X = W (evT Φ t x σ M) (fun σ2 M3 => WQ (evSs Φ b σ2 M3) QF X) (fun _ _ => False) := V_forS
theorem Q_for {t it b} : WQ (evS Φ (.for t it b) σ M) QF X = W (evIt Φ it σ M) (fun xs M1 => WQ (forL (forS Φ t b) xs σ M1) QF X) X := U_for
theorem Q_whl {c b} : WQ (evS Φ (.whl c b) σ M) QF X = WQ (whlL (evE Φ c) (evSs Φ b) FUEL σ M) QF X := U_whl
theorem Q_ret {e} : WQ (evS Φ (.ret (.so e)) σ M) QF X = W (evE Φ e σ M) (fun d M1 => QF (.rt d) σ M1) X := U_ret
theorem Q_ret0 : WQ (evS Φ (.ret .no) σ M) QF X = QF (.rt .non) σ M := U_ret0
theorem Q_pass : WQ (evS Φ .pass σ M) QF X = QF .nx σ M := U_pass
theorem Q_brk : WQ (evS Φ .brk σ M) QF X = QF .bk σ M := U_brk
theorem Q_cont : WQ (evS Φ .cont σ M) QF X = QF .ct σ M := U_cont
theorem Q_raise {c} : WQ (evS Φ (.raise c) σ M) QF X = X c M := U_raise
/-- behind the body -/
theorem W_evD {ps n : Nat} {b : Ss} {ds : List D} : W (evD Φ ⟨ps, n, b⟩ ds M) Q X = (ds.length = ps ∧ WQ (evSs Φ b (start n ds) M) (retQ Q) X) := V_evD
theorem W_add {m : Bool} {i j : Int} : W (bop m .Add (.int i) (.int j) M) Q X = Q (.int (i + j)) M := V_add
theorem W_sub {m : Bool} {i j : Int} : W (bop m .Sub (.int i) (.int j) M) Q X = Q (.int (i - j)) M := V_sub
theorem W_mul {m : Bool} {i j : Int} : W (bop m .Mult (.int i) (.int j) M) Q X = (mulOk i j = true ∧ Q (.int (i * j)) M) := V_mul
theorem W_mulI {i j : Int} : W (bopI .Mult (.int i) (.int j) M) Q X = (mulOk i j = true ∧ Q (.int (i * j)) M) := V_mulI
theorem W_addI {i j : Int} : W (bopI .Add (.int i) (.int j) M) Q X = Q (.int (i + j)) M := V_addI
theorem W_subI {i j : Int} : W (bopI .Sub (.int i) (.int j) M) Q X = Q (.int (i - j)) M := V_subI
theorem W_neg {i : Int} : W (uop .USub (.int i) M) Q X = Q (.int (-i)) M := V_neg
theorem W_not {b : Bool} : W (uop .Not (.bl b) M) Q X = Q (.bl (!b)) M := V_not
theorem W_lt {i j : Int} : W (cop .Lt (.int i) (.int j) M) Q X = Q (.bl (decide (i < j))) M := V_lt
theorem W_le {i j : Int} : W (cop .LtE (.int i) (.int j) M) Q X = Q (.bl (decide (i ≤ j))) M := V_le
theorem W_gt {i j : Int} : W (cop .Gt (.int i) (.int j) M) Q X = Q (.bl (decide (j < i))) M := V_gt
theorem W_ge {i j : Int} : W (cop .GtE (.int i) (.int j) M) Q X = Q (.bl (decide (j ≤ i))) M := V_ge
theorem W_eq {a b : D} : W (cop .Eq a b M) Q X = W (eqR a b M) Q X := V_eq
theorem W_ne {a b : D} : W (cop .NotEq a b M) Q X = W (neR a b M) Q X := V_ne
theorem W_is {a : D} : W (cop .Is a .non M) Q X = Q (.bl (isNon a)) M := V_is
theorem W_isnot {a : D} : W (cop .IsNot a .non M) Q X = Q (.bl (!isNon a)) M := V_isnot
theorem W_new0 {xs : List D} : W (new false xs M) Q X = (xs.length ≤ LIM ∧ Q (.lst xs) M) := V_new0
theorem W_new1 {xs : List D} : W (new true xs M) Q X = (xs.length ≤ LIM ∧ Q (.ref M.length) (M ++ [⟨true, .lst xs⟩])) := V_new1
theorem W_abs {i : Int} : W (bi .abs [.int i] M) Q X = Q (.int i.natAbs) M := V_abs
theorem W_max2 {i j : Int} : W (bi .max2 [.int i, .int j] M) Q X = Q (.int (max i j)) M := V_max2
theorem W_min2 {i j : Int} : W (bi .min2 [.int i, .int j] M) Q X = Q (.int (min i j)) M := V_min2
theorem W_div {m : Bool} {i j : Int} (h : 0 < j) (h2 : j.natAbs.log2 < 9000) : W (bop m .FloorDiv (.int i) (.int j) M) Q X = Q (.int (i / j)) M := V_div h h2
theorem W_mod {m : Bool} {i j : Int} (h : 0 < j) : W (bop m .Mod (.int i) (.int j) M) Q X = Q (.int (i % j)) M := V_mod h
theorem W_pow {m : Bool} {i j : Int} : W (bop m .Pow (.int i) (.int j) M) Q X = ((0 ≤ j ∧ j ≤ 1000000 ∧ i.natAbs < 2 ^ 64) ∧ Q (.int (i ^ j.toNat)) M) := V_pow
end
end
end Sg

namespace Sg
noncomputable section
open PySem PySem.Spec L2
theorem log2_lt {n m : Nat} (h : n < 2 ^ m) : n.log2 ≤ m := by
  rcases Nat.eq_zero_or_pos n with e | e
  · subst e
    simp
  · have := (Nat.log2_lt (Nat.ne_of_gt e)).mpr h
    omega
/-- less than 2 ^ m -/
def Lt2 (i : Int) (m : Nat) : Prop := i.natAbs < 2 ^ m
theorem Lt2.mono {i : Int} {m n : Nat} (h : Lt2 i m) (k : m ≤ n) : Lt2 i n := Nat.lt_of_lt_of_le h (Nat.pow_le_pow_right (by decide) k)
theorem Lt2.neg {i : Int} {m : Nat} (h : Lt2 i m) : Lt2 (-i) m := by
  unfold Lt2 at *
  omega
theorem Lt2.add {i j : Int} {m : Nat} (h : Lt2 i m) (k : Lt2 j m) : Lt2 (i + j) (m + 1) := by
  unfold Lt2 at *
  rw [Nat.pow_succ]
  omega
theorem Lt2.sub {i j : Int} {m : Nat} (h : Lt2 i m) (k : Lt2 j m) : Lt2 (i - j) (m + 1) := by
  unfold Lt2 at *
  rw [Nat.pow_succ]
  omega
theorem Lt2.mul {i j : Int} {m n : Nat} (h : Lt2 i m) (k : Lt2 j n) : Lt2 (i * j) (m + n) := by
  unfold Lt2 at *
  rw [Int.natAbs_mul, Nat.pow_add]
  exact Nat.mul_lt_mul'' h k
theorem Lt2.le {i j : Int} {m : Nat} (h : Lt2 j m) (k : i.natAbs ≤ j.natAbs) : Lt2 i m := Nat.lt_of_le_of_lt k h
theorem lt2_zero {m : Nat} : Lt2 0 m := Nat.two_pow_pos m
theorem mulOk_of {i j : Int} {m n : Nat} (h : Lt2 i m) (k : Lt2 j n) (s : m + n < 1000000) : mulOk i j = true := by
  unfold mulOk
  have h1 := log2_lt h
  have h2 := log2_lt k
  rw [Bool.or_eq_true, decide_eq_true_eq]
  left
  omega
def dvOk (j : Int) : Bool := decide (j.natAbs.log2 < 9000)
theorem dvOk_of {j : Int} {m : Nat} (h : Lt2 j m) (s : m < 9000) : dvOk j = true := by
  unfold dvOk
  have h1 := log2_lt h
  rw [decide_eq_true_eq]
  omega
theorem lt2_lit {i : Int} (h : i.natAbs < 2037035976334486086268445688409378161051468393665936250636140449354381299763336706183397376) : Lt2 i 300 := by
  have e : (2037035976334486086268445688409378161051468393665936250636140449354381299763336706183397376 : Nat) = 2 ^ 300 := by decide
  rw [e] at h
  exact h
theorem mulOk_lit {i j : Int} (h : i.natAbs < 2037035976334486086268445688409378161051468393665936250636140449354381299763336706183397376) (k : j.natAbs < 2037035976334486086268445688409378161051468393665936250636140449354381299763336706183397376) : mulOk i j = true := mulOk_of (lt2_lit h) (lt2_lit k) (by decide)
section
variable {α : Type} {Φ : Phi} {σ : St} {M : List Cell} {X : Nat → List Cell → Prop} {Q : D → List Cell → Prop}
theorem W_div_lit {m : Bool} {i j : Int} (h : 0 < j) (k : j.natAbs < 2037035976334486086268445688409378161051468393665936250636140449354381299763336706183397376) : W (bop m .FloorDiv (.int i) (.int j) M) Q X = Q (.int (i / j)) M :=
  W_div h (of_decide_eq_true (dvOk_of (lt2_lit k) (by decide)))
theorem W_div_ok {m : Bool} {i j : Int} (h : 0 < j) (k : dvOk j = true) : W (bop m .FloorDiv (.int i) (.int j) M) Q X = Q (.int (i / j)) M := W_div h (of_decide_eq_true k)
theorem W_divI_ok {i j : Int} (h : 0 < j) (k : dvOk j = true) : W (bopI .FloorDiv (.int i) (.int j) M) Q X = Q (.int (i / j)) M := W_div (m := true) h (of_decide_eq_true k)
theorem W_divI_lit {i j : Int} (h : 0 < j) (k : j.natAbs < 2037035976334486086268445688409378161051468393665936250636140449354381299763336706183397376) : W (bopI .FloorDiv (.int i) (.int j) M) Q X = Q (.int (i / j)) M := W_divI_ok h (dvOk_of (lt2_lit k) (by decide))
theorem W_modI {i j : Int} (h : 0 < j) : W (bopI .Mod (.int i) (.int j) M) Q X = Q (.int (i % j)) M := W_mod (m := true) h
theorem W_t0 {x : D} {r : List D} : W (idxD (.tup (x :: r)) (.int 0) M) Q X = Q x M := by
  have e : atI (x :: r) 0 = some x := atI_nat (j := 0) rfl
  show V (match atI (x :: r) 0 with | some d => R.ok d M | none => R.bad) Q X = _
  rw [e]; rfl
theorem W_t1 {x y : D} {r : List D} : W (idxD (.tup (x :: y :: r)) (.int 1) M) Q X = Q y M := by
  show V (idxD (.tup (x :: y :: r)) (.int 1) M) Q X = _
  have e : atI (x :: y :: r) 1 = some y := atI_nat (j := 1) rfl
  show V (match atI (x :: y :: r) 1 with | some d => R.ok d M | none => R.bad) Q X = _
  rw [e]; rfl
theorem W_t2 {x y z : D} {r : List D} : W (idxD (.tup (x :: y :: z :: r)) (.int 2) M) Q X = Q z M := by
  have e : atI (x :: y :: z :: r) 2 = some z := atI_nat (j := 2) rfl
  show V (match atI (x :: y :: z :: r) 2 with | some d => R.ok d M | none => R.bad) Q X = _
  rw [e]; rfl
theorem W_t3 {x y z a : D} {r : List D} : W (idxD (.tup (x :: y :: z :: a :: r)) (.int 3) M) Q X = Q a M := by
  have e : atI (x :: y :: z :: a :: r) 3 = some a := atI_nat (j := 3) rfl
  show V (match atI (x :: y :: z :: a :: r) 3 with | some d => R.ok d M | none => R.bad) Q X = _
  rw [e]; rfl
theorem W_l0 {x : D} {r : List D} : W (idxD (.lst (x :: r)) (.int 0) M) Q X = Q x M := W_t0
theorem W_l1 {x y : D} {r : List D} : W (idxD (.lst (x :: y :: r)) (.int 1) M) Q X = Q y M := W_t1
theorem W_l2 {x y z : D} {r : List D} : W (idxD (.lst (x :: y :: z :: r)) (.int 2) M) Q X = Q z M := W_t2
theorem W_l3 {x y z a : D} {r : List D} : W (idxD (.lst (x :: y :: z :: a :: r)) (.int 3) M) Q X = Q a M := W_t3
theorem W_at {a : D} {xs : List D} {i : Int} {d : D} (h : seqOf M a = some xs) (e : atI xs i = some d) : W (idxD a (.int i) M) Q X = Q d M := by
  show V (idxD a (.int i) M) Q X = _
  unfold idxD
  simp only [h, e]
  rfl
theorem W_nth {xs : List D} {i : Nat} {d : D} (e : xs[i]? = some d) : W (idxD (.lst xs) (.int i) M) Q X = Q d M := W_at (a := .lst xs) rfl (atI_nat e)
theorem W_l4 {x y z a b : D} {r : List D} : W (idxD (.lst (x :: y :: z :: a :: b :: r)) (.int 4) M) Q X = Q b M := W_at (a := .lst (x :: y :: z :: a :: b :: r)) rfl (atI_nat (j := 4) rfl)
theorem W_l5 {x y z a b c : D} {r : List D} : W (idxD (.lst (x :: y :: z :: a :: b :: c :: r)) (.int 5) M) Q X = Q c M := W_at (a := .lst (x :: y :: z :: a :: b :: c :: r)) rfl (atI_nat (j := 5) rfl)
theorem W_l6 {x y z a b c d : D} {r : List D} : W (idxD (.lst (x :: y :: z :: a :: b :: c :: d :: r)) (.int 6) M) Q X = Q d M := W_at (a := .lst (x :: y :: z :: a :: b :: c :: d :: r)) rfl (atI_nat (j := 6) rfl)
theorem W_l7 {x y z a b c d e : D} {r : List D} : W (idxD (.lst (x :: y :: z :: a :: b :: c :: d :: e :: r)) (.int 7) M) Q X = Q e M := W_at (a := .lst (x :: y :: z :: a :: b :: c :: d :: e :: r)) rfl (atI_nat (j := 7) rfl)
theorem W_l8 {x y z a b c d e f : D} {r : List D} : W (idxD (.lst (x :: y :: z :: a :: b :: c :: d :: e :: f :: r)) (.int 8) M) Q X = Q f M := W_at (a := .lst (x :: y :: z :: a :: b :: c :: d :: e :: f :: r)) rfl (atI_nat (j := 8) rfl)
theorem W_l9 {x y z a b c d e f g : D} {r : List D} : W (idxD (.lst (x :: y :: z :: a :: b :: c :: d :: e :: f :: g :: r)) (.int 9) M) Q X = Q g M := W_at (a := .lst (x :: y :: z :: a :: b :: c :: d :: e :: f :: g :: r)) rfl (atI_nat (j := 9) rfl)
theorem W_lenL {xs : List D} : W (bi .len [.lst xs] M) Q X = Q (.int xs.length) M := rfl
theorem W_lenT {xs : List D} : W (bi .len [.tup xs] M) Q X = Q (.int xs.length) M := rfl
theorem W_lenF {xs : List D} : W (bi .len [.fro xs] M) Q X = Q (.int xs.length) M := rfl
theorem W_nthF {xs : List D} {i : Nat} {d : D} (e : xs[i]? = some d) : W (idxD (.fro xs) (.int i) M) Q X = Q d M := W_at (a := .fro xs) rfl (atI_nat e)
/-- what is asked behind a loop's turn -/
def lpQ (Q : Fl → St → List Cell → Prop) (N : St → List Cell → Prop) (f : Fl) (σ : St) (M : List Cell) : Prop := match f with
  | .nx => N σ M
  | .ct => N σ M
  | .bk => Q .nx σ M
  | .rt d => Q (.rt d) σ M
variable {QF : Fl → St → List Cell → Prop} {N : St → List Cell → Prop}
theorem lp_nx : lpQ QF N .nx σ M = N σ M := rfl
theorem lp_ct : lpQ QF N .ct σ M = N σ M := rfl
theorem lp_bk : lpQ QF N .bk σ M = QF .nx σ M := rfl
theorem lp_rt {d : D} : lpQ QF N (.rt d) σ M = QF (.rt d) σ M := rfl
theorem VQ_turn {q : Qr} {f : St → List Cell → Qr} : VQ (q.turn f) QF X = VQ q (lpQ QF fun σ M => VQ (f σ M) QF X) X := by
  cases q with
  | ok fl σ M => cases fl <;> rfl
  | exc c σ M => rfl
  | bad => rfl
theorem lpQ_mono {N' : St → List Cell → Prop} {f : Fl} (h : lpQ QF N f σ M) (k : ∀ σ M, N σ M → N' σ M) : lpQ QF N' f σ M := by
  cases f <;> first | exact k _ _ h | exact h
/-- a for: I i: what holds ahead of turn i -/
theorem for_inv {step : D → St → List Cell → Qr} : ∀ {xs : List D} {σ : St} {M : List Cell} (I : Nat → St → List Cell → Prop), I 0 σ M →
    (∀ i x σ M, xs[i]? = some x → I i σ M → WQ (step x σ M) (lpQ QF (I (i + 1))) X) → (∀ σ M, I xs.length σ M → QF .nx σ M) → WQ (forL step xs σ M) QF X
  | [], σ, M, I, h0, _, he => he _ _ h0
  | x :: xs, σ, M, I, h0, hs, he => by
    show VQ (Qr.turn _ _) QF X
    rw [VQ_turn]
    refine VQ_mono (hs 0 x σ M rfl h0) (fun f σ' M' h => lpQ_mono h fun σ2 M2 h2 => ?_) fun _ _ h => h
    exact for_inv (fun i => I (i + 1)) h2 (fun i x σ M hx hi => hs (i + 1) x σ M (by rw [List.getElem?_cons_succ]; exact hx) hi) he
theorem for_map {β : Type} {f : β → D} {step : D → St → List Cell → Qr} {xs : List β} {σ : St} {M : List Cell} (I : Nat → St → List Cell → Prop) (h0 : I 0 σ M)
    (hs : ∀ i (h : i < xs.length) σ M, I i σ M → WQ (step (f xs[i]) σ M) (lpQ QF (I (i + 1))) X) (he : ∀ σ M, I xs.length σ M → QF .nx σ M) : WQ (forL step (xs.map f) σ M) QF X := by
  refine for_inv I h0 (fun i x σ M hx hi => ?_) (fun σ M h => he σ M (by rw [List.length_map] at h; exact h))
  rw [List.getElem?_map] at hx
  cases e : xs[i]? with
  | none => rw [e] at hx; cases hx
  | some y =>
    rw [e] at hx
    obtain ⟨h, e2⟩ := List.getElem?_eq_some_iff.mp e
    have e3 : f y = x := Option.some.inj hx
    have := hs i h σ M hi
    rw [e2, e3] at this
    exact this
theorem upTo_eq {lo : Int} {n : Nat} : upTo lo n = (List.range n).map fun i : Nat => D.int (lo + (i : Int)) := rfl
theorem for_upTo {lo : Int} {n : Nat} {step : D → St → List Cell → Qr} {σ : St} {M : List Cell} (I : Nat → St → List Cell → Prop) (h0 : I 0 σ M)
    (hs : ∀ i, i < n → ∀ σ M, I i σ M → WQ (step (.int (lo + i)) σ M) (lpQ QF (I (i + 1))) X) (he : ∀ σ M, I n σ M → QF .nx σ M) : WQ (forL step (upTo lo n) σ M) QF X := by
  rw [upTo_eq]
  refine for_map I h0 (fun i h σ M hi => ?_) (fun σ M h => he σ M (by rw [List.length_range] at h; exact h))
  rw [List.getElem_range]
  rw [List.length_range] at h
  exact hs i h σ M hi
theorem for_up0 {n : Nat} {step : D → St → List Cell → Qr} {σ : St} {M : List Cell} (I : Nat → St → List Cell → Prop) (h0 : I 0 σ M)
    (hs : ∀ i, i < n → ∀ σ M, I i σ M → WQ (step (.int i) σ M) (lpQ QF (I (i + 1))) X) (he : ∀ σ M, I n σ M → QF .nx σ M) : WQ (forL step (upTo 0 n) σ M) QF X :=
  for_upTo I h0 (fun i h σ M hi => by rw [Int.zero_add]; exact hs i h σ M hi) he
/-- a while: I n: what holds with at most n turns to come -/
theorem whl_inv {test : St → List Cell → R D} {body : St → List Cell → Qr} (I : Nat → St → List Cell → Prop)
    (hs : ∀ n σ M, I n σ M → W (test σ M) (fun k M1 => W (toBl k M1) (fun k M1 => if k = true then WQ (body σ M1) (lpQ QF fun σ' M' => ∃ m, m < n ∧ I m σ' M') X else QF .nx σ M1) X) X) :
    ∀ {F n : Nat} {σ : St} {M : List Cell}, n < F → I n σ M → WQ (whlL test body F σ M) QF X
  | 0, n, σ, M, h, _ => absurd h (Nat.not_lt_zero _)
  | F + 1, n, σ, M, h, hi => by
    have h1 : V (test σ M) (fun k M1 => V (toBl k M1) (fun k M1 => if k = true then VQ (body σ M1) (lpQ QF fun σ' M' => ∃ m, m < n ∧ I m σ' M') X else QF .nx σ M1) X) X := hs n σ M hi
    show VQ (whlL test body (F + 1) σ M) QF X
    unfold whlL
    rw [V_st, V_bind]
    have key : ∀ k M1, (if k = true then VQ (body σ M1) (lpQ QF fun σ' M' => ∃ m, m < n ∧ I m σ' M') X else QF .nx σ M1) → VQ (if k = true then (body σ M1).turn fun σ2 M2 => whlL test body F σ2 M2 else .ok .nx σ M1) QF X := fun k M1 hk => by
      cases k with
      | false => exact hk
      | true =>
        show VQ (Qr.turn _ _) QF X
        rw [VQ_turn]
        exact VQ_mono hk (fun f σ' M' h2 => lpQ_mono h2 fun σ2 M2 ⟨m, hm, h3⟩ => whl_inv I hs (F := F) (n := m) (by omega) h3) fun _ _ h => h
    revert h1
    cases test σ M with
    | ok d M1 =>
      intro h1
      show V (toBl d M1) _ X
      have h2 : V (toBl d M1) (fun k M1 => if k = true then VQ (body σ M1) (lpQ QF fun σ' M' => ∃ m, m < n ∧ I m σ' M') X else QF .nx σ M1) X := h1
      revert h2
      cases toBl d M1 with
      | ok k M2 => exact key k M2
      | exc c M2 => exact fun h => h
      | bad => exact fun h => h
    | exc c M1 => exact fun h => h
    | bad => exact fun h => h
theorem whl_fuel {test : St → List Cell → R D} {body : St → List Cell → Qr} {n : Nat} (I : Nat → St → List Cell → Prop) (h0 : I n σ M) (hn : n < 2 ^ 20000)
    (hs : ∀ n σ M, I n σ M → W (test σ M) (fun k M1 => W (toBl k M1) (fun k M1 => if k = true then WQ (body σ M1) (lpQ QF fun σ' M' => ∃ m, m < n ∧ I m σ' M') X else QF .nx σ M1) X) X) :
    WQ (whlL test body FUEL σ M) QF X := whl_inv I hs (by unfold FUEL; exact hn) h0
def midQ (N : St → List Cell → Prop) (Q : Fl → St → List Cell → Prop) (f : Fl) (σ : St) (M : List Cell) : Prop := match f with
  | .nx => N σ M
  | f => Q f σ M
theorem mid_nx : midQ N QF .nx σ M = N σ M := rfl
theorem mid_ct : midQ N QF .ct σ M = QF .ct σ M := rfl
theorem mid_bk : midQ N QF .bk σ M = QF .bk σ M := rfl
theorem mid_rt {d : D} : midQ N QF (.rt d) σ M = QF (.rt d) σ M := rfl
theorem W_compM {β : Type} {f g : β → D} {step : D → List Cell → R (Option D)} {xs : List β} {QL : List D → List Cell → Prop}
    (h : ∀ x ∈ xs, W (step (f x) M) (fun y M' => y = some (g x) ∧ M' = M) fun _ _ => False) (hq : QL (xs.map g) M) : W (compL step (xs.map f) M) QL X := by
  have key : ∀ ys : List β, (∀ x ∈ ys, x ∈ xs) → compL step (ys.map f) M = .ok (ys.map g) M := fun ys => by
    induction ys with
    | nil => exact fun _ => rfl
    | cons y ys ih =>
      intro hy
      have h1 : V (step (f y) M) (fun z M' => z = some (g y) ∧ M' = M) fun _ _ => False := h y (hy y List.mem_cons_self)
      have h2 := ih fun z hz => hy z (List.mem_cons_of_mem _ hz)
      rw [List.map_cons, compL]
      revert h1
      cases step (f y) M with
      | ok z M1 =>
        intro h1
        obtain ⟨rfl, rfl⟩ := h1
        simp only [R.nox_ok, R.bind_ok, h2, List.map_cons]
      | exc c M1 => exact fun h => h.elim
      | bad => exact fun h => h.elim
  show V _ QL X
  rw [key xs fun _ h => h]
  exact hq
/-- the call of trees: it returns r -/
abbrev Rt (Φ : Phi) (f : Nat) (ds : List D) (r : D) : Prop := ∀ M, callD Φ f 0 ds M = .ok r M
abbrev Xc (Φ : Phi) (f : Nat) (ds : List D) (c : Nat) : Prop := ∀ M, callD Φ f 0 ds M = .exc c M
theorem rt_of {Φ Φ' : Phi} {f : Nat} {d : Df} {ds : List D} {r : D} (e : Φ' f = evD Φ d) (hi : isImms ds = true) (h : W (evD Φ d ds []) (fun x M => imm M x = some r) fun _ _ => False) : Rt Φ' f ds r := fun M => by
  unfold callD
  have h : V (evD Φ d ds []) (fun x M => imm M x = some r) fun _ _ => False := h
  simp only [hi, if_true, e]
  revert h
  cases evD Φ d ds [] with
  | ok x M1 =>
    intro h
    have h : imm M1 x = some r := h
    simp only [h]
  | exc c M1 => exact fun h => h.elim
  | bad => exact fun h => h.elim
theorem xc_of {Φ Φ' : Phi} {f : Nat} {d : Df} {ds : List D} {c : Nat} (e : Φ' f = evD Φ d) (hi : isImms ds = true) (h : W (evD Φ d ds []) (fun _ _ => False) fun c' _ => c' = c) : Xc Φ' f ds c := fun M => by
  unfold callD
  have h : V (evD Φ d ds []) (fun _ _ => False) fun c' _ => c' = c := h
  simp only [hi, if_true, e]
  revert h
  cases evD Φ d ds [] with
  | ok x M1 => exact fun h => h.elim
  | exc c' M1 =>
    intro h
    have h : c' = c := h
    rw [h]
  | bad => exact fun h => h.elim
theorem W_rt {f : Nat} {ds : List D} {r : D} (h : Rt Φ f ds r) : W (callD Φ f 0 ds M) Q X = Q r M := by
  show V _ Q X = _
  rw [h M]; rfl
theorem W_xc {f : Nat} {ds : List D} {c : Nat} (h : Xc Φ f ds c) : W (callD Φ f 0 ds M) Q X = X c M := by
  show V _ Q X = _
  rw [h M]; rfl
theorem eqR_of {a b : D} {k : Bool} (h : eqD M a b = some k) : W (eqR a b M) Q X = Q (.bl k) M := by
  show V (eqR a b M) Q X = _
  unfold eqR
  rw [h]; rfl
theorem neR_of {a b : D} {k : Bool} (h : eqD M a b = some k) : W (neR a b M) Q X = Q (.bl (!k)) M := by
  show V (neR a b M) Q X = _
  unfold neR
  rw [h]; rfl
theorem imm_int {i : Int} : imm M (.int i) = some (.int i) := imm_of rfl
theorem eqD_int {i j : Int} : eqD M (.int i) (.int j) = some (decide (i = j)) := by
  unfold eqD
  rw [imm_int, imm_int]
  simp only [Option.bind_some, toPy]
  rw [if_pos ⟨rfl, rfl⟩]
  rfl
theorem W_eqI {i j : Int} : W (eqR (.int i) (.int j) M) Q X = Q (.bl (decide (i = j))) M := eqR_of eqD_int
theorem W_neI {i j : Int} : W (neR (.int i) (.int j) M) Q X = Q (.bl (!decide (i = j))) M := neR_of eqD_int
def mcell (M : List Cell) (i : Nat) (P : List D → Prop) : Prop := match M, i with
  | ⟨true, .lst xs⟩ :: _, 0 => P xs
  | _ :: r, i + 1 => mcell r i P
  | _, _ => False
theorem mcell0 {xs : List D} {r : List Cell} {P : List D → Prop} : mcell (⟨true, .lst xs⟩ :: r) 0 P = P xs := rfl
theorem mcells {c : Cell} {r : List Cell} {i : Nat} {P : List D → Prop} : mcell (c :: r) (i + 1) P = mcell r i P := by
  obtain ⟨m, d⟩ := c
  cases m <;> cases d <;> rfl
theorem mcell_eq : ∀ {M : List Cell} {i : Nat} {P : List D → Prop}, (match M[i]? with | some ⟨true, .lst xs⟩ => P xs | _ => False) = mcell M i P
  | [], i, P => by cases i <;> rfl
  | ⟨m, d⟩ :: r, 0, P => by cases m <;> cases d <;> rfl
  | ⟨m, d⟩ :: r, i + 1, P => by
    rw [List.getElem?_cons_succ, mcell_eq (M := r)]
    exact mcells.symm
theorem W_append {i : Nat} {d : D} : W (meth .append (.ref i) [d] M) Q X = mcell M i fun xs => xs.length < LIM ∧ Q .non (M.set i ⟨true, .lst (xs ++ [d])⟩) := by
  rw [← mcell_eq]
  show V (match M[i]? with
    | some ⟨true, .lst xs⟩ => if xs.length < LIM then R.ok .non (M.set i ⟨true, .lst (xs ++ [d])⟩) else .bad
    | _ => .bad) Q X = _
  cases M[i]? with
  | none => rfl
  | some c =>
    obtain ⟨m, dd⟩ := c
    cases m with
    | false => rfl
    | true =>
      cases dd <;> first | rfl | skip
      rename_i xs
      show V (if xs.length < LIM then _ else _) Q X = (xs.length < LIM ∧ _)
      split <;> simp [V, *]
theorem content_ref0 {m : Bool} {xs : List D} : content (⟨m, .lst xs⟩ :: M) (.ref 0) = some xs := rfl
theorem content_refs {c : Cell} {i : Nat} : content (c :: M) (.ref (i + 1)) = content M (.ref i) := rfl
theorem content_lst {xs : List D} : content M (.lst xs) = some xs := rfl
theorem imm_cell {i : Nat} {m : Bool} {xs : List D} (h : M[i]? = some ⟨m, .lst xs⟩) (k : isImm (.lst xs) = true) : imm M (.ref i) = some (.lst xs) := by
  unfold imm
  have hl : i < M.length := by
    rcases Nat.lt_or_ge i M.length with h1 | h1
    · exact h1
    · rw [List.getElem?_eq_none h1] at h
      cases h
  cases e : M.length with
  | zero => omega
  | succ n =>
    unfold immF
    rw [mapRef, h]
    exact immF_of k
theorem isImms_map {β : Type} {f : β → D} (h : ∀ x, isImm (f x) = true) : ∀ xs : List β, isImms (xs.map f) = true
  | [] => rfl
  | x :: xs => by
    rw [List.map_cons, isImms, h x, isImms_map h xs]
    rfl
variable {QL : List D → List Cell → Prop}
theorem valR_lst {xs : List D} : W (valR (.lst xs) M) QL X = QL xs M := rfl
theorem valR_tup {xs : List D} : W (valR (.tup xs) M) QL X = QL xs M := rfl
theorem valR_fro {xs : List D} : W (valR (.fro xs) M) QL X = QL xs M := rfl
theorem lstR_lst {f : List D → List D} {xs : List D} : W (lstR f (.lst xs) M) QL X = QL (f xs) M := rfl
theorem lstR_fro {f : List D → List D} {xs : List D} : W (lstR f (.fro xs) M) QL X = QL (f xs) M := rfl
theorem zipR_lst {xs ys : List D} : W (zipR (.lst xs) (.lst ys) M) QL X = QL (zipD xs ys) M := rfl
theorem enumD_get : ∀ {xs : List D} {n i : Nat}, (enumD n xs)[i]? = (xs[i]?).map fun x => .tup [.int ((n + i : Nat) : Int), x]
  | [], n, i => rfl
  | x :: xs, n, 0 => rfl
  | x :: xs, n, i + 1 => by
    rw [enumD, List.getElem?_cons_succ, List.getElem?_cons_succ, enumD_get, show n + 1 + i = n + (i + 1) by omega]
theorem enumD_len : ∀ {xs : List D} {n : Nat}, (enumD n xs).length = xs.length
  | [], n => rfl
  | x :: xs, n => by rw [enumD, List.length_cons, List.length_cons, enumD_len]
theorem for_enum {β : Type} {f : β → D} {step : D → St → List Cell → Qr} {xs : List β} {σ : St} {M : List Cell} (I : Nat → St → List Cell → Prop) (h0 : I 0 σ M)
    (hs : ∀ i (h : i < xs.length) σ M, I i σ M → WQ (step (.tup [.int i, f xs[i]]) σ M) (lpQ QF (I (i + 1))) X) (he : ∀ σ M, I xs.length σ M → QF .nx σ M) : WQ (forL step (enumD 0 (xs.map f)) σ M) QF X := by
  refine for_inv I h0 (fun i x σ M hx hi => ?_) (fun σ M h => he σ M (by rw [enumD_len, List.length_map] at h; exact h))
  rw [enumD_get, List.getElem?_map] at hx
  cases e : xs[i]? with
  | none => rw [e] at hx; cases hx
  | some y =>
    rw [e] at hx
    obtain ⟨h, e2⟩ := List.getElem?_eq_some_iff.mp e
    have e3 : D.tup [.int ((0 + i : Nat) : Int), f y] = x := Option.some.inj hx
    have := hs i h σ M hi
    rw [Nat.zero_add] at e3
    rw [e2, e3] at this
    exact this
theorem rt_ex {Φ Φ' : Phi} {f : Nat} {d : Df} {ds : List D} {P : D → Prop} (e : Φ' f = evD Φ d) (hi : isImms ds = true) (h : W (evD Φ d ds []) (fun x M => ∃ r, imm M x = some r ∧ P r) fun _ _ => False) : ∃ r, P r ∧ Rt Φ' f ds r := by
  have h2 : V (evD Φ d ds []) (fun x M => ∃ r, imm M x = some r ∧ P r) fun _ _ => False := h
  cases q : evD Φ d ds [] with
  | ok x M1 =>
    rw [q] at h2
    obtain ⟨r, h3, h4⟩ := h2
    refine ⟨r, h4, rt_of e hi ?_⟩
    show V (evD Φ d ds []) _ _
    rw [q]
    exact h3
  | exc c M1 =>
    rw [q] at h2
    exact h2.elim
  | bad =>
    rw [q] at h2
    exact h2.elim
theorem isi_int_int {i : Int} : W (W_isiR .int (.int i) M) Q X = Q (.bl true) M := rfl
theorem isi_int_bool {i : Int} : W (W_isiR .bool (.int i) M) Q X = Q (.bl false) M := rfl
theorem isi_int_str {i : Int} : W (W_isiR .str (.int i) M) Q X = Q (.bl false) M := rfl
theorem isi_int_list {i : Int} : W (W_isiR .list (.int i) M) Q X = Q (.bl false) M := rfl
theorem isi_int_tuple {i : Int} : W (W_isiR .tuple (.int i) M) Q X = Q (.bl false) M := rfl
theorem isi_bl_int {b : Bool} : W (W_isiR .int (.bl b) M) Q X = Q (.bl true) M := rfl
theorem isi_bl_bool {b : Bool} : W (W_isiR .bool (.bl b) M) Q X = Q (.bl true) M := rfl
theorem isi_bl_str {b : Bool} : W (W_isiR .str (.bl b) M) Q X = Q (.bl false) M := rfl
theorem isi_bl_list {b : Bool} : W (W_isiR .list (.bl b) M) Q X = Q (.bl false) M := rfl
theorem isi_bl_tuple {b : Bool} : W (W_isiR .tuple (.bl b) M) Q X = Q (.bl false) M := rfl
theorem isi_str_int {x : Str} : W (W_isiR .int (.str x) M) Q X = Q (.bl false) M := rfl
theorem isi_str_bool {x : Str} : W (W_isiR .bool (.str x) M) Q X = Q (.bl false) M := rfl
theorem isi_str_str {x : Str} : W (W_isiR .str (.str x) M) Q X = Q (.bl true) M := rfl
theorem isi_str_list {x : Str} : W (W_isiR .list (.str x) M) Q X = Q (.bl false) M := rfl
theorem isi_str_tuple {x : Str} : W (W_isiR .tuple (.str x) M) Q X = Q (.bl false) M := rfl
theorem isi_tup_int {xs : List D} : W (W_isiR .int (.tup xs) M) Q X = Q (.bl false) M := rfl
theorem isi_tup_bool {xs : List D} : W (W_isiR .bool (.tup xs) M) Q X = Q (.bl false) M := rfl
theorem isi_tup_str {xs : List D} : W (W_isiR .str (.tup xs) M) Q X = Q (.bl false) M := rfl
theorem isi_tup_list {xs : List D} : W (W_isiR .list (.tup xs) M) Q X = Q (.bl false) M := rfl
theorem isi_tup_tuple {xs : List D} : W (W_isiR .tuple (.tup xs) M) Q X = Q (.bl true) M := rfl
theorem isi_lst_int {xs : List D} : W (W_isiR .int (.lst xs) M) Q X = Q (.bl false) M := rfl
theorem isi_lst_bool {xs : List D} : W (W_isiR .bool (.lst xs) M) Q X = Q (.bl false) M := rfl
theorem isi_lst_str {xs : List D} : W (W_isiR .str (.lst xs) M) Q X = Q (.bl false) M := rfl
theorem isi_lst_list {xs : List D} : W (W_isiR .list (.lst xs) M) Q X = Q (.bl true) M := rfl
theorem isi_lst_tuple {xs : List D} : W (W_isiR .tuple (.lst xs) M) Q X = Q (.bl false) M := rfl
theorem isi_non_int  : W (W_isiR .int (.non) M) Q X = Q (.bl false) M := rfl
theorem isi_non_bool  : W (W_isiR .bool (.non) M) Q X = Q (.bl false) M := rfl
theorem isi_non_str  : W (W_isiR .str (.non) M) Q X = Q (.bl false) M := rfl
theorem isi_non_list  : W (W_isiR .list (.non) M) Q X = Q (.bl false) M := rfl
theorem isi_non_tuple  : W (W_isiR .tuple (.non) M) Q X = Q (.bl false) M := rfl
theorem Lt2.add' {i j : Int} {m n : Nat} (h : Lt2 i m) (k : Lt2 j n) : Lt2 (i + j) (m + n + 1) := (h.mono (Nat.le_add_right m n)).add (k.mono (Nat.le_add_left n m))
theorem Lt2.sub' {i j : Int} {m n : Nat} (h : Lt2 i m) (k : Lt2 j n) : Lt2 (i - j) (m + n + 1) := (h.mono (Nat.le_add_right m n)).sub (k.mono (Nat.le_add_left n m))
theorem Lt2.mod {i j : Int} {m : Nat} (h : 0 < j) (k : Lt2 j m) : Lt2 (i % j) m := by
  unfold Lt2 at *
  have h1 := Int.emod_nonneg i (Int.ne_of_gt h)
  have h2 := Int.emod_lt_of_pos i h
  omega
theorem Lt2.ediv {a b : Int} {m : Nat} (h : Lt2 a m) : Lt2 (a / b) m := by
  unfold Lt2 at *
  exact Nat.lt_of_le_of_lt (Int.natAbs_ediv_le_natAbs a b) h
theorem lt2_nat {i m : Nat} (h : i < 2 ^ m) : Lt2 (i : Int) m := by
  unfold Lt2
  rw [Int.natAbs_natCast]
  exact h
theorem W_intB {b : Bool} : W (bi .int [.bl b] M) Q X = Q (.int (if b = true then 1 else 0)) M := rfl
theorem W_intI {i : Int} : W (bi .int [.int i] M) Q X = Q (.int i) M := rfl
theorem W_listL {m : Bool} {xs : List D} : W (bi (.list m) [.lst xs] M) Q X = W (new m xs M) Q X := rfl
theorem W_listT {m : Bool} {xs : List D} : W (bi (.list m) [.tup xs] M) Q X = W (new m xs M) Q X := rfl
theorem W_addL {m : Bool} {xs ys : List D} : W (bop m .Add (.lst xs) (.lst ys) M) Q X = W (new m (xs ++ ys) M) Q X := rfl
theorem W_slcL {m : Bool} {xs : List D} {lo hi : Option Int} : W (slcD m (.lst xs) lo hi M) Q X = W (new m (cutL xs lo hi) M) Q X := rfl
theorem W_addT {m : Bool} {x y : D} {xs ys : List D} : W (bop m .Add (.tup (x :: xs)) (.tup (y :: ys)) M) Q X = (xs.length + 1 + (ys.length + 1) ≤ LIM ∧ Q (.tup (x :: xs ++ y :: ys)) M) := by
  show V (if (x :: xs).length + (y :: ys).length ≤ LIM then R.ok (.tup (x :: xs ++ y :: ys)) M else R.bad) Q X = _
  rw [List.length_cons, List.length_cons]
  split <;> simp [V, *]
/-- a law's end -/
theorem law_of {r : R D} (h : W r (fun d _ => d = .bl true) fun _ _ => False) : ∃ M, r = .ok (.bl true) M := by
  have h : V r (fun d _ => d = .bl true) fun _ _ => False := h
  cases r with
  | ok d M =>
    have h : d = .bl true := h
    exact ⟨M, by rw [h]⟩
  | exc c M => exact h.elim
  | bad => exact h.elim
end
end
end Sg

namespace Sg
noncomputable section
open PySem PySem.Spec L2
def pu0 : D → Bool
  | .non => true
  | .int _ => true
  | .str x => PyData.strOk x
  | _ => false
/-- no truth, no place; at most so deep -/
def pu : Nat → D → Bool
  | 0, d => pu0 d
  | n + 1, .tup xs => xs.all (pu n)
  | n + 1, .lst xs => xs.all (pu n)
  | _ + 1, d => pu0 d
theorem toPys_cons {x : D} {xs : List D} : toPys (x :: xs) = (toPy x).bind fun a => (toPys xs).map fun b => a :: b := by rw [toPys]
/-- what is asked of == 's data -/
def Dat (n : Nat) (d : D) (x : PyData) : Prop := toPy d = some x ∧ x.canLay0 = true ∧ x.depth ≤ n ∧ isImm d = true
theorem pu0_dat {d : D} (h : pu0 d = true) : ∃ x, Dat 0 d x := by
  cases d <;> first | (cases h; done) | skip
  · exact ⟨.none, rfl, rfl, Nat.le_refl _, rfl⟩
  · rename_i i
    exact ⟨.int i, rfl, rfl, Nat.le_refl _, rfl⟩
  · rename_i x
    exact ⟨.str x, rfl, h, Nat.le_refl _, rfl⟩
theorem pu_dats {n : Nat} (ih : ∀ d, pu n d = true → ∃ x, Dat n d x) : ∀ {xs : List D}, xs.all (pu n) = true → ∃ ys, toPys xs = some ys ∧ PyData.canLayAll0 ys = true ∧ PyData.depthAll ys ≤ n ∧ isImms xs = true
  | [], _ => ⟨[], rfl, rfl, Nat.zero_le _, rfl⟩
  | x :: xs, h => by
    rw [List.all_cons, Bool.and_eq_true] at h
    obtain ⟨y, h1, h2, h3, h4⟩ := ih x h.1
    obtain ⟨ys, k1, k2, k3, k4⟩ := pu_dats ih h.2
    refine ⟨y :: ys, ?_, ?_, ?_, ?_⟩
    · rw [toPys_cons, h1, k1]; rfl
    · rw [PyData.canLayAll0, h2, k2]; rfl
    · rw [PyData.depthAll]
      omega
    · rw [isImms, h4, k4]; rfl
theorem pu_dat : ∀ {n : Nat} {d : D}, pu n d = true → ∃ x, Dat n d x
  | 0, d, h => pu0_dat h
  | n + 1, d, h => by
    have low : pu0 d = true → ∃ x, Dat (n + 1) d x := fun h => by
      obtain ⟨x, h1, h2, h3, h4⟩ := pu0_dat h
      exact ⟨x, h1, h2, by omega, h4⟩
    cases d with
    | tup xs =>
      obtain ⟨ys, h1, h2, h3, h4⟩ := pu_dats (fun d => pu_dat) (show xs.all (pu n) = true from h)
      refine ⟨.tuple ys, ?_, ?_, ?_, ?_⟩
      · rw [toPy, h1]; rfl
      · rw [PyData.canLay0]; exact h2
      · rw [PyData.depth]; omega
      · rw [isImm]; exact h4
    | lst xs =>
      obtain ⟨ys, h1, h2, h3, h4⟩ := pu_dats (fun d => pu_dat) (show xs.all (pu n) = true from h)
      refine ⟨.list ys, ?_, ?_, ?_, ?_⟩
      · rw [toPy, h1]; rfl
      · rw [PyData.canLay0]; exact h2
      · rw [PyData.depth]; omega
      · rw [isImm]; exact h4
    | non => exact low h
    | int i => exact low h
    | str x => exact low h
    | bl b => cases h
    | fro xs => cases h
    | dct t ks vs => cases h
    | exo a => cases h
    | ktp xs => cases h
    | ref i => cases h
theorem eqv_list {n : Nat} (ih : ∀ a b x y, pu n a = true → pu n b = true → toPy a = some x → toPy b = some y → (PyData.eqv x y = true ↔ a = b)) :
    ∀ {as bs : List D} {xs ys : List PyData}, as.all (pu n) = true → bs.all (pu n) = true → toPys as = some xs → toPys bs = some ys → (PyData.eqvAll xs ys = true ↔ as = bs)
  | [], [], xs, ys, _, _, h1, h2 => by
    cases h1; cases h2
    rw [PyData.eqvAll]
    exact ⟨fun _ => rfl, fun _ => rfl⟩
  | [], b :: bs, xs, ys, _, hb, h1, h2 => by
    cases h1
    rw [toPys_cons] at h2
    cases e1 : toPy b with
    | none => rw [e1] at h2; cases h2
    | some y =>
      cases e2 : toPys bs with
      | none => rw [e1, e2] at h2; cases h2
      | some zs =>
        rw [e1, e2] at h2
        cases h2
        rw [PyData.eqvAll]
        exact ⟨fun z => (nomatch z), fun z => (nomatch z)⟩
  | a :: as, [], xs, ys, _, hb, h2, h1 => by
    cases h1
    rw [toPys_cons] at h2
    cases e1 : toPy a with
    | none => rw [e1] at h2; cases h2
    | some y =>
      cases e2 : toPys as with
      | none => rw [e1, e2] at h2; cases h2
      | some zs =>
        rw [e1, e2] at h2
        cases h2
        rw [PyData.eqvAll]
        exact ⟨fun z => (nomatch z), fun z => (nomatch z)⟩
  | a :: as, b :: bs, xs, ys, ha, hb, h1, h2 => by
    rw [List.all_cons, Bool.and_eq_true] at ha hb
    rw [toPys_cons] at h1 h2
    cases e1 : toPy a with
    | none => rw [e1] at h1; cases h1
    | some x =>
      cases e2 : toPys as with
      | none => rw [e1, e2] at h1; cases h1
      | some us =>
        cases e3 : toPy b with
        | none => rw [e3] at h2; cases h2
        | some y =>
          cases e4 : toPys bs with
          | none => rw [e3, e4] at h2; cases h2
          | some vs =>
            rw [e1, e2] at h1
            rw [e3, e4] at h2
            cases h1; cases h2
            rw [PyData.eqvAll, Bool.and_eq_true, ih a b x y ha.1 hb.1 e1 e3, eqv_list ih ha.2 hb.2 e2 e4, List.cons.injEq]
theorem eqv_iff : ∀ {n : Nat} {a b : D} {x y : PyData}, pu n a = true → pu n b = true → toPy a = some x → toPy b = some y → (PyData.eqv x y = true ↔ a = b) := fun {n} => by
  induction n with
  | zero =>
    intro a b x y ha hb h1 h2
    cases a <;> first | (cases ha; done) | skip
    all_goals cases b <;> first | (cases hb; done) | skip
    all_goals (cases h1; cases h2; rw [PyData.eqv]; simp)
  | succ n ih =>
    intro a b x y ha hb h1 h2
    have lst : ∀ {as bs : List D} {xs ys : List PyData}, as.all (pu n) = true → bs.all (pu n) = true → toPys as = some xs → toPys bs = some ys → (PyData.eqvAll xs ys = true ↔ as = bs) := eqv_list fun a b x y => ih
    cases a <;> first | (cases ha; done) | skip
    all_goals cases b <;> first | (cases hb; done) | skip
    all_goals (try rw [toPy] at h1); (try rw [toPy] at h2)
    case tup.tup as bs =>
      cases e1 : toPys as with
      | none => rw [e1] at h1; cases h1
      | some us =>
        cases e2 : toPys bs with
        | none => rw [e2] at h2; cases h2
        | some vs =>
          rw [e1] at h1; rw [e2] at h2
          cases h1; cases h2
          rw [PyData.eqv, lst ha hb e1 e2, D.tup.injEq]
    case lst.lst as bs =>
      cases e1 : toPys as with
      | none => rw [e1] at h1; cases h1
      | some us =>
        cases e2 : toPys bs with
        | none => rw [e2] at h2; cases h2
        | some vs =>
          rw [e1] at h1; rw [e2] at h2
          cases h1; cases h2
          rw [PyData.eqv, lst ha hb e1 e2, D.lst.injEq]
    all_goals first
      | (cases h1; cases h2; rw [PyData.eqv]; simp; done)
      | (cases e1 : toPys _ with
         | none => first | (rw [e1] at h1; cases h1; done) | (rw [e1] at h2; cases h2; done)
         | some us =>
           first
           | (rw [e1] at h1; cases h1; cases h2; rw [PyData.eqv]; simp; done)
           | (rw [e1] at h2; cases h1; cases h2; rw [PyData.eqv]; simp; done)
           | (rw [e1] at h1; cases h1
              cases e2 : toPys _ with
              | none => rw [e2] at h2; cases h2
              | some vs =>
                rw [e2] at h2; cases h2
                rw [PyData.eqv]; simp))
theorem eqD_pu {M : List Cell} {n : Nat} {a b : D} (ha : pu n a = true) (hb : pu n b = true) (hn : n ≤ 64) : ∃ k, eqD M a b = some k ∧ (k = true ↔ a = b) := by
  obtain ⟨x, h1, h2, h3, h4⟩ := pu_dat ha
  obtain ⟨y, k1, k2, k3, k4⟩ := pu_dat hb
  refine ⟨PyData.eqv x y, ?_, eqv_iff ha hb h1 k1⟩
  unfold eqD
  rw [imm_of h4, imm_of k4]
  simp only [Option.bind_some, h1, k1]
  rw [if_pos]
  unfold SeqAt.shaped
  rw [h2, k2, decide_eq_true (Nat.le_trans h3 hn), decide_eq_true (Nat.le_trans k3 hn)]
  exact ⟨rfl, rfl⟩
/-- of two data of one kind -/
theorem eqD_enc {M : List Cell} {α : Type} [DecidableEq α] {f : α → D} (n : Nat) (hp : ∀ x, pu n (f x) = true) (hi : ∀ x y, f x = f y → x = y) (hn : n ≤ 64) (a b : α) : eqD M (f a) (f b) = some (decide (a = b)) := by
  obtain ⟨k, h1, h2⟩ := eqD_pu (M := M) (hp a) (hp b) hn
  rw [h1]
  congr 1
  cases k with
  | true => exact (decide_eq_true (hi _ _ (h2.mp rfl))).symm
  | false => exact (decide_eq_false fun e => by
      have := h2.mpr (by rw [e])
      cases this).symm
def qD (q : Rat) : D := .tup [.int q.num, .int (q.den : Nat)]
theorem pu_qD (q : Rat) : pu 1 (qD q) = true := rfl
theorem qD_inj (a b : Rat) (h : qD a = qD b) : a = b := by
  unfold qD at h
  simp only [D.tup.injEq, List.cons.injEq, D.int.injEq, and_true] at h
  exact Rat.ext h.1 (Int.ofNat.inj h.2)
def rowD (r : List Rat) : D := .lst (r.map qD)
def tabD (t : List (List Rat)) : D := .lst (t.map rowD)
theorem map_inj {α β : Type} {f : α → β} (h : ∀ x y, f x = f y → x = y) : ∀ {xs ys : List α}, xs.map f = ys.map f → xs = ys
  | [], [], _ => rfl
  | [], _ :: _, e => by cases e
  | _ :: _, [], e => by cases e
  | x :: xs, y :: ys, e => by
    rw [List.map_cons, List.map_cons, List.cons.injEq] at e
    rw [h _ _ e.1, map_inj h e.2]
theorem pu_map {α : Type} {f : α → D} {n : Nat} (h : ∀ x, pu n (f x) = true) (xs : List α) : (xs.map f).all (pu n) = true := by
  rw [List.all_eq_true]
  intro d hd
  obtain ⟨x, _, rfl⟩ := List.mem_map.mp hd
  exact h x
theorem pu_rowD (r : List Rat) : pu 2 (rowD r) = true := pu_map pu_qD r
theorem pu_tabD (t : List (List Rat)) : pu 3 (tabD t) = true := pu_map pu_rowD t
theorem rowD_inj (a b : List Rat) (h : rowD a = rowD b) : a = b := map_inj qD_inj (D.lst.inj h)
theorem tabD_inj (a b : List (List Rat)) (h : tabD a = tabD b) : a = b := map_inj rowD_inj (D.lst.inj h)
def natD (n : Nat) : D := .int (n : Nat)
def natsD (ns : List Nat) : D := .lst (ns.map natD)
def intsD (ns : List Int) : D := .lst (ns.map D.int)
theorem pu_natsD (r : List Nat) : pu 1 (natsD r) = true := pu_map (fun _ => rfl) r
theorem pu_intsD (r : List Int) : pu 1 (intsD r) = true := pu_map (fun _ => rfl) r
theorem natsD_inj (a b : List Nat) (h : natsD a = natsD b) : a = b := map_inj (fun x y e => Int.ofNat.inj (D.int.inj e)) (D.lst.inj h)
theorem intsD_inj (a b : List Int) (h : intsD a = intsD b) : a = b := map_inj (fun x y e => D.int.inj e) (D.lst.inj h)
section
variable {M : List Cell} {X : Nat → List Cell → Prop} {Q : D → List Cell → Prop}
theorem W_eqQ {a b : Rat} : W (eqR (qD a) (qD b) M) Q X = Q (.bl (decide (a = b))) M := eqR_of (eqD_enc 1 pu_qD qD_inj (by decide) a b)
theorem W_neQ {a b : Rat} : W (neR (qD a) (qD b) M) Q X = Q (.bl (!decide (a = b))) M := neR_of (eqD_enc 1 pu_qD qD_inj (by decide) a b)
theorem W_eqR {a b : List Rat} : W (eqR (rowD a) (rowD b) M) Q X = Q (.bl (decide (a = b))) M := eqR_of (eqD_enc 2 pu_rowD rowD_inj (by decide) a b)
theorem W_neR {a b : List Rat} : W (neR (rowD a) (rowD b) M) Q X = Q (.bl (!decide (a = b))) M := neR_of (eqD_enc 2 pu_rowD rowD_inj (by decide) a b)
theorem W_eqT {a b : List (List Rat)} : W (eqR (tabD a) (tabD b) M) Q X = Q (.bl (decide (a = b))) M := eqR_of (eqD_enc 3 pu_tabD tabD_inj (by decide) a b)
theorem W_neT {a b : List (List Rat)} : W (neR (tabD a) (tabD b) M) Q X = Q (.bl (!decide (a = b))) M := neR_of (eqD_enc 3 pu_tabD tabD_inj (by decide) a b)
theorem W_q0 {q : Rat} : W (idxD (qD q) (.int 0) M) Q X = Q (.int q.num) M := W_t0
theorem W_q1 {q : Rat} : W (idxD (qD q) (.int 1) M) Q X = Q (.int (q.den : Nat)) M := W_t1
theorem W_lenQ {q : Rat} : W (bi .len [qD q] M) Q X = Q (.int 2) M := rfl
theorem W_lenRow {r : List Rat} : W (bi .len [rowD r] M) Q X = Q (.int (r.length : Nat)) M := by
  rw [rowD, W_lenL, List.length_map]
theorem W_lenTab {r : List (List Rat)} : W (bi .len [tabD r] M) Q X = Q (.int (r.length : Nat)) M := by
  rw [tabD, W_lenL, List.length_map]
theorem isi_q_t {q : Rat} : W (W_isiR .tuple (qD q) M) Q X = Q (.bl true) M := rfl
theorem isi_q_i {q : Rat} : W (W_isiR .int (qD q) M) Q X = Q (.bl false) M := rfl
theorem isi_q_b {q : Rat} : W (W_isiR .bool (qD q) M) Q X = Q (.bl false) M := rfl
theorem isi_q_l {q : Rat} : W (W_isiR .list (qD q) M) Q X = Q (.bl false) M := rfl
theorem isi_row_l {q : List Rat} : W (W_isiR .list (rowD q) M) Q X = Q (.bl true) M := rfl
theorem isi_tab_l {q : List (List Rat)} : W (W_isiR .list (tabD q) M) Q X = Q (.bl true) M := rfl
variable {QL : List D → List Cell → Prop}
theorem valR_row {r : List Rat} : W (valR (rowD r) M) QL X = QL (r.map qD) M := rfl
theorem valR_tab {r : List (List Rat)} : W (valR (tabD r) M) QL X = QL (r.map rowD) M := rfl
theorem lstR_row {f : List D → List D} {r : List Rat} : W (lstR f (rowD r) M) QL X = QL (f (r.map qD)) M := rfl
theorem lstR_tab {f : List D → List D} {r : List (List Rat)} : W (lstR f (tabD r) M) QL X = QL (f (r.map rowD)) M := rfl
theorem valR_nats {r : List Nat} : W (valR (natsD r) M) QL X = QL (r.map natD) M := rfl
theorem valR_ints {r : List Int} : W (valR (intsD r) M) QL X = QL (r.map D.int) M := rfl
theorem lstR_nats {f : List D → List D} {r : List Nat} : W (lstR f (natsD r) M) QL X = QL (f (r.map natD)) M := rfl
theorem lstR_ints {f : List D → List D} {r : List Int} : W (lstR f (intsD r) M) QL X = QL (f (r.map D.int)) M := rfl
theorem W_lenNats {r : List Nat} : W (bi .len [natsD r] M) Q X = Q (.int (r.length : Nat)) M := by
  rw [natsD, W_lenL, List.length_map]
theorem W_lenInts {r : List Int} : W (bi .len [intsD r] M) Q X = Q (.int (r.length : Nat)) M := by
  rw [intsD, W_lenL, List.length_map]
theorem isi_nats_l {r : List Nat} : W (W_isiR .list (natsD r) M) Q X = Q (.bl true) M := rfl
theorem isi_ints_l {r : List Int} : W (W_isiR .list (intsD r) M) Q X = Q (.bl true) M := rfl
theorem W_eqNs {a b : List Nat} : W (eqR (natsD a) (natsD b) M) Q X = Q (.bl (decide (a = b))) M := eqR_of (eqD_enc 1 pu_natsD natsD_inj (by decide) a b)
theorem W_neNs {a b : List Nat} : W (neR (natsD a) (natsD b) M) Q X = Q (.bl (!decide (a = b))) M := neR_of (eqD_enc 1 pu_natsD natsD_inj (by decide) a b)
theorem W_eqIs {a b : List Int} : W (eqR (intsD a) (intsD b) M) Q X = Q (.bl (decide (a = b))) M := eqR_of (eqD_enc 1 pu_intsD intsD_inj (by decide) a b)
theorem W_neIs {a b : List Int} : W (neR (intsD a) (intsD b) M) Q X = Q (.bl (!decide (a = b))) M := neR_of (eqD_enc 1 pu_intsD intsD_inj (by decide) a b)
theorem W_listRow {m : Bool} {r : List Rat} : W (bi (.list m) [rowD r] M) Q X = W (new m (r.map qD) M) Q X := rfl
theorem W_listTab {m : Bool} {r : List (List Rat)} : W (bi (.list m) [tabD r] M) Q X = W (new m (r.map rowD) M) Q X := rfl
theorem W_listNats {m : Bool} {r : List Nat} : W (bi (.list m) [natsD r] M) Q X = W (new m (r.map natD) M) Q X := rfl
theorem W_listInts {m : Bool} {r : List Int} : W (bi (.list m) [intsD r] M) Q X = W (new m (r.map D.int) M) Q X := rfl
end
end
end Sg

namespace Sg
noncomputable section
open PySem PySem.Spec L2
/-- d is the place of a list of these, that may be written to -/
def RowAt (M : List Cell) (d : D) (xs : List D) : Prop := ∃ p, d = .ref p ∧ M[p]? = some ⟨true, .lst xs⟩
/-- d is the place of a list of such places -/
def TabAt (M : List Cell) (d : D) (t : List (List D)) : Prop := ∃ (p : Nat) (rs : List Nat), d = .ref p ∧ M[p]? = some ⟨true, .lst (rs.map D.ref)⟩ ∧ rs.length = t.length ∧ ∀ (i : Nat) (r : Nat) (row : List D), rs[i]? = some r → t[i]? = some row → M[r]? = some ⟨true, .lst row⟩
theorem get_lt {α : Type} {xs : List α} {i : Nat} {x : α} (h : xs[i]? = some x) : i < xs.length := (List.getElem?_eq_some_iff.mp h).1
theorem isFlats_all {ds : List D} (h : ∀ d ∈ ds, isFlat d = true) : isFlats ds = true := by
  induction ds with
  | nil => rfl
  | cons x xs ih => rw [isFlats, h x List.mem_cons_self, ih fun y hy => h y (List.mem_cons_of_mem _ hy)]; rfl
mutual
theorem flat_imm : (d : D) → isFlat d = true → isImm d = true
  | .non, _ => rfl
  | .bl _, _ => rfl
  | .int _, _ => rfl
  | .str _, _ => rfl
  | .tup xs, h => by
    rw [isFlat] at h
    rw [isImm]
    exact flats_imm xs h
  | .ktp xs, h => by
    rw [isFlat] at h
    rw [isImm]
    exact flats_imm xs h
  | .lst _, h => by rw [isFlat] at h; cases h
  | .fro _, h => by rw [isFlat] at h; cases h
  | .dct _ _ _, h => by rw [isFlat] at h; cases h
  | .exo _, h => by rw [isFlat] at h; cases h
  | .ref _, h => by rw [isFlat] at h; cases h
theorem flats_imm : (ds : List D) → isFlats ds = true → isImms ds = true
  | [], _ => rfl
  | x :: xs, h => by
    rw [isFlats, Bool.and_eq_true] at h
    rw [isImms, flat_imm x h.1, flats_imm xs h.2]
    rfl
end
theorem immF_ref {n i : Nat} {M : List Cell} {m : Bool} {xs : List D} (h : M[i]? = some ⟨m, .lst xs⟩) : immF (n + 1) M (.ref i) = immF n M (.lst xs) := by
  show mapRef _ (.ref i) = _
  rw [mapRef, h]
theorem RowAt.imm {M : List Cell} {d : D} {xs : List D} (h : RowAt M d xs) (k : isImms xs = true) : imm M d = some (.lst xs) := by
  obtain ⟨p, rfl, h⟩ := h
  exact imm_cell h (by rw [isImm]; exact k)
theorem TabAt.imm {M : List Cell} {d : D} {t : List (List D)} (h : TabAt M d t) (k : ∀ r ∈ t, ∀ x ∈ r, isFlat x = true) : imm M d = some (.lst (t.map D.lst)) := by
  obtain ⟨p, rs, rfl, h1, hl, h2⟩ := h
  have hp := get_lt h1
  have key : ∀ (n : Nat) (ss : List Nat) (u : List (List D)), ss.length = u.length → (∀ (i : Nat) (r : Nat) (row : List D), ss[i]? = some r → u[i]? = some row → M[r]? = some (Cell.mk true (.lst row))) → (∀ r ∈ u, ∀ x ∈ r, isFlat x = true) →
      mapRefs (fun i => match M[i]? with
        | some ⟨_, .non⟩ => none
        | some c => immF n M c.d
        | none => none) (ss.map D.ref) = some (u.map D.lst) := fun n ss => by
    induction ss with
    | nil =>
      intro u hl _ _
      cases u with
      | nil => rfl
      | cons _ _ => cases hl
    | cons s ss ih =>
      intro u hl hu hf
      cases u with
      | nil => cases hl
      | cons r u =>
        have e1 := hu 0 s r rfl rfl
        rw [List.map_cons, mapRefs, mapRef, e1]
        show (immF n M (.lst r)).bind _ = _
        rw [immF_of (by rw [isImm]; exact flats_imm r (isFlats_all (hf r List.mem_cons_self)))]
        rw [Option.bind_some, ih u (by simpa using hl) (fun i r row a b => hu (i + 1) r row (by simpa using a) (by simpa using b)) fun r hr => hf r (List.mem_cons_of_mem _ hr)]
        rfl
  unfold Sg.imm
  cases e : M.length with
  | zero => omega
  | succ n =>
    rw [immF_ref h1]
    cases rs with
    | nil =>
      cases t with
      | nil => exact immF_of rfl
      | cons _ _ => cases hl
    | cons s ss =>
      cases t with
      | nil => cases hl
      | cons r u =>
        have e1 := h2 0 s r rfl rfl
        have hs := get_lt e1
        have hn : n ≠ 0 := fun z => by
          have : s = p := by omega
          rw [this, h1] at e1
          have e2 : (s :: ss).map D.ref = r := by
            injection e1 with e1
            injection e1 with _ e1
            exact D.lst.inj e1
          have := k r List.mem_cons_self (.ref s) (by rw [← e2]; exact List.mem_cons_self)
          cases this
        obtain ⟨m, rfl⟩ : ∃ m, n = m + 1 := ⟨n - 1, by omega⟩
        exact congrArg (Option.map D.lst) (key m (s :: ss) (r :: u) hl h2 k)
/-- a row's, a table's elements: numbers, texts, or tuples of such -/
def isAtom : D → Bool
  | .non => true
  | .bl _ => true
  | .int _ => true
  | .str _ => true
  | _ => false
def isElem : D → Bool
  | .tup xs => xs.all isAtom
  | d => isAtom d
theorem atom_flat {d : D} (h : isAtom d = true) : isFlat d = true := by cases d <;> first | rfl | cases h
theorem elem_flat {d : D} (h : isElem d = true) : isFlat d = true := by
  cases d with
  | tup xs =>
    rw [isFlat]
    exact isFlats_all fun x hx => atom_flat (List.all_eq_true.mp h x hx)
  | _ => exact atom_flat h
theorem atom_fresh {n : Nat} {M : List Cell} {d : D} (h : isAtom d = true) : freshF n M d = true := by
  cases d <;> first | (cases h; done) | skip
  all_goals cases n <;> rfl
theorem elem_fresh {n : Nat} {M : List Cell} {d : D} (h : isElem d = true) : freshF (n + 1) M d = true := by
  cases d with
  | tup xs =>
    show xs.all (freshF n M) = true
    rw [List.all_eq_true]
    exact fun x hx => atom_fresh (List.all_eq_true.mp h x hx)
  | _ => exact atom_fresh h
theorem RowAt.fresh {n : Nat} {M : List Cell} {d : D} {xs : List D} (h : RowAt M d xs) (k : ∀ x ∈ xs, isElem x = true) : freshF (n + 2) M d = true := by
  obtain ⟨p, rfl, h⟩ := h
  show (match M[p]? with
    | some ⟨_, .lst xs⟩ => xs.all (freshF (n + 1) M)
    | _ => false) = true
  rw [h]
  show xs.all (freshF (n + 1) M) = true
  rw [List.all_eq_true]
  exact fun x hx => elem_fresh (k x hx)
theorem TabAt.fresh {n : Nat} {M : List Cell} {d : D} {t : List (List D)} (h : TabAt M d t) (k : ∀ r ∈ t, ∀ x ∈ r, isElem x = true) : freshF (n + 3) M d = true := by
  obtain ⟨p, rs, rfl, h1, hl, h2⟩ := h
  show (match M[p]? with
    | some ⟨_, .lst xs⟩ => xs.all (freshF (n + 2) M)
    | _ => false) = true
  rw [h1]
  show (rs.map D.ref).all (freshF (n + 2) M) = true
  rw [List.all_eq_true]
  intro x hx
  obtain ⟨r, hr, rfl⟩ := List.mem_map.mp hx
  obtain ⟨i, hi⟩ := List.getElem?_of_mem hr
  have hit : i < t.length := by
    have := get_lt hi
    omega
  have e := h2 i r t[i] hi (List.getElem?_eq_getElem hit)
  exact RowAt.fresh ⟨r, rfl, e⟩ (k _ (List.getElem_mem hit))
theorem atoms_frs : ∀ {ys : List D}, ys.all isAtom = true → isFrs ys = true
  | [], _ => rfl
  | y :: ys, h => by
    rw [List.all_cons, Bool.and_eq_true] at h
    rw [isFrs, atoms_frs h.2, Bool.and_true]
    cases y <;> first | rfl | cases h.1
theorem atoms_sh {k : Nat} : ∀ {ys : List D}, ys.all isAtom = true → shDs k ys = ys
  | [], _ => rfl
  | y :: ys, h => by
    rw [List.all_cons, Bool.and_eq_true] at h
    rw [shDs, atoms_sh h.2]
    congr 1
    cases y <;> first | rfl | cases h.1
theorem elems_frs : ∀ {xs : List D}, (∀ x ∈ xs, isElem x = true) → isFrs xs = true
  | [], _ => rfl
  | x :: xs, k => by
    rw [isFrs, elems_frs fun y hy => k y (List.mem_cons_of_mem _ hy), Bool.and_true]
    have h := k x List.mem_cons_self
    cases x with
    | tup ys =>
      rw [isFr]
      exact atoms_frs h
    | ktp _ => cases h
    | lst _ => cases h
    | fro _ => cases h
    | dct _ _ _ => cases h
    | exo _ => cases h
    | _ => rfl
theorem elems_sh {k : Nat} : ∀ {xs : List D}, (∀ x ∈ xs, isElem x = true) → shDs k xs = xs
  | [], _ => rfl
  | x :: xs, h => by
    rw [shDs, elems_sh fun y hy => h y (List.mem_cons_of_mem _ hy)]
    congr 1
    have h := h x List.mem_cons_self
    cases x with
    | tup ys =>
      rw [shD, atoms_sh h]
    | ktp _ => cases h
    | ref _ => cases h
    | _ => rfl
theorem refs_frs : ∀ rs : List Nat, isFrs (rs.map D.ref) = true
  | [] => rfl
  | r :: rs => by rw [List.map_cons, isFrs, refs_frs rs]; rfl
theorem refs_sh {k : Nat} : ∀ rs : List Nat, shDs k (rs.map D.ref) = (rs.map (k + ·)).map D.ref
  | [] => rfl
  | r :: rs => by rw [List.map_cons, shDs, refs_sh rs]; rfl
theorem imp_cell {M M1 : List Cell} {i : Nat} {m : Bool} {xs : List D} (h : M1[i]? = some ⟨m, .lst xs⟩) (k : isFrs xs = true) : (M ++ M1.map (shC M.length))[M.length + i]? = some ⟨m, .lst (shDs M.length xs)⟩ := by
  rw [List.getElem?_append_right (Nat.le_add_right _ _), Nat.add_sub_cancel_left, List.getElem?_map, h]
  show some (shC M.length ⟨m, .lst xs⟩) = _
  congr 1
  exact if_pos k
theorem RowAt.imp {M M1 : List Cell} {d : D} {xs : List D} (h : RowAt M1 d xs) (k : ∀ x ∈ xs, isElem x = true) : RowAt (M ++ M1.map (shC M.length)) (shD M.length d) xs := by
  obtain ⟨p, rfl, h⟩ := h
  refine ⟨M.length + p, rfl, ?_⟩
  rw [imp_cell h (elems_frs k), elems_sh k]
theorem TabAt.imp {M M1 : List Cell} {d : D} {t : List (List D)} (h : TabAt M1 d t) (k : ∀ r ∈ t, ∀ x ∈ r, isElem x = true) : TabAt (M ++ M1.map (shC M.length)) (shD M.length d) t := by
  obtain ⟨p, rs, rfl, h1, hl, h2⟩ := h
  refine ⟨M.length + p, rs.map (M.length + ·), rfl, ?_, by rw [List.length_map]; exact hl, fun i r row a b => ?_⟩
  · rw [imp_cell h1 (refs_frs rs), refs_sh]
  · rw [List.getElem?_map] at a
    cases e : rs[i]? with
    | none => rw [e] at a; cases a
    | some r0 =>
      rw [e] at a
      cases a
      have hr := k row (List.mem_of_getElem? b)
      rw [imp_cell (h2 i r0 row e b) (elems_frs hr), elems_sh hr]
/-- a call of trees makes this table anew -/
def MkT (Φ : Phi) (f : Nat) (ds : List D) (t : List (List D)) : Prop := ∃ d M1, Φ f ds [] = .ok d M1 ∧ TabAt M1 d t
def MkR (Φ : Phi) (f : Nat) (ds : List D) (t : List D) : Prop := ∃ d M1, Φ f ds [] = .ok d M1 ∧ RowAt M1 d t
section
variable {Φ : Phi} {f : Nat} {ds es : List D} {t : List (List D)} {r : List D} {M : List Cell} {Q : D → List Cell → Prop} {X : Nat → List Cell → Prop}
theorem MkT.rt (h : MkT Φ f ds t) (hi : isImms ds = true) (k : ∀ r ∈ t, ∀ x ∈ r, isElem x = true) : Rt Φ f ds (.lst (t.map D.lst)) := fun M => by
  obtain ⟨d, M1, e, h⟩ := h
  unfold callD
  simp only [hi, if_true, e, h.imm fun r hr x hx => elem_flat (k r hr x hx)]
theorem MkT.call1 (h : MkT Φ f es t) (hi : imms M ds = some es) (k : ∀ r ∈ t, ∀ x ∈ r, isElem x = true) : callD Φ f 1 ds M = .ok (.lst (t.map D.lst)) M := by
  obtain ⟨d, M1, e, h⟩ := h
  unfold callD
  simp only [hi, e, h.imm fun r hr x hx => elem_flat (k r hr x hx)]
  rw [h.fresh (n := 5) k, Bool.or_true, if_pos rfl]
theorem TabAt.fr {M1 : List Cell} {d : D} (h : TabAt M1 d t) : isFr d = true := by
  obtain ⟨p, rs, rfl, _⟩ := h
  rfl
theorem RowAt.fr {M1 : List Cell} {d : D} (h : RowAt M1 d r) : isFr d = true := by
  obtain ⟨p, rfl, _⟩ := h
  rfl
theorem MkT.call2 (h : MkT Φ f es t) (hi : imms M ds = some es) (k : ∀ r ∈ t, ∀ x ∈ r, isElem x = true) : ∃ d M', callD Φ f 2 ds M = .ok d (M ++ M') ∧ TabAt (M ++ M') d t := by
  obtain ⟨d, M1, e, h⟩ := h
  refine ⟨shD M.length d, M1.map (shC M.length), ?_, h.imp k⟩
  unfold callD
  simp only [hi, e]
  rw [if_pos h.fr]
theorem MkR.rt (h : MkR Φ f ds r) (hi : isImms ds = true) (k : ∀ x ∈ r, isElem x = true) : Rt Φ f ds (.lst r) := fun M => by
  obtain ⟨d, M1, e, h⟩ := h
  unfold callD
  simp only [hi, if_true, e, h.imm (flats_imm _ (isFlats_all fun x hx => elem_flat (k x hx)))]
theorem MkR.call1 (h : MkR Φ f es r) (hi : imms M ds = some es) (k : ∀ x ∈ r, isElem x = true) : callD Φ f 1 ds M = .ok (.lst r) M := by
  obtain ⟨d, M1, e, h⟩ := h
  unfold callD
  simp only [hi, e, h.imm (flats_imm _ (isFlats_all fun x hx => elem_flat (k x hx)))]
  rw [h.fresh (n := 6) k, Bool.or_true, if_pos rfl]
theorem MkR.call2 (h : MkR Φ f es r) (hi : imms M ds = some es) (k : ∀ x ∈ r, isElem x = true) : ∃ d M', callD Φ f 2 ds M = .ok d (M ++ M') ∧ RowAt (M ++ M') d r := by
  obtain ⟨d, M1, e, h⟩ := h
  refine ⟨shD M.length d, M1.map (shC M.length), ?_, h.imp k⟩
  unfold callD
  simp only [hi, e]
  rw [if_pos h.fr]
/-- a call of what is a tree by now, a flat result -/
theorem Rt.call1 {v : D} (h : Rt Φ f es v) (hi : imms M ds = some es) (he : isImms es = true) (hf : isFlat v = true) : callD Φ f 1 ds M = .ok v M := by
  have h0 := h []
  unfold callD at h0
  simp only [he, if_true] at h0
  unfold callD
  simp only [hi]
  cases e : Φ f es [] with
  | ok d M1 =>
    rw [e] at h0
    simp only at h0 ⊢
    cases e2 : imm M1 d with
    | none => rw [e2] at h0; cases h0
    | some d' =>
      rw [e2] at h0
      simp only at h0 ⊢
      cases h0
      rw [hf, Bool.true_or, if_pos rfl]
  | exc c M1 => rw [e] at h0; cases h0
  | bad => rw [e] at h0; cases h0
theorem W_neSelf {n : Nat} {a : D} (h : pu n a = true) (hn : n ≤ 64) : W (neR a a M) Q X = Q (.bl false) M := by
  obtain ⟨k, h1, h2⟩ := eqD_pu (M := M) h h hn
  rw [neR_of h1, h2.mpr rfl]
  rfl
/-- a list or, if it is empty, another list -/
theorem W_orL {σ : St} {a b : E} : W (evE Φ (.orL a b) σ M) Q X = W (evE Φ a σ M) (fun d M1 => match content M1 d with
    | some [] => W (evE Φ b σ M1) (fun d2 M2 => content M2 d2 ≠ none ∧ Q d2 M2) fun _ _ => False
    | some (_ :: _) => Q d M1
    | none => False) fun _ _ => False := by
  show V (match evE Φ a σ M with
    | .ok d M1 => (match content M1 d with
      | some [] => (match evE Φ b σ M1 with
        | .ok d2 M2 => (match content M2 d2 with
          | some _ => .ok d2 M2
          | none => .bad)
        | _ => .bad)
      | some (_ :: _) => .ok d M1
      | none => .bad)
    | _ => .bad) Q X = _
  cases ea : evE Φ a σ M with
  | ok d M1 =>
    cases ec : content M1 d with
    | none => simp [V, W, ec]
    | some xs =>
      cases xs with
      | cons => simp [V, W, ec]
      | nil =>
        cases eb : evE Φ b σ M1 with
        | ok d2 M2 =>
          cases ed : content M2 d2 <;> simp [V, W, ec, eb, ed]
        | exc c M2 => simp [V, W, ec, eb]
        | bad => simp [V, W, ec, eb]
  | exc c M1 => rfl
  | bad => rfl
theorem W_rep {σ : St} {m : Bool} {a b : E} : W (evE Φ (.rep m a b) σ M) Q X = W (evE Φ a σ M) (fun x M1 => W (evE Φ b σ M1) (fun y M2 => W (repD m x y M2) Q X) X) X := by
  show W ((evE Φ a σ M).bind fun x M1 => (evE Φ b σ M1).bind fun y M2 => repD m x y M2) Q X = _
  rw [W_bind]
  congr 1
  funext x M1
  exact W_bind
/-- a loop over the list at a place -/
def liveQ (Φ : Phi) (t : T) (b : Ss) (d : D) (σ : St) (M : List Cell) (QF : Fl → St → List Cell → Prop) (X : Nat → List Cell → Prop) : Prop := match d with
  | .ref i => match M[i]? with
    | some ⟨true, .lst xs⟩ => WQ (forV i xs (forS Φ t b) xs σ M) QF X
    | _ => False
  | _ => False
theorem Q_forL {t : T} {e : E} {b : Ss} {σ : St} {QF : Fl → St → List Cell → Prop} : WQ (evS Φ (.forL t e b) σ M) QF X = W (evE Φ e σ M) (fun d M1 => liveQ Φ t b d σ M1 QF X) X := by
  show VQ (R.st (evE Φ e σ M) σ _) QF X = _
  rw [V_st]
  show V (evE Φ e σ M) _ X = V (evE Φ e σ M) _ X
  congr 1
  funext d M1
  cases d with
  | ref i =>
    unfold liveQ
    dsimp only
    cases M1[i]? with
    | none => rfl
    | some c =>
      obtain ⟨m, dd⟩ := c
      cases m <;> cases dd <;> rfl
  | _ => rfl
/-- a loop over the list at a place, with its numbers -/
def liveE (Φ : Phi) (t : T) (b : Ss) (d : D) (σ : St) (M : List Cell) (QF : Fl → St → List Cell → Prop) (X : Nat → List Cell → Prop) : Prop := match d with
  | .ref i => match M[i]? with
    | some ⟨true, .lst xs⟩ => WQ (forV i xs (forS Φ t b) (enumD 0 xs) σ M) QF X
    | _ => False
  | _ => False
theorem Q_forE {t : T} {e : E} {b : Ss} {σ : St} {QF : Fl → St → List Cell → Prop} : WQ (evS Φ (.forE t e b) σ M) QF X = W (evE Φ e σ M) (fun d M1 => liveE Φ t b d σ M1 QF X) X := by
  show VQ (R.st (evE Φ e σ M) σ _) QF X = _
  rw [V_st]
  show V (evE Φ e σ M) _ X = V (evE Φ e σ M) _ X
  congr 1
  funext d M1
  cases d with
  | ref i =>
    unfold liveE
    dsimp only
    cases M1[i]? with
    | none => rfl
    | some c =>
      obtain ⟨m, dd⟩ := c
      cases m <;> cases dd <;> rfl
  | _ => rfl
end
end
end Sg

namespace Sg
noncomputable section
open PySem PySem.Spec
section
variable {Φ : Phi} {n : Nat}
end
section
variable {Φ : Phi} {σ : St} {M : List Cell} {X : Nat → List Cell → Prop} {QF : Fl → St → List Cell → Prop} {Q : D → List Cell → Prop} {QL : List D → List Cell → Prop}
theorem tw_word {x : Str} : W (twR .word x M) Q X = Q (.str x) M := rfl
theorem tw_lword {x : Str} : W (twR .lword x M) Q X = Q (.lst [.str x]) M := rfl
theorem tw_weq {x y : Str} : W (twR (.weq y) x M) Q X = W (eqR (.str x) (.str y) M) Q X := W_eq
theorem eqD_str {x y : Str} (hx : PyData.strOk x = true) (hy : PyData.strOk y = true) : ∃ k, eqD M (.str x) (.str y) = some k ∧ (k = true ↔ x = y) := by
  obtain ⟨k, h1, h2⟩ := eqD_pu (M := M) (n := 0) (a := .str x) (b := .str y) hx hy (by decide)
  exact ⟨k, h1, h2.trans ⟨fun e => D.str.inj e, fun e => by rw [e]⟩⟩
theorem W_eqS {x y : Str} (hx : PyData.strOk x = true) (hy : PyData.strOk y = true) : W (eqR (.str x) (.str y) M) Q X = Q (.bl (decide (x = y))) M := by
  obtain ⟨k, h1, h2⟩ := eqD_str (M := M) hx hy
  rw [eqR_of h1]
  congr 2
  cases k with
  | true => exact (decide_eq_true (h2.mp rfl)).symm
  | false => exact (decide_eq_false fun e => by cases h2.mpr e).symm
theorem W_neS {x y : Str} (hx : PyData.strOk x = true) (hy : PyData.strOk y = true) : W (neR (.str x) (.str y) M) Q X = Q (.bl (!decide (x = y))) M := by
  obtain ⟨k, h1, h2⟩ := eqD_str (M := M) hx hy
  rw [neR_of h1]
  congr 3
  cases k with
  | true => exact (decide_eq_true (h2.mp rfl)).symm
  | false => exact (decide_eq_false fun e => by cases h2.mpr e).symm
theorem W_eqB {x y : Bool} : W (eqR (.bl x) (.bl y) M) Q X = Q (.bl (decide (x = y))) M := by
  have e : eqD M (.bl x) (.bl y) = some (decide (x = y)) := by
    unfold eqD
    rw [imm_of (d := .bl x) rfl, imm_of (d := .bl y) rfl]
    simp only [Option.bind_some, toPy]
    rw [if_pos ⟨rfl, rfl⟩]
    cases x <;> cases y <;> rfl
  rw [eqR_of e]
theorem W_neB {x y : Bool} : W (neR (.bl x) (.bl y) M) Q X = Q (.bl (!decide (x = y))) M := by
  have e : eqD M (.bl x) (.bl y) = some (decide (x = y)) := by
    unfold eqD
    rw [imm_of (d := .bl x) rfl, imm_of (d := .bl y) rfl]
    simp only [Option.bind_some, toPy]
    rw [if_pos ⟨rfl, rfl⟩]
    cases x <;> cases y <;> rfl
  rw [neR_of e]
def exoR (Φ : Phi) (k : Nat) (d : D) (M : List Cell) : R D := match d with
  | .exo a => Φ 0 [.exo a, .int k] M
  | _ => .bad
theorem exoR_exo {a k : Nat} : W (exoR Φ k (.exo a) M) Q X = W (Φ 0 [.exo a, .int k] M) Q X := rfl
theorem W_xis {i k : Nat} : W (evE Φ (.xis i k) σ M) Q X = gv σ i (fun d => W (exoR Φ k d M) Q X) := by
  show V (evE Φ (.xis i k) σ M) Q X = _
  rw [← gv_eq, evE]
  cases σ[i]? with
  | none => rfl
  | some o =>
    cases o with
    | none => rfl
    | some d => cases d <;> rfl
theorem W_lrng {m : Bool} {a : E} : W (evE Φ (.lrng m a) σ M) Q X = W (evE Φ a σ M) (fun d M1 => W (lrngD m (.int 0) d M1) Q X) X := W_bind
theorem W_lrng2 {m : Bool} {a b : E} : W (evE Φ (.lrng2 m a b) σ M) Q X = W (evE Φ a σ M) (fun d M1 => W (evE Φ b σ M1) (fun e M2 => W (lrngD m d e M2) Q X) X) X := by
  show W ((evE Φ a σ M).bind fun d M1 => (evE Φ b σ M1).bind fun e M2 => lrngD m d e M2) Q X = _
  rw [W_bind]
  congr 1
  funext d M1
  exact W_bind
theorem W_lrngD {m : Bool} {i j : Int} : W (lrngD m (.int i) (.int j) M) Q X = ((B62 i ∧ B62 j) ∧ W (new m (upTo i (j - i).toNat) M) Q X) := by
  show V (if B62 i ∧ B62 j then new m (upTo i (j - i).toNat) M else .bad) Q X = (_ ∧ V _ Q X)
  split <;> simp [V_bad, *]
theorem W_rvl {m sl : Bool} {a : E} : W (evE Φ (.rvl m sl a) σ M) Q X = W (evE Φ a σ M) (fun d M1 => W (rvlD m d M1) Q X) X := W_bind
theorem W_rvlL {m : Bool} {xs : List D} : W (rvlD m (.lst xs) M) Q X = W (new m xs.reverse M) Q X := rfl
theorem W_rvlF {m : Bool} {xs : List D} : W (rvlD m (.fro xs) M) Q X = W (new m xs.reverse M) Q X := rfl
/-- n - 1, .., 0, each more by lo -/
def dnTo (lo : Int) (n : Nat) : List D := upBy (lo + (n : Nat) - 1) (-1) n
theorem W_revR {a : E} : W (evIt Φ (.revR a) σ M) QL X = W (evE Φ a σ M) (fun d M1 => asI d fun j => B62 j ∧ QL (dnTo 0 j.toNat) M1) X := by
  show V (evIt Φ (.revR a) σ M) QL X = V _ _ X
  rw [evIt, V_bind]
  congr 1; funext d M1
  cases d <;> first | rfl | skip
  rename_i j
  show V (if B62 j then R.ok (upBy (0 + ((j - 0).toNat : Nat) - 1) (-1) (j - 0).toNat) M1 else .bad) QL X = (B62 j ∧ QL (dnTo 0 j.toNat) M1)
  rw [Int.sub_zero]
  split <;> simp [V_ok, V_bad, dnTo, *]
theorem W_revR2 {a b : E} : W (evIt Φ (.revR2 a b) σ M) QL X = W (evE Φ a σ M) (fun d M1 => W (evE Φ b σ M1) (fun e M2 => asI d fun i => asI e fun j => (B62 i ∧ B62 j) ∧ QL (dnTo i (j - i).toNat) M2) X) X := by
  show V (evIt Φ (.revR2 a b) σ M) QL X = V _ _ X
  rw [evIt, V_bind]
  congr 1; funext d M1
  show V (R.bind _ _) QL X = V _ _ X
  rw [V_bind]
  congr 1; funext e M2
  cases d <;> cases e <;> first | rfl | skip
  rename_i i j
  show V (if B62 i ∧ B62 j then R.ok (upBy (i + ((j - i).toNat : Nat) - 1) (-1) (j - i).toNat) M2 else .bad) QL X = ((B62 i ∧ B62 j) ∧ QL (dnTo i (j - i).toNat) M2)
  split <;> simp [V_ok, V_bad, dnTo, *]
end
end
end Sg

namespace Sg
noncomputable section
open PySem PySem.Spec
section
variable {Φ : Phi} {σ : St} {M : List Cell} {X : Nat → List Cell → Prop} {QF : Fl → St → List Cell → Prop} {Q : D → List Cell → Prop} {QL : List D → List Cell → Prop}
theorem W_ktup {es} : W (evE Φ (.ktup es) σ M) Q X = W (evEs Φ es σ M) (fun ds M1 => ds.length ≤ LIM ∧ Q (.ktp ds) M1) X := by
  show V (evE Φ (.ktup es) σ M) Q X = V _ _ X
  rw [evE, V_bind]
  congr 1; funext ds M1
  split <;> simp [V_ok, V_bad, *]
theorem W_dnew {t : Bool} : W (evE Φ (.dnew t) σ M) Q X = Q (.ref M.length) (M ++ [⟨true, .dct t [] []⟩]) := rfl
theorem W_dlit {ks vs : List D} : W (evE Φ (.dlit ks vs) σ M) Q X = Q (.ref M.length) (M ++ [⟨true, .dct false ks vs⟩]) := rfl
theorem W_dun {e : E} : W (evE Φ (.dun e) σ M) Q X = W (evE Φ e σ M) (fun d M1 => Q (.ref M1.length) (M1 ++ [⟨true, .dct true [.ktp []] [d]⟩])) X := W_bind
theorem W_dget {a b : E} : W (evE Φ (.dget a b) σ M) Q X = W (evE Φ a σ M) (fun x M1 => W (evE Φ b σ M1) (fun y M2 => W (dgetD x y M2) Q X) X) X := by
  show W ((evE Φ a σ M).bind fun x M1 => (evE Φ b σ M1).bind fun y M2 => dgetD x y M2) Q X = _
  rw [W_bind]
  congr 1
  funext d M1
  exact W_bind
theorem W_din {ng : Bool} {a b : E} : W (evE Φ (.din ng a b) σ M) Q X = W (evE Φ a σ M) (fun x M1 => W (evE Φ b σ M1) (fun y M2 => W (dinD ng x y M2) Q X) X) X := by
  show W ((evE Φ a σ M).bind fun x M1 => (evE Φ b σ M1).bind fun y M2 => dinD ng x y M2) Q X = _
  rw [W_bind]
  congr 1
  funext d M1
  exact W_bind
theorem W_dlst {m : Bool} {a : E} : W (evE Φ (.dlst m a) σ M) Q X = W (evE Φ a σ M) (fun x M1 => W (dlstD m x M1) Q X) X := W_bind
def keysR (d : D) (M : List Cell) : R (List D) := match lockD d M with
  | some (_, ks, _, M2) => .ok ks M2
  | none => .bad
def valsR (d : D) (M : List Cell) : R (List D) := match lockD d M with
  | some (false, _, vs, M2) => .ok vs M2
  | _ => .bad
theorem W_keys {a : E} : W (evIt Φ (.keys a) σ M) QL X = W (evE Φ a σ M) (fun d M1 => W (keysR d M1) QL X) X := by
  show V (evIt Φ (.keys a) σ M) QL X = V _ _ X
  rw [evIt, V_bind]
  rfl
theorem W_vals {a : E} : W (evIt Φ (.vals a) σ M) QL X = W (evE Φ a σ M) (fun d M1 => W (valsR d M1) QL X) X := by
  show V (evIt Φ (.vals a) σ M) QL X = V _ _ X
  rw [evIt, V_bind]
  rfl
def dsetR (x y z : D) (M : List Cell) : R Unit := match dsetD x y z M with
  | some M4 => .ok () M4
  | none => .bad
theorem Q_dset {o i v : E} : WQ (evS Φ (.dset o i v) σ M) QF X = W (evE Φ v σ M) (fun z M1 => W (evE Φ o σ M1) (fun x M2 => W (evE Φ i σ M2) (fun y M3 => W (dsetR x y z M3) (fun _ M4 => QF .nx σ M4) X) X) X) X := by
  show VQ (evS Φ (.dset o i v) σ M) QF X = V _ _ X
  rw [evS, V_st]
  congr 1; funext z M1
  rw [V_st]
  show V _ _ X = V _ _ X
  congr 1; funext x M2
  rw [V_st]
  show V _ _ X = V _ _ X
  congr 1; funext y M3
  show VQ (match dsetD x y z M3 with
    | some M4 => .ok .nx σ M4
    | none => .bad) QF X = V (dsetR x y z M3) _ X
  unfold dsetR
  cases dsetD x y z M3 <;> rfl
end
end
end Sg
namespace Sg
open PySem TL
section
variable {Φ : Phi} {σ : St} {M : List Cell} {X : Nat → List Cell → Prop} {Q : D → List Cell → Prop} {QL : List D → List Cell → Prop}
def asS (d : D) (Q : Str → Prop) : Prop := match d with
  | .str z => Q z
  | _ => False
theorem asS_str {z : Str} {Q : Str → Prop} : asS (.str z) Q = Q z := rfl
theorem W_tm {f a es} : W (evE Φ (.tm f a es) σ M) Q X = W (evE Φ a σ M) (fun x M1 => asS x fun z => W (evEs Φ es σ M1) (fun ds M2 => W (tmD f z ds M2) Q X) X) X := by
  show V (evE Φ (.tm f a es) σ M) Q X = V _ _ X
  rw [evE, V_bind]
  congr 1; funext x M1
  cases x <;> simp [asS, V_bad, V_bind, W]
/-- the signs of a text, each a text -/
def signsD (z : Str) : List D := (tl z).map fun c => D.str ⟨#[c]⟩
theorem W_chars {a : E} : W (evIt Φ (.chars a) σ M) QL X = W (evE Φ a σ M) (fun d M1 => asS d fun z => QL (signsD z) M1) X := by
  show V (evIt Φ (.chars a) σ M) QL X = V _ _ X
  rw [evIt, V_bind]
  congr 1; funext x M1
  cases x <;> simp [asS, V_bad, V_ok, signsD, tl]
theorem W_lenS {z : Str} (h : z.length ≤ 16000000) : W (bi .len [.str z] M) Q X = Q (.int (z.length : Nat)) M := by
  show V (if z.length ≤ LIM then R.ok (.int z.length) M else .bad) Q X = _
  rw [if_pos (by unfold LIM; exact h)]; rfl
theorem W_idxS {z : Str} {i : Int} {c : Nat} (h : z.length ≤ 16000000) (hc : L2.atI (tl z) i = some c) : W (idxD (.str z) (.int i) M) Q X = Q (.str ⟨#[c]⟩) M := by
  show V (if z.length ≤ LIM then (match L2.atI z.cps.toList i with
        | some c => R.ok (.str ⟨#[c]⟩) M
        | none => .bad) else .bad) Q X = _
  rw [if_pos (by unfold LIM; exact h), show L2.atI z.cps.toList i = some c from hc]; rfl
theorem W_slcS {m : Bool} {z : Str} {lo hi : Option Int} (h : z.length ≤ 16000000) : W (slcD m (.str z) lo hi M) Q X = Q (.str (L2.cutS z lo hi)) M := by
  show V (if z.length ≤ LIM then R.ok (.str (L2.cutS z lo hi)) M else .bad) Q X = _
  rw [if_pos (by unfold LIM; exact h)]; rfl
theorem W_inS {c : Nat} {z : Str} : W (cop .In (.str ⟨#[c]⟩) (.str z) M) Q X = Q (.bl (decide (c ∈ tl z))) M := rfl
theorem W_ninS {c : Nat} {z : Str} : W (cop .NotIn (.str ⟨#[c]⟩) (.str z) M) Q X = Q (.bl (!decide (c ∈ tl z))) M := rfl
theorem W_catS {m : Bool} {x y : Str} (h : x.length + y.length ≤ 16000000) : W (bop m .Add (.str x) (.str y) M) Q X = Q (.str (x ++ y)) M := by
  show V (if x.length + y.length ≤ LIM then R.ok (.str (x ++ y)) M else .bad) Q X = _
  rw [if_pos (by unfold LIM; exact h)]; rfl
theorem W_strI {i : Int} (h : i.natAbs < 2 ^ 1920) : W (bi .str [.int i] M) Q X = Q (.str (toString i)) M := by
  have h1 : i.natAbs.log2 < 1920 := by
    by_cases h0 : i.natAbs = 0
    · rw [h0]; decide
    · exact (Nat.log2_lt h0).mpr h
  show V (if i.natAbs.log2 < 1920 then R.ok (.str (toString i)) M else .bad) Q X = _
  rw [if_pos h1]; rfl
theorem W_intS {x : Str} {n : Int} (e : PySem.intText? x = some n) (h : x.length ≤ 640) : W (bi .int [.str x] M) Q X = Q (.int n) M := by
  show V (match PySem.intText? x with
    | some n => if x.length ≤ 640 then R.ok (.int n) M else .bad
    | none => .bad) Q X = _
  rw [e]
  show V (if x.length ≤ 640 then R.ok (.int n) M else .bad) Q X = _
  rw [if_pos h]; rfl
theorem strsOf_map : ∀ ys : List Str, strsOf (ys.map D.str) = some ys
  | [] => rfl
  | y :: ys => by
    show (strsOf (ys.map D.str)).map (fun r => y :: r) = _
    rw [strsOf_map ys]; rfl
/-- how long a joined text is -/
def jlen (a : Str) (ys : List Str) : Nat := (ys.map (·.length)).sum + ys.length * a.length
theorem W_joinL {a : Str} {ys : List Str} (h : jlen a ys ≤ 16000000) : W (tmD .join a [.lst (ys.map D.str)] M) Q X = Q (.str (Txt.join a ys)) M := by
  show V (match ((some (ys.map D.str) : Option (List D))).bind strsOf with
    | some ys => if (ys.map (·.length)).sum + ys.length * a.length ≤ LIM then R.ok (.str (Txt.join a ys)) M else .bad
    | none => .bad) Q X = _
  rw [Option.bind_some, strsOf_map]
  show V (if (ys.map (·.length)).sum + ys.length * a.length ≤ LIM then R.ok (.str (Txt.join a ys)) M else .bad) Q X = _
  rw [if_pos (by unfold LIM; exact h)]; rfl
theorem W_joinR {a : Str} {ys : List Str} {i : Nat} {m : Bool} (hM : M[i]? = some ⟨m, .lst (ys.map D.str)⟩) (h : jlen a ys ≤ 16000000) : W (tmD .join a [.ref i] M) Q X = Q (.str (Txt.join a ys)) M := by
  have e : content M (.ref i) = some (ys.map D.str) := by
    show (match M[i]? with
    | some ⟨_, .lst xs⟩ => some xs
    | _ => none) = _
    rw [hM]
  show V (match (content M (.ref i)).bind strsOf with
    | some ys => if (ys.map (·.length)).sum + ys.length * a.length ≤ LIM then R.ok (.str (Txt.join a ys)) M else .bad
    | none => .bad) Q X = _
  rw [e, Option.bind_some, strsOf_map]
  show V (if (ys.map (·.length)).sum + ys.length * a.length ≤ LIM then R.ok (.str (Txt.join a ys)) M else .bad) Q X = _
  rw [if_pos (by unfold LIM; exact h)]; rfl
theorem W_swith {a b : Str} : W (tmD .startswith a [.str b] M) Q X = Q (.bl (Txt.startswith a b)) M := rfl
theorem W_find {a b : Str} : W (tmD .find a [.str b] M) Q X = Q (.int (Txt.find a b)) M := rfl
theorem W_isdigit {a : Str} : W (tmD .isdigit a [] M) Q X = Q (.bl (Txt.isdigit a)) M := rfl
theorem spl_short (s : Nat) : ∀ (l acc : List Nat), (spl [s] 0 acc l).length ≤ l.length + 1
  | [], acc => by rw [spl_nil]; simp
  | c :: r, acc => by
    cases h : pre [s] (c :: r) with
    | true =>
      rw [spl_hit h]
      have := spl_short s r []
      simp only [List.length_cons, List.length_nil, Nat.zero_add, Nat.sub_self] at this ⊢
      omega
    | false =>
      rw [spl_miss h]
      have := spl_short s r (acc ++ [c])
      simp only [List.length_cons] at this ⊢
      omega
theorem split_short {y : Str} {s : Nat} (ey : tl y = [s]) (hs : s < 256) (x : Str) : (Txt.split x y).length ≤ x.length + 1 := by
  have hk : y.cps.all (· < 256) = true := by
    rw [← Array.all_toList, show y.cps.toList = [s] from ey]
    simp [hs]
  have h := split_spl x y (by rw [ey]; simp) (kind_ok hk)
  have h2 := congrArg List.length h
  rw [List.length_map, ey] at h2
  rw [h2, len_tl]
  exact spl_short s _ _
/-- a text cut at one sign -/
def cuts (s : Nat) (x : Str) : List Str := (spl [s] 0 [] (tl x)).map fun l => ⟨l.toArray⟩
theorem split_cuts {y : Str} {s : Nat} (ey : tl y = [s]) (hs : s < 256) (x : Str) : Txt.split x y = cuts s x := by
  have hk : y.cps.all (· < 256) = true := by
    rw [← Array.all_toList, show y.cps.toList = [s] from ey]
    simp [hs]
  refine map_tl_inj ?_
  rw [split_spl x y (by rw [ey]; simp) (kind_ok hk), ey]
  unfold cuts
  rw [List.map_map]
  conv => lhs; rw [← List.map_id (spl [s] 0 [] (tl x))]
  exact List.map_congr_left fun l _ => rfl
theorem W_splitF {x y : Str} {s : Nat} (ey : tl y = [s]) (hs : s < 256) (h : x.length ≤ 15999990) : W (tmD (.split false) x [.str y] M) Q X = Q (.lst ((cuts s x).map D.str)) M := by
  have h0 : (y.length == 0) = false := by rw [len_tl, ey]; rfl
  have h1 := split_short ey hs x
  show V (if (y.length == 0) = false ∧ x.length + 2 ≤ LIM then new false ((Txt.split x y).map D.str) M else .bad) Q X = _
  rw [if_pos ⟨h0, by unfold LIM; omega⟩]
  show V (if ((Txt.split x y).map D.str).length ≤ LIM then (if false = true then _ else R.ok (.lst ((Txt.split x y).map D.str)) M) else .bad) Q X = _
  rw [if_pos (by rw [List.length_map]; unfold LIM; omega), if_neg (by simp), split_cuts ey hs]; rfl
end
end Sg

local macro_rules | `(tactic| walk_at "sg") => `(tactic| try simp (config := {dsimp := false}) only [
  ↓Sg.W_ok, ↓Sg.W_exc, ↓Sg.W_bad, ↓Sg.WQ_ok, ↓Sg.WQ_exc, ↓Sg.WQ_bad, ↓Sg.W_bind, ↓Sg.W_st, ↓Sg.W_nox, ↓Sg.W_var,
  ↓Sg.W_c, ↓Sg.W_glob, ↓Sg.W_bin, ↓Sg.W_un, ↓Sg.W_cmp, ↓Sg.W_chain, ↓Sg.W_toBl, ↓Sg.W_bop, ↓Sg.W_B1, ↓Sg.W_And,
  ↓Sg.W_Or, ↓Sg.W_ite, ↓Sg.W_tup, ↓Sg.W_lst, ↓Sg.W_idx, ↓Sg.W_slc, ↓Sg.W_call, ↓Sg.W_bi, ↓Sg.W_isi, ↓Sg.W_meth,
  ↓Sg.W_tm, ↓Sg.W_chars, Sg.asS_str, ↓Sg.W_inS, ↓Sg.W_ninS, ↓Sg.W_find, ↓Sg.W_isdigit, ↓Sg.W_comp, ↓Sg.W_compV, ↓Sg.W_orL, ↓Sg.W_compS, ↓Sg.W_Ono, ↓Sg.W_Oso, ↓Sg.W_Cno, ↓Sg.W_Cso, ↓Sg.W_nil, ↓Sg.W_cons, ↓Sg.W_val, ↓Sg.W_rng1,
  ↓Sg.W_rng2, ↓Sg.W_rng3, ↓Sg.W_zip, ↓Sg.W_enum, ↓Sg.W_rev, ↓Sg.W_Tv, ↓Sg.W_Tt, ↓Sg.W_Ti, ↓Sg.W_Tn, ↓Sg.W_Tc,
  ↓Sg.Kq_nx, ↓Sg.Kq_rt, ↓Sg.Kq_bk, ↓Sg.Kq_ct, ↓Sg.Q_nil, ↓Sg.Q_cons, ↓Sg.Q_expr, ↓Sg.Q_asg, ↓Sg.aug_int, ↓Sg.Q_aug,
  ↓Sg.Q_ite, ↓Sg.W_forS, ↓Sg.Q_for, ↓Sg.Q_whl, ↓Sg.Q_ret, ↓Sg.Q_ret0, ↓Sg.Q_pass, ↓Sg.Q_brk, ↓Sg.Q_cont, ↓Sg.Q_raise, ↓Sg.Q_forL, ↓Sg.Q_forE, ↓Sg.W_rep,
  ↓Sg.W_evD, ↓Sg.W_add, ↓Sg.W_sub, ↓Sg.W_mul, ↓Sg.W_mulI, ↓Sg.W_addI, ↓Sg.W_subI, ↓Sg.W_neg, ↓Sg.W_not, ↓Sg.W_lt,
  ↓Sg.W_le, ↓Sg.W_gt, ↓Sg.W_ge, ↓Sg.W_eq, ↓Sg.W_ne, ↓Sg.W_is, ↓Sg.W_isnot, ↓Sg.W_new0, ↓Sg.W_new1, ↓Sg.W_abs,
  ↓Sg.W_max2, ↓Sg.W_min2, ↓Sg.W_pow, Sg.gv0, Sg.gv1, Sg.gv2, Sg.gvs, Sg.asI_int, Sg.retQ_nx,
  Sg.retQ_rt, decide_eq_true_eq, List.set_cons_zero, List.set_cons_succ, if_true, if_false, Bool.false_eq_true, List.length_cons, List.length_nil, true_and,
  and_true, Bool.not_eq_true', decide_eq_false_iff_not, Nat.zero_add, Nat.reduceAdd, Nat.reduceSub, Nat.reduceLeDiff, Sg.LIM, ↓Sg.W_t0, ↓Sg.W_t1, ↓Sg.W_t2, ↓Sg.W_t3, ↓Sg.W_l0, ↓Sg.W_l1, ↓Sg.W_l2, ↓Sg.W_l3, ↓Sg.W_l4, ↓Sg.W_l5, ↓Sg.W_l6, ↓Sg.W_l7, ↓Sg.W_l8, ↓Sg.W_l9, ↓Sg.W_mod, ↓Sg.W_div_lit, ↓Sg.W_div_ok, ↓Sg.W_modI,
  ↓Sg.W_divI_lit, ↓Sg.W_divI_ok, ↓Sg.W_lenL, ↓Sg.W_lenT, ↓Sg.W_lenF, ↓Sg.W_eqI, ↓Sg.W_neI, Sg.mid_nx, Sg.mid_ct, Sg.mid_bk, Sg.mid_rt, Sg.lp_nx, Sg.lp_ct, Sg.lp_bk, Sg.lp_rt, Sg.mulOk_lit,
  Sg.start, Sg.wipeD, List.map_cons, List.map_nil, List.cons_append, List.nil_append, List.replicate_succ, List.replicate_zero, Int.natAbs_natCast, ne_eq, Int.reduceLT, Int.reduceLE, Int.reduceAbs, Nat.reduceLT, Int.reducePow, Int.reduceToNat, Int.reduceEq, Int.reduceMul, Int.reduceSub, Int.reduceAdd,
  Int.reduceNeg, Int.reduceDiv, Int.reduceMod, not_false_eq_true, not_true_eq_false, Nat.reduceEqDiff, Nat.reducePow, Nat.reduceMul, Int.natAbs_neg, Bool.not_true, Bool.not_false, decide_true, decide_false, or_self, and_self, ↓Sg.W_eqQ, ↓Sg.W_neQ, ↓Sg.W_eqR, ↓Sg.W_neR, ↓Sg.W_eqT, ↓Sg.W_neT, ↓Sg.W_q0, ↓Sg.W_q1, ↓Sg.W_lenQ, ↓Sg.W_lenRow, ↓Sg.W_lenTab, ↓Sg.isi_q_t, ↓Sg.isi_q_i, ↓Sg.isi_q_b, ↓Sg.isi_q_l, ↓Sg.isi_row_l, ↓Sg.isi_tab_l, ↓Sg.valR_row, ↓Sg.valR_tab, ↓Sg.lstR_row, ↓Sg.lstR_tab, ↓Sg.valR_nats, ↓Sg.valR_ints, ↓Sg.lstR_nats, ↓Sg.lstR_ints, ↓Sg.W_lenNats, ↓Sg.W_lenInts, ↓Sg.isi_nats_l, ↓Sg.isi_ints_l, ↓Sg.W_intB, ↓Sg.W_intI, ↓Sg.W_listL, ↓Sg.W_listT, ↓Sg.W_addL, ↓Sg.W_slcL, ↓Sg.W_addT, ↓Sg.W_listRow, ↓Sg.W_listTab, ↓Sg.W_listNats, ↓Sg.W_listInts, ↓Sg.W_eqNs, ↓Sg.W_neNs, ↓Sg.W_eqIs, ↓Sg.W_neIs,
  ↓Sg.W_eqB, ↓Sg.W_neB, ↓Sg.W_xis, ↓Sg.W_dnew, ↓Sg.W_dlit, ↓Sg.W_dun, ↓Sg.W_dget, ↓Sg.W_din, ↓Sg.W_dlst, ↓Sg.W_keys, ↓Sg.W_vals, ↓Sg.Q_dset, ↓Sg.W_ktup, ↓Sg.exoR_exo, ↓Sg.W_lrng, ↓Sg.W_lrng2, ↓Sg.W_lrngD, ↓Sg.W_rvl, ↓Sg.W_rvlL, ↓Sg.W_rvlF, ↓Sg.W_revR, ↓Sg.W_revR2, ↓Sg.tw_word, ↓Sg.tw_lword, ↓Sg.tw_weq, ↓Sg.W_append, Sg.mcell0, Sg.mcells, Sg.content_ref0, Sg.content_refs, Sg.content_lst, Option.isSome_some, ↓Sg.valR_lst, ↓Sg.valR_tup, ↓Sg.valR_fro, ↓Sg.lstR_lst, ↓Sg.lstR_fro, ↓Sg.zipR_lst,
  ↓Sg.isi_int_int, ↓Sg.isi_int_bool, ↓Sg.isi_int_str, ↓Sg.isi_int_list, ↓Sg.isi_int_tuple, ↓Sg.isi_bl_int, ↓Sg.isi_bl_bool, ↓Sg.isi_bl_str, ↓Sg.isi_bl_list, ↓Sg.isi_bl_tuple, ↓Sg.isi_str_int, ↓Sg.isi_str_bool, ↓Sg.isi_str_str, ↓Sg.isi_str_list, ↓Sg.isi_str_tuple, ↓Sg.isi_tup_int, ↓Sg.isi_tup_bool, ↓Sg.isi_tup_str, ↓Sg.isi_tup_list, ↓Sg.isi_tup_tuple, ↓Sg.isi_lst_int, ↓Sg.isi_lst_bool, ↓Sg.isi_lst_str, ↓Sg.isi_lst_list, ↓Sg.isi_lst_tuple, ↓Sg.isi_non_int, ↓Sg.isi_non_bool, ↓Sg.isi_non_str, ↓Sg.isi_non_list, ↓Sg.isi_non_tuple])
local macro_rules | `(tactic| walk_at "sgh") => `(tactic| try simp (config := {dsimp := false}) only [
  ↓Sg.W_ok, ↓Sg.W_exc, ↓Sg.W_bad, ↓Sg.WQ_ok, ↓Sg.WQ_exc, ↓Sg.WQ_bad, ↓Sg.W_bind, ↓Sg.W_st, ↓Sg.W_nox, ↓Sg.W_var,
  ↓Sg.W_c, ↓Sg.W_glob, ↓Sg.W_bin, ↓Sg.W_un, ↓Sg.W_cmp, ↓Sg.W_chain, ↓Sg.W_toBl, ↓Sg.W_bop, ↓Sg.W_B1, ↓Sg.W_And,
  ↓Sg.W_Or, ↓Sg.W_ite, ↓Sg.W_tup, ↓Sg.W_lst, ↓Sg.W_idx, ↓Sg.W_slc, ↓Sg.W_call, ↓Sg.W_bi, ↓Sg.W_isi, ↓Sg.W_meth,
  ↓Sg.W_tm, ↓Sg.W_chars, Sg.asS_str, ↓Sg.W_inS, ↓Sg.W_ninS, ↓Sg.W_find, ↓Sg.W_isdigit, ↓Sg.W_comp, ↓Sg.W_compV, ↓Sg.W_orL, ↓Sg.W_compS, ↓Sg.W_Ono, ↓Sg.W_Oso, ↓Sg.W_Cno, ↓Sg.W_Cso, ↓Sg.W_nil, ↓Sg.W_cons, ↓Sg.W_val, ↓Sg.W_rng1,
  ↓Sg.W_rng2, ↓Sg.W_rng3, ↓Sg.W_zip, ↓Sg.W_enum, ↓Sg.W_rev, ↓Sg.W_Tv, ↓Sg.W_Tt, ↓Sg.W_Ti, ↓Sg.W_Tn, ↓Sg.W_Tc,
  ↓Sg.Kq_nx, ↓Sg.Kq_rt, ↓Sg.Kq_bk, ↓Sg.Kq_ct, ↓Sg.Q_nil, ↓Sg.Q_cons, ↓Sg.Q_expr, ↓Sg.Q_asg, ↓Sg.aug_int, ↓Sg.Q_aug,
  ↓Sg.Q_ite, ↓Sg.W_forS, ↓Sg.Q_for, ↓Sg.Q_whl, ↓Sg.Q_ret, ↓Sg.Q_ret0, ↓Sg.Q_pass, ↓Sg.Q_brk, ↓Sg.Q_cont, ↓Sg.Q_raise, ↓Sg.Q_forL, ↓Sg.Q_forE, ↓Sg.W_rep,
  ↓Sg.W_evD, ↓Sg.W_add, ↓Sg.W_sub, ↓Sg.W_mul, ↓Sg.W_mulI, ↓Sg.W_addI, ↓Sg.W_subI, ↓Sg.W_neg, ↓Sg.W_not, ↓Sg.W_lt,
  ↓Sg.W_le, ↓Sg.W_gt, ↓Sg.W_ge, ↓Sg.W_eq, ↓Sg.W_ne, ↓Sg.W_is, ↓Sg.W_isnot, ↓Sg.W_new0, ↓Sg.W_new1, ↓Sg.W_abs,
  ↓Sg.W_max2, ↓Sg.W_min2, ↓Sg.W_pow, Sg.gv0, Sg.gv1, Sg.gv2, Sg.gvs, Sg.asI_int, Sg.retQ_nx,
  Sg.retQ_rt, decide_eq_true_eq, List.set_cons_zero, List.set_cons_succ, if_true, if_false, Bool.false_eq_true, List.length_cons, List.length_nil, true_and,
  and_true, Bool.not_eq_true', decide_eq_false_iff_not, Nat.zero_add, Nat.reduceAdd, Nat.reduceSub, Nat.reduceLeDiff, Sg.LIM, ↓Sg.W_t0, ↓Sg.W_t1, ↓Sg.W_t2, ↓Sg.W_t3, ↓Sg.W_l0, ↓Sg.W_l1, ↓Sg.W_l2, ↓Sg.W_l3, ↓Sg.W_l4, ↓Sg.W_l5, ↓Sg.W_l6, ↓Sg.W_l7, ↓Sg.W_l8, ↓Sg.W_l9, ↓Sg.W_mod, ↓Sg.W_div_lit, ↓Sg.W_div_ok, ↓Sg.W_modI,
  ↓Sg.W_divI_lit, ↓Sg.W_divI_ok, ↓Sg.W_lenL, ↓Sg.W_lenT, ↓Sg.W_lenF, ↓Sg.W_eqI, ↓Sg.W_neI, Sg.mid_nx, Sg.mid_ct, Sg.mid_bk, Sg.mid_rt, Sg.lp_nx, Sg.lp_ct, Sg.lp_bk, Sg.lp_rt, Sg.mulOk_lit,
  Sg.start, Sg.wipeD, List.map_cons, List.map_nil, List.cons_append, List.nil_append, List.replicate_succ, List.replicate_zero, Int.natAbs_natCast, ne_eq, Int.reduceLT, Int.reduceLE, Int.reduceAbs, Nat.reduceLT, Int.reducePow, Int.reduceToNat, Int.reduceEq, Int.reduceMul, Int.reduceSub, Int.reduceAdd,
  Int.reduceNeg, Int.reduceDiv, Int.reduceMod, not_false_eq_true, not_true_eq_false, Nat.reduceEqDiff, Nat.reducePow, Nat.reduceMul, Int.natAbs_neg, Bool.not_true, Bool.not_false, decide_true, decide_false, or_self, and_self, ↓Sg.W_eqQ, ↓Sg.W_neQ, ↓Sg.W_eqR, ↓Sg.W_neR, ↓Sg.W_eqT, ↓Sg.W_neT, ↓Sg.W_q0, ↓Sg.W_q1, ↓Sg.W_lenQ, ↓Sg.W_lenRow, ↓Sg.W_lenTab, ↓Sg.isi_q_t, ↓Sg.isi_q_i, ↓Sg.isi_q_b, ↓Sg.isi_q_l, ↓Sg.isi_row_l, ↓Sg.isi_tab_l, ↓Sg.valR_row, ↓Sg.valR_tab, ↓Sg.lstR_row, ↓Sg.lstR_tab, ↓Sg.valR_nats, ↓Sg.valR_ints, ↓Sg.lstR_nats, ↓Sg.lstR_ints, ↓Sg.W_lenNats, ↓Sg.W_lenInts, ↓Sg.isi_nats_l, ↓Sg.isi_ints_l, ↓Sg.W_intB, ↓Sg.W_intI, ↓Sg.W_listL, ↓Sg.W_listT, ↓Sg.W_addL, ↓Sg.W_slcL, ↓Sg.W_addT, ↓Sg.W_listRow, ↓Sg.W_listTab, ↓Sg.W_listNats, ↓Sg.W_listInts, ↓Sg.W_eqNs, ↓Sg.W_neNs, ↓Sg.W_eqIs, ↓Sg.W_neIs,
  ↓Sg.W_eqB, ↓Sg.W_neB, ↓Sg.W_xis, ↓Sg.W_dnew, ↓Sg.W_dlit, ↓Sg.W_dun, ↓Sg.W_dget, ↓Sg.W_din, ↓Sg.W_dlst, ↓Sg.W_keys, ↓Sg.W_vals, ↓Sg.Q_dset, ↓Sg.W_ktup, ↓Sg.exoR_exo, ↓Sg.W_lrng, ↓Sg.W_lrng2, ↓Sg.W_lrngD, ↓Sg.W_rvl, ↓Sg.W_rvlL, ↓Sg.W_rvlF, ↓Sg.W_revR, ↓Sg.W_revR2, ↓Sg.tw_word, ↓Sg.tw_lword, ↓Sg.tw_weq, ↓Sg.W_append, Sg.mcell0, Sg.mcells, Sg.content_ref0, Sg.content_refs, Sg.content_lst, Option.isSome_some, ↓Sg.valR_lst, ↓Sg.valR_tup, ↓Sg.valR_fro, ↓Sg.lstR_lst, ↓Sg.lstR_fro, ↓Sg.zipR_lst,
  ↓Sg.isi_int_int, ↓Sg.isi_int_bool, ↓Sg.isi_int_str, ↓Sg.isi_int_list, ↓Sg.isi_int_tuple, ↓Sg.isi_bl_int, ↓Sg.isi_bl_bool, ↓Sg.isi_bl_str, ↓Sg.isi_bl_list, ↓Sg.isi_bl_tuple, ↓Sg.isi_str_int, ↓Sg.isi_str_bool, ↓Sg.isi_str_str, ↓Sg.isi_str_list, ↓Sg.isi_str_tuple, ↓Sg.isi_tup_int, ↓Sg.isi_tup_bool, ↓Sg.isi_tup_str, ↓Sg.isi_tup_list, ↓Sg.isi_tup_tuple, ↓Sg.isi_lst_int, ↓Sg.isi_lst_bool, ↓Sg.isi_lst_str, ↓Sg.isi_lst_list, ↓Sg.isi_lst_tuple, ↓Sg.isi_non_int, ↓Sg.isi_non_bool, ↓Sg.isi_non_str, ↓Sg.isi_non_list, ↓Sg.isi_non_tuple, *])
local macro_rules | `(tactic| walk_at "lt2") => `(tactic| first | assumption | exact Sg.lt2_lit (by decide) | exact Sg.Lt2.mod (by decide) (Sg.lt2_lit (by decide)) | (apply Sg.Lt2.mul <;> walk_at "lt2") | (apply Sg.Lt2.add' <;> walk_at "lt2") | (apply Sg.Lt2.sub' <;> walk_at "lt2") | (apply Sg.Lt2.neg; walk_at "lt2") | (apply Sg.Lt2.ediv; walk_at "lt2"))
local macro_rules | `(tactic| walk_at "mo") => `(tactic| (apply Sg.mulOk_of; (walk_at "lt2"); (walk_at "lt2"); decide))

namespace Sg
open PySem
def Sp1 (Φ : Phi) : Prop := ∀ a b : Int, Lt2 b 19999 → Rt Φ 1 [.int a, .int b] (.int (Int.gcd a b : Nat))
theorem gcd_loop {Φ : Phi} {c : E} {bd : Ss} {QF : Fl → St → List Cell → Prop} {X : Nat → List Cell → Prop} {M : List Cell} (a b : Nat) (hb : b < 2 ^ 19999) (hc : c = .cmp .Gt (.var 1) (.c (.int 0)))
    (hd : bd = .cons (.asg (.var 2) (.bin false .Mod (.var 0) (.var 1))) (.cons (.asg (.var 0) (.var 1)) (.cons (.asg (.var 1) (.var 2)) .nil)))
    (hq : ∀ r, QF .nx [some (.int (Nat.gcd a b : Nat)), some (.int 0), r] M) :
    WQ (whlL (evE Φ c) (evSs Φ bd) FUEL [some (.int a), some (.int b), none] M) QF X := by
  subst hc hd
  refine whl_fuel (n := b) (fun n σ M' => M' = M ∧ ∃ x r, σ = [some (.int (x : Nat)), some (.int (n : Nat)), r] ∧ Nat.gcd x n = Nat.gcd a b) ⟨rfl, a, none, rfl, rfl⟩ (by omega) ?_
  rintro n σ M' ⟨rfl, x, r, rfl, hg⟩
  walk_at "sg"
  by_cases h : n = 0
  · subst h
    rw [if_neg (by decide)]
    rw [Nat.gcd_zero_right] at hg
    rw [hg]
    exact hq r
  · have h0 : (0 : Int) < n := by omega
    rw [if_pos h0]
    walk_at "sgh"
    refine ⟨x % n, Nat.mod_lt _ (by omega), n, some (D.int ((x : Int) % n)), ?_, ?_⟩
    · rw [Int.natCast_emod]
    · rw [← hg, Nat.gcd_comm n, Nat.gcd_comm x n, ← Nat.gcd_rec]
theorem sp1 {Φ Φ' : Phi} (e : Φ' 1 = evD Φ b1) : Sp1 Φ' := fun a b hb => rt_of e rfl (by
  unfold b1
  walk_at "sg"
  refine gcd_loop _ _ (by unfold Lt2 at hb; omega) rfl rfl fun r => ?_
  walk_at "sg"
  exact imm_of rfl)
def Sz (q : Rat) (m : Nat) : Prop := Lt2 q.num m ∧ Lt2 (q.den : Nat) m
theorem Sz.mono {q : Rat} {m n : Nat} (h : Sz q m) (k : m ≤ n) : Sz q n := ⟨h.1.mono k, h.2.mono k⟩
theorem Lt2.dvd {a b : Int} {m : Nat} (h : Lt2 b m) (hb : b ≠ 0) (k : a ∣ b) : Lt2 a m := by
  unfold Lt2 at *
  exact Nat.lt_of_le_of_lt (Nat.le_of_dvd (by omega) (Int.natAbs_dvd_natAbs.mpr k)) h
theorem Lt2.div {a b : Int} {m : Nat} (h : Lt2 a m) : Lt2 (a / b) m := by
  unfold Lt2 at *
  exact Nat.lt_of_le_of_lt (Int.natAbs_ediv_le_natAbs a b) h
theorem sz_divInt {a b : Int} {m n k : Nat} (ha : Lt2 a m) (hb : Lt2 b n) (h1 : m ≤ k) (h2 : n ≤ k) (h3 : 1 ≤ k) : Sz (Rat.divInt a b) k := by
  constructor
  · rw [Rat.num_divInt]
    refine Lt2.div (Lt2.mono ?_ h1)
    unfold Lt2 at *
    rw [Int.natAbs_mul]
    rcases Int.lt_trichotomy b 0 with h | h | h
    · rw [Int.sign_eq_neg_one_of_neg h, show Int.natAbs (-1) = 1 from rfl, Nat.one_mul]
      exact ha
    · subst h
      simp
      omega
    · rw [Int.sign_eq_one_of_pos h, show Int.natAbs 1 = 1 from rfl, Nat.one_mul]
      exact ha
  · rw [Rat.den_divInt]
    split
    · exact Nat.lt_of_lt_of_le (by decide : (1 : Nat) < 2 ^ 1) (Nat.pow_le_pow_right (by decide) h3)
    · refine Lt2.mono ?_ h2
      unfold Lt2 at *
      rw [Int.natAbs_natCast]
      exact Nat.lt_of_le_of_lt (Nat.div_le_self _ _) hb
theorem Sz.pos {q : Rat} {m : Nat} (h : Sz q m) : 1 ≤ m := by
  rcases Nat.eq_zero_or_pos m with e | e
  · subst e
    have h2 := h.2
    have h3 := q.den_pos
    unfold Lt2 at h2
    rw [Int.natAbs_natCast] at h2
    omega
  · exact e
theorem rat_add (a b : Rat) : a + b = Rat.divInt (a.num * b.den + b.num * a.den) (a.den * b.den) := by
  have h1 : (a.den : Int) ≠ 0 := by have := a.den_pos; omega
  have h2 : (b.den : Int) ≠ 0 := by have := b.den_pos; omega
  have := Rat.divInt_add_divInt a.num b.num h1 h2
  rw [Rat.num_divInt_den, Rat.num_divInt_den] at this
  exact this
theorem rat_sub (a b : Rat) : a - b = Rat.divInt (a.num * b.den - b.num * a.den) (a.den * b.den) := by
  have h1 : (a.den : Int) ≠ 0 := by have := a.den_pos; omega
  have h2 : (b.den : Int) ≠ 0 := by have := b.den_pos; omega
  have := Rat.divInt_sub_divInt a.num b.num h1 h2
  rw [Rat.num_divInt_den, Rat.num_divInt_den] at this
  exact this
theorem rat_mul (a b : Rat) : a * b = Rat.divInt (a.num * b.num) (a.den * b.den) := by
  have := Rat.divInt_mul_divInt a.num b.num (d₁ := a.den) (d₂ := b.den)
  rw [Rat.num_divInt_den, Rat.num_divInt_den] at this
  exact this
theorem rat_div (a b : Rat) : a / b = Rat.divInt (a.num * b.den) (a.den * b.num) := by
  rw [Rat.div_def]
  have h := Rat.inv_divInt b.num b.den
  rw [Rat.num_divInt_den] at h
  rw [h]
  have := Rat.divInt_mul_divInt a.num b.den (d₁ := a.den) (d₂ := b.num)
  rw [Rat.num_divInt_den] at this
  exact this
theorem Sz.add {a b : Rat} {m n : Nat} (h : Sz a m) (k : Sz b n) : Sz (a + b) (m + n + 1) := by
  rw [rat_add]
  have h1 := (h.1.mul k.2)
  have h2 := (k.1.mul h.2)
  rw [Nat.add_comm n m] at h2
  have := h.pos
  exact sz_divInt (h1.add h2) (h.2.mul k.2) (Nat.le_refl _) (by omega) (by omega)
theorem Sz.sub {a b : Rat} {m n : Nat} (h : Sz a m) (k : Sz b n) : Sz (a - b) (m + n + 1) := by
  rw [rat_sub]
  have h1 := (h.1.mul k.2)
  have h2 := (k.1.mul h.2)
  rw [Nat.add_comm n m] at h2
  have := h.pos
  exact sz_divInt (h1.sub h2) (h.2.mul k.2) (Nat.le_refl _) (by omega) (by omega)
theorem Sz.mul {a b : Rat} {m n : Nat} (h : Sz a m) (k : Sz b n) : Sz (a * b) (m + n) := by
  rw [rat_mul]
  have := h.pos
  exact sz_divInt (h.1.mul k.1) (h.2.mul k.2) (Nat.le_refl _) (Nat.le_refl _) (by omega)
theorem Sz.div {a b : Rat} {m n : Nat} (h : Sz a m) (k : Sz b n) : Sz (a / b) (m + n) := by
  rw [rat_div]
  have := h.pos
  exact sz_divInt (h.1.mul k.2) (h.2.mul k.1) (Nat.le_refl _) (Nat.le_refl _) (by omega)
theorem Sz.neg {a : Rat} {m : Nat} (h : Sz a m) : Sz (-a) m := ⟨by rw [Rat.neg_num]; exact h.1.neg, by rw [Rat.neg_den]; exact h.2⟩
theorem qD_pos {a b : Int} (hb : 0 < b) : qD (Rat.divInt a b) = .tup [.int (a / (Int.gcd a b : Nat)), .int (b / (Int.gcd a b : Nat))] := by
  unfold qD
  rw [Rat.num_divInt, Rat.den_divInt, Int.sign_eq_one_of_pos hb, Int.one_mul, Int.gcd_comm, if_neg (by omega)]
  congr 3
  rw [Int.natCast_ediv, Int.natAbs_of_nonneg (by omega)]
end Sg

namespace Sg
open PySem
def cellOf (ns : List Int) (k : Nat) : Int := (ns[k]?).getD 0
def Sp6 (Φ : Phi) : Prop := ∀ (ns : List Int) (k : Nat), Rt Φ 6 [.fro (ns.map D.int), .int (k : Nat)] (.int (cellOf ns k))
theorem isImms_ints (ns : List Int) : isImms (ns.map D.int) = true := isImms_map (fun _ => rfl) ns
theorem sp6 {Φ Φ' : Phi} (e : Φ' 6 = evD Φ b6) : Sp6 Φ' := fun ns k => rt_of e (by simp only [isImms, isImm, isImms_ints, Bool.and_true]) (by
  unfold b6
  walk_at "sg"
  rw [List.length_map]
  by_cases h : k < ns.length
  · rw [if_pos (by omega)]
    walk_at "sg"
    rw [W_nthF (d := .int (cellOf ns k)) (by
      unfold cellOf
      rw [List.getElem?_map, List.getElem?_eq_getElem h]; rfl)]
    walk_at "sg"
    exact imm_of rfl
  · rw [if_neg (by omega)]
    walk_at "sg"
    unfold cellOf
    rw [List.getElem?_eq_none (by omega)]
    exact imm_of rfl)
/-- each from 0 on, less than its base -/
def InB : List Int → List Int → Prop
  | [], [] => True
  | x :: xs, b :: bs => (0 ≤ x ∧ x < b) ∧ InB xs bs
  | _, _ => False
theorem InB.app {x b : Int} (hx : 0 ≤ x ∧ x < b) : ∀ {xs bs : List Int}, InB xs bs → InB (xs ++ [x]) (bs ++ [b])
  | [], [], _ => ⟨hx, trivial⟩
  | [], _ :: _, h => h.elim
  | _ :: _, [], h => h.elim
  | _ :: _, _ :: _, h => ⟨h.1, InB.app hx h.2⟩
theorem InB.len : ∀ {xs bs : List Int}, InB xs bs → xs.length = bs.length
  | [], [], _ => rfl
  | [], _ :: _, h => h.elim
  | _ :: _, [], h => h.elim
  | _ :: _, _ :: _, h => congrArg Nat.succ h.2.len
theorem InB.get : ∀ {xs bs : List Int} {i : Nat} (h : i < xs.length) (h' : i < bs.length), InB xs bs → 0 ≤ xs[i] ∧ xs[i] < bs[i]
  | [], _, _, h, _, _ => absurd h (Nat.not_lt_zero _)
  | _ :: _, [], _, _, h, _ => absurd h (Nat.not_lt_zero _)
  | _ :: _, _ :: _, 0, _, _, k => k.1
  | _ :: xs, _ :: bs, i + 1, h, h', k => InB.get (xs := xs) (bs := bs) (Nat.lt_of_succ_lt_succ h) (Nat.lt_of_succ_lt_succ h') k.2
def Sp7 (Φ : Phi) : Prop := ∀ (c : Int) (bs : List Int), (∀ b ∈ bs, 0 < b ∧ Lt2 b 8999) → bs.length ≤ 100000 → ∃ xs : List Int, InB xs bs ∧ Rt Φ 7 [.int c, .lst (bs.map D.int)] (.lst (xs.map D.int))
theorem take_snoc {α : Type} {xs : List α} {i : Nat} (h : i < xs.length) : xs.take (i + 1) = xs.take i ++ [xs[i]] := by
  rw [List.take_add_one, List.getElem?_eq_getElem h]; rfl
theorem sp7 {Φ Φ' : Phi} (e : Φ' 7 = evD Φ b7) : Sp7 Φ' := fun c bs hb hl => by
  have key : ∃ r, (∃ xs : List Int, r = .lst (xs.map D.int) ∧ InB xs bs) ∧ Rt Φ' 7 [.int c, .lst (bs.map D.int)] r := by
    refine rt_ex e (by simp only [isImms, isImm, isImms_ints, Bool.and_true]) ?_
    unfold b7
    walk_at "sg"
    split
    · refine for_map (fun i σ M => ∃ c' r xs, σ = [some (.int c'), some (.lst (bs.map D.int)), some (.ref 0), r, none, none] ∧ M = [⟨true, .lst (xs.map D.int)⟩] ∧ InB xs (bs.take i)) ⟨c, none, [], rfl, rfl, trivial⟩ ?_ ?_
      · rintro i h σ M ⟨c', r, xs, rfl, rfl, hx⟩
        obtain ⟨h0, h1⟩ := hb bs[i] (List.getElem_mem h)
        have h2 := dvOk_of h1 (by decide)
        walk_at "sgh"
        have hl2 := hx.len
        rw [List.length_take] at hl2
        rw [List.length_map]
        refine ⟨by omega, _, _, xs ++ [c' % bs[i]], rfl, ?_, ?_⟩
        · rw [List.map_append]; rfl
        · rw [take_snoc h]
          exact hx.app ⟨Int.emod_nonneg _ (by omega), Int.emod_lt_of_pos _ h0⟩
      · rintro σ M ⟨c', r, xs, rfl, rfl, hx⟩
        walk_at "sg"
        rw [List.take_length] at hx
        exact ⟨_, imm_cell rfl (by rw [isImm, isImms_ints]), xs, rfl, hx⟩
    · rename_i hc
      have hc : Lt2 c 60 := by
        unfold Lt2
        have h : ¬ ((1000000000000000000 : Int) ≤ (c.natAbs : Int)) := hc
        omega
      refine for_enum (fun i σ M => ∃ r3 r4 r5 xs, σ = [some (.int c), some (.lst (bs.map D.int)), some (.ref 0), r3, r4, r5] ∧ M = [⟨true, .lst (xs.map D.int)⟩] ∧ InB xs (bs.take i)) ⟨none, none, none, [], rfl, rfl, trivial⟩ ?_ ?_
      · rintro i h σ M ⟨r3, r4, r5, xs, rfl, rfl, hx⟩
        obtain ⟨h0, h1⟩ := hb bs[i] (List.getElem_mem h)
        have hi : Lt2 (i : Int) 17 := lt2_nat (by omega)
        have h2 := dvOk_of h1 (by decide)
        have hl2 := hx.len
        rw [List.length_take] at hl2
        walk_at "sgh"
        refine ⟨by walk_at "mo", by walk_at "mo", by walk_at "mo", by walk_at "mo", by walk_at "mo", by walk_at "mo", ?_⟩
        rw [List.length_map]
        refine ⟨by omega, _, _, _, xs ++ [_], rfl, by rw [List.map_append]; rfl, ?_⟩
        rw [take_snoc h]
        exact hx.app ⟨Int.emod_nonneg _ (by omega), Int.emod_lt_of_pos _ h0⟩
      · rintro σ M ⟨r3, r4, r5, xs, rfl, rfl, hx⟩
        walk_at "sg"
        rw [List.take_length] at hx
        exact ⟨_, imm_cell rfl (by rw [isImm, isImms_ints]), xs, rfl, hx⟩
  obtain ⟨r, ⟨xs, rfl, h1⟩, h2⟩ := key
  exact ⟨xs, h1, h2⟩
def Sp8 (Φ : Phi) : Prop := ∀ a b : Int, Lt2 b 19999 → Rt Φ 8 [.int a, .int b] (.int (Int.gcd a b : Nat))
theorem sp8 {Φ Φ' : Phi} (e : Φ' 8 = evD Φ b8) : Sp8 Φ' := fun a b hb => rt_of e rfl (by
  unfold b8
  walk_at "sg"
  refine gcd_loop _ _ (by unfold Lt2 at hb; omega) rfl rfl fun r => ?_
  walk_at "sg"
  exact imm_of rfl)
def Sp9 (Φ : Phi) : Prop := ∀ a b : Int, 0 < b → Lt2 b 8999 → Rt Φ 9 [.int a, .int b] (qD (Rat.divInt a b))
theorem sp9 {Φ Φ' : Phi} (e : Φ' 9 = evD Φ b9) (h8 : Sp8 Φ) : Sp9 Φ' := fun a b hb hs => rt_of e rfl (by
  have hg := h8 a b (hs.mono (by decide))
  have g1 : 0 < ((Int.gcd a b : Nat) : Int) := by
    have := Int.gcd_pos_of_ne_zero_right a (Int.ne_of_gt hb)
    omega
  have d2 : ((Int.gcd a b : Nat) : Int) ∣ b := Int.gcd_dvd_right ..
  have hdv : dvOk ((Int.gcd a b : Nat) : Int) = true := dvOk_of (hs.dvd (by omega) d2) (by decide)
  unfold b9
  walk_at "sgh"
  rw [imm_of rfl, qD_pos hb])
theorem emod_lt' {a b : Int} (h : 0 < b) : 0 ≤ a % b ∧ a % b < b := ⟨Int.emod_nonneg _ (by omega), Int.emod_lt_of_pos _ h⟩
/-- how great the numbers of a kind are -/
def kN (k : Int) : Nat := if k = 3 then 135 else 5
def Sp10 (Φ : Phi) : Prop := ∀ k p : Int, 0 ≤ p → ∃ q : Rat, Sz q (kN k) ∧ Rt Φ 10 [.int k, .int p] (qD q)
def isIntD : D → Bool
  | .int _ => true
  | _ => false
def plainD : D → Bool
  | .fro _ => false
  | .dct _ _ _ => false
  | .exo _ => false
  | .ktp _ => false
  | .ref _ => false
  | _ => true
def Sp11 (Φ : Phi) : Prop := ∀ d : D, isImm d = true → plainD d = true → Rt Φ 11 [d] (.bl (isIntD d))
theorem sp11 {Φ Φ' : Phi} (e : Φ' 11 = evD Φ b11) : Sp11 Φ' := fun d hi hp => rt_of e (by simp only [isImms, hi, Bool.and_true]) (by
  unfold b11
  cases d <;> first | (cases hp; done) | skip
  all_goals walk_at "sg"
  all_goals exact imm_of rfl)
def Sp12 (Φ : Phi) : Prop := ∀ (q : Rat) (t b : Int) (m n : Nat), Sz q m → Lt2 t n → Lt2 b n → m < 19999 → m + n < 1000000 → Rt Φ 12 [qD q, .int t, .int b] (.bl (decide (q.num * b = t * q.den)))
theorem sp12 {Φ Φ' : Phi} (e : Φ' 12 = evD Φ b12) (h8 : Sp8 Φ) (h11 : Sp11 Φ) : Sp12 Φ' := fun q t b m n hq ht hb hm hn => rt_of e rfl (by
  have a1 : Rt Φ 11 [.int q.num] (.bl true) := h11 (.int q.num) rfl rfl
  have a2 : Rt Φ 11 [.int (q.den : Nat)] (.bl true) := h11 (.int (q.den : Nat)) rfl rfl
  have a3 := h8 q.num (q.den : Nat) (hq.2.mono (by omega))
  have a4 : Int.gcd q.num (q.den : Nat) = 1 := q.reduced
  rw [a4] at a3
  have a5 : ¬ ((q.den : Nat) : Int) < 1 := by
    have := q.den_pos
    omega
  have a6 := mulOk_of hq.1 hb hn
  have a7 := mulOk_of ht hq.2 (by omega)
  unfold b12
  walk_at "sgh"
  simp only [decide_true, Bool.not_true, Bool.false_eq_true, if_false, Int.natCast_one]
  walk_at "sgh"
  exact imm_of rfl)
end Sg

namespace Sg
open PySem
mutual
def dOk (N : Nat) : D → Prop
  | .non => True
  | .bl _ => True
  | .int i => Lt2 i N
  | .str x => x.length ≤ LIM
  | .tup xs => dOks N xs
  | .lst xs => dOks N xs
  | .fro _ => False
  | .dct _ _ _ => False
  | .exo _ => False
  | .ktp _ => False
  | .ref _ => False
def dOks (N : Nat) : List D → Prop
  | [] => True
  | x :: xs => dOk N x ∧ dOks N xs
end
mutual
theorem dOk_imm {N : Nat} : (d : D) → dOk N d → isImm d = true
  | .non, _ => rfl
  | .bl _, _ => rfl
  | .int _, _ => rfl
  | .str _, _ => rfl
  | .tup xs, h => by rw [isImm]; exact dOks_imm xs (by rw [dOk] at h; exact h)
  | .lst xs, h => by rw [isImm]; exact dOks_imm xs (by rw [dOk] at h; exact h)
  | .fro _, h => by rw [dOk] at h; exact h.elim
  | .dct _ _ _, h => by rw [dOk] at h; exact h.elim
  | .exo _, h => by rw [dOk] at h; exact h.elim
  | .ktp _, h => by rw [dOk] at h; exact h.elim
  | .ref _, h => by rw [dOk] at h; exact h.elim
theorem dOks_imm {N : Nat} : (ds : List D) → dOks N ds → isImms ds = true
  | [], _ => rfl
  | x :: xs, h => by
    rw [dOks] at h
    rw [isImms, dOk_imm x h.1, dOks_imm xs h.2]; rfl
end
theorem dOks_of {N : Nat} : ∀ {ds : List D}, (∀ d ∈ ds, dOk N d) → dOks N ds
  | [], _ => by rw [dOks]; trivial
  | x :: xs, h => by
    rw [dOks]
    exact ⟨h x List.mem_cons_self, dOks_of fun d hd => h d (List.mem_cons_of_mem _ hd)⟩
theorem dOk_plain {N : Nat} {d : D} (h : dOk N d) : plainD d = true := by
  cases d <;> first | rfl | (rw [dOk] at h; exact h.elim)
theorem dOk_q {N : Nat} {q : Rat} (h : Sz q N) : dOk N (qD q) := by
  unfold qD
  simp only [dOk, dOks, and_true]
  exact h
def SzR (N : Nat) (r : List Rat) : Prop := ∀ q ∈ r, Sz q N
def SzT (N : Nat) (t : List (List Rat)) : Prop := ∀ r ∈ t, SzR N r
theorem dOk_row {N : Nat} {r : List Rat} (h : SzR N r) : dOk N (rowD r) := by
  unfold rowD
  rw [dOk]
  exact dOks_of fun d hd => by
    obtain ⟨q, hq, rfl⟩ := List.mem_map.mp hd
    exact dOk_q (h q hq)
theorem dOk_tab {N : Nat} {t : List (List Rat)} (h : SzT N t) : dOk N (tabD t) := by
  unfold tabD
  rw [dOk]
  exact dOks_of fun d hd => by
    obtain ⟨r, hr, rfl⟩ := List.mem_map.mp hd
    exact dOk_row (h r hr)
def Sp16 (Φ : Phi) : Prop := ∀ d : D, isImm d = true → plainD d = true → Rt Φ 16 [d] (.bl (isIntD d))
theorem sp16 {Φ Φ' : Phi} (e : Φ' 16 = evD Φ b16) : Sp16 Φ' := fun d hi hp => rt_of e (by simp only [isImms, hi, Bool.and_true]) (by
  unfold b16
  cases d <;> first | (cases hp; done) | skip
  all_goals walk_at "sg"
  all_goals exact imm_of rfl)
def isFracD : D → Bool
  | .tup [.int a, .int b] => decide (1 ≤ b) && decide (Int.gcd a b = 1)
  | _ => false
theorem isFracD_q (q : Rat) : isFracD (qD q) = true := by
  have h1 : (1 : Int) ≤ (q.den : Nat) := by
    have := q.den_pos
    omega
  have h2 : Int.gcd q.num (q.den : Nat) = 1 := q.reduced
  show (decide _ && decide _) = true
  rw [decide_eq_true h1, decide_eq_true h2]
  rfl
def Sp17 (Φ : Phi) : Prop := ∀ d : D, dOk 8990 d → Rt Φ 17 [d] (.bl (isFracD d))
theorem isInt_cases (d : D) : (∃ i, d = .int i) ∨ (isIntD d = false ∧ ∀ i, d ≠ .int i) := by
  cases d with
  | int i => exact .inl ⟨i, rfl⟩
  | _ => exact .inr ⟨rfl, fun i h => by cases h⟩
theorem sp17 {Φ Φ' : Phi} (e : Φ' 17 = evD Φ b17) (h1 : Sp1 Φ) (h16 : Sp16 Φ) : Sp17 Φ' := fun d hd => rt_of e (by simp only [isImms, dOk_imm d hd, Bool.and_true]) (by
  unfold b17
  cases d <;> first | (rw [dOk] at hd; exact hd.elim) | skip
  case tup xs =>
    rw [dOk] at hd
    walk_at "sg"
    by_cases hl : ((xs.length : Nat) : Int) = 2
    · match xs, hl with
      | [x, y], _ =>
        rw [dOks, dOks] at hd
        have hx := h16 x (dOk_imm x hd.1) (dOk_plain hd.1)
        have hy := h16 y (dOk_imm y hd.2.1) (dOk_plain hd.2.1)
        walk_at "sgh"
        rcases isInt_cases x with ⟨a, rfl⟩ | ⟨ex, nx⟩
        · rcases isInt_cases y with ⟨b, rfl⟩ | ⟨ey, ny⟩
          · rw [show isIntD (.int a) = true from rfl, show isIntD (.int b) = true from rfl]
            walk_at "sg"
            by_cases hb : b < 1
            · rw [if_pos hb]
              walk_at "sg"
              rw [imm_of rfl]
              show _ = some (D.bl (decide _ && decide _))
              rw [decide_eq_false (show ¬ (1 ≤ b) by omega)]
              rfl
            · have hg := h1 a b (Lt2.mono (by have := hd.2.1; rw [dOk] at this; exact this) (by decide))
              walk_at "sgh"
              show _ = some (D.bl (decide _ && decide _))
              rw [decide_eq_true (show 1 ≤ b by omega), Bool.true_and, imm_of rfl]
              congr 2
              rw [decide_eq_decide]
              omega
          · rw [show isIntD (.int a) = true from rfl, ey]
            walk_at "sg"
            rw [imm_of rfl]
            cases y <;> first | rfl | exact absurd rfl (ny _)
        · rw [ex]
          walk_at "sg"
          rw [imm_of rfl]
          cases x <;> first | rfl | exact absurd rfl (nx _)
    · walk_at "sgh"
      rw [imm_of rfl]
      match xs, hl with
      | [], _ => rfl
      | [z], _ => cases z <;> rfl
      | [_, _], hl => exact absurd rfl hl
      | _ :: _ :: _ :: _, _ => simp [isFracD]
  all_goals walk_at "sg"
  all_goals exact imm_of rfl)
def rowOfD (n : Nat) : D → Bool
  | .lst xs => decide (xs.length = n) && xs.all isFracD
  | _ => false
theorem W_allB {M : List Cell} {Q : D → List Cell → Prop} {X : Nat → List Cell → Prop} {α : Type} {f : α → Bool} {xs : List α} : W (bi .all [.lst (xs.map fun x => D.bl (f x))] M) Q X = Q (.bl (xs.all f)) M := by
  have e : blsOf (xs.map fun x => D.bl (f x)) = some (xs.map f) := by
    induction xs with
    | nil => rfl
    | cons x xs ih => rw [List.map_cons, blsOf, ih]; rfl
  show V (match (content M (.lst (xs.map fun x => D.bl (f x)))).bind blsOf with
    | some r => R.ok (.bl (r.all id)) M
    | none => R.bad) Q X = _
  rw [show content M (.lst (xs.map fun x => D.bl (f x))) = some (xs.map fun x => D.bl (f x)) from rfl, Option.bind_some, e]
  show Q (.bl ((xs.map f).all id)) M = _
  rw [List.all_map]
  rfl
def isTabD : D → Bool
  | .lst (.lst r :: rs) => decide (rs.length + 1 ≤ 7) && (decide (1 ≤ r.length) && (decide (r.length ≤ 7) && (D.lst r :: rs).all (rowOfD r.length)))
  | _ => false
def okTb (d : D) : Prop := dOk 8990 d ∧ (∀ r rs, d = .lst (r :: rs) → ∀ x ∈ r :: rs, ∀ ys, x = .lst ys → ys.length ≤ 15000000) ∧ (∀ xs, d = .lst xs → xs.length ≤ 15000000)
def Sp45 (Φ : Phi) : Prop := ∀ d : D, okTb d → (isTabD d = true → Rt Φ 45 [d] .non) ∧ (isTabD d = false → Xc Φ 45 [d] 2)
/-- so many fractions rows and columns -/
structure Tab (N m n : Nat) (t : List (List Rat)) : Prop where
  len : t.length = m
  row : ∀ r ∈ t, r.length = n
  m1 : 1 ≤ m
  m7 : m ≤ 7
  n1 : 1 ≤ n
  n7 : n ≤ 7
  sz : SzT N t
theorem SzR.mono {N N' : Nat} {r : List Rat} (h : SzR N r) (k : N ≤ N') : SzR N' r := fun q hq => (h q hq).mono k
theorem SzT.mono {N N' : Nat} {t : List (List Rat)} (h : SzT N t) (k : N ≤ N') : SzT N' t := fun r hr => (h r hr).mono k
theorem Tab.mono {N N' m n : Nat} {t : List (List Rat)} (h : Tab N m n t) (k : N ≤ N') : Tab N' m n t := ⟨h.len, h.row, h.m1, h.m7, h.n1, h.n7, h.sz.mono k⟩
theorem rowOfD_row {n : Nat} {r : List Rat} (h : r.length = n) : rowOfD n (rowD r) = true := by
  show (decide ((r.map qD).length = n) && (r.map qD).all isFracD) = true
  rw [List.length_map, decide_eq_true h, Bool.true_and, List.all_map, List.all_eq_true]
  intro q _
  exact isFracD_q q
theorem Tab.isTab {N m n : Nat} {t : List (List Rat)} (h : Tab N m n t) : isTabD (tabD t) = true := by
  obtain ⟨h1, h2, h3, h4, h5, h6, _⟩ := h
  cases t with
  | nil =>
    rw [List.length_nil] at h1
    omega
  | cons r rs =>
    have hr := h2 r List.mem_cons_self
    show (decide ((rs.map rowD).length + 1 ≤ 7) && (decide (1 ≤ (r.map qD).length) && (decide ((r.map qD).length ≤ 7) && ((r :: rs).map rowD).all (rowOfD (r.map qD).length)))) = true
    rw [List.length_cons] at h1
    rw [List.length_map, List.length_map, hr, decide_eq_true (by omega), decide_eq_true h5, decide_eq_true h6, Bool.true_and, Bool.true_and, Bool.true_and, List.all_map, List.all_eq_true]
    intro x hx
    exact rowOfD_row (h2 x hx)
theorem okT_lst {xs : List D} (h : dOks 8990 xs) (h1 : xs.length ≤ 15000000) (h2 : ∀ x ∈ xs, ∀ ys, x = .lst ys → ys.length ≤ 15000000) : okTb (.lst xs) := by
  refine ⟨by rw [dOk]; exact h, fun r rs e x hx => ?_, fun ys e => by cases e; exact h1⟩
  cases e
  exact h2 x hx
theorem Tab.okTb {N m n : Nat} {t : List (List Rat)} (h : Tab N m n t) (hN : N ≤ 8990) : okTb (tabD t) := by
  refine okT_lst ?_ ?_ ?_
  · have := dOk_tab (h.sz.mono hN)
    rw [tabD, dOk] at this
    exact this
  · rw [List.length_map, h.len]
    have := h.m7
    omega
  · intro x hx ys e
    obtain ⟨r, hr, rfl⟩ := List.mem_map.mp hx
    cases e
    rw [List.length_map, h.row r hr]
    have := h.n7
    omega
theorem Sp45.ok {Φ : Phi} (h : Sp45 Φ) {N m n : Nat} {t : List (List Rat)} (ht : Tab N m n t) (hN : N ≤ 8990) : Rt Φ 45 [tabD t] .non := (h _ (ht.okTb hN)).1 ht.isTab
def chkD (many : Int) : Int → List D → Bool
  | _, [] => true
  | last, .int i :: xs => !(decide (i ≤ last)) && (!(decide (many ≤ i)) && chkD many i xs)
  | _, _ => false
def isChoiceD (many : Int) : D → Bool
  | .lst xs => !(xs.isEmpty) && chkD many (-1) xs
  | _ => false
/-- rising, each less than many -/
def Choice (many : Nat) (ns : List Nat) : Prop := ns ≠ [] ∧ ns.Pairwise (· < ·) ∧ ∀ n ∈ ns, n < many
theorem chkD_nats {many : Nat} : ∀ {ns : List Nat} {last : Int}, ns.Pairwise (· < ·) → (∀ n ∈ ns, n < many) → (∀ n ∈ ns, last < (n : Nat)) → chkD many last (ns.map natD) = true
  | [], _, _, _, _ => rfl
  | n :: ns, last, hp, hm, hl => by
    rw [List.map_cons]
    show (!(decide (((n : Nat) : Int) ≤ last)) && (!(decide ((many : Int) ≤ (n : Nat))) && chkD many (n : Nat) (ns.map natD))) = true
    have h1 := hl n List.mem_cons_self
    have h2 := hm n List.mem_cons_self
    rw [List.pairwise_cons] at hp
    rw [decide_eq_false (by omega), decide_eq_false (by omega), chkD_nats hp.2 (fun k hk => hm k (List.mem_cons_of_mem _ hk)) (fun k hk => by have := hp.1 k hk; omega)]
    rfl
theorem Choice.is {many : Nat} {ns : List Nat} (h : Choice many ns) : isChoiceD many (natsD ns) = true := by
  show (!((ns.map natD).isEmpty) && chkD many (-1) (ns.map natD)) = true
  rw [chkD_nats h.2.1 h.2.2 (fun n _ => by omega), Bool.and_true]
  cases ns with
  | nil => exact absurd rfl h.1
  | cons _ _ => rfl
def ent (t : List (List Rat)) (i j : Nat) : Rat := ((t.getD i []).getD j 0)
def part (t : List (List Rat)) (rows cols : List Nat) : List (List Rat) := rows.map fun i => cols.map fun j => ent t i j
theorem getD_mem {α : Type} {xs : List α} {i : Nat} {d : α} (h : i < xs.length) : xs.getD i d ∈ xs := by
  rw [List.getD_eq_getElem?_getD, List.getElem?_eq_getElem h]
  exact List.getElem_mem h
theorem Choice.len {many : Nat} {ns : List Nat} (h : Choice many ns) : ns.length ≤ many := by
  have key : ∀ (ns : List Nat) (lo : Nat), ns.Pairwise (· < ·) → (∀ n ∈ ns, n < many) → (∀ n ∈ ns, lo ≤ n) → lo ≤ many → lo + ns.length ≤ many := fun ns => by
    induction ns with
    | nil => intro lo _ _ _ h; exact h
    | cons n ns ih =>
      intro lo hp hm hl hlo
      rw [List.pairwise_cons] at hp
      have h1 := ih (n + 1) hp.2 (fun k hk => hm k (List.mem_cons_of_mem _ hk)) (fun k hk => hp.1 k hk) (hm n List.mem_cons_self)
      have h2 := hl n List.mem_cons_self
      rw [List.length_cons]
      omega
  have := key ns 0 h.2.1 h.2.2 (fun _ _ => Nat.zero_le _) (Nat.zero_le _)
  omega
theorem W_compUp {M : List Cell} {X : Nat → List Cell → Prop} {QL : List D → List Cell → Prop} {g : Nat → D} {step : D → List Cell → R (Option D)} {n : Nat}
    (h : ∀ i, i < n → W (step (.int (i : Nat)) M) (fun y M' => y = some (g i) ∧ M' = M) fun _ _ => False) (hq : QL ((List.range n).map g) M) : W (compL step (upTo 0 n) M) QL X := by
  rw [upTo_eq]
  refine W_compM (g := g) (fun i hi => ?_) hq
  rw [Int.zero_add]
  exact h i (List.mem_range.mp hi)
theorem getD_nat {xs : List Int} {i : Nat} (h : i < xs.length) : (xs.map D.int)[i]? = some (.int (xs.getD i 0)) := by
  rw [List.getElem?_map, List.getElem?_eq_getElem h, List.getD_eq_getElem?_getD, List.getElem?_eq_getElem h]; rfl
theorem InB.getD {xs bs : List Int} {i : Nat} (h : InB xs bs) (hi : i < bs.length) : 0 ≤ xs.getD i 0 := by
  have hl := h.len
  have := h.get (i := i) (by omega) hi
  rw [List.getD_eq_getElem?_getD, List.getElem?_eq_getElem (by omega)]
  exact this.1
theorem Sp10.fn {Φ : Phi} (h : Sp10 Φ) (k : Int) : ∃ f : Int → Rat, (∀ p, Sz (f p) (kN k)) ∧ ∀ p, 0 ≤ p → Rt Φ 10 [.int k, .int p] (qD (f p)) := by
  have key : ∀ p : Int, ∃ q : Rat, Sz q (kN k) ∧ (0 ≤ p → Rt Φ 10 [.int k, .int p] (qD q)) := fun p => by
    by_cases hp : 0 ≤ p
    · obtain ⟨q, h1, h2⟩ := h k p hp
      exact ⟨q, h1, fun _ => h2⟩
    · exact ⟨0, ⟨lt2_zero, (lt2_nat (m := 1) (by decide)).mono (by unfold kN; split <;> decide)⟩, fun z => absurd z hp⟩
  exact ⟨fun p => Classical.choose (key p), fun p => (Classical.choose_spec (key p)).1, fun p => (Classical.choose_spec (key p)).2⟩
end Sg

namespace Sg
open PySem
end Sg

namespace Sg
open PySem
section
variable {M : List Cell} {Q : D → List Cell → Prop} {X : Nat → List Cell → Prop}
end
end Sg

namespace Sg
open PySem
section
variable {M : List Cell} {Q : D → List Cell → Prop} {X : Nat → List Cell → Prop}
end
end Sg

namespace Sg
open PySem
section
variable {M : List Cell} {Q : D → List Cell → Prop} {X : Nat → List Cell → Prop}
end
end Sg

namespace Sg
open PySem TL
/-- the text of a whole number -/
def iS (i : Int) : Str := Str.ofString (toString i)
theorem iS_nat (n : Nat) : tl (iS (n : Nat)) = numL n := tl_num n
theorem tl_app (x y : Str) : tl (x ++ y) = tl x ++ tl y := tl_append x y
theorem ofString_append (a b : String) : tl (Str.ofString (a ++ b)) = tl (Str.ofString a) ++ tl (Str.ofString b) := by
  rw [tl_ofString, tl_ofString, tl_ofString, String.toList_append, List.map_append]
theorem iS_neg {n : Nat} (h : n ≠ 0) : tl (iS (-(n : Nat) : Int)) = 45 :: numL n := by
  obtain ⟨m, rfl⟩ := Nat.exists_eq_succ_of_ne_zero h
  have e : toString (-((m + 1 : Nat) : Int)) = "-" ++ toString ((m + 1 : Nat) : Int) := rfl
  unfold iS
  rw [show (-((Nat.succ m : Nat) : Int)) = -((m + 1 : Nat) : Int) from rfl, e, ofString_append, tl_num]
  rfl
def wsig (i : Int) : List Nat := if i < 0 then 45 :: numL i.natAbs else numL i.natAbs
theorem tl_iS (i : Int) : tl (iS i) = wsig i := by
  unfold wsig
  split
  · rename_i h
    have := iS_neg (n := i.natAbs) (by omega)
    rw [show -((i.natAbs : Nat) : Int) = i by omega] at this
    exact this
  · rename_i h
    have := iS_nat i.natAbs
    rw [show ((i.natAbs : Nat) : Int) = i by omega] at this
    exact this
theorem numL_sign {n s : Nat} (h : s ∈ numL n) : 48 ≤ s ∧ s ≤ 57 := numL_digits n s h
theorem wsig_sign {i : Int} {s : Nat} (h : s ∈ wsig i) : s = 45 ∨ (48 ≤ s ∧ s ≤ 57) := by
  unfold wsig at h
  split at h
  · rcases List.mem_cons.mp h with rfl | h
    · exact .inl rfl
    · exact .inr (numL_sign h)
  · exact .inr (numL_sign h)
/-- no nought ahead -/
theorem numL_head (n : Nat) : 1 < (numL n).length → (numL n).head? ≠ some 48 := by
  induction n using Nat.strongRecOn with
  | _ n ih =>
    intro hl
    by_cases h : n < 10
    · rw [numL_lt h] at hl; simp at hl
    · rw [numL_step (by omega)]
      have hne := numL_ne (n / 10)
      by_cases h2 : 1 < (numL (n / 10)).length
      · have := ih (n / 10) (by omega) h2
        rw [List.head?_append]
        cases e : (numL (n / 10)).head? with
        | none => exact absurd (List.head?_eq_none_iff.mp e) hne
        | some x => rw [e] at this; simpa using this
      · have h3 : n / 10 < 10 := by
          by_cases h4 : n / 10 < 10
          · exact h4
          · rw [numL_step (by omega)] at h2
            have := List.length_pos_iff.mpr (numL_ne (n / 10 / 10))
            rw [List.length_append, List.length_singleton] at h2
            omega
        rw [numL_lt h3]
        simp
        omega
def figsL (l : List Nat) : Bool := !l.isEmpty && (!(decide (1 < l.length) && l.head? == some 48) && l.all fun c => decide (48 ≤ c) && decide (c ≤ 57))
theorem figs_num (n : Nat) : figsL (numL n) = true := by
  unfold figsL
  have h1 := numL_ne n
  have h2 := numL_head n
  have h3 : (numL n).all (fun c => decide (48 ≤ c) && decide (c ≤ 57)) = true := by
    rw [List.all_eq_true]
    intro c hc
    have := numL_sign hc
    simp [this.1, this.2]
  rw [h3]
  simp only [Bool.and_true, Bool.and_eq_true, Bool.not_eq_true', Bool.and_eq_false_iff, decide_eq_false_iff_not]
  refine ⟨by simpa using h1, ?_⟩
  by_cases h : 1 < (numL n).length
  · right
    simpa using h2 h
  · exact .inl h
abbrev valL (l : List Nat) : Nat := NumText.digitsVal l
/-- what writes a whole number -/
def wholL (l : List Nat) : Option Int := match l with
  | 45 :: r => if figsL r = true ∧ valL r ≠ 0 then some (-(valL r : Int)) else none
  | l => if figsL l = true then some (valL l : Int) else none
theorem whol_wsig (i : Int) : wholL (wsig i) = some i := by
  unfold wsig
  split
  · rename_i h
    show (if figsL (numL i.natAbs) = true ∧ valL (numL i.natAbs) ≠ 0 then some (-(valL (numL i.natAbs) : Int)) else none) = _
    unfold valL
    rw [numL_val, if_pos ⟨figs_num _, by omega⟩]
    congr 1; omega
  · rename_i h
    have h1 : (numL i.natAbs).head? ≠ some 45 := fun e => by
      have := numL_sign (List.mem_of_mem_head? e)
      omega
    have : wholL (numL i.natAbs) = if figsL (numL i.natAbs) = true then some (valL (numL i.natAbs) : Int) else none := by
      unfold wholL
      split
      · rename_i r e
        rw [e] at h1; simp at h1
      · rfl
    rw [this, if_pos (figs_num _)]
    unfold valL
    rw [numL_val]
    congr 1; omega
/-- the text of a number -/
def shS (q : Rat) : Str := if q.den = 1 then iS q.num else iS q.num ++ "/" ++ iS (q.den : Nat)
theorem tl_slash : tl ("/" : Str) = [47] := rfl
theorem tl_blank : tl (" " : Str) = [32] := rfl
theorem tl_end : tl ("\n" : Str) = [10] := rfl
theorem tl_shS (q : Rat) : tl (shS q) = wsig q.num ++ (if q.den = 1 then [] else 47 :: numL q.den) := by
  unfold shS
  split
  · rw [tl_iS, List.append_nil]
  · rw [tl_app, tl_app, tl_iS, tl_slash, iS_nat, List.append_assoc]; rfl
theorem shS_sign {q : Rat} {s : Nat} (h : s ∈ tl (shS q)) : s = 45 ∨ s = 47 ∨ (48 ≤ s ∧ s ≤ 57) := by
  rw [tl_shS] at h
  rcases List.mem_append.mp h with h | h
  · rcases wsig_sign h with h | h
    · exact .inl h
    · exact .inr (.inr h)
  · split at h
    · cases h
    · rcases List.mem_cons.mp h with h | h
      · exact .inr (.inl h)
      · exact .inr (.inr (numL_sign h))
theorem numL_len2 {n m : Nat} (h : n < 2 ^ m) : (numL n).length ≤ m / 3 + 1 := by
  refine numL_len (by omega) ?_
  refine Nat.lt_of_lt_of_le h ?_
  have h1 : 2 ^ m ≤ 2 ^ (3 * (m / 3 + 1)) := Nat.pow_le_pow_right (by decide) (by omega)
  have h2 : 2 ^ (3 * (m / 3 + 1)) = 8 ^ (m / 3 + 1) := by rw [Nat.pow_mul]
  have h3 : 8 ^ (m / 3 + 1) ≤ 10 ^ (m / 3 + 1) := Nat.pow_le_pow_left (by decide) _
  omega
theorem wsig_len {i : Int} {m : Nat} (h : Lt2 i m) : (wsig i).length ≤ m / 3 + 2 := by
  have := numL_len2 (n := i.natAbs) h
  unfold wsig
  split
  · rw [List.length_cons]; omega
  · omega
theorem shS_len {q : Rat} {m : Nat} (h : Sz q m) : (shS q).length ≤ 2 * (m / 3) + 4 := by
  rw [len_tl, tl_shS, List.length_append]
  have h1 := wsig_len h.1
  have h2 := numL_len2 (n := q.den) (m := m) (by have := h.2; unfold Lt2 at this; simpa using this)
  split
  · simp; omega
  · rw [List.length_cons]; omega
theorem cuts_free {s : Nat} {x : Str} (h : s ∉ tl x) : cuts s x = [x] := by
  unfold cuts
  rw [spl_last1 h]
  exact congrArg (fun y => [y]) (mk_tl x)
theorem cuts_join {s : Nat} {y : Str} (ey : tl y = [s]) {parts : List Str} (hne : parts ≠ []) (hp : ∀ p ∈ parts, s ∉ tl p) : cuts s (Txt.join y parts) = parts := by
  unfold cuts
  refine map_tl_inj ?_
  rw [List.map_map, show (tl ∘ fun l : List Nat => (⟨l.toArray⟩ : Str)) = id from rfl, List.map_id, join_eq, tl_join, ey]
  refine spl_join (fun e => hne (List.map_eq_nil_iff.mp e)) fun p h => ?_
  obtain ⟨z, hz, rfl⟩ := List.mem_map.mp h
  exact hp z hz
theorem join2 (y a b : Str) : Txt.join y [a, b] = a ++ y ++ b := by
  refine ext_tl ?_
  rw [join_eq, tl_join, tl_app, tl_app]
  show tl a ++ (tl y ++ tl b) = _
  rw [List.append_assoc]
/-- the number that a text writes -/
def numT (x : Str) : Option (Int × Nat) := match cuts 47 x with
  | [_] => (wholL (tl x)).map fun i => (i, 1)
  | [a, b] => (wholL (tl a)).bind fun i => if figsL (tl b) = true ∧ 2 ≤ valL (tl b) ∧ Int.gcd i (valL (tl b)) = 1 then some (i, valL (tl b)) else none
  | _ => none
theorem iS_free {i : Int} {s : Nat} (h : s ≠ 45 ∧ ¬ (48 ≤ s ∧ s ≤ 57)) : s ∉ tl (iS i) := fun z => by
  rw [tl_iS] at z
  rcases wsig_sign z with z | z
  · exact h.1 z
  · exact h.2 z
theorem cuts_shS (q : Rat) : cuts 47 (shS q) = if q.den = 1 then [iS q.num] else [iS q.num, iS (q.den : Nat)] := by
  unfold shS
  split
  · exact cuts_free (iS_free ⟨by decide, by decide⟩)
  · rw [← join2]
    refine cuts_join tl_slash (by simp) fun p hp => ?_
    rcases List.mem_cons.mp hp with rfl | hp
    · exact iS_free ⟨by decide, by decide⟩
    · rw [List.mem_singleton.mp hp]
      exact iS_free ⟨by decide, by decide⟩
theorem numT_shS (q : Rat) : numT (shS q) = some (q.num, q.den) := by
  unfold numT
  rw [cuts_shS]
  by_cases h : q.den = 1
  · rw [if_pos h]
    have : shS q = iS q.num := by unfold shS; rw [if_pos h]
    show (wholL (tl (shS q))).map _ = _
    rw [this, tl_iS, whol_wsig, h]; rfl
  · rw [if_neg h]
    show (wholL (tl (iS q.num))).bind _ = _
    rw [tl_iS, whol_wsig, Option.bind_some, iS_nat]
    unfold valL
    rw [numL_val, if_pos ⟨figs_num _, by have := q.den_pos; omega, by have := q.reduced; exact this⟩]
theorem joinL_mem {S : List Nat} : ∀ {ps : List (List Nat)} {s : Nat}, s ∈ joinL S ps → s ∈ S ∨ ∃ p ∈ ps, s ∈ p
  | [], _, h => by cases h
  | [p], _, h => .inr ⟨p, List.mem_singleton.mpr rfl, h⟩
  | p :: q :: r, s, h => by
    have h : s ∈ p ++ (S ++ joinL S (q :: r)) := h
    rcases List.mem_append.mp h with h | h
    · exact .inr ⟨p, List.mem_cons_self, h⟩
    · rcases List.mem_append.mp h with h | h
      · exact .inl h
      · rcases joinL_mem h with h | ⟨p', hp, h⟩
        · exact .inl h
        · exact .inr ⟨p', List.mem_cons_of_mem _ hp, h⟩
theorem joinL_len {S : List Nat} : ∀ ps : List (List Nat), (joinL S ps).length ≤ (ps.map List.length).sum + ps.length * S.length
  | [] => by simp [joinL]
  | [p] => by simp [joinL]
  | p :: q :: r => by
    have := joinL_len (S := S) (q :: r)
    show (p ++ (S ++ joinL S (q :: r))).length ≤ _
    rw [List.length_append, List.length_append, List.map_cons, List.sum_cons, List.length_cons, Nat.succ_mul]
    omega
theorem join_len (y : Str) (ps : List Str) : (Txt.join y ps).length ≤ jlen y ps := by
  rw [len_tl, join_eq, tl_join]
  refine Nat.le_trans (joinL_len _) ?_
  unfold jlen
  rw [List.map_map, List.length_map, ← len_tl]
  refine Nat.le_of_eq ?_
  congr 2
theorem jlen_le {y : Str} {ps : List Str} {B : Nat} (h : ∀ p ∈ ps, p.length ≤ B) : jlen y ps ≤ ps.length * (B + y.length) := by
  unfold jlen
  rw [Nat.mul_add]
  have : (ps.map (·.length)).sum ≤ ps.length * B := by
    induction ps with
    | nil => simp
    | cons p ps ih =>
      rw [List.map_cons, List.sum_cons, List.length_cons, Nat.succ_mul]
      have h1 := ih fun q hq => h q (List.mem_cons_of_mem _ hq)
      have h2 := h p List.mem_cons_self
      omega
  omega
end Sg

namespace Sg
open PySem
theorem zipD_get : ∀ {xs ys : List D} {i : Nat}, (zipD xs ys)[i]? = (xs[i]?).bind fun x => (ys[i]?).map fun y => .tup [x, y]
  | [], ys, i => by cases i <;> rfl
  | x :: xs, [], i => by
    cases i with
    | zero => rfl
    | succ i =>
      rw [show zipD (x :: xs) [] = [] from rfl]
      simp
  | x :: xs, y :: ys, 0 => rfl
  | x :: xs, y :: ys, i + 1 => by rw [zipD, List.getElem?_cons_succ, List.getElem?_cons_succ, List.getElem?_cons_succ, zipD_get]
theorem zipD_len : ∀ {xs ys : List D}, (zipD xs ys).length = min xs.length ys.length
  | [], ys => by rw [show zipD [] ys = [] from by cases ys <;> rfl]; simp
  | x :: xs, [] => by rw [show zipD (x :: xs) [] = [] from rfl]; simp
  | x :: xs, y :: ys => by rw [zipD, List.length_cons, List.length_cons, List.length_cons, zipD_len]; omega
section
variable {α β : Type} {f : α → D} {g : β → D} {xs : List α} {ys : List β} {M : List Cell} {X : Nat → List Cell → Prop}
theorem zipD_map (hl : xs.length = ys.length) {i : Nat} {d : D} (h : (zipD (xs.map f) (ys.map g))[i]? = some d) : ∃ (h1 : i < xs.length) (h2 : i < ys.length), d = .tup [f xs[i], g ys[i]] := by
  rw [zipD_get, List.getElem?_map, List.getElem?_map] at h
  cases e1 : xs[i]? with
  | none => rw [e1] at h; cases h
  | some x =>
    cases e2 : ys[i]? with
    | none => rw [e1, e2] at h; cases h
    | some y =>
      rw [e1, e2] at h
      obtain ⟨h1, q1⟩ := List.getElem?_eq_some_iff.mp e1
      obtain ⟨h2, q2⟩ := List.getElem?_eq_some_iff.mp e2
      refine ⟨h1, h2, ?_⟩
      rw [q1, q2]
      exact (Option.some.inj h).symm
theorem for_zip {step : D → St → List Cell → Qr} {σ : St} {QF : Fl → St → List Cell → Prop} (hl : xs.length = ys.length) (I : Nat → St → List Cell → Prop) (h0 : I 0 σ M)
    (hs : ∀ i (h : i < xs.length) (h' : i < ys.length) σ M, I i σ M → WQ (step (.tup [f xs[i], g ys[i]]) σ M) (lpQ QF (I (i + 1))) X) (he : ∀ σ M, I xs.length σ M → QF .nx σ M) : WQ (forL step (zipD (xs.map f) (ys.map g)) σ M) QF X := by
  refine for_inv I h0 (fun i x σ M hx hi => ?_) (fun σ M h => he σ M ?_)
  · obtain ⟨h1, h2, rfl⟩ := zipD_map hl hx
    exact hs i h1 h2 σ M hi
  · rw [zipD_len, List.length_map, List.length_map, ← hl, Nat.min_self] at h
    exact h
end
theorem listOf_ref {M : List Cell} {i : Nat} {m : Bool} {xs : List D} (h : M[i]? = some ⟨m, .lst xs⟩) : listOf M (.ref i) = some xs := by
  show (match M[i]? with
    | some ⟨_, .lst xs⟩ => some xs
    | _ => none) = some xs
  rw [h]
theorem mcell_of {M : List Cell} {i : Nat} {xs : List D} {P : List D → Prop} (h : M[i]? = some ⟨true, .lst xs⟩) : mcell M i P = P xs := by
  rw [← mcell_eq]
  simp only [h]
def dot (row : List Rat) (other : List (List Rat)) (j : Nat) : Nat → Rat
  | 0 => 0
  | k + 1 => dot row other j k + row.getD k 0 * ent other k j
def mulRow (row : List Rat) (other : List (List Rat)) (w k : Nat) : List Rat := (List.range w).map fun j => dot row other j k
def mulT (one other : List (List Rat)) (w : Nat) : List (List Rat) := one.map fun row => mulRow row other w row.length
theorem Tab.entSz {N m n : Nat} {t : List (List Rat)} (h : Tab N m n t) {i j : Nat} (hi : i < m) (hj : j < n) : Sz (ent t i j) N := by
  have h1 : i < t.length := by rw [h.len]; exact hi
  have h2 := getD_mem (d := ([] : List Rat)) h1
  have h3 : j < (t.getD i []).length := by rw [h.row _ h2]; exact hj
  exact h.sz _ h2 _ (getD_mem h3)
theorem dot_sz {A B m n w : Nat} {row : List Rat} {other : List (List Rat)} (hr : SzR A row) (hl : row.length = n) (ho : Tab B n w other) {j : Nat} (hj : j < w) : ∀ k, k ≤ n → Sz (dot row other j k) (k * (A + B + 1) + 1)
  | 0, _ => by
    show Sz 0 _
    exact ⟨lt2_zero, (lt2_nat (m := 1) (by decide)).mono (by omega)⟩
  | k + 1, hk => by
    have h1 := dot_sz (m := m) hr hl ho hj k (by omega)
    have h2 := hr _ (getD_mem (d := (0 : Rat)) (show k < row.length by omega))
    have h3 := ho.entSz (show k < n by omega) hj
    rw [dot]
    refine (h1.add (h2.mul h3)).mono ?_
    rw [Nat.add_mul]
    omega
end Sg

namespace Sg
open PySem
theorem Sp12.self {Φ : Phi} (h : Sp12 Φ) {q : Rat} {N : Nat} (hq : Sz q N) (h1 : N < 19999) : Rt Φ 12 [qD q, .int q.num, .int (q.den : Nat)] (.bl true) := by
  have := h q q.num (q.den : Nat) N N hq hq.1 hq.2 h1 (by omega)
  rw [decide_eq_true rfl] at this
  exact this
theorem mulT_len {one other : List (List Rat)} {w : Nat} : (mulT one other w).length = one.length := by unfold mulT; rw [List.length_map]
theorem mulRow_len {row : List Rat} {other : List (List Rat)} {w k : Nat} : (mulRow row other w k).length = w := by unfold mulRow; rw [List.length_map, List.length_range]
theorem Tab.mul {A B m n w : Nat} {one other : List (List Rat)} (h1 : Tab A m n one) (h2 : Tab B n w other) : Tab (n * (A + B + 1) + 1) m w (mulT one other w) := by
  refine ⟨by rw [mulT_len]; exact h1.len, fun r hr => ?_, h1.m1, h1.m7, h2.n1, h2.n7, fun r hr q hq => ?_⟩
  · unfold mulT at hr
    obtain ⟨row, _, rfl⟩ := List.mem_map.mp hr
    exact mulRow_len
  · unfold mulT at hr
    obtain ⟨row, hrow, rfl⟩ := List.mem_map.mp hr
    unfold mulRow at hq
    obtain ⟨j, hj, rfl⟩ := List.mem_map.mp hq
    have hl := h1.row row hrow
    rw [hl]
    exact dot_sz (m := m) (h1.sz row hrow) hl h2 (List.mem_range.mp hj) n (Nat.le_refl _)
end Sg

namespace Sg
open PySem TL

theorem strOk_of {x : Str} (h : ∀ c ∈ tl x, c < 256) : PyData.strOk x = true := by
  unfold PyData.strOk
  rw [← Array.all_toList, List.all_eq_true]
  intro c hc
  have := h c hc
  simp only [decide_eq_true_eq]
  omega
theorem W_strZ {Q : D → List Cell → Prop} {X : Nat → List Cell → Prop} {M : List Cell} {i : Int} {m : Nat} (h : Lt2 i m) (hm : m ≤ 1920) : W (bi .str [.int i] M) Q X = Q (.str (iS i)) M := by
  refine W_strI ?_
  unfold Lt2 at h
  exact Nat.lt_of_lt_of_le h (Nat.pow_le_pow_right (by decide) hm)
theorem iS_len {i : Int} {m : Nat} (h : Lt2 i m) : (iS i).length ≤ m / 3 + 2 := by
  rw [len_tl, tl_iS]
  exact wsig_len h
def Sp508 (Φ : Phi) : Prop := ∀ q : Rat, Sz q 1900 → Rt Φ 508 [qD q] (.str (shS q))
theorem show_of {Φ : Phi} {q : Rat} (hq : Sz q 1900) {b : Df} (hb : b = b508) : W (evD Φ b [qD q] []) (fun x M => imm M x = some (.str (shS q))) fun _ _ => False := by
  subst hb
  have h1 := iS_len hq.1
  have h2 := iS_len hq.2
  unfold b508
  walk_at "sg"
  rw [W_strZ hq.1 (by omega)]
  by_cases h : q.den = 1
  · rw [if_pos (by omega)]
    unfold shS
    rw [if_pos h]
    exact imm_of rfl
  · rw [if_neg (by omega)]
    walk_at "sg"
    rw [W_strZ hq.1 (by omega)]
    walk_at "sg"
    rw [W_catS (by rw [show ("/" : Str).length = 1 from rfl]; omega)]
    walk_at "sg"
    rw [W_strZ hq.2 (by omega)]
    walk_at "sg"
    rw [W_catS (by rw [len_tl, tl_app, List.length_append, ← len_tl, ← len_tl, show ("/" : Str).length = 1 from rfl]; omega)]
    unfold shS
    rw [if_neg h]
    exact imm_of rfl
theorem sp508 {Φ Φ' : Phi} (e : Φ' 508 = evD Φ b508) : Sp508 Φ' := fun q hq => rt_of e rfl (show_of hq rfl)
def Sp511 (Φ : Phi) : Prop := (∀ x : Str, Rt Φ 511 [.str x] .non) ∧ ∀ d : D, isImm d = true → plainD d = true → (∀ x, d ≠ .str x) → Xc Φ 511 [d] 14
theorem sp511 {Φ Φ' : Phi} (e : Φ' 511 = evD Φ b511) : Sp511 Φ' := ⟨fun x => rt_of e rfl (by
  unfold b511
  walk_at "sg"
  exact imm_of rfl), fun d hi hp hx => xc_of e (by simp only [isImms, hi, Bool.and_true]) (by
  unfold b511
  cases d <;> first | (cases hp; done) | exact absurd rfl (hx _) | skip
  all_goals walk_at "sg")⟩
theorem signs_for {x : Str} {step : D → St → List Cell → Qr} {σ : St} {M : List Cell} {QF : Fl → St → List Cell → Prop} {X : Nat → List Cell → Prop} (I : Nat → St → List Cell → Prop) (h0 : I 0 σ M)
    (hs : ∀ i (h : i < (tl x).length) σ M, I i σ M → WQ (step (D.str ⟨#[(tl x)[i]]⟩) σ M) (lpQ QF (I (i + 1))) X) (he : ∀ σ M, I (tl x).length σ M → QF .nx σ M) : WQ (forL step (signsD x) σ M) QF X := by
  unfold signsD
  exact for_map I h0 hs he
theorem fig_mem {c : Nat} : c ∈ tl (Str.ofString "0123456789") ↔ 48 ≤ c ∧ c ≤ 57 := by
  rw [show tl (Str.ofString "0123456789") = [48, 49, 50, 51, 52, 53, 54, 55, 56, 57] from rfl]
  simp only [List.mem_cons, List.not_mem_nil, or_false]
  omega
theorem val_lt : ∀ {l : List Nat} {a : Nat}, NumText.AllDigits l → l.foldl (fun acc c => acc * 10 + (c - 48)) a < (a + 1) * 10 ^ l.length
  | [], a, _ => by simp
  | c :: r, a, h => by
    have hc := h c List.mem_cons_self
    have := val_lt (l := r) (a := a * 10 + (c - 48)) fun d hd => h d (List.mem_cons_of_mem _ hd)
    rw [List.foldl_cons, List.length_cons, Nat.pow_succ]
    refine Nat.lt_of_lt_of_le this ?_
    rw [Nat.mul_comm (10 ^ r.length) 10, ← Nat.mul_assoc]
    refine Nat.mul_le_mul_right _ ?_
    omega
theorem figs_all {l : List Nat} (h : figsL l = true) : NumText.AllDigits l ∧ l ≠ [] := by
  unfold figsL at h
  simp only [Bool.and_eq_true, Bool.not_eq_true', List.all_eq_true, decide_eq_true_eq] at h
  exact ⟨fun c hc => h.2.2 c hc, by simpa using h.1⟩
theorem valL_lt {l : List Nat} (h : figsL l = true) (hl : l.length ≤ 640) : valL l < 2 ^ 2560 := by
  have := val_lt (l := l) (a := 0) (figs_all h).1
  unfold valL NumText.digitsVal
  refine Nat.lt_of_lt_of_le this ?_
  rw [Nat.zero_add, Nat.one_mul, show 2560 = 4 * 640 from rfl, Nat.pow_mul]
  exact Nat.le_trans (Nat.pow_le_pow_left (by decide) _) (Nat.pow_le_pow_right (by decide) hl)
def Asc (x : Str) : Prop := ∀ c ∈ tl x, c < 256
def Sp965 (Φ : Phi) : Prop := ∀ x : Str, x.length ≤ 15999990 → (figsL (tl x) = true → x.length ≤ 640) → Asc x → (figsL (tl x) = true → Rt Φ 965 [.str x] (.int (valL (tl x) : Nat))) ∧ (figsL (tl x) = false → Xc Φ 965 [.str x] 14)
theorem sp965 {Φ Φ' : Phi} (e : Φ' 965 = evD Φ b965) : Sp965 Φ' := fun x hx0 hx ha => by
  have hl := len_tl x
  have key : ∀ {QF : D → List Cell → Prop} {X : Nat → List Cell → Prop}, (figsL (tl x) = true → QF (.int (valL (tl x) : Nat)) []) → (figsL (tl x) = false → X 14 []) → W (evD Φ b965 [.str x] []) QF X := fun {QF X} hq hX => by
    have loop : (tl x ≠ []) → ¬ (1 < (tl x).length ∧ (tl x).head? = some 48) → WQ (evSs Φ tail965 [some (.str x), none] []) (retQ QF) X := fun hne hz => by
      have hfg : figsL (tl x) = (tl x).all fun c => decide (48 ≤ c) && decide (c ≤ 57) := by
        unfold figsL
        have h1 : (!(tl x).isEmpty) = true := by simpa using hne
        have h2 : (!(decide (1 < (tl x).length) && (tl x).head? == some 48)) = true := by
          simp only [Bool.not_eq_true', Bool.and_eq_false_iff, decide_eq_false_iff_not]
          by_cases h : 1 < (tl x).length
          · right
            simpa using fun z => hz ⟨h, z⟩
          · exact .inl h
        rw [h1, h2, Bool.true_and, Bool.true_and]
      unfold tail965
      walk_at "sg"
      refine signs_for (fun i σ M => M = [] ∧ (∃ r, σ = [some (.str x), r]) ∧ ∀ c ∈ (tl x).take i, 48 ≤ c ∧ c ≤ 57) ⟨rfl, ⟨_, rfl⟩, fun c hc => by cases hc⟩ ?_ ?_
      · rintro i hi σ M ⟨rfl, ⟨r, rfl⟩, ha⟩
        walk_at "sg"
        by_cases hm : (tl x)[i] ∈ tl (Str.ofString "0123456789")
        · have hc := fig_mem.mp hm
          rw [if_neg (fun h => h hm)]
          refine ⟨⟨_, rfl⟩, fun c h => ?_⟩
          rw [List.take_succ_eq_append_getElem hi] at h
          rcases List.mem_append.mp h with h | h
          · exact ha c h
          · rw [List.mem_singleton.mp h]; exact hc
        · have hc := fun h => hm (fig_mem.mpr h)
          rw [if_pos hm]
          refine hX ?_
          rw [hfg, List.all_eq_false]
          refine ⟨_, List.getElem_mem hi, ?_⟩
          simp only [Bool.and_eq_true, decide_eq_true_eq]
          exact hc
      · rintro σ M ⟨rfl, ⟨r, rfl⟩, ha⟩
        rw [List.take_length] at ha
        have hd : figsL (tl x) = true := by
          rw [hfg, List.all_eq_true]
          intro c hc
          have := ha c hc
          simp [this.1, this.2]
        have hi := intText_digits (x := x) ha hne (by have := hx hd; omega)
        walk_at "sg"
        rw [W_intS hi (hx hd)]
        exact hq hd
    have lx : tl x = x.cps.toList := rfl
    unfold b965
    walk_at "sg"
    rw [W_lenS (by omega)]
    walk_at "sg"
    cases h0 : tl x with
    | nil =>
      rw [hl, h0, if_pos (show (([] : List Nat).length : Int) = 0 from rfl)]
      exact hX (by rw [h0]; rfl)
    | cons c r =>
      rw [hl, h0, if_neg (by simp only [List.length_cons]; omega), W_lenS (by omega)]
      walk_at "sg"
      rw [hl, h0]
      by_cases h1 : r = []
      · rw [if_neg (by rw [h1]; simp)]
        walk_at "sg"
        exact loop (by rw [h0]; simp) (by rw [h0, h1]; simp)
      · have h2 := List.length_pos_iff.mpr h1
        rw [if_pos (by simp only [List.length_cons]; omega)]
        walk_at "sg"
        rw [W_idxS (c := c) (by omega) (by rw [h0]; exact L2.atI_nat (xs := c :: r) (j := 0) rfl)]
        walk_at "sg"
        rw [W_eqS (strOk_of fun d hd => by
          rw [List.mem_singleton.mp hd]
          exact ha c (by rw [h0]; exact List.mem_cons_self)) (by decide +kernel)]
        walk_at "sg"
        by_cases h3 : c = 48
        · have : (⟨#[c]⟩ : Str) = Str.ofString "0" := by rw [h3]; rfl
          rw [if_pos this]
          refine hX ?_
          rw [h0, h3]
          unfold figsL
          have : decide (1 < (48 :: r).length) = true := by simp only [List.length_cons]; exact decide_eq_true (by omega)
          rw [this]; rfl
        · have : (⟨#[c]⟩ : Str) ≠ Str.ofString "0" := fun z => h3 (by
            have := congrArg tl z
            rw [tl_ofString] at this
            exact (List.cons.inj this).1)
          rw [if_neg this]
          exact loop (by rw [h0]; simp) (by rw [h0]; simpa using fun _ => h3)
  exact ⟨fun h => rt_of e rfl (key (fun _ => imm_of rfl) fun z => by rw [h] at z; cases z), fun h => xc_of e rfl (key (fun z => by rw [h] at z; cases z) fun _ => rfl)⟩
theorem swith_dash (x : Str) : Txt.startswith x (Str.ofString "-") = ((tl x).head? == some 45) := by
  unfold PySem.Txt.startswith
  rw [PySem.StrLaws.subAt_eq]
  have h1 : (Str.ofString "-").length = 1 := rfl
  have h2 : (Str.ofString "-").cps.toList = [45] := rfl
  rw [h1, h2, List.drop_zero, len_tl]
  show (decide (0 + 1 ≤ (tl x).length) && ((tl x).take 1 == [45])) = _
  cases h : tl x with
  | nil => rfl
  | cons c r =>
    rw [decide_eq_true (by simp), Bool.true_and]
    show ([c] == [45]) = (some c == some 45)
    rw [Bool.eq_iff_iff]
    simp
theorem cut_from (x : Str) (k : Nat) : tl (L2.cutS x (some (k : Nat)) none) = (tl x).drop k := by
  have hl := len_tl x
  show ((x.cps.toList.drop (HT.sIx x.length 0 (some (k : Nat)))).take (HT.sIx x.length x.length none - HT.sIx x.length 0 (some (k : Nat)))) = _
  rw [HT.sIx_none, HT.sIx_nat, hl]
  show ((tl x).drop _).take _ = _
  by_cases h : k ≤ (tl x).length
  · rw [Nat.min_eq_left h, List.take_of_length_le (by rw [List.length_drop]; omega)]
  · rw [Nat.min_eq_right (by omega), List.drop_length, List.drop_eq_nil_of_le (by omega), List.take_nil]
theorem cut_tail (x : Str) : tl (L2.cutS x (some 1) none) = (tl x).drop 1 := cut_from x 1

/-- what is read as a whole number has at most 640 figures -/
def Few (x : Str) : Prop := ∀ r, (tl x = r ∨ tl x = 45 :: r) → figsL r = true → r.length ≤ 640
theorem Few.of {x : Str} (h : x.length ≤ 640) : Few x := fun r hr _ => by
  rw [len_tl] at h
  rcases hr with hr | hr <;> rw [hr] at h
  · exact h
  · rw [List.length_cons] at h; omega
theorem figs_free {l : List Nat} {s : Nat} (h : figsL l = true) (hs : s < 48 ∨ 57 < s) : s ∉ l := fun z => by
  have := (figs_all h).1 s z
  omega
theorem Few.cuts {x : Str} (h : ∀ p ∈ cuts 47 x, p.length ≤ 640) : Few x := fun r hr hf => by
  have hn : 47 ∉ tl x := fun z => by
    rcases hr with hr | hr <;> rw [hr] at z
    · exact figs_free hf (by decide) z
    · rcases List.mem_cons.mp z with z | z
      · cases z
      · exact figs_free hf (by decide) z
  have := h x (by rw [cuts_free hn]; exact List.mem_singleton.mpr rfl)
  exact Few.of this r hr hf
def Sp966 (Φ : Phi) : Prop := ∀ x : Str, x.length ≤ 15999990 → Few x → Asc x → (∀ i, wholL (tl x) = some i → Rt Φ 966 [.str x] (.int i)) ∧ (wholL (tl x) = none → Xc Φ 966 [.str x] 14)
theorem sp966 {Φ Φ' : Phi} (e : Φ' 966 = evD Φ b966) (h965 : Sp965 Φ) : Sp966 Φ' := fun x hx0 hx ha => by
  have key : ∀ {QF : D → List Cell → Prop} {X : Nat → List Cell → Prop}, (∀ i, wholL (tl x) = some i → QF (.int i) []) → (wholL (tl x) = none → X 14 []) → W (evD Φ b966 [.str x] []) QF X := fun {QF X} hq hX => by
    unfold b966
    walk_at "sg"
    rw [W_swith, swith_dash]
    cases h0 : tl x with
    | nil =>
      have h1 := (h965 x hx0 (fun z => by rw [h0] at z; cases z) ha).2 (by rw [h0]; rfl)
      walk_at "sg"
      rw [W_xc h1]
      exact hX (by rw [h0]; rfl)
    | cons c r =>
      by_cases hc : c = 45
      · have ht : tl (L2.cutS x (some 1) none) = r := by rw [cut_tail, h0]; rfl
        have hl2 := L2.cutS_length x (some 1) none
        have h1 := h965 (L2.cutS x (some 1) none) (by omega) (fun z => by
          rw [ht] at z
          rw [len_tl, ht]
          exact hx r (.inr (by rw [h0, hc])) z) fun d hd => ha d (by rw [h0]; rw [ht] at hd; exact List.mem_cons_of_mem _ hd)
        rw [ht] at h1
        rw [show ((c :: r).head? == some 45) = true by rw [hc]; rfl]
        have hw : wholL (tl x) = if figsL r = true ∧ valL r ≠ 0 then some (-(valL r : Int)) else none := by rw [h0, hc]; rfl
        walk_at "sg"
        rw [W_slcS (by omega)]
        walk_at "sg"
        cases hf : figsL r with
        | false =>
          rw [W_xc (h1.2 hf)]
          exact hX (by rw [hw, hf]; rfl)
        | true =>
          rw [W_rt (h1.1 hf)]
          walk_at "sg"
          by_cases hv : valL r = 0
          · rw [if_pos (by omega)]
            exact hX (by rw [hw, if_neg (fun z => z.2 hv)])
          · rw [if_neg (by omega)]
            exact hq _ (by rw [hw, if_pos ⟨hf, hv⟩])
      · have h1 := h965 x hx0 (fun z => by rw [len_tl]; exact hx _ (.inl rfl) z) ha
        rw [show ((c :: r).head? == some 45) = false by simpa using hc]
        have hw : wholL (tl x) = if figsL (tl x) = true then some (valL (tl x) : Int) else none := by
          rw [h0]
          unfold wholL
          split
          · rename_i z; cases z; exact absurd rfl hc
          · rfl
        walk_at "sg"
        cases hf : figsL (tl x) with
        | false =>
          rw [W_xc (h1.2 hf)]
          exact hX (by rw [hw, hf]; rfl)
        | true =>
          rw [W_rt (h1.1 hf)]
          exact hq _ (by rw [hw, if_pos hf])
  constructor
  · intro i hi
    exact rt_of e rfl (key (fun j hj => by rw [hi] at hj; cases hj; exact imm_of rfl) fun z => by rw [hi] at z; cases z)
  · intro hi
    exact xc_of e rfl (key (fun j hj => by rw [hi] at hj; cases hj) fun _ => rfl)
theorem spl_ne (s : Nat) (acc l : List Nat) : spl [s] 0 acc l ≠ [] := by
  cases l with
  | nil => rw [spl_nil]; simp
  | cons c r =>
    cases h : pre [s] (c :: r) with
    | true => rw [spl_hit h]; simp
    | false =>
      rw [spl_miss h]
      exact spl_ne s _ r
theorem pre_one {s c : Nat} {r : List Nat} (h : pre [s] (c :: r) = true) : c = s := by
  unfold pre at h
  have : [c] = [s] := eq_of_beq h
  exact (List.cons.inj this).1
theorem spl_back (s : Nat) : ∀ (l acc : List Nat), joinL [s] (spl [s] 0 acc l) = acc ++ l
  | [], acc => by rw [spl_nil, List.append_nil]; rfl
  | c :: r, acc => by
    cases h : pre [s] (c :: r) with
    | true =>
      rw [spl_hit h]
      have hb := spl_back s r []
      have hne := spl_ne s [] r
      show joinL [s] (acc :: spl [s] 0 [] r) = _
      revert hb hne
      cases spl [s] 0 [] r with
      | nil => exact fun _ h => absurd rfl h
      | cons p q =>
        intro hb _
        show acc ++ ([s] ++ joinL [s] (p :: q)) = _
        rw [hb, pre_one h]; rfl
    | false =>
      rw [spl_miss h, spl_back s r (acc ++ [c]), List.append_assoc]; rfl
theorem cuts_ne (s : Nat) (x : Str) : cuts s x ≠ [] := by
  unfold cuts
  simpa using spl_ne s [] (tl x)
theorem cuts_back (s : Nat) (x : Str) : joinL [s] ((cuts s x).map tl) = tl x := by
  unfold cuts
  rw [List.map_map, show (tl ∘ fun l : List Nat => (⟨l.toArray⟩ : Str)) = id from rfl, List.map_id, spl_back]; rfl
theorem cuts_one {s : Nat} {x a : Str} (h : cuts s x = [a]) : a = x := by
  have := cuts_back s x
  rw [h] at this
  exact ext_tl this
theorem cuts_asc {s : Nat} {x : Str} (ha : Asc x) : ∀ p ∈ cuts s x, Asc p := by
  intro p hp c hc
  refine ha c ?_
  rw [← cuts_back s x]
  have key : ∀ (ps : List (List Nat)), tl p ∈ ps → c ∈ joinL [s] ps := fun ps => by
    induction ps with
    | nil => intro h; cases h
    | cons q qs ih =>
      intro h
      cases qs with
      | nil =>
        rw [List.mem_singleton.mp h] at hc
        exact hc
      | cons q2 qs2 =>
        show c ∈ q ++ ([s] ++ joinL [s] (q2 :: qs2))
        rcases List.mem_cons.mp h with h | h
        · rw [h] at hc
          exact List.mem_append_left _ hc
        · exact List.mem_append_right _ (List.mem_append_right _ (ih h))
  exact key _ (List.mem_map.mpr ⟨p, hp, rfl⟩)
theorem whol_lt {l : List Nat} {i : Int} (h : wholL l = some i) (hl : l.length ≤ 640) : Lt2 i 2560 := by
  unfold wholL at h
  unfold Lt2
  split at h
  · rename_i r
    split at h
    · rename_i hf
      have := valL_lt hf.1 (by simp only [List.length_cons] at hl; omega)
      cases h
      omega
    · cases h
  · split at h
    · rename_i hf
      have := valL_lt hf hl
      cases h
      omega
    · cases h
def Sp967 (Φ : Phi) : Prop := ∀ x : Str, x.length ≤ 15999990 → (∀ p ∈ cuts 47 x, p.length ≤ 640) → Asc x →
  (∀ i n, numT x = some (i, n) → Rt Φ 967 [.str x] (.tup [.int i, .int (n : Nat)])) ∧ (numT x = none → Xc Φ 967 [.str x] 14)
theorem sp967 {Φ Φ' : Phi} (e : Φ' 967 = evD Φ b967) (h17 : Sp17 Φ) (h511 : Sp511 Φ) (h965 : Sp965 Φ) (h966 : Sp966 Φ) : Sp967 Φ' := fun x hx hp ha => by
  have key : ∀ {QF : D → List Cell → Prop} {X : Nat → List Cell → Prop}, (∀ i n, numT x = some (i, n) → QF (.tup [.int i, .int (n : Nat)]) []) → (numT x = none → X 14 []) → W (evD Φ b967 [.str x] []) QF X := fun {QF X} hq hX => by
    have hA := cuts_asc (s := 47) ha
    have h1 := h511.1 x
    unfold b967
    walk_at "sg"
    rw [W_rt h1]
    walk_at "sg"
    rw [W_splitF tl_slash (by decide) (by omega)]
    have hN : numT x = (match cuts 47 x with
      | [_] => (wholL (tl x)).map fun i => (i, 1)
      | [a, b] => (wholL (tl a)).bind fun i => if figsL (tl b) = true ∧ 2 ≤ valL (tl b) ∧ Int.gcd i (valL (tl b)) = 1 then some (i, valL (tl b)) else none
      | _ => none) := rfl
    revert hN hp hA
    cases hc : cuts 47 x with
    | nil => exact absurd hc (cuts_ne _ _)
    | cons a r =>
      cases r with
      | nil =>
        intro hp hA hN
        have ea := cuts_one hc
        have h2 := h966 x hx (Few.of (by rw [← ea]; exact hp a List.mem_cons_self)) ha
        walk_at "sg"
        rw [if_pos (by simp)]
        walk_at "sg"
        cases hw : wholL (tl x) with
        | none =>
          rw [W_xc (h2.2 hw)]
          exact hX (by rw [hN]; show (wholL (tl x)).map _ = _; rw [hw]; rfl)
        | some i =>
          rw [W_rt (h2.1 i hw)]
          walk_at "sg"
          exact hq i 1 (by rw [hN]; show (wholL (tl x)).map _ = _; rw [hw]; rfl)
      | cons b r =>
        cases r with
        | cons b2 r =>
          intro hp hA hN
          walk_at "sg"
          rw [if_neg (by simp; omega)]
          walk_at "sg"
          rw [if_pos (by simp; omega)]
          exact hX hN
        | nil =>
          intro hp hA hN
          have p1 := hp a List.mem_cons_self
          have p2 := hp b (List.mem_cons_of_mem _ List.mem_cons_self)
          have h2 := h966 a (by omega) (Few.of p1) (hA a List.mem_cons_self)
          have h3 := h965 b (by omega) (fun _ => p2) (hA b (List.mem_cons_of_mem _ List.mem_cons_self))
          have hN : numT x = (wholL (tl a)).bind fun i => if figsL (tl b) = true ∧ 2 ≤ valL (tl b) ∧ Int.gcd i (valL (tl b)) = 1 then some (i, valL (tl b)) else none := hN
          walk_at "sg"
          rw [if_neg (by simp)]
          walk_at "sg"
          rw [if_neg (by simp)]
          walk_at "sg"
          cases hw : wholL (tl a) with
          | none =>
            rw [W_xc (h2.2 hw)]
            exact hX (by rw [hN, hw]; rfl)
          | some i =>
            rw [W_rt (h2.1 i hw)]
            walk_at "sg"
            cases hf : figsL (tl b) with
            | false =>
              rw [W_xc (h3.2 hf)]
              refine hX ?_
              rw [hN, hw, Option.bind_some, if_neg (fun z => by rw [hf] at z; cases z.1)]
            | true =>
              have hi := whol_lt hw (by rw [← len_tl]; exact hp a List.mem_cons_self)
              have hn := valL_lt hf (by rw [← len_tl]; exact hp b (List.mem_cons_of_mem _ List.mem_cons_self))
              have h4 := h17 (.tup [.int i, .int (valL (tl b) : Nat)]) (by
                simp only [dOk, dOks, and_true]
                refine ⟨hi.mono (by decide), ?_⟩
                unfold Lt2
                refine Nat.lt_of_lt_of_le ?_ (Nat.pow_le_pow_right (by decide) (show 2560 ≤ 8990 by decide))
                omega)
              rw [W_rt (h3.1 hf)]
              walk_at "sg"
              by_cases h5 : valL (tl b) < 2
              · rw [if_pos (by omega)]
                refine hX ?_
                rw [hN, hw, Option.bind_some, if_neg (fun z => by omega)]
              · rw [if_neg (by omega), W_rt h4]
                have e5 : isFracD (.tup [.int i, .int (valL (tl b) : Nat)]) = (decide ((1 : Int) ≤ (valL (tl b) : Nat)) && decide (Int.gcd i (valL (tl b) : Nat) = 1)) := rfl
                walk_at "sg"
                rw [e5, decide_eq_true (by omega), Bool.true_and]
                by_cases h6 : Int.gcd i (valL (tl b) : Nat) = 1
                · rw [decide_eq_true h6]
                  walk_at "sg"
                  refine hq i _ ?_
                  rw [hN, hw, Option.bind_some, if_pos ⟨hf, by omega, h6⟩]
                · rw [decide_eq_false h6]
                  walk_at "sg"
                  refine hX ?_
                  rw [hN, hw, Option.bind_some, if_neg (fun z => h6 z.2.2)]
  constructor
  · intro i n hi
    exact rt_of e rfl (key (fun j m hj => by rw [hi] at hj; cases hj; exact imm_of rfl) fun z => by rw [hi] at z; cases z)
  · intro hi
    exact xc_of e rfl (key (fun j m hj => by rw [hi] at hj; cases hj) fun _ => rfl)
theorem asc_sh (q : Rat) : Asc (shS q) := fun c hc => by rcases shS_sign hc with h | h | h <;> omega
theorem Sp967.ok {Φ : Phi} (h : Sp967 Φ) {q : Rat} (hq : Sz q 1900) : Rt Φ 967 [.str (shS q)] (qD q) := by
  refine (h (shS q) (by have := shS_len hq; omega) (fun p hp => ?_) (asc_sh q)).1 _ _ (numT_shS q)
  have h1 := iS_len hq.1
  have h2 := iS_len hq.2
  rw [cuts_shS] at hp
  split at hp
  · rw [List.mem_singleton.mp hp]; omega
  · rcases List.mem_cons.mp hp with rfl | hp
    · omega
    · rw [List.mem_singleton.mp hp]; omega
theorem Tab.ne {N m n : Nat} {t : List (List Rat)} (h : Tab N m n t) : t ≠ [] := fun z => by
  have h1 := h.len
  have h2 := h.m1
  rw [z, List.length_nil] at h1
  omega
end Sg

namespace Sg
open PySem
inductive SW where
  | down | up | weigh
  deriving DecidableEq
def wd : SW → Str
  | .down => "down"
  | .up => "up"
  | .weigh => "weigh"
structure Step where
  w : SW
  k : Nat
  q : Rat
def stepD (s : Step) : D := .tup [.str (wd s.w), .int (s.k : Nat), qD s.q]
structure Lad where
  tr : Nat
  m : Nat
  n : Nat
  st : List Step
def ladD (L : Lad) : D := .tup [.int (L.tr : Nat), .int (L.m : Nat), .int (L.n : Nat), .lst (L.st.map stepD)]
/-- a step of a ladder of so many tracks -/
def Step.At (s : Step) (tr : Nat) : Prop := (s.w = .weigh → s.k < tr) ∧ (s.w ≠ .weigh → s.k + 1 < tr)
structure Lad.Ok (L : Lad) : Prop where
  t7 : L.tr ≤ 7
  m1 : 1 ≤ L.m
  mt : L.m ≤ L.tr
  n1 : 1 ≤ L.n
  nt : L.n ≤ L.tr
  len : L.st.length ≤ 400
  at_ : ∀ s ∈ L.st, s.At L.tr
  nn : ∀ s ∈ L.st, 0 ≤ s.q
  sz : ∀ s ∈ L.st, Sz s.q 8990
section
variable {M : List Cell} {Q : D → List Cell → Prop} {X : Nat → List Cell → Prop}
theorem wd_ok (a : SW) : PyData.strOk (wd a) = true := by cases a <;> decide +kernel
theorem wd_inj {a b : SW} (h : D.str (wd a) = D.str (wd b)) : a = b := by
  cases a <;> cases b <;> first | rfl | (have h := D.str.inj h; exact absurd h (by decide +kernel))
theorem W_eqW {a b : SW} : W (eqR (.str (wd a)) (.str (wd b)) M) Q X = Q (.bl (decide (a = b))) M := by
  obtain ⟨k, h1, h2⟩ := eqD_pu (M := M) (n := 0) (show pu 0 (.str (wd a)) = true from wd_ok a) (show pu 0 (.str (wd b)) = true from wd_ok b) (by decide)
  have e : k = decide (a = b) := by
    by_cases h : a = b
    · rw [decide_eq_true h, h2.mpr (by rw [h])]
    · rw [decide_eq_false h]
      cases k with
      | false => rfl
      | true => exact absurd (wd_inj (h2.mp rfl)) h
  rw [eqR_of h1, e]
theorem W_eq_dw : W (eqR (.str "down") (.str "weigh") M) Q X = Q (.bl false) M := W_eqW (a := .down) (b := .weigh)
theorem W_eq_uw : W (eqR (.str "up") (.str "weigh") M) Q X = Q (.bl false) M := W_eqW (a := .up) (b := .weigh)
theorem W_eq_ww : W (eqR (.str "weigh") (.str "weigh") M) Q X = Q (.bl true) M := W_eqW (a := .weigh) (b := .weigh)
theorem W_inT {a : D} {xs : List D} : W (cop .In a (.tup xs) M) Q X = ((flatD a = true ∧ xs.all flatD = true) ∧ Q (.bl (inF a xs)) M) := by
  show V (if flatD a = true ∧ xs.all flatD = true then R.ok (.bl (inF a xs)) M else .bad) Q X = _
  by_cases h : flatD a = true ∧ xs.all flatD = true
  · rw [if_pos h]
    exact propext ⟨fun k => ⟨h, k⟩, fun k => k.2⟩
  · rw [if_neg h]
    exact propext ⟨fun k => k.elim, fun k => absurd k.1 h⟩
theorem W_notInT {a : D} {xs : List D} : W (cop .NotIn a (.tup xs) M) Q X = ((flatD a = true ∧ xs.all flatD = true) ∧ Q (.bl (!inF a xs)) M) := by
  show V (if flatD a = true ∧ xs.all flatD = true then R.ok (.bl (!inF a xs)) M else .bad) Q X = _
  by_cases h : flatD a = true ∧ xs.all flatD = true
  · rw [if_pos h]
    exact propext ⟨fun k => ⟨h, k⟩, fun k => k.2⟩
  · rw [if_neg h]
    exact propext ⟨fun k => k.elim, fun k => absurd k.1 h⟩
theorem W_slcT {m : Bool} {xs : List D} {lo hi : Option Int} : W (slcD m (.tup xs) lo hi M) Q X = Q (.tup (cutL xs lo hi)) M := rfl
theorem cutL_to {α : Type} (xs : List α) (n : Nat) : cutL xs none (some (n : Int)) = xs.take n := by
  unfold cutL
  rw [HT.sIx_nat]
  show List.take (min n xs.length - 0) (List.drop 0 xs) = _
  rw [List.drop_zero, Nat.sub_zero]
  by_cases h : n ≤ xs.length
  · rw [Nat.min_eq_left h]
  · rw [Nat.min_eq_right (by omega), List.take_length, List.take_of_length_le (by omega)]
theorem W_set {QS : St → List Cell → Prop} {σ : St} {p i : Nat} {d : D} {xs : List D} (h : M[p]? = some ⟨true, .lst xs⟩) (hi : i < xs.length) : W (setR (.ref p) (.int (i : Nat)) d σ M) QS X = QS σ (M.set p ⟨true, .lst (xs.set i d)⟩) := by
  have e : L2.ixN xs.length (i : Int) = some i := by
    unfold L2.ixN
    simp [hi]
  show V (setR (.ref p) (.int (i : Nat)) d σ M) QS X = _
  unfold setR setD
  simp only [h, e]
  rfl
end
def Sp119 (Φ : Phi) : Prop := ∀ q : Rat, Sz q 8990 → 0 ≤ q → Rt Φ 119 [qD q] (.bl true)
theorem sp119 {Φ Φ' : Phi} (e : Φ' 119 = evD Φ b119) (h17 : Sp17 Φ) : Sp119 Φ' := fun q hq h0 => rt_of e rfl (by
  have h := h17 (qD q) (dOk_q hq)
  rw [isFracD_q] at h
  have h1 : (0 : Int) ≤ q.num := Rat.num_nonneg.mpr h0
  unfold b119
  walk_at "sgh"
  exact imm_of rfl)
def Sp120 (Φ : Phi) : Prop := ∀ (s : Step) (tr : Nat), s.At tr → Sz s.q 8990 → 0 ≤ s.q → Rt Φ 120 [stepD s, .int (tr : Nat)] (.bl true)
theorem sp120 {Φ Φ' : Phi} (e : Φ' 120 = evD Φ b120) (h16 : Sp16 Φ) (h119 : Sp119 Φ) : Sp120 Φ' := fun s tr hs hq h0 => rt_of e rfl (by
  have h1 := h16 (.int (s.k : Nat)) rfl rfl
  rw [show isIntD (.int (s.k : Nat)) = true from rfl] at h1
  have h2 := h119 s.q hq h0
  obtain ⟨w, k, q⟩ := s
  obtain ⟨ha, hb⟩ := hs
  have k0 : (0 : Int) ≤ (k : Nat) := by omega
  unfold b120 stepD
  cases w
  all_goals simp only [wd]
  · have hk : (k : Int) < (tr : Int) - 1 := by
      have := hb (by intro z; cases z)
      simp only at this
      omega
    walk_at "sgh"
    rw [W_eq_dw]
    walk_at "sgh"
    rw [W_inT]
    refine ⟨by decide, ?_⟩
    rw [show inF (.str "down") [.str "down", .str "up"] = true by decide +kernel]
    walk_at "sgh"
    exact imm_of rfl
  · have hk : (k : Int) < (tr : Int) - 1 := by
      have := hb (by intro z; cases z)
      simp only at this
      omega
    walk_at "sgh"
    rw [W_eq_uw]
    walk_at "sgh"
    rw [W_inT]
    refine ⟨by decide, ?_⟩
    rw [show inF (.str "up") [.str "down", .str "up"] = true by decide +kernel]
    walk_at "sgh"
    exact imm_of rfl
  · have hk : (k : Int) < (tr : Int) := by
      have := ha rfl
      simp only at this
      omega
    walk_at "sgh"
    rw [W_eq_ww]
    walk_at "sgh"
    exact imm_of rfl)
def Sp121 (Φ : Phi) : Prop := ∀ L : Lad, L.Ok → Rt Φ 121 [ladD L] (.bl true)
theorem stepD_imm (s : Step) : isImm (stepD s) = true := rfl
theorem ladD_imm (L : Lad) : isImm (ladD L) = true := by
  have : isImms (L.st.map stepD) = true := isImms_map stepD_imm _
  unfold ladD
  simp only [isImm, isImms, this, Bool.and_true]
theorem all_true {α : Type} {xs : List α} {f : α → Bool} (h : ∀ x ∈ xs, f x = true) : xs.all f = true := List.all_eq_true.mpr h
theorem sp121 {Φ Φ' : Phi} (e : Φ' 121 = evD Φ b121) (h16 : Sp16 Φ) (h120 : Sp120 Φ) : Sp121 Φ' := fun L ok => rt_of e (by simp only [isImms, ladD_imm, Bool.and_true]) (by
  obtain ⟨tr, m, n, st⟩ := L
  obtain ⟨t7, m1, mt, n1, nt, len, at_, nn, sz⟩ := ok
  simp only at t7 m1 mt n1 nt len at_ nn sz
  unfold b121 ladD
  walk_at "sg"
  rw [show some (3 : Int) = some ((3 : Nat) : Int) from rfl, W_slcT, cutL_to]
  walk_at "sg"
  rw [show List.take 3 [D.int (tr : Nat), .int (m : Nat), .int (n : Nat), .lst (st.map stepD)] = [tr, m, n].map natD from rfl]
  refine W_compM (g := fun _ => D.bl ((fun _ => true) tr)) (fun x hx => ?_) ?_
  · have h1 := h16 (natD x) rfl rfl
    walk_at "sgh"
    rfl
  · walk_at "sg"
    rw [show D.lst [D.bl true, D.bl true, D.bl true] = D.lst ([tr, m, n].map fun x => D.bl ((fun _ => true) x)) from rfl, W_allB]
    have e1 : (1 : Int) ≤ (tr : Nat) := by omega
    have e2 : ((tr : Nat) : Int) ≤ 7 := by omega
    have e3 : (1 : Int) ≤ (m : Nat) := by omega
    have e4 : ((m : Nat) : Int) ≤ (tr : Nat) := by omega
    have e5 : (1 : Int) ≤ (n : Nat) := by omega
    have e6 : ((n : Nat) : Int) ≤ (tr : Nat) := by omega
    have e7 : ¬ ((400 : Int) < ((st.map stepD).length : Nat)) := by
      rw [List.length_map]
      omega
    walk_at "sgh"
    refine W_compM (g := fun s => D.bl ((fun _ => true) s)) (fun s hs => ?_) ?_
    · have h1 := h120 s tr (at_ s hs) (sz s hs) (nn s hs)
      walk_at "sgh"
    · walk_at "sg"
      rw [List.length_map]
      refine ⟨by omega, ?_⟩
      rw [W_allB, all_true fun _ _ => rfl]
      exact imm_of rfl)
def Sp122 (Φ : Phi) : Prop := ∀ L : Lad, L.Ok → Rt Φ 122 [ladD L] .non
theorem sp122 {Φ Φ' : Phi} (e : Φ' 122 = evD Φ b122) (h121 : Sp121 Φ) : Sp122 Φ' := fun L ok => rt_of e (by simp only [isImms, ladD_imm, Bool.and_true]) (by
  have h := h121 L ok
  unfold b122
  walk_at "sgh"
  exact imm_of rfl)
end Sg

namespace Sg
open PySem
section
variable {M : List Cell} {Q : D → List Cell → Prop} {X : Nat → List Cell → Prop}
end
section
variable {M : List Cell} {Q : D → List Cell → Prop} {X : Nat → List Cell → Prop}
end
end Sg

namespace Sg
open PySem

section
variable {M : List Cell} {Q : D → List Cell → Prop} {X : Nat → List Cell → Prop}
end
theorem Tab.part {N m n : Nat} {t : List (List Rat)} {rows cols : List Nat} (h : Tab N m n t) (hr : Choice m rows) (hc : Choice n cols) : Tab N rows.length cols.length (part t rows cols) := by
  have l1 := hr.len
  have l2 := hc.len
  have e1 : 0 < rows.length := List.length_pos_iff.mpr hr.1
  have e2 : 0 < cols.length := List.length_pos_iff.mpr hc.1
  have m7 := h.m7
  have n7 := h.n7
  refine ⟨by unfold Sg.part; rw [List.length_map], fun r hr' => ?_, e1, by omega, e2, by omega, fun r hr' q hq => ?_⟩
  · unfold Sg.part at hr'
    obtain ⟨i, _, rfl⟩ := List.mem_map.mp hr'
    rw [List.length_map]
  · unfold Sg.part at hr'
    obtain ⟨i, hi, rfl⟩ := List.mem_map.mp hr'
    obtain ⟨j, hj, rfl⟩ := List.mem_map.mp hq
    exact h.entSz (hr.2.2 i hi) (hc.2.2 j hj)
end Sg

namespace Sg
open PySem
def TabAtN (M : List Cell) (d : D) (t : List (List D)) : Prop := ∃ (p : Nat) (rs : List Nat), d = .ref p ∧ M[p]? = some ⟨true, .lst (rs.map D.ref)⟩ ∧ rs.length = t.length ∧ rs.Nodup ∧ ∀ (i : Nat) (r : Nat) (row : List D), rs[i]? = some r → t[i]? = some row → M[r]? = some ⟨true, .lst row⟩
theorem TabAtN.tab {M : List Cell} {d : D} {t : List (List D)} (h : TabAtN M d t) : TabAt M d t := by
  obtain ⟨p, rs, h1, h2, h3, _, h4⟩ := h
  exact ⟨p, rs, h1, h2, h3, h4⟩
def MkN (Φ : Phi) (f : Nat) (ds : List D) (t : List (List D)) : Prop := ∃ d M1, Φ f ds [] = .ok d M1 ∧ TabAtN M1 d t
theorem MkN.mk {Φ : Phi} {f : Nat} {ds : List D} {t : List (List D)} (h : MkN Φ f ds t) : MkT Φ f ds t := by
  obtain ⟨d, M1, h1, h2⟩ := h
  exact ⟨d, M1, h1, h2.tab⟩
theorem TabAtN.imp {M M1 : List Cell} {d : D} {t : List (List D)} (h : TabAtN M1 d t) (k : ∀ r ∈ t, ∀ x ∈ r, isElem x = true) : TabAtN (M ++ M1.map (shC M.length)) (shD M.length d) t := by
  obtain ⟨p, rs, rfl, h1, hl, hn, h2⟩ := h
  refine ⟨M.length + p, rs.map (M.length + ·), rfl, ?_, by rw [List.length_map]; exact hl, ?_, fun i r row a b => ?_⟩
  · rw [imp_cell h1 (refs_frs rs), refs_sh]
  · unfold List.Nodup at hn ⊢
    rw [List.pairwise_map]
    exact hn.imp fun {a b} hab e => hab (by omega)
  · rw [List.getElem?_map] at a
    cases e : rs[i]? with
    | none => rw [e] at a; cases a
    | some r0 =>
      rw [e] at a
      cases a
      have hr := k row (List.mem_of_getElem? b)
      rw [imp_cell (h2 i r0 row e b) (elems_frs hr), elems_sh hr]
theorem MkN.call2 {Φ : Phi} {f : Nat} {ds es : List D} {t : List (List D)} {M : List Cell} (h : MkN Φ f es t) (hi : imms M ds = some es) (k : ∀ r ∈ t, ∀ x ∈ r, isElem x = true) : ∃ d M', callD Φ f 2 ds M = .ok d (M ++ M') ∧ TabAtN (M ++ M') d t := by
  obtain ⟨d, M1, e, h⟩ := h
  refine ⟨shD M.length d, M1.map (shC M.length), ?_, h.imp k⟩
  unfold callD
  simp only [hi, e]
  rw [if_pos h.tab.fr]
/-- a number put in -/
theorem TabAtN.put {M : List Cell} {p i j : Nat} {t : List (List D)} {v : D} (h : TabAtN M (.ref p) t) (k : ∀ r ∈ t, ∀ x ∈ r, isElem x = true) (hi : i < t.length) (hj : j < (t.getD i []).length) :
    ∃ r, (∀ Q X, W (idxD (.ref p) (.int (i : Nat)) M) Q X = Q (.ref r) M) ∧ M[r]? = some ⟨true, .lst (t.getD i [])⟩ ∧ TabAtN (M.set r ⟨true, .lst ((t.getD i []).set j v)⟩) (.ref p) (t.set i ((t.getD i []).set j v)) := by
  obtain ⟨q, rs, e, h1, hl, hn, h2⟩ := h
  cases e
  have hr : rs[i]? = some rs[i] := List.getElem?_eq_getElem (by omega)
  have ht : t[i]? = some (t.getD i []) := by rw [List.getD_eq_getElem?_getD, List.getElem?_eq_getElem hi]; rfl
  have hc := h2 i _ _ hr ht
  have hpr : p ≠ rs[i] := fun e => by
    rw [← e, h1] at hc
    have e2 : rs.map D.ref = t.getD i [] := by
      have := Option.some.inj hc
      injection this with _ e3
      exact D.lst.inj e3
    have e3 := k _ (List.mem_of_getElem? ht) (.ref rs[i]) (by rw [← e2]; exact List.mem_map.mpr ⟨_, List.getElem_mem _, rfl⟩)
    cases e3
  refine ⟨rs[i], fun Q X => W_at (show seqOf _ (.ref p) = some _ from listOf_ref h1) (L2.atI_nat (j := i) (by rw [List.getElem?_map, hr]; rfl)), hc, p, rs, rfl, ?_, by rw [List.length_set]; exact hl, hn, fun m r row a b => ?_⟩
  · rw [List.getElem?_set_ne (Ne.symm hpr), h1]
  · by_cases hm : m = i
    · subst hm
      rw [hr] at a
      cases a
      rw [List.getElem?_set_self hi] at b
      cases b
      rw [List.getElem?_set_self (get_lt hc)]
    · rw [List.getElem?_set_ne (Ne.symm hm)] at b
      have hne : rs[i] ≠ r := fun e => by
        have hm2 := get_lt a
        have e1 : rs[m] = r := by rw [List.getElem?_eq_getElem hm2] at a; exact Option.some.inj a
        rcases Nat.lt_trichotomy m i with h | h | h
        · exact (List.pairwise_iff_getElem.mp hn m i hm2 (by omega) h) (e1.trans e.symm)
        · exact hm h
        · exact (List.pairwise_iff_getElem.mp hn i m (by omega) hm2 h) (e.trans e1.symm)
      rw [List.getElem?_set_ne hne]
      exact h2 m r row a b
end Sg

namespace Sg
open PySem
/-- over the bottom D, at most C above -/
def Bd (D C : Nat) (x : Rat) : Prop := ∃ z : Int, x = Rat.divInt z D ∧ z.natAbs ≤ C
theorem Bd.sz {D C N : Nat} {x : Rat} (h : Bd D C x) (hD : 0 < D) (h1 : D < 2 ^ N) (h2 : C < 2 ^ N) (hN : 1 ≤ N) : Sz x N := by
  obtain ⟨z, rfl, hz⟩ := h
  exact sz_divInt (m := N) (n := N) (show z.natAbs < 2 ^ N by omega) (lt2_nat h1) (Nat.le_refl _) (Nat.le_refl _) hN
theorem Bd.step {D C a b : Nat} {x y w : Rat} (hD : 0 < D) (hb : 0 < b) (hw : w = Rat.divInt (a : Int) b) (hx : Bd D C x) (hy : Bd D C y) : Bd (D * b) (C * (a + b)) (x + y * w) := by
  obtain ⟨zx, rfl, h1⟩ := hx
  obtain ⟨zy, rfl, h2⟩ := hy
  have hD' : (D : Int) ≠ 0 := by omega
  have hb' : (b : Int) ≠ 0 := by omega
  refine ⟨zx * b + zy * a, ?_, ?_⟩
  · rw [hw, Rat.divInt_mul_divInt zy (a : Int) , Rat.divInt_add_divInt zx (zy * a) hD' (Int.mul_ne_zero hD' hb')]
    have e1 : zx * ((D : Int) * b) + zy * a * D = (zx * b + zy * a) * D := by grind
    rw [e1, Int.natCast_mul, show (D : Int) * ((D : Int) * b) = ((D : Int) * b) * D by grind, Rat.divInt_mul_right hD']
  · have e1 : (zx * b).natAbs = zx.natAbs * b := by rw [Int.natAbs_mul, Int.natAbs_natCast]
    have e2 : (zy * a).natAbs = zy.natAbs * a := by rw [Int.natAbs_mul, Int.natAbs_natCast]
    have e3 := Int.natAbs_add_le (zx * b) (zy * a)
    have e4 : zx.natAbs * b ≤ C * b := Nat.mul_le_mul_right _ h1
    have e5 : zy.natAbs * a ≤ C * a := Nat.mul_le_mul_right _ h2
    rw [Nat.mul_add]
    omega
theorem Bd.keep {D C a b : Nat} {x : Rat} (hD : 0 < D) (hb : 0 < b) (hx : Bd D C x) : Bd (D * b) (C * (a + b)) x := by
  have h := Bd.step (a := a) (w := Rat.divInt (a : Int) b) hD hb rfl hx (y := 0) ⟨0, by rw [Rat.zero_divInt], Nat.zero_le _⟩
  rw [Rat.zero_mul, Rat.add_zero] at h
  exact h
theorem Bd.weigh {D C a b : Nat} {y w : Rat} (hD : 0 < D) (hb : 0 < b) (hw : w = Rat.divInt (a : Int) b) (hy : Bd D C y) : Bd (D * b) (C * (a + b)) (y * w) := by
  have h := Bd.step hD hb hw (x := 0) ⟨0, by rw [Rat.zero_divInt], Nat.zero_le _⟩ hy
  rw [Rat.zero_add] at h
  exact h
def Step.val (s : Step) (c : List Rat) : Rat := match s.w with
  | .down => c.getD s.k 0 + s.q * c.getD (s.k + 1) 0
  | .up => c.getD (s.k + 1) 0 + s.q * c.getD s.k 0
  | .weigh => s.q * c.getD s.k 0
end Sg

namespace Sg
open PySem
section
variable {M : List Cell} {Q : D → List Cell → Prop} {X : Nat → List Cell → Prop}
theorem W_neW {a b : SW} : W (neR (.str (wd a)) (.str (wd b)) M) Q X = Q (.bl (!decide (a = b))) M := by
  obtain ⟨k, h1, h2⟩ := eqD_pu (M := M) (n := 0) (show pu 0 (.str (wd a)) = true from wd_ok a) (show pu 0 (.str (wd b)) = true from wd_ok b) (by decide)
  have e : k = decide (a = b) := by
    by_cases h : a = b
    · rw [decide_eq_true h, h2.mpr (by rw [h])]
    · rw [decide_eq_false h]
      cases k with
      | false => rfl
      | true => exact absurd (wd_inj (h2.mp rfl)) h
  rw [neR_of h1, e]
end
end Sg

namespace Sg
open PySem
end Sg

namespace Sg
abbrev Wg := List Bool → Rat
end Sg

namespace Sg
def fnRows {α : Type} (n w : Nat) (a : Nat → Nat → α) : List (List α) := (List.range n).map fun i => (List.range w).map fun j => a i j
def ee (a : Nat → Nat → Rat) : Nat → Nat → Nat → Rat
  | 0, i, j => a i j
  | 1, i, j => (a i j * a 0 0 - a i 0 * a 0 j) / 1
  | k + 2, i, j => (ee a (k + 1) i j * ee a (k + 1) (k + 1) (k + 1) - ee a (k + 1) i (k + 1) * ee a (k + 1) (k + 1) j) / ee a k k k
def bord {α : Type} (a : Nat → Nat → α) (k i j : Nat) : Nat → Nat → α := fun r c => a (if r < k then r else i) (if c < k then c else j)
def wvZ : List Int → (List Bool → Int) → List Bool → Int
  | [], _, _ => 0
  | _ :: _, _, [] => 0
  | _ :: v, f, false :: m => wvZ v (fun m' => f (false :: m')) m
  | x :: v, f, true :: m => x * f (false :: m) - wvZ v (fun m' => f (true :: m')) m
def wedgeZ : List (List Int) → List Bool → Int
  | [] => fun m => if m.all (fun b => !b) then 1 else 0
  | r :: rs => wvZ r (wedgeZ rs)
def detZ (rs : List (List Int)) : Int := wedgeZ rs (List.replicate rs.length true)
def dtZ (n : Nat) (a : Nat → Nat → Int) : Int := detZ (fnRows n n a)
/-- the squares that a place borders -/
def mz (a : Nat → Nat → Int) (k i j : Nat) : Int := dtZ (k + 1) (bord a k i j)
end Sg

namespace Sg
end Sg

namespace Sg
/-- the sign of so many -/
def eps (m : List Bool) : Rat := (-1) ^ m.countP id
/-- a row put behind -/
def rv : List Rat → Wg → Wg
  | [], _, _ => 0
  | _ :: _, _, [] => 0
  | _ :: v, f, false :: m => rv v (fun m' => f (false :: m')) m
  | x :: v, f, true :: m => eps m * x * f (false :: m) + rv v (fun m' => f (true :: m')) m
def above (n K j : Nat) : Nat := ((List.range' (j + 1) (n - (j + 1))).filter fun i => K.testBit i).length
end Sg

namespace Sg
open PySem
def rowI (n : Nat) (z : Nat → Nat → Int) (r : Nat) : List D := (List.range n).map fun c => D.int (z r c)
structure Sq (M : List Cell) (p : Nat) (π : Nat → Nat) (n : Nat) (z : Nat → Nat → Int) : Prop where
  out : M[p]? = some ⟨true, .lst ((List.range n).map fun r => D.ref (π r))⟩
  ne : ∀ r < n, π r ≠ p
  inj : ∀ r < n, ∀ s < n, π r = π s → r = s
  row : ∀ r < n, M[π r]? = some ⟨true, .lst (rowI n z r)⟩
theorem set_range {α : Type} {n : Nat} {f : Nat → α} {i : Nat} {x : α} : ((List.range n).map f).set i x = (List.range n).map fun c => if c = i then x else f c := by
  refine List.ext_getElem? fun j => ?_
  rw [List.getElem?_set, List.getElem?_map, List.getElem?_map]
  by_cases hj : j < n
  · rw [List.getElem?_range hj]
    by_cases e : i = j
    · subst e
      rw [if_pos rfl, if_pos (by rw [List.length_map, List.length_range]; exact hj)]
      simp
    · rw [if_neg e]
      simp [show ¬ j = i from fun z => e z.symm]
  · rw [List.getElem?_eq_none (by rw [List.length_range]; omega)]
    split
    · rw [if_neg (by rw [List.length_map, List.length_range]; omega)]; rfl
    · rfl
theorem range_at {α : Type} {n : Nat} {f : Nat → α} {i : Nat} (h : i < n) : ((List.range n).map f)[i]? = some (f i) := by
  rw [List.getElem?_map, List.getElem?_range h]; rfl
def updZ (z : Nat → Nat → Int) (i j : Nat) (v : Int) : Nat → Nat → Int := fun r c => if r = i ∧ c = j then v else z r c
theorem Sq.put {M : List Cell} {p : Nat} {π : Nat → Nat} {n : Nat} {z : Nat → Nat → Int} (h : Sq M p π n z) {i j : Nat} (hi : i < n) (v : Int) : Sq (M.set (π i) ⟨true, .lst ((rowI n z i).set j (.int v))⟩) p π n (updZ z i j v) := by
  have hl : π i < M.length := (List.getElem?_eq_some_iff.mp (h.row i hi)).1
  refine ⟨?_, h.ne, h.inj, fun r hr => ?_⟩
  · rw [List.getElem?_set_ne (h.ne i hi)]
    exact h.out
  · by_cases e : r = i
    · subst e
      rw [List.getElem?_set_self hl]
      congr 2
      unfold rowI
      rw [set_range]
      congr 1
      refine List.map_congr_left fun c _ => ?_
      unfold updZ
      by_cases hc : c = j
      · rw [if_pos hc, if_pos ⟨rfl, hc⟩]
      · rw [if_neg hc, if_neg fun z => hc z.2]
    · rw [List.getElem?_set_ne (fun z => e (h.inj i hi r hr z).symm), h.row r hr]
      congr 2
      unfold rowI
      congr 1
      refine List.map_congr_left fun c _ => ?_
      unfold updZ
      rw [if_neg fun z => e z.1]
theorem Sq.tab {M : List Cell} {p : Nat} {π : Nat → Nat} {n : Nat} {z : Nat → Nat → Int} (h : Sq M p π n z) : TabAt M (.ref p) ((List.range n).map (rowI n z)) := by
  refine ⟨p, (List.range n).map π, rfl, by rw [h.out, List.map_map]; rfl, by simp, fun i r row h1 h2 => ?_⟩
  have hi : i < n := by
    have := get_lt h1
    rw [List.length_map, List.length_range] at this
    exact this
  rw [range_at hi] at h1 h2
  cases h1
  cases h2
  exact h.row i hi
theorem Sq.imm {M : List Cell} {p : Nat} {π : Nat → Nat} {n : Nat} {z : Nat → Nat → Int} (h : Sq M p π n z) : imm M (.ref p) = some (.lst ((fnRows n n z).map intsD)) := by
  rw [h.tab.imm (fun r hr x hx => by
    obtain ⟨i, _, rfl⟩ := List.mem_map.mp hr
    obtain ⟨j, _, rfl⟩ := List.mem_map.mp hx
    rfl)]
  congr 2
  unfold fnRows
  rw [List.map_map, List.map_map]
  refine List.map_congr_left fun i _ => ?_
  show D.lst (rowI n z i) = intsD _
  unfold intsD rowI
  rw [List.map_map]
  rfl
theorem Sq.re {M : List Cell} {p : Nat} {π : Nat → Nat} {n : Nat} {z z' : Nat → Nat → Int} (h : Sq M p π n z) (e : ∀ r < n, ∀ c < n, z r c = z' r c) : Sq M p π n z' := ⟨h.out, h.ne, h.inj, fun r hr => by
  rw [h.row r hr]
  congr 2
  unfold rowI
  congr 1
  refine List.map_congr_left fun c hc => ?_
  rw [e r hr c (List.mem_range.mp hc)]⟩
end Sg

namespace Sg
open PySem
/-- the state within the turn of k, at the row r, before the column c -/
structure At (a : Nat → Nat → Int) (n k r c : Nat) (z : Nat → Nat → Int) : Prop where
  piv : ∀ c, k ≤ c → c < n → z k c = mz a k k c
  new : ∀ r' c', k < r' → r' < n → k < c' → c' < n → (r' < r ∨ (r' = r ∧ c' < c)) → z r' c' = mz a (k + 1) r' c'
  old : ∀ r' c', k < r' → r' < n → k ≤ c' → c' < n → (r < r' ∨ (r' = r ∧ (c ≤ c' ∨ c' = k))) → z r' c' = mz a k r' c'
end Sg

namespace Sg
open PySem
end Sg

namespace Sg
open PySem
end Sg

namespace Sg
open PySem
section
variable {M : List Cell} {Q : D → List Cell → Prop} {X : Nat → List Cell → Prop}
end
end Sg

namespace Sg
open PySem
end Sg

namespace Sg
open PySem
end Sg

namespace Sg
open PySem
def ElR (M : List Cell) (x y : D) : Prop := (isImm x = true ∧ y = x) ∨ ∃ (r : Nat) (m : Bool) (row : List D), x = .ref r ∧ M[r]? = some ⟨m, .lst row⟩ ∧ isImms row = true ∧ y = .lst row
def MixR (M : List Cell) : List D → List D → Prop
  | [], [] => True
  | x :: xs, y :: ys => ElR M x y ∧ MixR M xs ys
  | _, _ => False
theorem MixR.app {M : List Cell} : ∀ {xs ys us vs : List D}, MixR M xs ys → MixR M us vs → MixR M (xs ++ us) (ys ++ vs)
  | [], [], _, _, _, h => h
  | x :: xs, y :: ys, _, _, h, k => ⟨h.1, MixR.app h.2 k⟩
theorem MixR.set {M : List Cell} {x y : D} (hx : ElR M x y) : ∀ {xs ys : List D} {i : Nat}, MixR M xs ys → MixR M (xs.set i x) (ys.set i y)
  | [], [], _, _ => trivial
  | _ :: _, _ :: _, 0, h => ⟨hx, h.2⟩
  | _ :: _, _ :: _, i + 1, h => ⟨h.1, MixR.set hx h.2⟩
theorem MixR.ext {M N : List Cell} (h : ∀ (r : Nat) (m : Bool) (row : List D), M[r]? = some ⟨m, .lst row⟩ → ∃ m', N[r]? = some ⟨m', .lst row⟩) : ∀ {xs ys : List D}, MixR M xs ys → MixR N xs ys
  | [], [], _ => trivial
  | x :: xs, y :: ys, k => ⟨k.1.elim .inl fun ⟨r, m, row, h1, h2, h3, h4⟩ => let ⟨m', h5⟩ := h r m row h2; .inr ⟨r, m', row, h1, h5, h3, h4⟩, MixR.ext h k.2⟩
section
variable {M : List Cell} {Q : D → List Cell → Prop} {X : Nat → List Cell → Prop}
end
end Sg

namespace Sg
open PySem
end Sg

/-! SpWord: the def that tells an error's word. -/
namespace Sg
open PySem
end Sg

namespace Sg
open PySem
end Sg

namespace Sg
open PySem
end Sg

namespace Sg
open PySem TL

theorem app_len (x y : Str) : (x ++ y).length = x.length + y.length := by rw [len_tl, tl_app, List.length_append, ← len_tl, ← len_tl]
theorem wd_asc (w : SW) : ∀ c ∈ tl (wd w), 97 ≤ c ∧ c ≤ 122 := by cases w <;> decide +kernel
theorem wd_len (w : SW) : (wd w).length ≤ 5 := by cases w <;> decide +kernel
theorem iS_sign {i : Int} {s : Nat} (h : s ∈ tl (iS i)) : s = 45 ∨ (48 ≤ s ∧ s ≤ 57) := by
  rw [tl_iS] at h
  exact wsig_sign h
/-- a step's text -/
def stS (s : Step) : Str := Txt.join " " [wd s.w, iS (s.k : Nat), shS s.q]
def hdS (L : Lad) : Str := Txt.join " " ["ladder", iS (L.tr : Nat), iS (L.m : Nat), iS (L.n : Nat)]
def ladS (L : Lad) : Str := Txt.join "\n" (hdS L :: L.st.map stS)
theorem tl_ladder : tl (Str.ofString "ladder") = [108, 97, 100, 100, 101, 114] := rfl
theorem cuts_stS (s : Step) : cuts 32 (stS s) = [wd s.w, iS (s.k : Nat), shS s.q] := cuts_join tl_blank (by simp) fun p hp z => by
  rcases List.mem_cons.mp hp with rfl | hp
  · have := wd_asc s.w _ z
    omega
  · rcases List.mem_cons.mp hp with rfl | hp
    · rcases iS_sign z with z | z <;> omega
    · rw [List.mem_singleton.mp hp] at z
      rcases shS_sign z with z | z | z <;> omega
theorem cuts_hdS (L : Lad) : cuts 32 (hdS L) = [Str.ofString "ladder", iS (L.tr : Nat), iS (L.m : Nat), iS (L.n : Nat)] := cuts_join tl_blank (by simp) fun p hp z => by
  rcases List.mem_cons.mp hp with rfl | hp
  · rw [tl_ladder] at z
    simp at z
  · rcases List.mem_cons.mp hp with rfl | hp
    · rcases iS_sign z with z | z <;> omega
    · rcases List.mem_cons.mp hp with rfl | hp
      · rcases iS_sign z with z | z <;> omega
      · rw [List.mem_singleton.mp hp] at z
        rcases iS_sign z with z | z <;> omega
theorem stS_sign {s : Step} {c : Nat} (h : c ∈ tl (stS s)) : 32 ≤ c ∧ c ≤ 122 := by
  unfold stS at h
  rw [join_eq, tl_join, tl_blank] at h
  rcases joinL_mem h with h | ⟨p, hp, h⟩
  · rw [List.mem_singleton.mp h]; decide
  · rcases List.mem_cons.mp hp with rfl | hp
    · have := wd_asc s.w _ h
      omega
    · rcases List.mem_cons.mp hp with rfl | hp
      · rcases iS_sign h with z | z <;> omega
      · rw [List.mem_singleton.mp hp] at h
        rcases shS_sign h with z | z | z <;> omega
theorem hdS_sign {L : Lad} {c : Nat} (h : c ∈ tl (hdS L)) : 32 ≤ c ∧ c ≤ 122 := by
  unfold hdS at h
  rw [join_eq, tl_join, tl_blank] at h
  rcases joinL_mem h with h | ⟨p, hp, h⟩
  · rw [List.mem_singleton.mp h]; decide
  · rcases List.mem_cons.mp hp with rfl | hp
    · have h : c ∈ tl (Str.ofString "ladder") := h
      rw [tl_ladder] at h
      simp at h
      omega
    · have : ∃ i : Int, p = tl (iS i) := by
        rcases List.mem_cons.mp hp with rfl | hp
        · exact ⟨_, rfl⟩
        · rcases List.mem_cons.mp hp with rfl | hp
          · exact ⟨_, rfl⟩
          · exact ⟨_, List.mem_singleton.mp hp⟩
      obtain ⟨i, rfl⟩ := this
      rcases iS_sign h with z | z <;> omega
theorem cuts_ladS (L : Lad) : cuts 10 (ladS L) = hdS L :: L.st.map stS := cuts_join tl_end (by simp) fun p hp z => by
  rcases List.mem_cons.mp hp with rfl | hp
  · have := hdS_sign z
    omega
  · obtain ⟨s, _, rfl⟩ := List.mem_map.mp hp
    have := stS_sign z
    omega
theorem ladS_asc (L : Lad) : ∀ c ∈ tl (ladS L), c < 256 := fun c h => by
  unfold ladS at h
  rw [join_eq, tl_join, tl_end] at h
  rcases joinL_mem h with h | ⟨p, hp, h⟩
  · rw [List.mem_singleton.mp h]; decide
  · rcases List.mem_cons.mp hp with rfl | hp
    · have := hdS_sign h
      omega
    · rw [List.map_map] at hp
      obtain ⟨s, _, rfl⟩ := List.mem_map.mp hp
      have := stS_sign h
      omega
theorem strOk_lad (L : Lad) : PyData.strOk (ladS L) = true := strOk_of (ladS_asc L)
theorem nat_len {n : Nat} (h : n < 1000000000) : (iS (n : Nat)).length ≤ 12 := by
  have := iS_len (i := (n : Nat)) (m := 30) (by unfold Lt2; rw [Int.natAbs_natCast]; exact Nat.lt_of_lt_of_le h (by decide))
  omega
/-- sizes of what is written -/
def LadT (L : Lad) : Prop := L.tr ≤ 7 ∧ L.m ≤ 7 ∧ L.n ≤ 7 ∧ L.st.length ≤ 401 ∧ ∀ s ∈ L.st, s.k ≤ 7 ∧ Sz s.q 1900
theorem stS_len {s : Step} (h1 : s.k ≤ 7) (h2 : Sz s.q 1900) : (stS s).length ≤ 1300 := by
  have e1 := nat_len (n := s.k) (by omega)
  have e2 := shS_len h2
  have e3 := wd_len s.w
  refine Nat.le_trans (join_len _ _) ?_
  unfold jlen
  simp only [List.map_cons, List.map_nil, List.sum_cons, List.sum_nil, List.length_cons, List.length_nil, show (" " : Str).length = 1 from rfl]
  omega
theorem hdS_len {L : Lad} (h : LadT L) : (hdS L).length ≤ 100 := by
  have e1 := nat_len (n := L.tr) (by have := h.1; omega)
  have e2 := nat_len (n := L.m) (by have := h.2.1; omega)
  have e3 := nat_len (n := L.n) (by have := h.2.2.1; omega)
  refine Nat.le_trans (join_len _ _) ?_
  unfold jlen
  simp only [List.map_cons, List.map_nil, List.sum_cons, List.sum_nil, List.length_cons, List.length_nil, show (" " : Str).length = 1 from rfl, show (Str.ofString "ladder").length = 6 from rfl]
  omega
theorem ladJ {L : Lad} (h : LadT L) : jlen "\n" (hdS L :: L.st.map stS) ≤ 600000 := by
  refine Nat.le_trans (jlen_le (B := 1300) fun p hp => ?_) ?_
  · rcases List.mem_cons.mp hp with rfl | hp
    · have := hdS_len h
      omega
    · obtain ⟨s, hs, rfl⟩ := List.mem_map.mp hp
      exact stS_len (h.2.2.2.2 s hs).1 (h.2.2.2.2 s hs).2
  · rw [List.length_cons, List.length_map, show ("\n" : Str).length = 1 from rfl]
    have := h.2.2.2.1
    omega
theorem ladS_len {L : Lad} (h : LadT L) : (ladS L).length ≤ 600000 := Nat.le_trans (join_len _ _) (ladJ h)
theorem hdS_eq (L : Lad) : "ladder " ++ iS (L.tr : Nat) ++ " " ++ iS (L.m : Nat) ++ " " ++ iS (L.n : Nat) = hdS L := by
  refine ext_tl ?_
  unfold hdS
  rw [join_eq, tl_join]
  simp only [tl_app, List.map_cons, List.map_nil, joinL, List.append_assoc]
  rfl
theorem stS_eq (s : Step) : wd s.w ++ " " ++ iS (s.k : Nat) ++ " " ++ shS s.q = stS s := by
  refine ext_tl ?_
  unfold stS
  rw [join_eq, tl_join]
  simp only [tl_app, List.map_cons, List.map_nil, joinL, List.append_assoc]
theorem W_strN {Q : D → List Cell → Prop} {X : Nat → List Cell → Prop} {M : List Cell} {n : Nat} (h : n < 1000000000) : W (bi .str [.int (n : Nat)] M) Q X = Q (.str (iS (n : Nat))) M :=
  W_strZ (m := 30) (by unfold Lt2; rw [Int.natAbs_natCast]; exact Nat.lt_of_lt_of_le h (by decide)) (by decide)
def Sp977 (Φ : Phi) : Prop := ∀ L : Lad, LadT L → Rt Φ 977 [ladD L] (.str (ladS L))
theorem isImm_lad (L : Lad) : isImm (ladD L) = true := by
  unfold ladD
  simp only [isImm, isImms, Bool.and_true, Bool.true_and]
  exact isImms_map (fun s => rfl) L.st
theorem sp977 {Φ Φ' : Phi} (e : Φ' 977 = evD Φ b977) (h508 : Sp508 Φ) : Sp977 Φ' := fun L hL => rt_of e (by simp only [isImms, isImm_lad, Bool.and_true]) (by
  have e1 := nat_len (n := L.tr) (by have := hL.1; omega)
  have e2 := nat_len (n := L.m) (by have := hL.2.1; omega)
  have e3 := nat_len (n := L.n) (by have := hL.2.2.1; omega)
  have l1 : (Str.ofString "ladder ").length = 7 := rfl
  have l2 : (Str.ofString " ").length = 1 := rfl
  obtain ⟨t1, t2, t3, t4, t5⟩ := hL
  unfold b977 ladD
  walk_at "sg"
  rw [W_strN (by omega)]
  walk_at "sg"
  rw [W_catS (by omega)]
  walk_at "sg"
  rw [W_catS (by simp only [app_len]; omega)]
  walk_at "sg"
  rw [W_strN (by omega)]
  walk_at "sg"
  rw [W_catS (by simp only [app_len]; omega)]
  walk_at "sg"
  rw [W_catS (by simp only [app_len]; omega)]
  walk_at "sg"
  rw [W_strN (by omega)]
  walk_at "sg"
  rw [W_catS (by simp only [app_len]; omega)]
  walk_at "sg"
  rw [hdS_eq]
  refine for_map (fun i σ M => M = [⟨true, .lst ((hdS L :: (L.st.take i).map stS).map D.str)⟩] ∧ ∃ r2 r3 r4, σ = [some (ladD L), some (.ref 0), r2, r3, r4]) ⟨rfl, _, _, _, rfl⟩ ?_ ?_
  · rintro i hi σ M ⟨rfl, r2, r3, r4, rfl⟩
    have h1 := t5 _ (List.getElem_mem hi)
    have h2 := h508 _ h1.2
    have h3 := nat_len (n := L.st[i].k) (by omega)
    have h4 := wd_len L.st[i].w
    have h5 := shS_len h1.2
    unfold stepD
    walk_at "sg"
    rw [W_catS (by omega)]
    walk_at "sg"
    rw [W_strN (by omega)]
    walk_at "sg"
    rw [W_catS (by simp only [app_len]; omega)]
    walk_at "sg"
    rw [W_catS (by simp only [app_len]; omega)]
    walk_at "sg"
    rw [W_rt h2]
    walk_at "sg"
    rw [W_catS (by simp only [app_len]; omega)]
    walk_at "sg"
    rw [stS_eq]
    refine ⟨?_, ?_, _, _, _, rfl⟩
    · simp only [List.length_map, List.length_take]
      omega
    · rw [List.take_succ_eq_append_getElem hi, List.map_append, List.map_cons, List.map_append]
      rfl
  · rintro σ M ⟨rfl, r2, r3, r4, rfl⟩
    rw [List.take_length]
    walk_at "sg"
    rw [W_joinR (ys := hdS L :: L.st.map stS) (m := true) rfl (Nat.le_trans (ladJ ⟨t1, t2, t3, t4, t5⟩) (by decide))]
    exact imm_of rfl)
def stepT (x : Str) : Option D := match cuts 32 x with
  | [w, a, b] => if w = "down" ∨ w = "up" ∨ w = "weigh" then (wholL (tl a)).bind fun k => (numT b).map fun q => .tup [.str w, .int k, .tup [.int q.1, .int (q.2 : Nat)]] else none
  | _ => none
/-- words that may be read -/
def Wds (x : Str) : Prop := x.length ≤ 15999990 ∧ Asc x ∧ ∀ p ∈ cuts 32 x, ∀ r ∈ cuts 47 p, r.length ≤ 640
theorem joinL_ge {S : List Nat} : ∀ {ps : List (List Nat)} {p : List Nat}, p ∈ ps → p.length ≤ (joinL S ps).length
  | [], _, h => by cases h
  | [q], p, h => by rw [List.mem_singleton.mp h]; exact Nat.le_refl _
  | q :: q2 :: r, p, h => by
    show p.length ≤ (q ++ (S ++ joinL S (q2 :: r))).length
    rw [List.length_append, List.length_append]
    rcases List.mem_cons.mp h with rfl | h
    · omega
    · have := joinL_ge (S := S) h
      omega
theorem cuts_le {s : Nat} {x p : Str} (h : p ∈ cuts s x) : p.length ≤ x.length := by
  rw [len_tl, len_tl, ← cuts_back s x]
  exact joinL_ge (List.mem_map.mpr ⟨p, h, rfl⟩)
theorem Wds.cut {x p : Str} (h : Wds x) (hp : p ∈ cuts 32 x) : p.length ≤ 15999990 ∧ (∀ r ∈ cuts 47 p, r.length ≤ 640) ∧ Asc p :=
  ⟨Nat.le_trans (cuts_le hp) h.1, h.2.2 p hp, cuts_asc h.2.1 p hp⟩
theorem wd_mem {w : Str} : inF (.str w) [.str (Str.ofString "down"), .str (Str.ofString "up"), .str (Str.ofString "weigh")] = decide (w = Str.ofString "down" ∨ w = Str.ofString "up" ∨ w = Str.ofString "weigh") := by
  unfold inF
  simp only [List.any_cons, List.any_nil, Bool.or_false]
  have : ∀ y : Str, L2.eqV (flV (.str y)) (flV (.str w)) = decide (w = y) := fun y => by
    show decide (y = w) = decide (w = y)
    rw [Bool.eq_iff_iff]
    simp only [decide_eq_true_eq]
    exact eq_comm
  rw [this, this, this]
  rw [Bool.eq_iff_iff]
  simp only [Bool.or_eq_true, decide_eq_true_eq]
def Sp978 (Φ : Phi) : Prop := ∀ x : Str, Wds x → (∀ d, stepT x = some d → Rt Φ 978 [.str x] d) ∧ (stepT x = none → Xc Φ 978 [.str x] 14)
theorem sp978 {Φ Φ' : Phi} (e : Φ' 978 = evD Φ b978) (h966 : Sp966 Φ) (h967 : Sp967 Φ) : Sp978 Φ' := fun x hx => by
  have key : ∀ {QF : D → List Cell → Prop} {X : Nat → List Cell → Prop}, (∀ d, stepT x = some d → QF d []) → (stepT x = none → X 14 []) → W (evD Φ b978 [.str x] []) QF X := fun {QF X} hq hX => by
    unfold b978
    walk_at "sg"
    rw [W_splitF tl_blank (by decide) (by have := hx.1; omega)]
    have hN : stepT x = (match cuts 32 x with
      | [w, a, b] => if w = "down" ∨ w = "up" ∨ w = "weigh" then (wholL (tl a)).bind fun k => (numT b).map fun q => .tup [.str w, .int k, .tup [.int q.1, .int (q.2 : Nat)]] else none
      | _ => none) := rfl
    have hA : ∀ p ∈ cuts 32 x, p.length ≤ 15999990 ∧ (∀ r ∈ cuts 47 p, r.length ≤ 640) ∧ Asc p := fun p hp => hx.cut hp
    revert hN hA
    cases hc : cuts 32 x with
    | nil => exact absurd hc (cuts_ne _ _)
    | cons w r =>
      intro hN hA
      by_cases hl : r.length = 2
      · match r, hl with
        | [a, b], _ =>
        have hN : stepT x = if w = "down" ∨ w = "up" ∨ w = "weigh" then (wholL (tl a)).bind fun k => (numT b).map fun q => .tup [.str w, .int k, .tup [.int q.1, .int (q.2 : Nat)]] else none := hN
        have ha := hA a (by simp)
        have hb := hA b (by simp)
        have h2 := h966 a ha.1 (Few.cuts ha.2.1) ha.2.2
        have h3 := h967 b hb.1 hb.2.1 hb.2.2
        have z0 : ∀ M Q X, W (idxD (.lst ([w, a, b].map D.str)) (.int 0) M) Q X = Q (.str w) M := fun M Q X => W_nth (i := 0) rfl
        have z1 : ∀ M Q X, W (idxD (.lst ([w, a, b].map D.str)) (.int 1) M) Q X = Q (.str a) M := fun M Q X => W_nth (i := 1) rfl
        have z2 : ∀ M Q X, W (idxD (.lst ([w, a, b].map D.str)) (.int 2) M) Q X = Q (.str b) M := fun M Q X => W_nth (i := 2) rfl
        walk_at "sg"
        rw [if_neg (by simp)]
        walk_at "sg"
        rw [W_notInT, wd_mem]
        refine ⟨⟨rfl, rfl⟩, ?_⟩
        by_cases hw : w = Str.ofString "down" ∨ w = Str.ofString "up" ∨ w = Str.ofString "weigh"
        · rw [decide_eq_true hw]
          have hN : stepT x = (wholL (tl a)).bind fun k => (numT b).map fun q => .tup [.str w, .int k, .tup [.int q.1, .int (q.2 : Nat)]] := hN.trans (if_pos hw)
          walk_at "sg"
          cases e1 : wholL (tl a) with
          | none =>
            rw [W_xc (h2.2 e1)]
            exact hX (by rw [hN, e1]; rfl)
          | some k =>
            rw [W_rt (h2.1 k e1)]
            walk_at "sg"
            cases e2 : numT b with
            | none =>
              rw [W_xc (h3.2 e2)]
              exact hX (by rw [hN, e1, e2]; rfl)
            | some q =>
              rw [W_rt (h3.1 q.1 q.2 (by rw [e2]))]
              walk_at "sg"
              exact hq _ (by rw [hN, e1, e2]; rfl)
        · rw [decide_eq_false hw]
          walk_at "sg"
          exact hX (hN.trans (if_neg hw))
      · walk_at "sg"
        rw [List.length_map, if_pos (by omega)]
        refine hX (hN.trans ?_)
        match r, hl with
        | [], _ => rfl
        | [_], _ => rfl
        | _ :: _ :: _ :: _, _ => rfl
  have imS : ∀ d, stepT x = some d → isImm d = true := fun d hd => by
    unfold stepT at hd
    split at hd
    · split at hd
      · obtain ⟨k, _, hd⟩ := Option.bind_eq_some_iff.mp hd
        obtain ⟨q, _, hd⟩ := Option.map_eq_some_iff.mp hd
        rw [← hd]; rfl
      · cases hd
    · cases hd
  constructor
  · intro d hd
    exact rt_of e rfl (key (fun j hj => by rw [hd] at hj; cases hj; exact imm_of (imS _ hd)) fun z => by rw [hd] at z; cases z)
  · intro hi
    exact xc_of e rfl (key (fun j hj => by rw [hi] at hj; cases hj) fun _ => rfl)
theorem wds_st {s : Step} (h1 : s.k ≤ 7) (h2 : Sz s.q 1900) : Wds (stS s) := by
  have hl := stS_len h1 h2
  refine ⟨by omega, fun c hc => by have := stS_sign hc; omega, fun p hp r hr => ?_⟩
  rw [cuts_stS] at hp
  have e1 := nat_len (n := s.k) (by omega)
  have e3 := wd_len s.w
  have e4 := iS_len h2.1
  have e5 := iS_len h2.2
  rcases List.mem_cons.mp hp with rfl | hp
  · have := cuts_le hr
    omega
  · rcases List.mem_cons.mp hp with rfl | hp
    · have := cuts_le hr
      omega
    · rw [List.mem_singleton.mp hp, cuts_shS] at hr
      split at hr
      · rw [List.mem_singleton.mp hr]; omega
      · rcases List.mem_cons.mp hr with rfl | hr
        · omega
        · rw [List.mem_singleton.mp hr]; omega
theorem stepT_st (s : Step) : stepT (stS s) = some (stepD s) := by
  unfold stepT
  rw [cuts_stS]
  show (if wd s.w = "down" ∨ wd s.w = "up" ∨ wd s.w = "weigh" then _ else _) = _
  have hw : wd s.w = "down" ∨ wd s.w = "up" ∨ wd s.w = "weigh" := by
    cases s.w
    · exact .inl rfl
    · exact .inr (.inl rfl)
    · exact .inr (.inr rfl)
  rw [if_pos hw, tl_iS, whol_wsig, numT_shS]
  rfl
/-- a call of trees makes this ladder anew -/
def MkL (Φ : Phi) (f : Nat) (ds : List D) (L : Lad) : Prop := ∃ (p : Nat) (M1 : List Cell), Φ f ds [] = .ok (.tup [.int (L.tr : Nat), .int (L.m : Nat), .int (L.n : Nat), .ref p]) M1 ∧ M1[p]? = some ⟨true, .lst (L.st.map stepD)⟩
theorem mkL_of {Φ Φ' : Phi} {f : Nat} {ds : List D} {L : Lad} {d : Df} (e : Φ' f = evD Φ d) (h : W (evD Φ d ds []) (fun x M => ∃ p : Nat, x = .tup [.int (L.tr : Nat), .int (L.m : Nat), .int (L.n : Nat), .ref p] ∧ M[p]? = some ⟨true, .lst (L.st.map stepD)⟩) fun _ _ => False) : MkL Φ' f ds L := by
  have h : V (evD Φ d ds []) (fun x M => ∃ p : Nat, x = .tup [.int (L.tr : Nat), .int (L.m : Nat), .int (L.n : Nat), .ref p] ∧ M[p]? = some ⟨true, .lst (L.st.map stepD)⟩) fun _ _ => False := h
  cases q : evD Φ d ds [] with
  | ok x M1 =>
    rw [q] at h
    obtain ⟨p, rfl, h⟩ := h
    exact ⟨p, M1, by rw [e, q], h⟩
  | exc c M1 => rw [q] at h; exact h.elim
  | bad => rw [q] at h; exact h.elim
theorem steps_frs : ∀ st : List Step, isFrs (st.map stepD) = true
  | [] => rfl
  | s :: st => by rw [List.map_cons, isFrs, steps_frs st]; rfl
theorem steps_sh {k : Nat} : ∀ st : List Step, shDs k (st.map stepD) = st.map stepD
  | [] => rfl
  | s :: st => by rw [List.map_cons, shDs, steps_sh st]; rfl
theorem MkL.call2 {Φ : Phi} {f : Nat} {ds es : List D} {L : Lad} {M : List Cell} (h : MkL Φ f es L) (hi : imms M ds = some es) :
    ∃ (p : Nat) (M' : List Cell), callD Φ f 2 ds M = .ok (.tup [.int (L.tr : Nat), .int (L.m : Nat), .int (L.n : Nat), .ref p]) (M ++ M') ∧ (M ++ M')[p]? = some ⟨true, .lst (L.st.map stepD)⟩ := by
  obtain ⟨p, M1, e, h⟩ := h
  refine ⟨M.length + p, M1.map (shC M.length), ?_, ?_⟩
  · unfold callD
    simp only [hi, e]
    rfl
  · rw [imp_cell h (steps_frs _), steps_sh]
theorem imm_ladR {M : List Cell} {L : Lad} {p : Nat} {m : Bool} (h : M[p]? = some ⟨m, .lst (L.st.map stepD)⟩) : imm M (.tup [.int (L.tr : Nat), .int (L.m : Nat), .int (L.n : Nat), .ref p]) = some (ladD L) := by
  have hi : isImm (.lst (L.st.map stepD)) = true := by
    rw [isImm]
    exact isImms_map (fun s => rfl) L.st
  have hl := get_lt h
  unfold imm
  cases e : M.length with
  | zero => omega
  | succ n =>
    unfold immF
    simp only [mapRef, mapRefs, h, Option.bind_some, Option.map_some]
    rw [immF_of hi]
    rfl
theorem cutL_from72 {α : Type} (xs : List α) (lo : Nat) (h : lo ≤ xs.length) : cutL xs (some (lo : Int)) none = xs.drop lo := by
  unfold cutL
  rw [HT.sIx_nat, HT.sIx_none, Nat.min_eq_left h, List.take_of_length_le]
  rw [List.length_drop]
  omega
def Sp979 (Φ : Phi) : Prop := ∀ L : Lad, LadT L → MkL Φ 979 [.str (ladS L)] L
theorem sp979 {Φ Φ' : Phi} (e : Φ' 979 = evD Φ b979) (h511 : Sp511 Φ) (h966 : Sp966 Φ) (h978 : Sp978 Φ) : Sp979 Φ' := fun L hL => mkL_of e (by
  have h1 := h511.1 (ladS L)
  have h2 := ladS_len hL
  have h3 := hdS_len hL
  have e1 := nat_len (n := L.tr) (by have := hL.1; omega)
  have e2 := nat_len (n := L.m) (by have := hL.2.1; omega)
  have e3 := nat_len (n := L.n) (by have := hL.2.2.1; omega)
  obtain ⟨t1, t2, t3, t4, t5⟩ := hL
  unfold b979
  walk_at "sg"
  rw [W_rt h1]
  walk_at "sg"
  rw [W_splitF tl_end (by decide) (by omega), cuts_ladS]
  walk_at "sg"
  rw [W_splitF tl_blank (by decide) (by omega), cuts_hdS]
  walk_at "sg"
  rw [if_neg (by simp), W_neS (by decide +kernel) (by decide +kernel), decide_eq_true rfl]
  walk_at "sg"
  have hcut : ∀ (ds : List D) (d : D), cutL (d :: ds) (some 1) none = ds := fun ds d => by
    rw [show (some (1 : Int)) = some ((1 : Nat) : Int) from rfl, cutL_from72 _ 1 (by simp)]
    rfl
  rw [hcut]
  refine ⟨by simp, ?_⟩
  refine W_compM (xs := [L.tr, L.m, L.n]) (f := fun n : Nat => D.str (iS (n : Nat))) (g := fun n : Nat => D.int (n : Nat)) (fun n hn => ?_) ?_
  · have hn7 : n ≤ 7 := by
      simp only [List.mem_cons, List.not_mem_nil, or_false] at hn
      rcases hn with rfl | rfl | rfl <;> assumption
    have hl := nat_len (n := n) (by omega)
    have h := (h966 (iS (n : Nat)) (by omega) (Few.of (by omega)) (fun c hc => by rcases iS_sign hc with z | z <;> omega)).1 n (by rw [tl_iS, whol_wsig])
    walk_at "sgh"
  walk_at "sg"
  rw [hcut, List.map_map]
  refine ⟨by rw [List.length_map]; omega, ?_⟩
  refine W_compM (f := D.str ∘ stS) (g := stepD) (fun s hs => ?_) ?_
  · have h := (h978 (stS s) (wds_st (t5 s hs).1 (t5 s hs).2)).1 _ (stepT_st s)
    show W (compS _ _ _ _ _ _ (D.str (stS s)) _) _ _
    walk_at "sgh"
  walk_at "sg"
  exact ⟨by rw [List.length_map]; omega, 0, rfl, rfl⟩)
def Sp980 (Φ : Phi) : Prop := ∀ L : Lad, LadT L → L.Ok → MkL Φ 980 [.str (ladS L)] L
theorem sp980 {Φ Φ' : Phi} (e : Φ' 980 = evD Φ b980) (h122 : Sp122 Φ) (h979 : Sp979 Φ) : Sp980 Φ' := fun L hL hO => mkL_of e (by
  obtain ⟨p, M', hc, hp⟩ := (h979 L hL).call2 (M := []) (ds := [.str (ladS L)]) (imms_of rfl)
  generalize [] ++ M' = M1 at hc hp
  have himm := imm_ladR hp
  have h1 := h122 L hO
  have hl1 : callD Φ 122 1 [.tup [.int (L.tr : Nat), .int (L.m : Nat), .int (L.n : Nat), .ref p]] M1 = .ok .non M1 := h1.call1 (by simp only [imms, himm, Option.bind_some, Option.map_some]) (by simp only [isImms, isImm_lad, Bool.and_true]) rfl
  unfold b980
  walk_at "sg"
  rw [hc]
  walk_at "sg"
  rw [hl1]
  walk_at "sg"
  exact ⟨p, rfl, hp⟩)
end Sg

namespace Sg
open PySem
end Sg

namespace Sg
open PySem TL

theorem lt2_of {i : Int} {m : Nat} (h0 : 0 ≤ i) (h : i < 2 ^ m) : Lt2 i m := by
  unfold Lt2
  have e : ((2 ^ m : Nat) : Int) = (2 : Int) ^ m := by push_cast; rfl
  omega
theorem bs_ok {bs : List Int} (h : bs.all (fun b => decide (0 < b) && decide (b < 2 ^ 300)) = true) : ∀ b ∈ bs, 0 < b ∧ Lt2 b 8999 := fun b hb => by
  have := List.all_eq_true.mp h b hb
  simp only [Bool.and_eq_true, decide_eq_true_eq] at this
  exact ⟨this.1, (lt2_of (by omega) this.2).mono (by decide)⟩
theorem cutL_to72 {α : Type} (xs : List α) (n : Nat) : cutL xs none (some (n : Int)) = xs.take n := by
  unfold cutL
  rw [HT.sIx_nat]
  show List.take (min n xs.length - 0) (List.drop 0 xs) = _
  rw [List.drop_zero, Nat.sub_zero]
  by_cases h : n ≤ xs.length
  · rw [Nat.min_eq_left h]
  · rw [Nat.min_eq_right (by omega), List.take_length, List.take_of_length_le (by omega)]
end Sg

namespace Sg
open PySem TL

/-- numbers from 0 on -/
def Sp10n (Φ : Phi) : Prop := ∀ p : Int, 0 ≤ p → ∃ q : Rat, Sz q 5 ∧ 0 ≤ q ∧ Rt Φ 10 [.int 2, .int p] (qD q)
theorem divInt_nn {a b : Int} (ha : 0 ≤ a) (hb : 0 < b) : 0 ≤ Rat.divInt a b := by
  have := Rat.divInt_nonneg_iff_of_pos_right (a := a) (b := b) hb
  exact this.mpr ha
theorem sp10n {Φ Φ' : Phi} (e : Φ' 10 = evD Φ b10) (h9 : Sp9 Φ) : Sp10n Φ' := fun p hp => by
  have key : ∃ r, (∃ q : Rat, r = qD q ∧ Sz q 5 ∧ 0 ≤ q) ∧ Rt Φ' 10 [.int 2, .int p] r := by
    refine rt_ex e rfl ?_
    have h1 := @emod_lt' p 10 (by decide)
    have h3 := @emod_lt' (p / 10) 6 (by decide)
    have hf := h9 (p % 10) (1 + p / 10 % 6) (by omega) (Lt2.mono (m := 3) (by unfold Lt2; omega) (by decide))
    unfold b10
    walk_at "sgh"
    refine ⟨_, imm_of rfl, _, rfl, sz_divInt (m := 4) (n := 3) ?_ ?_ (by decide) (by decide) (by decide), divInt_nn (by omega) (by omega)⟩ <;> (unfold Lt2; omega)
  obtain ⟨r, ⟨q, rfl, h1, h2⟩, h3⟩ := key
  exact ⟨q, h1, h2, h3⟩
def Sp32y (Φ : Phi) : Prop := ∀ (c : Int) (n : Nat), 0 < n → n < 2 ^ 8000 → ∃ c' : Int, Rt Φ 32 [.int c, .int (n : Nat)] (.int c')
theorem sp32y {Φ Φ' : Phi} (e : Φ' 32 = evD Φ b32) : Sp32y Φ' := fun c n h0 hn => by
  have key : ∃ r, (∃ c', r = .int c') ∧ Rt Φ' 32 [.int c, .int (n : Nat)] r := by
    refine rt_ex e rfl ?_
    have h1 : (0 : Int) < (n : Nat) := by omega
    have h2 := dvOk_of (lt2_nat hn) (by decide)
    unfold b32
    walk_at "sg"
    split
    · walk_at "sgh"
      exact ⟨_, imm_of rfl, _, rfl⟩
    · exact ⟨_, imm_of rfl, _, rfl⟩
  obtain ⟨r, ⟨c', rfl⟩, h⟩ := key
  exact ⟨c', h⟩
theorem LadT.of {L : Lad} (h : L.Ok) (hs : ∀ s ∈ L.st, Sz s.q 1900) : LadT L := by
  refine ⟨h.t7, Nat.le_trans h.mt h.t7, Nat.le_trans h.nt h.t7, by have := h.len; omega, fun s hm => ⟨?_, hs s hm⟩⟩
  have h1 := h.at_ s hm
  have h2 := h.t7
  by_cases hw : s.w = .weigh
  · have := h1.1 hw
    omega
  · have := h1.2 hw
    omega
theorem tail536_ok {Φ : Phi} (h10 : Sp10n Φ) (c most : Int) (P : D) (tr m n : Nat) (w : SW) (part : Int) (hp : 0 ≤ part) (htr : 1 ≤ tr) (hw : w ≠ .weigh → 1 < tr) (st : List Step) (hst : st.length < 15999999) {r9 : Option D} {QF : Fl → St → List Cell → Prop} {X : Nat → List Cell → Prop}
    (hq : ∀ (s : Step) r9, s.At tr → 0 ≤ s.q → Sz s.q 5 → QF .nx [some (.int c), some (.int most), some P, some (.int (tr : Nat)), some (.int (m : Nat)), some (.int (n : Nat)), some (.ref 0), some (.int part), some (.str (wd w)), r9] [⟨true, .lst ((st ++ [s]).map stepD)⟩]) :
    WQ (evSs Φ tail536 [some (.int c), some (.int most), some P, some (.int (tr : Nat)), some (.int (m : Nat)), some (.int (n : Nat)), some (.ref 0), some (.int part), some (.str (wd w)), r9] [⟨true, .lst (st.map stepD)⟩]) QF X := by
  obtain ⟨q, q1, q2, q3⟩ := h10 (part / 21) (Int.ediv_nonneg hp (by decide))
  have a7 := @emod_lt' (part / 3) 7 (by decide)
  have fin : ∀ z : Int, z = tr - (if w = .weigh then 0 else 1) → 0 < z ∧ (part / 3 % 7 % z).toNat < z ∧ 0 ≤ part / 3 % 7 % z := fun z hz => by
    have h0 : 0 < z := by
      rw [hz]
      split
      · omega
      · rename_i h
        have := hw h
        omega
    have := @emod_lt' (part / 3 % 7) z h0
    omega
  unfold tail536
  walk_at "sg"
  rw [show (Str.ofString "weigh") = wd .weigh from rfl, W_neW]
  have e1 : (!decide (w = SW.weigh)) = if w = .weigh then false else true := by by_cases h : w = .weigh <;> simp [h]
  have hz := fin (tr - (if w = .weigh then 0 else 1)) rfl
  have last : ∀ (kk : Int) (x : D), kk = part / 3 % 7 % (tr - (if w = .weigh then 0 else 1)) → x = .tup [.str (wd w), .int kk, qD q] → QF .nx [some (.int c), some (.int most), some P, some (.int (tr : Nat)), some (.int (m : Nat)), some (.int (n : Nat)), some (.ref 0), some (.int part), some (.str (wd w)), some (.int kk)] [⟨true, .lst (List.map stepD st ++ [x])⟩] := fun kk x hk hx => by
    have h3 := hz.2.2
    have h4 := hz.2.1
    have h5 := hz.1
    rw [← hk] at h3 h4
    have ek : ((kk.toNat : Nat) : Int) = kk := Int.toNat_of_nonneg h3
    have := hq ⟨w, kk.toNat, q⟩ (some (.int kk)) ⟨fun hw => by
      have hw : w = .weigh := hw
      rw [if_pos hw] at h4
      show kk.toNat < tr
      omega, fun hw => by
      have hw : w ≠ .weigh := hw
      rw [if_neg hw] at h4
      show kk.toNat + 1 < tr
      omega⟩ q2 q1
    rw [hx]
    rw [List.map_append] at this
    have e2 : stepD ⟨w, kk.toNat, q⟩ = .tup [.str (wd w), .int kk, qD q] := by
      unfold stepD
      rw [ek]
    rw [List.map_cons, e2] at this
    exact this
  by_cases h : w = .weigh
  · rw [e1, if_pos h]
    rw [if_pos h] at hz
    have hz0 := hz.1
    walk_at "sgh"
    refine ⟨by rw [List.length_map]; omega, ?_⟩
    have := last (part / 3 % 7 % (tr - 0)) _ (by rw [if_pos h]) rfl
    rw [h] at this
    exact this
  · rw [e1, if_neg h]
    rw [if_neg h] at hz
    have hz0 := hz.1
    walk_at "sgh"
    rw [List.length_map]
    omega
def Sp536 (Φ : Phi) : Prop := ∀ (c : Int) (most : Nat), most ≤ 400 → ∃ L : Lad, L.Ok ∧ L.st.length = most ∧ (∀ s ∈ L.st, Sz s.q 5) ∧ MkL Φ 536 [.int c, .int (most : Nat)] L
theorem sp536 {Φ Φ' : Phi} (e : Φ' 536 = evD Φ b536) (h7 : Sp7 Φ) (h10 : Sp10n Φ) : Sp536 Φ' := fun c most hm => by
  suffices h : W (evD Φ b536 [.int c, .int (most : Nat)] []) (fun x M => ∃ L : Lad, L.Ok ∧ L.st.length = most ∧ (∀ s ∈ L.st, Sz s.q 5) ∧ ∃ p : Nat, x = .tup [.int (L.tr : Nat), .int (L.m : Nat), .int (L.n : Nat), .ref p] ∧ M[p]? = some ⟨true, .lst (L.st.map stepD)⟩) fun _ _ => False by
    have h : V (evD Φ b536 [.int c, .int (most : Nat)] []) _ fun _ _ => False := h
    cases q : evD Φ b536 [.int c, .int (most : Nat)] [] with
    | ok x M1 =>
      rw [q] at h
      obtain ⟨L, h1, h2, h3, p, rfl, h4⟩ := h
      exact ⟨L, h1, h2, h3, p, M1, by rw [e, q], h4⟩
    | exc c M1 => rw [q] at h; exact h.elim
    | bad => rw [q] at h; exact h.elim
  obtain ⟨xs, hb, hx⟩ := h7 c ([7, 7, 7, 4] ++ List.replicate most 1260) (fun b hb => by
    rcases List.mem_append.mp hb with hb | hb
    · exact bs_ok (bs := [7, 7, 7, 4]) (by decide) b hb
    · rw [List.eq_of_mem_replicate hb]
      exact bs_ok (bs := [1260]) (by decide) 1260 (by simp)) (by rw [List.length_append, List.length_replicate]; simp; omega)
  have hxl : xs.length = most + 4 := by
    rw [hb.len, List.length_append, List.length_replicate]; simp; omega
  have hp : ∀ j, j < 4 → ∀ M Q X, W (idxD (.lst (xs.map D.int)) (.int (j : Nat)) M) Q X = Q (.int (xs.getD j 0)) M := fun j hj M Q X => W_nth (i := j) (getD_nat (by omega))
  have p0 : ∀ M Q X, W (idxD (.lst (xs.map D.int)) (.int 0) M) Q X = Q (.int (xs.getD 0 0)) M := hp 0 (by decide)
  have p1 : ∀ M Q X, W (idxD (.lst (xs.map D.int)) (.int 1) M) Q X = Q (.int (xs.getD 1 0)) M := hp 1 (by decide)
  have p2 : ∀ M Q X, W (idxD (.lst (xs.map D.int)) (.int 2) M) Q X = Q (.int (xs.getD 2 0)) M := hp 2 (by decide)
  have bnd : ∀ j (hj : j < xs.length), 0 ≤ xs[j] ∧ (j < 3 → xs[j] < 7) := fun j hj => by
    have hj2 : j < ([7, 7, 7, 4] ++ List.replicate most (1260 : Int)).length := by rw [← hb.len]; exact hj
    have := InB.get hj hj2 hb
    refine ⟨this.1, fun h3 => ?_⟩
    have h4 := this.2
    rw [List.getElem_append_left (by simp; omega)] at h4
    match j, h3 with
    | 0, _ => exact h4
    | 1, _ => exact h4
    | 2, _ => exact h4
  have b0 := bnd 0 (by omega)
  have b1 := bnd 1 (by omega)
  have b2 := bnd 2 (by omega)
  have g0 : xs.getD 0 0 = xs[0]'(by omega) := by rw [List.getD_eq_getElem?_getD, List.getElem?_eq_getElem (by omega)]; rfl
  have g1 : xs.getD 1 0 = xs[1]'(by omega) := by rw [List.getD_eq_getElem?_getD, List.getElem?_eq_getElem (by omega)]; rfl
  have g2 : xs.getD 2 0 = xs[2]'(by omega) := by rw [List.getD_eq_getElem?_getD, List.getElem?_eq_getElem (by omega)]; rfl
  unfold b536
  walk_at "sg"
  refine ⟨by unfold B62; omega, ?_⟩
  rw [Int.toNat_natCast]
  refine W_compUp (g := fun _ => D.int 1260) (fun i hi => ?_) ?_
  · walk_at "sg"
  walk_at "sg"
  have hrep : (List.range most).map (fun _ => D.int 1260) = (List.replicate most (1260 : Int)).map D.int := by
    rw [List.map_const', List.length_range, List.map_replicate]
  rw [hrep]
  refine ⟨by simp; omega, ?_⟩
  have hx : Rt Φ 7 [.int c, .lst (D.int 7 :: .int 7 :: .int 7 :: .int 4 :: (List.replicate most (1260 : Int)).map D.int)] (.lst (xs.map D.int)) := by
    rw [List.map_append] at hx
    exact hx
  rw [W_rt hx]
  walk_at "sg"
  rw [p0]
  walk_at "sg"
  have c0 := b0.2 (by decide)
  have c1 := b1.2 (by decide)
  have c2 := b2.2 (by decide)
  rw [← g0] at b0 c0
  rw [← g1] at b1 c1
  rw [← g2] at b2 c2
  have b0 := b0.1
  have b1 := b1.1
  have b2 := b2.1
  generalize xs.getD 0 0 = x0 at *
  generalize xs.getD 1 0 = x1 at *
  generalize xs.getD 2 0 = x2 at *
  obtain ⟨t, rfl⟩ := Int.eq_ofNat_of_zero_le b0
  have ht0 : (0 : Int) < 1 + (t : Nat) := by omega
  have cutx : cutL (xs.map D.int) (some 4) none = (xs.drop 4).map D.int := by
    rw [show (some (4 : Int)) = some ((4 : Nat) : Int) from rfl, cutL_from72 _ 4 (by rw [List.length_map]; omega), List.map_drop]
  have nnx : ∀ i (h : i < (xs.drop 4).length), 0 ≤ (xs.drop 4)[i] := fun i h => by
    rw [List.getElem_drop]
    exact (bnd _ _).1
  have hdl : (xs.drop 4).length = most := by rw [List.length_drop]; omega
  clear g0 g1 g2 hrep hb h7 bnd hp
  rw [p1]
  walk_at "sgh"
  have hm1 := @emod_lt' x1 (1 + (t : Nat)) ht0
  have hm2 := @emod_lt' x2 (1 + (t : Nat)) ht0
  generalize x1 % (1 + (t : Nat)) = y1 at *
  generalize x2 % (1 + (t : Nat)) = y2 at *
  obtain ⟨m', rfl⟩ := Int.eq_ofNat_of_zero_le hm1.1
  obtain ⟨n', rfl⟩ := Int.eq_ofNat_of_zero_le hm2.1
  refine ⟨by rw [List.length_map, List.length_replicate]; omega, by rw [List.length_map, hdl]; omega, ?_⟩
  have et : (1 + (t : Int)) = ((1 + t : Nat) : Int) := by omega
  have em : (1 + (m' : Int)) = ((1 + m' : Nat) : Int) := by omega
  have en : (1 + (n' : Int)) = ((1 + n' : Nat) : Int) := by omega
  rw [et, em, en]
  refine for_map (fun i σ M => ∃ (st : List Step) (r7 r8 r9 : Option D), σ = [some (.int c), some (.int (most : Nat)), some (.lst (xs.map D.int)), some (.int ((1 + t : Nat) : Int)), some (.int ((1 + m' : Nat) : Int)), some (.int ((1 + n' : Nat) : Int)), some (.ref 0), r7, r8, r9] ∧
    M = [⟨true, .lst (st.map stepD)⟩] ∧ st.length = i ∧ ∀ s ∈ st, s.At (1 + t) ∧ 0 ≤ s.q ∧ Sz s.q 5) ⟨[], _, _, _, rfl, rfl, rfl, fun s hs => by cases hs⟩ ?_ ?_
  · rintro i hi σ M ⟨st, r7, r8, r9, rfl, rfl, hl, hst⟩
    have hy := nnx i hi
    generalize (xs.drop 4)[i] = y at hy
    have nxt : ∀ (s : Step), s.At (1 + t) → 0 ≤ s.q → Sz s.q 5 → ∀ s' ∈ st ++ [s], s'.At (1 + t) ∧ 0 ≤ s'.q ∧ Sz s'.q 5 := fun s s1 s2 s3 s' hs' => by
      rcases List.mem_append.mp hs' with h | h
      · exact hst s' h
      · rw [List.mem_singleton.mp h]
        exact ⟨s1, s2, s3⟩
    have h3 := @emod_lt' y 3 (by decide)
    have hc : y % 3 = 0 ∨ y % 3 = 1 ∨ y % 3 = 2 := by omega
    by_cases ht : t = 0
    · have e1 : (((1 + t : Nat) : Int) = 1) := by omega
      rcases hc with hc | hc | hc <;> (
        walk_at "sg"
        rw [hc]
        walk_at "sg"
        rw [if_pos e1]
        exact tail536_ok h10 c most _ (1 + t) (1 + m') (1 + n') .weigh y hy (by omega) (fun z => absurd rfl z) st (by omega) fun s r9 s1 s2 s3 => ⟨st ++ [s], _, _, _, rfl, rfl, by rw [List.length_append, hl]; rfl, nxt s s1 s2 s3⟩)
    · have e1 : ¬ (((1 + t : Nat) : Int) = 1) := by omega
      rcases hc with hc | hc | hc
      · walk_at "sg"
        rw [hc]
        walk_at "sg"
        rw [if_neg e1]
        exact tail536_ok h10 c most _ (1 + t) (1 + m') (1 + n') .down y hy (by omega) (fun z => by omega) st (by omega) fun s r9 s1 s2 s3 => ⟨st ++ [s], _, _, _, rfl, rfl, by rw [List.length_append, hl]; rfl, nxt s s1 s2 s3⟩
      · walk_at "sg"
        rw [hc]
        walk_at "sg"
        rw [if_neg e1]
        exact tail536_ok h10 c most _ (1 + t) (1 + m') (1 + n') .up y hy (by omega) (fun z => by omega) st (by omega) fun s r9 s1 s2 s3 => ⟨st ++ [s], _, _, _, rfl, rfl, by rw [List.length_append, hl]; rfl, nxt s s1 s2 s3⟩
      · walk_at "sg"
        rw [hc]
        walk_at "sg"
        rw [if_neg e1]
        exact tail536_ok h10 c most _ (1 + t) (1 + m') (1 + n') .weigh y hy (by omega) (fun z => absurd rfl z) st (by omega) fun s r9 s1 s2 s3 => ⟨st ++ [s], _, _, _, rfl, rfl, by rw [List.length_append, hl]; rfl, nxt s s1 s2 s3⟩
  · rintro σ M ⟨st, r7, r8, r9, rfl, rfl, hl, hst⟩
    walk_at "sg"
    refine ⟨⟨1 + t, 1 + m', 1 + n', st⟩, ⟨by show 1 + t ≤ 7; omega, by show 1 ≤ 1 + m'; omega, by show 1 + m' ≤ 1 + t; omega, by show 1 ≤ 1 + n'; omega, by show 1 + n' ≤ 1 + t; omega, by show st.length ≤ 400; omega, fun s hs => (hst s hs).1, fun s hs => (hst s hs).2.1, fun s hs => (hst s hs).2.2.mono (by decide)⟩, by show st.length = most; omega, fun s hs => (hst s hs).2.2, 0, rfl, rfl⟩
def Sp981 (Φ : Phi) : Prop := ∀ L : Lad, LadT L → Rt Φ 981 [ladD L] (.str (ladS L))
theorem hdS_eq2 (L : Lad) : "ladder " ++ Txt.join " " [iS (L.tr : Nat), iS (L.m : Nat), iS (L.n : Nat)] = hdS L := by
  refine ext_tl ?_
  unfold hdS
  rw [tl_app, join_eq, join_eq, tl_join, tl_join]
  simp only [List.map_cons, List.map_nil, joinL, List.append_assoc]
  rfl
theorem sp981 {Φ Φ' : Phi} (e : Φ' 981 = evD Φ b981) : Sp981 Φ' := fun L hL => rt_of e (by simp only [isImms, isImm_lad, Bool.and_true]) (by
  have e1 := nat_len (n := L.tr) (by have := hL.1; omega)
  have e2 := nat_len (n := L.m) (by have := hL.2.1; omega)
  have e3 := nat_len (n := L.n) (by have := hL.2.2.1; omega)
  have l1 : (Str.ofString "ladder ").length = 7 := rfl
  have l2 : (Str.ofString " ").length = 1 := rfl
  have l3 : (Str.ofString "/").length = 1 := rfl
  obtain ⟨t1, t2, t3, t4, t5⟩ := hL
  have hcut : cutL [D.int (L.tr : Nat), .int (L.m : Nat), .int (L.n : Nat), .lst (L.st.map stepD)] none (some 3) = [L.tr, L.m, L.n].map fun n : Nat => D.int (n : Nat) := by
    rw [show (some (3 : Int)) = some ((3 : Nat) : Int) from rfl, cutL_to72]
    rfl
  have hj : jlen (Str.ofString " ") [iS (L.tr : Nat), iS (L.m : Nat), iS (L.n : Nat)] ≤ 39 := by
    unfold jlen
    simp only [List.map_cons, List.map_nil, List.sum_cons, List.sum_nil, List.length_cons, List.length_nil, l2]
    omega
  have hjl := Nat.le_trans (join_len (Str.ofString " ") [iS (L.tr : Nat), iS (L.m : Nat), iS (L.n : Nat)]) hj
  unfold b981 ladD
  walk_at "sg"
  rw [W_slcT, hcut]
  walk_at "sg"
  refine W_compM (xs := [L.tr, L.m, L.n]) (f := fun n : Nat => D.int (n : Nat)) (g := fun n : Nat => D.str (iS (n : Nat))) (fun n hn => ?_) ?_
  · have hn7 : n ≤ 7 := by
      simp only [List.mem_cons, List.not_mem_nil, or_false] at hn
      rcases hn with rfl | rfl | rfl <;> assumption
    walk_at "sg"
    rw [W_strN (by omega)]
    exact ⟨rfl, rfl⟩
  walk_at "sg"
  rw [show [D.str (iS (L.tr : Nat)), D.str (iS (L.m : Nat)), D.str (iS (L.n : Nat))] = [iS (L.tr : Nat), iS (L.m : Nat), iS (L.n : Nat)].map D.str from rfl, W_joinL (Nat.le_trans hj (by decide))]
  walk_at "sg"
  rw [W_catS (by omega)]
  walk_at "sg"
  rw [hdS_eq2]
  refine for_map (fun i σ M => M = [⟨true, .lst ((hdS L :: (L.st.take i).map stS).map D.str)⟩] ∧ ∃ r2 r3 r4 r5, σ = [some (ladD L), some (.ref 0), r2, r3, r4, r5, none]) ⟨rfl, _, _, _, _, rfl⟩ ?_ ?_
  · rintro i hi σ M ⟨rfl, r2, r3, r4, r5, rfl⟩
    have h1 := t5 _ (List.getElem_mem hi)
    have h3 := nat_len (n := L.st[i].k) (by omega)
    have h4 := wd_len L.st[i].w
    have h5 := shS_len h1.2
    have h6 := iS_len h1.2.1
    have h7 := iS_len h1.2.2
    unfold stepD
    walk_at "sg"
    rw [W_strZ h1.2.1 (by omega)]
    walk_at "sg"
    by_cases hd : L.st[i].q.den = 1
    · rw [if_neg (by omega)]
      have hs : shS L.st[i].q = iS L.st[i].q.num := by unfold shS; rw [if_pos hd]
      walk_at "sg"
      rw [W_catS (by omega)]
      walk_at "sg"
      rw [W_strN (by omega)]
      walk_at "sg"
      rw [W_catS (by simp only [app_len]; omega)]
      walk_at "sg"
      rw [W_catS (by simp only [app_len]; omega)]
      walk_at "sg"
      rw [← hs, W_catS (by simp only [app_len]; omega)]
      walk_at "sg"
      rw [stS_eq]
      refine ⟨?_, ?_, _, _, _, _, rfl⟩
      · simp only [List.length_map, List.length_take]
        omega
      · rw [List.take_succ_eq_append_getElem hi, List.map_append, List.map_cons, List.map_append]
        rfl
    · rw [if_pos (by have := L.st[i].q.den_pos; omega)]
      have hs : shS L.st[i].q = iS L.st[i].q.num ++ Str.ofString "/" ++ iS (L.st[i].q.den : Nat) := by unfold shS; rw [if_neg hd]
      walk_at "sg"
      rw [W_catS (by omega)]
      walk_at "sg"
      rw [W_strZ h1.2.2 (by omega)]
      walk_at "sg"
      rw [W_catS (by simp only [app_len]; omega)]
      walk_at "sg"
      rw [W_catS (by omega)]
      walk_at "sg"
      rw [W_strN (by omega)]
      walk_at "sg"
      rw [W_catS (by simp only [app_len]; omega)]
      walk_at "sg"
      rw [W_catS (by simp only [app_len]; omega)]
      walk_at "sg"
      rw [← hs, W_catS (by simp only [app_len]; omega)]
      walk_at "sg"
      rw [stS_eq]
      refine ⟨?_, ?_, _, _, _, _, rfl⟩
      · simp only [List.length_map, List.length_take]
        omega
      · rw [List.take_succ_eq_append_getElem hi, List.map_append, List.map_cons, List.map_append]
        rfl
  · rintro σ M ⟨rfl, r2, r3, r4, r5, rfl⟩
    rw [List.take_length]
    walk_at "sg"
    rw [W_joinR (ys := hdS L :: L.st.map stS) (m := true) rfl (Nat.le_trans (ladJ ⟨t1, t2, t3, t4, t5⟩) (by decide))]
    exact imm_of rfl)
def Sp538 (Φ : Phi) : Prop := ∀ L : Lad, (∀ s ∈ L.st, Sz s.q 1900) → Rt Φ 538 [ladD L, ladD L] (.bl true)
theorem sp538 {Φ Φ' : Phi} (e : Φ' 538 = evD Φ b538) (h11 : Sp11 Φ) (h12 : Sp12 Φ) : Sp538 Φ' := fun L hL => rt_of e (by simp only [isImms, isImm_lad, Bool.and_true]) (by
  have hcut : cutL [D.int (L.tr : Nat), .int (L.m : Nat), .int (L.n : Nat), .lst (L.st.map stepD)] none (some 3) = [L.tr, L.m, L.n].map fun n : Nat => D.int (n : Nat) := by
    rw [show (some (3 : Int)) = some ((3 : Nat) : Int) from rfl, cutL_to72]
    rfl
  unfold b538 ladD
  walk_at "sg"
  rw [W_slcT, hcut]
  walk_at "sg"
  refine W_compM (xs := [L.tr, L.m, L.n]) (f := fun n : Nat => D.int (n : Nat)) (g := fun n : Nat => D.bl ((fun _ => true) n)) (fun n hn => ?_) ?_
  · have h : Rt Φ 11 [.int (n : Nat)] (.bl true) := h11 (.int (n : Nat)) rfl rfl
    walk_at "sgh"
  walk_at "sg"
  have hall : ∀ M Q X, W (bi .all [.lst [D.bl true, .bl true, .bl true]] M) Q X = Q (.bl true) M := fun M Q X => rfl
  rw [hall]
  walk_at "sg"
  rw [W_slcT, hcut]
  walk_at "sg"
  rw [W_slcT, hcut]
  walk_at "sg"
  rw [W_neSelf (n := 2) (by rfl) (by decide)]
  walk_at "sg"
  refine for_zip rfl (fun i σ M => ∃ r2 r3, σ = [some (ladD L), some (ladD L), r2, r3, none]) ⟨none, none, rfl⟩ ?_ ?_
  · rintro i hi hi' σ M ⟨r2, r3, rfl⟩
    have hq := h12.self (hL _ (List.getElem_mem hi)) (by decide)
    have h1 : Rt Φ 11 [.int (L.st[i].k : Nat)] (.bl true) := h11 (.int (L.st[i].k : Nat)) rfl rfl
    unfold stepD
    walk_at "sg"
    have hwd : pu 0 (.str (wd L.st[i].w)) = true := strOk_of (x := wd L.st[i].w) fun c hc => by have := wd_asc _ c hc; omega
    rw [W_neSelf (n := 0) hwd (by decide)]
    walk_at "sg"
    rw [W_rt h1]
    walk_at "sg"
    rw [W_rt hq]
    walk_at "sg"
    exact ⟨_, _, rfl⟩
  · rintro σ M ⟨r2, r3, rfl⟩
    walk_at "sg"
    exact imm_of rfl)
def Sp982 (Φ : Phi) : Prop := ∀ L : Lad, L.Ok → (∀ s ∈ L.st, Sz s.q 1900) → Rt Φ 982 [ladD L] (.bl true)
theorem sp982 {Φ Φ' : Phi} (e : Φ' 982 = evD Φ b982) (h538 : Sp538 Φ) (h977 : Sp977 Φ) (h980 : Sp980 Φ) (h981 : Sp981 Φ) : Sp982 Φ' := fun L hO hs => rt_of e (by simp only [isImms, isImm_lad, Bool.and_true]) (by
  have hT := LadT.of hO hs
  have a1 := h981 L hT
  have a2 := h977 L hT
  have a3 := h538 L hs
  have mk := h980 L hT hO
  have hlen := hO.len
  unfold b982
  walk_at "sg"
  rw [W_rt a1]
  walk_at "sg"
  rw [W_rt a2]
  walk_at "sg"
  rw [W_neS (strOk_lad L) (strOk_lad L), decide_eq_true rfl]
  walk_at "sg"
  refine ⟨by unfold B62; omega, ?_⟩
  refine for_up0 (n := 2) (fun i σ M => ∃ r1 r2, σ = [some (ladD L), some (.str (ladS L)), some (.str (ladS L)), r1, r2]) ⟨_, _, rfl⟩ ?_ ?_
  · rintro i hi σ M ⟨r1, r2, rfl⟩
    walk_at "sg"
    obtain ⟨p, M', hc, hp⟩ := mk.call2 (M := M) (ds := [.str (ladS L)]) (imms_of rfl)
    generalize M ++ M' = M1 at hc hp
    have himm := imm_ladR hp
    have hl1 : callD Φ 538 1 [.tup [.int (L.tr : Nat), .int (L.m : Nat), .int (L.n : Nat), .ref p], ladD L] M1 = .ok (.bl true) M1 := a3.call1 (by simp only [imms, himm, imm_of (isImm_lad L), Option.bind_some, Option.map_some]) (by simp only [isImms, isImm_lad, Bool.and_true]) rfl
    have hl2 : callD Φ 977 1 [.tup [.int (L.tr : Nat), .int (L.m : Nat), .int (L.n : Nat), .ref p]] M1 = .ok (.str (ladS L)) M1 := a2.call1 (by simp only [imms, himm, Option.bind_some, Option.map_some]) (by simp only [isImms, isImm_lad, Bool.and_true]) rfl
    rw [hc]
    walk_at "sg"
    rw [hl1]
    walk_at "sg"
    rw [hl2]
    walk_at "sg"
    rw [W_neS (strOk_lad L) (strOk_lad L), decide_eq_true rfl]
    walk_at "sg"
    have hcont : (content M1 (.ref p)).isSome = true := by
      have : content M1 (.ref p) = _ := listOf_ref hp
      rw [this]; rfl
    refine ⟨hcont, ?_⟩
    rw [mcell_of hp]
    exact ⟨by rw [List.length_map]; omega, _, _, rfl⟩
  · rintro σ M ⟨r1, r2, rfl⟩
    walk_at "sg"
    exact imm_of rfl)
def x6D (x0 x1 x2 x3 x4 x5 : Int) : D := .lst [.int x0, .int x1, .int x2, .int x3, .int x4, .int x5]
theorem p73_tail {Φ : Phi} (h9 : Sp9 Φ) (h32 : Sp32y Φ) (h536 : Sp536 Φ) (h982 : Sp982 Φ) (S K : D) (c x0 x1 x2 x3 x4 x5 : Int) (most : Nat) (hm : most ≤ 400) (h3 : 0 ≤ x3 ∧ x3 < 10000000000000000000000000000000000000000) (h4 : 0 ≤ x4) {M : List Cell} {r5 r6 : Option D} {QF : Fl → St → List Cell → Prop} {X : Nat → List Cell → Prop}
    (hq : ∀ r5 r6 M, QF .nx [some S, some K, some (.int c), some (x6D x0 x1 x2 x3 x4 x5), some (.int (most : Nat)), r5, r6] M) :
    WQ (evSs Φ tail991 [some S, some K, some (.int c), some (x6D x0 x1 x2 x3 x4 x5), some (.int (most : Nat)), r5, r6] M) QF X := by
  obtain ⟨c', hrest⟩ := h32 c 12511200000000000000000000000000000000000000000000000000000000000000000000000000000000 (by decide) (by decide)
  have hrest : Rt Φ 32 [.int c, .int 12511200000000000000000000000000000000000000000000000000000000000000000000000000000000] (.int c') := hrest
  obtain ⟨L, hO, hl, hs, mk⟩ := h536 c' most hm
  obtain ⟨p, M', hc, hp⟩ := mk.call2 (M := M) (ds := [.int c', .int (most : Nat)]) (imms_of rfl)
  generalize M ++ M' = M1 at hc hp
  have ask : ∀ (L' : Lad) (M2 : List Cell), L'.Ok → (∀ s ∈ L'.st, Sz s.q 1900) → L'.tr = L.tr → L'.m = L.m → L'.n = L.n → M2[p]? = some ⟨true, .lst (L'.st.map stepD)⟩ → callD Φ 982 1 [.tup [.int (L.tr : Nat), .int (L.m : Nat), .int (L.n : Nat), .ref p]] M2 = .ok (.bl true) M2 := fun L' M2 o1 o2 e1 e2 e3 hp2 => by
    have himm := imm_ladR hp2
    rw [e1, e2, e3] at himm
    exact (h982 L' o1 o2).call1 (by simp only [imms, himm, Option.bind_some, Option.map_some]) (by simp only [isImms, isImm_lad, Bool.and_true]) rfl
  unfold tail991 x6D
  walk_at "sg"
  rw [W_rt hrest]
  walk_at "sg"
  rw [hc]
  walk_at "sg"
  by_cases g1 : x2 = 1
  · rw [if_pos g1]
    walk_at "sg"
    by_cases g2 : (0 : Int) < most
    · rw [if_pos g2]
      match hst : L.st with
      | [] => rw [hst] at hl; simp at hl; omega
      | s0 :: rest =>
      rw [hst] at hp
      have hidx : ∀ Q X, W (idxD (.ref p) (.int 0) M1) Q X = Q (stepD s0) M1 := fun Q X => W_at (show seqOf _ (.ref p) = some _ from listOf_ref hp) (L2.atI_nat (j := 0) rfl)
      have e4 := @emod_lt' x4 9999999999999999999999999999999999999999 (by decide)
      have hb : Lt2 (1 + x4 % 9999999999999999999999999999999999999999) 135 := lt2_of (by omega) (by omega)
      have h9' := h9 x3 (1 + x4 % 9999999999999999999999999999999999999999) (by omega) (hb.mono (by decide))
      have hz : Sz (Rat.divInt x3 (1 + x4 % 9999999999999999999999999999999999999999)) 135 := sz_divInt (m := 135) (n := 135) (lt2_of h3.1 (by omega)) hb (by decide) (by decide) (by decide)
      have hn : 0 ≤ Rat.divInt x3 (1 + x4 % 9999999999999999999999999999999999999999) := divInt_nn h3.1 (by omega)
      walk_at "sg"
      rw [hidx]
      unfold stepD
      walk_at "sg"
      rw [W_rt h9']
      walk_at "sg"
      generalize Rat.divInt x3 (1 + x4 % 9999999999999999999999999999999999999999) = q at hz hn
      have hset : ∀ d σ QS (Y : Nat → List Cell → Prop), W (setR (.ref p) (.int 0) d σ M1) QS Y = QS σ (M1.set p ⟨true, .lst (d :: rest.map stepD)⟩) := fun d σ QS Y => W_set (i := 0) hp (by simp)
      rw [hset]
      walk_at "sg"
      rw [ask ⟨L.tr, L.m, L.n, ⟨s0.w, s0.k, q⟩ :: rest⟩ _ ⟨hO.t7, hO.m1, hO.mt, hO.n1, hO.nt, by have := hO.len; rw [hst] at this; exact this, fun s h => by
          rcases List.mem_cons.mp h with rfl | h
          · exact hO.at_ s0 (by rw [hst]; exact List.mem_cons_self)
          · exact hO.at_ s (by rw [hst]; exact List.mem_cons_of_mem _ h), fun s h => by
          rcases List.mem_cons.mp h with rfl | h
          · exact hn
          · exact hO.nn s (by rw [hst]; exact List.mem_cons_of_mem _ h), fun s h => by
          rcases List.mem_cons.mp h with rfl | h
          · exact hz.mono (by decide)
          · exact hO.sz s (by rw [hst]; exact List.mem_cons_of_mem _ h)⟩ (fun s h => by
          rcases List.mem_cons.mp h with rfl | h
          · exact hz.mono (by decide)
          · exact (hs s (by rw [hst]; exact List.mem_cons_of_mem _ h)).mono (by decide)) rfl rfl rfl (by rw [List.getElem?_set_self (get_lt hp)]; rfl)]
      walk_at "sg"
      exact hq _ _ _
    · rw [if_neg g2]
      walk_at "sg"
      rw [ask L _ hO (fun s h => (hs s h).mono (by decide)) rfl rfl rfl hp]
      walk_at "sg"
      exact hq _ _ _
  · rw [if_neg g1]
    walk_at "sg"
    rw [ask L _ hO (fun s h => (hs s h).mono (by decide)) rfl rfl rfl hp]
    walk_at "sg"
    exact hq _ _ _
theorem sp991 {Φ : Phi} (h6 : Sp6 Φ) (h7 : Sp7 Φ) (h9 : Sp9 Φ) (h32 : Sp32y Φ) (h536 : Sp536 Φ) (h982 : Sp982 Φ) (ns : List Int) (hl : ns.length ≤ 63) :
    W (evD Φ b991 [.fro (ns.map D.int)] []) (fun d _ => d = .bl true) fun _ _ => False := by
  unfold b991
  walk_at "sg"
  rw [List.length_map]
  refine ⟨by unfold B62; omega, ?_⟩
  refine for_up0 (fun i σ M => ∃ r1 r2 r3 r4 r5 r6, σ = [some (.fro (ns.map D.int)), r1, r2, r3, r4, r5, r6]) ⟨none, none, none, none, none, none, rfl⟩ ?_ ?_
  · rintro k hk σ M ⟨r1, r2, r3, r4, r5, r6, rfl⟩
    have hc0 := h6 ns k
    obtain ⟨xs, hb, hx⟩ := h7 (cellOf ns k) [13, 4, 6, 10000000000000000000000000000000000000000, 10000000000000000000000000000000000000000, 401] (bs_ok (by decide)) (by decide)
    match xs, hb with
    | [x0, x1, x2, x3, x4, x5], ⟨b0, b1, b2, b3, b4, b5, _⟩ =>
    have hx : Rt Φ 7 [.int (cellOf ns k), .lst [.int 13, .int 4, .int 6, .int 10000000000000000000000000000000000000000, .int 10000000000000000000000000000000000000000, .int 401]] (x6D x0 x1 x2 x3 x4 x5) := hx
    clear h6 h7
    obtain ⟨n0, rfl⟩ := Int.eq_ofNat_of_zero_le b0.1
    obtain ⟨n5, rfl⟩ := Int.eq_ofNat_of_zero_le b5.1
    walk_at "sg"
    rw [W_rt hc0]
    walk_at "sg"
    rw [W_rt hx]
    unfold x6D
    walk_at "sg"
    by_cases g1 : (k : Int) = 0
    · rw [if_pos g1]
      walk_at "sg"
      by_cases g2 : x1 = 1
      · rw [if_pos g2]
        walk_at "sg"
        exact p73_tail h9 h32 h536 h982 _ _ _ _ _ _ _ _ _ n5 (by omega) b3 b4.1 fun r5 r6 M => ⟨_, _, _, _, _, _, rfl⟩
      · rw [if_neg g2]
        walk_at "sg"
        exact p73_tail h9 h32 h536 h982 _ _ _ _ _ _ _ _ _ n0 (by omega) b3 b4.1 fun r5 r6 M => ⟨_, _, _, _, _, _, rfl⟩
    · rw [if_neg g1]
      walk_at "sg"
      exact p73_tail h9 h32 h536 h982 _ _ _ _ _ _ _ _ _ n0 (by omega) b3 b4.1 fun r5 r6 M => ⟨_, _, _, _, _, _, rfl⟩
  · rintro σ M ⟨r1, r2, r3, r4, r5, r6, rfl⟩
    have hz : Rt Φ 982 [.tup [.int 1, .int 1, .int 1, .lst []]] (.bl true) := h982 ⟨1, 1, 1, []⟩ ⟨by decide, by decide, by decide, by decide, by decide, Nat.zero_le _, fun s h => (by cases h), fun s h => (by cases h), fun s h => (by cases h)⟩ (fun s h => (by cases h))
    walk_at "sg"
    rw [W_rt hz]
    walk_at "sg"
end Sg

namespace Gk73
open PySem PySem.Spec PyProof.Rows L2 Sg
def t1 : Dt := ⟨16, "is_whole", topS 5, ["thing"], ["thing"], b16, [], "is_whole"⟩
def t2 : Dt := ⟨1, "divisor", topS 6, ["one", "other"], ["one", "other", "rest"], b1, [], "divisor"⟩
def t3 : Dt := ⟨17, "is_fraction", topS 7, ["thing"], ["thing"], b17, [], "is_fraction"⟩
def t4 : Dt := ⟨119, "is_weight", topS 11, ["thing"], ["thing"], b119, [], "is_weight"⟩
def t5 : Dt := ⟨120, "is_step", topS 12, ["thing", "tracks"], ["thing", "tracks"], b120, [], "is_step"⟩
def t6 : Dt := ⟨121, "is_ladder", topS 13, ["thing"], ["thing", "tracks", "rows", "columns", "steps", "step", "number"], b121, [], "is_ladder"⟩
def t7 : Dt := ⟨122, "look_ladder", topS 14, ["thing"], ["thing"], b122, [], "look_ladder"⟩
def t8 : Dt := ⟨508, "show_number", topS 18, ["number"], ["number"], b508, [], "show_number"⟩
def t9 : Dt := ⟨977, "show_ladder", topS 19, ["ladder"], ["ladder", "rows", "word", "k", "weight"], b977, [], "show_ladder"⟩
def t10 : Dt := ⟨511, "look_text", topS 20, ["thing"], ["thing"], b511, [], "look_text"⟩
def t11 : Dt := ⟨965, "read_figures", topS 21, ["word"], ["word", "sign"], b965, [], "read_figures"⟩
def t12 : Dt := ⟨966, "read_whole", topS 22, ["word"], ["word", "number"], b966, [], "read_whole"⟩
def t13 : Dt := ⟨967, "read_number", topS 23, ["text"], ["text", "words", "number"], b967, [], "read_number"⟩
def t14 : Dt := ⟨978, "read_step", topS 24, ["row"], ["row", "words"], b978, [], "read_step"⟩
def t15 : Dt := ⟨979, "ladder_written", topS 25, ["text"], ["text", "rows", "words", "numbers", "word", "row"], b979, [], "ladder_written"⟩
def t16 : Dt := ⟨980, "read_ladder", topS 26, ["text"], ["text", "ladder"], b980, [], "read_ladder"⟩
def t17 : Dt := ⟨6, "_law_cell", topS 28, ["_law_script", "_law_k"], ["_law_script", "_law_k"], b6, [], "_law_cell"⟩
def t18 : Dt := ⟨7, "_law_numbers", topS 29, ["_law_cell_here", "_law_bases"], ["_law_cell_here", "_law_bases", "_law_row", "_law_base", "_law_k", "_law_mixed"], b7, [], "_law_numbers"⟩
def t19 : Dt := ⟨32, "_law_rest", topS 30, ["_law_cell_here", "_law_used"], ["_law_cell_here", "_law_used"], b32, [], "_law_rest"⟩
def t20 : Dt := ⟨8, "_law_divisor", topS 31, ["_law_one", "_law_other"], ["_law_one", "_law_other", "_law_rest_here"], b8, [], "_law_divisor"⟩
def t21 : Dt := ⟨9, "_law_made", topS 32, ["_law_top", "_law_bottom"], ["_law_top", "_law_bottom", "_law_common"], b9, [], "_law_made"⟩
def t22 : Dt := ⟨10, "_law_number", topS 33, ["_law_kind", "_law_part"], ["_law_kind", "_law_part", "_law_top"], b10, [], "_law_number"⟩
def t23 : Dt := ⟨11, "_law_whole", topS 34, ["_law_thing"], ["_law_thing"], b11, [], "_law_whole"⟩
def t24 : Dt := ⟨12, "_law_is_number", topS 35, ["_law_found", "_law_top", "_law_bottom"], ["_law_found", "_law_top", "_law_bottom"], b12, [], "_law_is_number"⟩
def t25 : Dt := ⟨536, "_law_ladder", topS 36, ["_law_cell_here", "_law_most"], ["_law_cell_here", "_law_most", "_law_parts", "_law_tracks", "_law_rows", "_law_columns", "_law_steps", "_law_part", "_law_word", "_law_k"], b536, [], "_law_ladder"⟩
def t26 : Dt := ⟨981, "_law_written", topS 37, ["_law_ladder_here"], ["_law_ladder_here", "_law_rows", "_law_word", "_law_k", "_law_weight", "_law_text", "_law_number_here"], b981, [], "_law_written"⟩
def t27 : Dt := ⟨538, "_law_like", topS 38, ["_law_found", "_law_due"], ["_law_found", "_law_due", "_law_one", "_law_other", "_law_number_here"], b538, [], "_law_like"⟩
def t28 : Dt := ⟨982, "_law_asked", topS 39, ["_law_ladder_here"], ["_law_ladder_here", "_law_text", "_law_found", "_law_k", "_law_read"], b982, [], "_law_asked"⟩
def t29 : Dt := ⟨991, "law", topS 40, ["_law_script"], ["_law_script", "_law_k", "_law_cell_here", "_law_parts", "_law_most", "_law_ladder_here", "_law_step"], b991, [], "law"⟩
noncomputable def Z0 : List Ent := []
noncomputable def Z1 : List Ent := t1.ent tb Z0 :: Z0
noncomputable def Z2 : List Ent := t2.ent tb Z1 :: Z1
noncomputable def Z3 : List Ent := t3.ent tb Z2 :: Z2
noncomputable def Z4 : List Ent := t4.ent tb Z3 :: Z3
noncomputable def Z5 : List Ent := t5.ent tb Z4 :: Z4
noncomputable def Z6 : List Ent := t6.ent tb Z5 :: Z5
noncomputable def Z7 : List Ent := t7.ent tb Z6 :: Z6
noncomputable def Z8 : List Ent := t8.ent tb Z7 :: Z7
noncomputable def Z9 : List Ent := t9.ent tb Z8 :: Z8
noncomputable def Z10 : List Ent := t10.ent tb Z9 :: Z9
noncomputable def Z11 : List Ent := t11.ent tb Z10 :: Z10
noncomputable def Z12 : List Ent := t12.ent tb Z11 :: Z11
noncomputable def Z13 : List Ent := t13.ent tb Z12 :: Z12
noncomputable def Z14 : List Ent := t14.ent tb Z13 :: Z13
noncomputable def Z15 : List Ent := t15.ent tb Z14 :: Z14
noncomputable def Z16 : List Ent := t16.ent tb Z15 :: Z15
noncomputable def Z17 : List Ent := t17.ent tb Z16 :: Z16
noncomputable def Z18 : List Ent := t18.ent tb Z17 :: Z17
noncomputable def Z19 : List Ent := t19.ent tb Z18 :: Z18
noncomputable def Z20 : List Ent := t20.ent tb Z19 :: Z19
noncomputable def Z21 : List Ent := t21.ent tb Z20 :: Z20
noncomputable def Z22 : List Ent := t22.ent tb Z21 :: Z21
noncomputable def Z23 : List Ent := t23.ent tb Z22 :: Z22
noncomputable def Z24 : List Ent := t24.ent tb Z23 :: Z23
noncomputable def Z25 : List Ent := t25.ent tb Z24 :: Z24
noncomputable def Z26 : List Ent := t26.ent tb Z25 :: Z25
noncomputable def Z27 : List Ent := t27.ent tb Z26 :: Z26
noncomputable def Z28 : List Ent := t28.ent tb Z27 :: Z27
noncomputable def Z29 : List Ent := t29.ent tb Z28 :: Z28
theorem bd1 : BindsE t1 := .inl ⟨rfl, fun _ _ _ _ _ _ us hl => match us, hl with | [_], _ => rfl⟩
theorem bd2 : BindsE t2 := .inl ⟨rfl, fun _ _ _ _ _ _ us hl => match us, hl with | [_, _], _ => rfl⟩
theorem bd3 : BindsE t3 := .inl ⟨rfl, fun _ _ _ _ _ _ us hl => match us, hl with | [_], _ => rfl⟩
theorem bd4 : BindsE t4 := .inl ⟨rfl, fun _ _ _ _ _ _ us hl => match us, hl with | [_], _ => rfl⟩
theorem bd5 : BindsE t5 := .inl ⟨rfl, fun _ _ _ _ _ _ us hl => match us, hl with | [_, _], _ => rfl⟩
theorem bd6 : BindsE t6 := .inl ⟨rfl, fun _ _ _ _ _ _ us hl => match us, hl with | [_], _ => rfl⟩
theorem bd7 : BindsE t7 := .inl ⟨rfl, fun _ _ _ _ _ _ us hl => match us, hl with | [_], _ => rfl⟩
theorem bd8 : BindsE t8 := .inl ⟨rfl, fun _ _ _ _ _ _ us hl => match us, hl with | [_], _ => rfl⟩
theorem bd9 : BindsE t9 := .inl ⟨rfl, fun _ _ _ _ _ _ us hl => match us, hl with | [_], _ => rfl⟩
theorem bd10 : BindsE t10 := .inl ⟨rfl, fun _ _ _ _ _ _ us hl => match us, hl with | [_], _ => rfl⟩
theorem bd11 : BindsE t11 := .inl ⟨rfl, fun _ _ _ _ _ _ us hl => match us, hl with | [_], _ => rfl⟩
theorem bd12 : BindsE t12 := .inl ⟨rfl, fun _ _ _ _ _ _ us hl => match us, hl with | [_], _ => rfl⟩
theorem bd13 : BindsE t13 := .inl ⟨rfl, fun _ _ _ _ _ _ us hl => match us, hl with | [_], _ => rfl⟩
theorem bd14 : BindsE t14 := .inl ⟨rfl, fun _ _ _ _ _ _ us hl => match us, hl with | [_], _ => rfl⟩
theorem bd15 : BindsE t15 := .inl ⟨rfl, fun _ _ _ _ _ _ us hl => match us, hl with | [_], _ => rfl⟩
theorem bd16 : BindsE t16 := .inl ⟨rfl, fun _ _ _ _ _ _ us hl => match us, hl with | [_], _ => rfl⟩
theorem bd17 : BindsE t17 := .inl ⟨rfl, fun _ _ _ _ _ _ us hl => match us, hl with | [_, _], _ => rfl⟩
theorem bd18 : BindsE t18 := .inl ⟨rfl, fun _ _ _ _ _ _ us hl => match us, hl with | [_, _], _ => rfl⟩
theorem bd19 : BindsE t19 := .inl ⟨rfl, fun _ _ _ _ _ _ us hl => match us, hl with | [_, _], _ => rfl⟩
theorem bd20 : BindsE t20 := .inl ⟨rfl, fun _ _ _ _ _ _ us hl => match us, hl with | [_, _], _ => rfl⟩
theorem bd21 : BindsE t21 := .inl ⟨rfl, fun _ _ _ _ _ _ us hl => match us, hl with | [_, _], _ => rfl⟩
theorem bd22 : BindsE t22 := .inl ⟨rfl, fun _ _ _ _ _ _ us hl => match us, hl with | [_, _], _ => rfl⟩
theorem bd23 : BindsE t23 := .inl ⟨rfl, fun _ _ _ _ _ _ us hl => match us, hl with | [_], _ => rfl⟩
theorem bd24 : BindsE t24 := .inl ⟨rfl, fun _ _ _ _ _ _ us hl => match us, hl with | [_, _, _], _ => rfl⟩
theorem bd25 : BindsE t25 := .inl ⟨rfl, fun _ _ _ _ _ _ us hl => match us, hl with | [_, _], _ => rfl⟩
theorem bd26 : BindsE t26 := .inl ⟨rfl, fun _ _ _ _ _ _ us hl => match us, hl with | [_], _ => rfl⟩
theorem bd27 : BindsE t27 := .inl ⟨rfl, fun _ _ _ _ _ _ us hl => match us, hl with | [_, _], _ => rfl⟩
theorem bd28 : BindsE t28 := .inl ⟨rfl, fun _ _ _ _ _ _ us hl => match us, hl with | [_], _ => rfl⟩
theorem bd29 : BindsE t29 := .inl ⟨rfl, fun _ _ _ _ _ _ us hl => match us, hl with | [_], _ => rfl⟩
section
variable {w : World} {K : PySem.W.Frag} {h : Heap} {mg : Str → Option Value} {base : Heap}
  (X : K.In h) (G : h.Ns mainGlobals mg) (c : He.SaysD (facts exs xs) fn K) (cg : topB gl exs tb K = true)
include X G c cg
theorem sw : WdOk (PySem.Challenge.rw_signsmooth_k73_texts_of_ladders).prog w K mg base (cvOf K exs) tb := fun h => absurd rfl h
theorem s0 : ∀ e ∈ Z0, EntOk (PySem.Challenge.rw_signsmooth_k73_texts_of_ladders).prog w K mg base (cvOf K exs) 0 e := fun e he => by cases he
theorem s1 : ∀ e ∈ Z1, EntOk (PySem.Challenge.rw_signsmooth_k73_texts_of_ladders).prog w K mg base (cvOf K exs) 1 e :=
  Sg.step t1 X G c cg (sw X G c cg) (List.mem_of_getElem? (i := 0) rfl) (List.mem_of_getElem? (i := 0) rfl) bd1 (by kernel_rfl) (s0 X G c cg)
theorem s2 : ∀ e ∈ Z2, EntOk (PySem.Challenge.rw_signsmooth_k73_texts_of_ladders).prog w K mg base (cvOf K exs) 2 e :=
  Sg.step t2 X G c cg (sw X G c cg) (List.mem_of_getElem? (i := 1) rfl) (List.mem_of_getElem? (i := 1) rfl) bd2 (by kernel_rfl) (s1 X G c cg)
theorem s3 : ∀ e ∈ Z3, EntOk (PySem.Challenge.rw_signsmooth_k73_texts_of_ladders).prog w K mg base (cvOf K exs) 3 e :=
  Sg.step t3 X G c cg (sw X G c cg) (List.mem_of_getElem? (i := 2) rfl) (List.mem_of_getElem? (i := 2) rfl) bd3 (by kernel_rfl) (s2 X G c cg)
theorem s4 : ∀ e ∈ Z4, EntOk (PySem.Challenge.rw_signsmooth_k73_texts_of_ladders).prog w K mg base (cvOf K exs) 4 e :=
  Sg.step t4 X G c cg (sw X G c cg) (List.mem_of_getElem? (i := 3) rfl) (List.mem_of_getElem? (i := 3) rfl) bd4 (by kernel_rfl) (s3 X G c cg)
theorem s5 : ∀ e ∈ Z5, EntOk (PySem.Challenge.rw_signsmooth_k73_texts_of_ladders).prog w K mg base (cvOf K exs) 5 e :=
  Sg.step t5 X G c cg (sw X G c cg) (List.mem_of_getElem? (i := 4) rfl) (List.mem_of_getElem? (i := 4) rfl) bd5 (by kernel_rfl) (s4 X G c cg)
theorem s6 : ∀ e ∈ Z6, EntOk (PySem.Challenge.rw_signsmooth_k73_texts_of_ladders).prog w K mg base (cvOf K exs) 6 e :=
  Sg.step t6 X G c cg (sw X G c cg) (List.mem_of_getElem? (i := 5) rfl) (List.mem_of_getElem? (i := 5) rfl) bd6 (by kernel_rfl) (s5 X G c cg)
theorem s7 : ∀ e ∈ Z7, EntOk (PySem.Challenge.rw_signsmooth_k73_texts_of_ladders).prog w K mg base (cvOf K exs) 7 e :=
  Sg.step t7 X G c cg (sw X G c cg) (List.mem_of_getElem? (i := 6) rfl) (List.mem_of_getElem? (i := 6) rfl) bd7 (by kernel_rfl) (s6 X G c cg)
theorem s8 : ∀ e ∈ Z8, EntOk (PySem.Challenge.rw_signsmooth_k73_texts_of_ladders).prog w K mg base (cvOf K exs) 8 e :=
  Sg.step t8 X G c cg (sw X G c cg) (List.mem_of_getElem? (i := 7) rfl) (List.mem_of_getElem? (i := 7) rfl) bd8 (by kernel_rfl) (s7 X G c cg)
theorem s9 : ∀ e ∈ Z9, EntOk (PySem.Challenge.rw_signsmooth_k73_texts_of_ladders).prog w K mg base (cvOf K exs) 9 e :=
  Sg.step t9 X G c cg (sw X G c cg) (List.mem_of_getElem? (i := 8) rfl) (List.mem_of_getElem? (i := 8) rfl) bd9 (by kernel_rfl) (s8 X G c cg)
theorem s10 : ∀ e ∈ Z10, EntOk (PySem.Challenge.rw_signsmooth_k73_texts_of_ladders).prog w K mg base (cvOf K exs) 10 e :=
  Sg.step t10 X G c cg (sw X G c cg) (List.mem_of_getElem? (i := 9) rfl) (List.mem_of_getElem? (i := 9) rfl) bd10 (by kernel_rfl) (s9 X G c cg)
theorem s11 : ∀ e ∈ Z11, EntOk (PySem.Challenge.rw_signsmooth_k73_texts_of_ladders).prog w K mg base (cvOf K exs) 11 e :=
  Sg.step t11 X G c cg (sw X G c cg) (List.mem_of_getElem? (i := 10) rfl) (List.mem_of_getElem? (i := 10) rfl) bd11 (by kernel_rfl) (s10 X G c cg)
theorem s12 : ∀ e ∈ Z12, EntOk (PySem.Challenge.rw_signsmooth_k73_texts_of_ladders).prog w K mg base (cvOf K exs) 12 e :=
  Sg.step t12 X G c cg (sw X G c cg) (List.mem_of_getElem? (i := 11) rfl) (List.mem_of_getElem? (i := 11) rfl) bd12 (by kernel_rfl) (s11 X G c cg)
theorem s13 : ∀ e ∈ Z13, EntOk (PySem.Challenge.rw_signsmooth_k73_texts_of_ladders).prog w K mg base (cvOf K exs) 13 e :=
  Sg.step t13 X G c cg (sw X G c cg) (List.mem_of_getElem? (i := 12) rfl) (List.mem_of_getElem? (i := 12) rfl) bd13 (by kernel_rfl) (s12 X G c cg)
theorem s14 : ∀ e ∈ Z14, EntOk (PySem.Challenge.rw_signsmooth_k73_texts_of_ladders).prog w K mg base (cvOf K exs) 14 e :=
  Sg.step t14 X G c cg (sw X G c cg) (List.mem_of_getElem? (i := 13) rfl) (List.mem_of_getElem? (i := 13) rfl) bd14 (by kernel_rfl) (s13 X G c cg)
theorem s15 : ∀ e ∈ Z15, EntOk (PySem.Challenge.rw_signsmooth_k73_texts_of_ladders).prog w K mg base (cvOf K exs) 15 e :=
  Sg.step t15 X G c cg (sw X G c cg) (List.mem_of_getElem? (i := 14) rfl) (List.mem_of_getElem? (i := 14) rfl) bd15 (by kernel_rfl) (s14 X G c cg)
theorem s16 : ∀ e ∈ Z16, EntOk (PySem.Challenge.rw_signsmooth_k73_texts_of_ladders).prog w K mg base (cvOf K exs) 16 e :=
  Sg.step t16 X G c cg (sw X G c cg) (List.mem_of_getElem? (i := 15) rfl) (List.mem_of_getElem? (i := 15) rfl) bd16 (by kernel_rfl) (s15 X G c cg)
theorem s17 : ∀ e ∈ Z17, EntOk (PySem.Challenge.rw_signsmooth_k73_texts_of_ladders).prog w K mg base (cvOf K exs) 17 e :=
  Sg.step t17 X G c cg (sw X G c cg) (List.mem_of_getElem? (i := 16) rfl) (List.mem_of_getElem? (i := 16) rfl) bd17 (by kernel_rfl) (s16 X G c cg)
theorem s18 : ∀ e ∈ Z18, EntOk (PySem.Challenge.rw_signsmooth_k73_texts_of_ladders).prog w K mg base (cvOf K exs) 18 e :=
  Sg.step t18 X G c cg (sw X G c cg) (List.mem_of_getElem? (i := 17) rfl) (List.mem_of_getElem? (i := 17) rfl) bd18 (by kernel_rfl) (s17 X G c cg)
theorem s19 : ∀ e ∈ Z19, EntOk (PySem.Challenge.rw_signsmooth_k73_texts_of_ladders).prog w K mg base (cvOf K exs) 19 e :=
  Sg.step t19 X G c cg (sw X G c cg) (List.mem_of_getElem? (i := 18) rfl) (List.mem_of_getElem? (i := 18) rfl) bd19 (by kernel_rfl) (s18 X G c cg)
theorem s20 : ∀ e ∈ Z20, EntOk (PySem.Challenge.rw_signsmooth_k73_texts_of_ladders).prog w K mg base (cvOf K exs) 20 e :=
  Sg.step t20 X G c cg (sw X G c cg) (List.mem_of_getElem? (i := 19) rfl) (List.mem_of_getElem? (i := 19) rfl) bd20 (by kernel_rfl) (s19 X G c cg)
theorem s21 : ∀ e ∈ Z21, EntOk (PySem.Challenge.rw_signsmooth_k73_texts_of_ladders).prog w K mg base (cvOf K exs) 21 e :=
  Sg.step t21 X G c cg (sw X G c cg) (List.mem_of_getElem? (i := 20) rfl) (List.mem_of_getElem? (i := 20) rfl) bd21 (by kernel_rfl) (s20 X G c cg)
theorem s22 : ∀ e ∈ Z22, EntOk (PySem.Challenge.rw_signsmooth_k73_texts_of_ladders).prog w K mg base (cvOf K exs) 22 e :=
  Sg.step t22 X G c cg (sw X G c cg) (List.mem_of_getElem? (i := 21) rfl) (List.mem_of_getElem? (i := 21) rfl) bd22 (by kernel_rfl) (s21 X G c cg)
theorem s23 : ∀ e ∈ Z23, EntOk (PySem.Challenge.rw_signsmooth_k73_texts_of_ladders).prog w K mg base (cvOf K exs) 23 e :=
  Sg.step t23 X G c cg (sw X G c cg) (List.mem_of_getElem? (i := 22) rfl) (List.mem_of_getElem? (i := 22) rfl) bd23 (by kernel_rfl) (s22 X G c cg)
theorem s24 : ∀ e ∈ Z24, EntOk (PySem.Challenge.rw_signsmooth_k73_texts_of_ladders).prog w K mg base (cvOf K exs) 24 e :=
  Sg.step t24 X G c cg (sw X G c cg) (List.mem_of_getElem? (i := 23) rfl) (List.mem_of_getElem? (i := 23) rfl) bd24 (by kernel_rfl) (s23 X G c cg)
theorem s25 : ∀ e ∈ Z25, EntOk (PySem.Challenge.rw_signsmooth_k73_texts_of_ladders).prog w K mg base (cvOf K exs) 25 e :=
  Sg.step t25 X G c cg (sw X G c cg) (List.mem_of_getElem? (i := 24) rfl) (List.mem_of_getElem? (i := 24) rfl) bd25 (by kernel_rfl) (s24 X G c cg)
theorem s26 : ∀ e ∈ Z26, EntOk (PySem.Challenge.rw_signsmooth_k73_texts_of_ladders).prog w K mg base (cvOf K exs) 26 e :=
  Sg.step t26 X G c cg (sw X G c cg) (List.mem_of_getElem? (i := 25) rfl) (List.mem_of_getElem? (i := 25) rfl) bd26 (by kernel_rfl) (s25 X G c cg)
theorem s27 : ∀ e ∈ Z27, EntOk (PySem.Challenge.rw_signsmooth_k73_texts_of_ladders).prog w K mg base (cvOf K exs) 27 e :=
  Sg.step t27 X G c cg (sw X G c cg) (List.mem_of_getElem? (i := 26) rfl) (List.mem_of_getElem? (i := 26) rfl) bd27 (by kernel_rfl) (s26 X G c cg)
theorem s28 : ∀ e ∈ Z28, EntOk (PySem.Challenge.rw_signsmooth_k73_texts_of_ladders).prog w K mg base (cvOf K exs) 28 e :=
  Sg.step t28 X G c cg (sw X G c cg) (List.mem_of_getElem? (i := 27) rfl) (List.mem_of_getElem? (i := 27) rfl) bd28 (by kernel_rfl) (s27 X G c cg)
theorem s29 : ∀ e ∈ Z29, EntOk (PySem.Challenge.rw_signsmooth_k73_texts_of_ladders).prog w K mg base (cvOf K exs) 29 e :=
  Sg.step t29 X G c cg (sw X G c cg) (List.mem_of_getElem? (i := 28) rfl) (List.mem_of_getElem? (i := 28) rfl) bd29 (by kernel_rfl) (s28 X G c cg)
end
theorem h1 (Φ : Phi) (e : Φ 16 = evD (lookW tb Z0) b16) : Sp16 Φ := sp16 e 
theorem h2 (Φ : Phi) (e : Φ 1 = evD (lookW tb Z1) b1) : Sp1 Φ := sp1 e 
theorem h3 (Φ : Phi) (e : Φ 17 = evD (lookW tb Z2) b17) : Sp17 Φ := sp17 e (h2 (lookW tb Z2) rfl) (h1 (lookW tb Z2) rfl)
theorem h4 (Φ : Phi) (e : Φ 119 = evD (lookW tb Z3) b119) : Sp119 Φ := sp119 e (h3 (lookW tb Z3) rfl)
theorem h5 (Φ : Phi) (e : Φ 120 = evD (lookW tb Z4) b120) : Sp120 Φ := sp120 e (h1 (lookW tb Z4) rfl) (h4 (lookW tb Z4) rfl)
theorem h6 (Φ : Phi) (e : Φ 121 = evD (lookW tb Z5) b121) : Sp121 Φ := sp121 e (h1 (lookW tb Z5) rfl) (h5 (lookW tb Z5) rfl)
theorem h7 (Φ : Phi) (e : Φ 122 = evD (lookW tb Z6) b122) : Sp122 Φ := sp122 e (h6 (lookW tb Z6) rfl)
theorem h8 (Φ : Phi) (e : Φ 508 = evD (lookW tb Z7) b508) : Sp508 Φ := sp508 e 
theorem h9 (Φ : Phi) (e : Φ 977 = evD (lookW tb Z8) b977) : Sp977 Φ := sp977 e (h8 (lookW tb Z8) rfl)
theorem h10 (Φ : Phi) (e : Φ 511 = evD (lookW tb Z9) b511) : Sp511 Φ := sp511 e 
theorem h11 (Φ : Phi) (e : Φ 965 = evD (lookW tb Z10) b965) : Sp965 Φ := sp965 e 
theorem h12 (Φ : Phi) (e : Φ 966 = evD (lookW tb Z11) b966) : Sp966 Φ := sp966 e (h11 (lookW tb Z11) rfl)
theorem h13 (Φ : Phi) (e : Φ 967 = evD (lookW tb Z12) b967) : Sp967 Φ := sp967 e (h3 (lookW tb Z12) rfl) (h10 (lookW tb Z12) rfl) (h11 (lookW tb Z12) rfl) (h12 (lookW tb Z12) rfl)
theorem h14 (Φ : Phi) (e : Φ 978 = evD (lookW tb Z13) b978) : Sp978 Φ := sp978 e (h12 (lookW tb Z13) rfl) (h13 (lookW tb Z13) rfl)
theorem h15 (Φ : Phi) (e : Φ 979 = evD (lookW tb Z14) b979) : Sp979 Φ := sp979 e (h10 (lookW tb Z14) rfl) (h12 (lookW tb Z14) rfl) (h14 (lookW tb Z14) rfl)
theorem h16 (Φ : Phi) (e : Φ 980 = evD (lookW tb Z15) b980) : Sp980 Φ := sp980 e (h7 (lookW tb Z15) rfl) (h15 (lookW tb Z15) rfl)
theorem h17 (Φ : Phi) (e : Φ 6 = evD (lookW tb Z16) b6) : Sp6 Φ := sp6 e 
theorem h18 (Φ : Phi) (e : Φ 7 = evD (lookW tb Z17) b7) : Sp7 Φ := sp7 e 
theorem h19 (Φ : Phi) (e : Φ 32 = evD (lookW tb Z18) b32) : Sp32y Φ := sp32y e 
theorem h20 (Φ : Phi) (e : Φ 8 = evD (lookW tb Z19) b8) : Sp8 Φ := sp8 e 
theorem h21 (Φ : Phi) (e : Φ 9 = evD (lookW tb Z20) b9) : Sp9 Φ := sp9 e (h20 (lookW tb Z20) rfl)
theorem h22 (Φ : Phi) (e : Φ 10 = evD (lookW tb Z21) b10) : Sp10n Φ := sp10n e (h21 (lookW tb Z21) rfl)
theorem h23 (Φ : Phi) (e : Φ 11 = evD (lookW tb Z22) b11) : Sp11 Φ := sp11 e 
theorem h24 (Φ : Phi) (e : Φ 12 = evD (lookW tb Z23) b12) : Sp12 Φ := sp12 e (h20 (lookW tb Z23) rfl) (h23 (lookW tb Z23) rfl)
theorem h25 (Φ : Phi) (e : Φ 536 = evD (lookW tb Z24) b536) : Sp536 Φ := sp536 e (h18 (lookW tb Z24) rfl) (h22 (lookW tb Z24) rfl)
theorem h26 (Φ : Phi) (e : Φ 981 = evD (lookW tb Z25) b981) : Sp981 Φ := sp981 e 
theorem h27 (Φ : Phi) (e : Φ 538 = evD (lookW tb Z26) b538) : Sp538 Φ := sp538 e (h23 (lookW tb Z26) rfl) (h24 (lookW tb Z26) rfl)
theorem h28 (Φ : Phi) (e : Φ 982 = evD (lookW tb Z27) b982) : Sp982 Φ := sp982 e (h27 (lookW tb Z27) rfl) (h9 (lookW tb Z27) rfl) (h16 (lookW tb Z27) rfl) (h26 (lookW tb Z27) rfl)
theorem hlaw (ns : List Int) (hl : ns.length ≤ 63) : ∃ M, evD (lookW tb Z28) t29.d [.fro (ns.map D.int)] [] = .ok (.bl true) M := law_of (sp991 (h17 (lookW tb Z28) rfl) (h18 (lookW tb Z28) rfl) (h21 (lookW tb Z28) rfl) (h19 (lookW tb Z28) rfl) (h25 (lookW tb Z28) rfl) (h28 (lookW tb Z28) rfl) ns hl)
end Gk73
open PySem PySem.W PySem.Calls PyProof.Rows Sg Gk73
set_option maxHeartbeats 0 in
theorem PySem.Challenge.cw_signsmooth_k73_texts_of_ladders_holds : PySem.Challenge.rw_signsmooth_k73_texts_of_ladders.Holds := by
  w_on; o_law
  refine HandSHeadRun.head_any (r := (PySem.W.OpenLaw.row PySem.Challenge.rw_signsmooth_k73_texts_of_ladders)) (q := PySem.W.view (PySem.W.OpenLaw.row PySem.Challenge.rw_signsmooth_k73_texts_of_ladders).prog [40]) (H := hookS 2 (facts exs xs) fn (topB gl exs tb)) (ob := obS 2 (facts exs xs) fn (topB gl exs tb)) (M := 20000)
    (loose := loose) (d := HandSHeadRun.topDef (PySem.W.OpenLaw.row PySem.Challenge.rw_signsmooth_k73_texts_of_ladders).prog 40) (kwd := []) (obS_eq 2 (facts exs xs) fn (topB gl exs tb))
    (by kernel_rfl) (fun s => by kernel_rfl) Gk73.run (by kernel_rfl) (by kernel_rfl) (by kernel_rfl) (by rfl)
    (by first | assumption | decide +kernel) (by decide +kernel) ⟨rfl, rfl, rfl, rfl, rfl, by decide +kernel⟩ ?hw ?hc
  case hw => w_witness2
  case hc =>
    exact law_end t29 Z28 (n := 63) (k := 29) rfl (by decide) (by kernel_rfl) ⟨rfl, by decide, by decide⟩ (by kernel_rfl) (List.mem_of_getElem? (i := 28) rfl) (List.mem_of_getElem? (i := 28) rfl) bd29 rfl rfl
      (fun w K h mg base X G c cg => s29 X G c cg) Gk73.hlaw


import PyProof.Rows.All
import Wide.All
import OpenK.AllK
import Wide.FinOn
import KE.KExcIs
import HandS.ForMost
import HandS.ForExc
import HandS.ExcCtx
import HandS.ExcInit
import HandS.TryMany
import HandS.ExcIs
import HandS.Flow
import HandS.Conv
import HandS.Wide
import HandS.IsInst
import HandS.RevRange
import HandS.CallSlots
import HandS.TupAny
import HandS.SortInts
import HandS.Deep
import HandS.Replace
import HandS.More
import HandS.Style
import PySem.Challenge.RW_holdtalk_k05_whole_any_text_read
set_option Elab.async false
set_option maxRecDepth 100000
set_option linter.all false
/-! Ht: a small core language for the program and the laws, its evaluator, and the translation from the Python text.
 Values are trees; a list that is changed in place lives in a slot that owns it, or in a cell of the store. -/
namespace Ht
open PySem

inductive D where
  | non | bl (b : Bool) | int (i : Int) | str (s : List Nat) | tup (ds : List D) | lst (ds : List D) | ref (n : Nat)
  /-- the law's script -/
  | scr (ns : List Int)
  deriving Inhabited

/-- a value just made: shared, or a new list that nobody else holds -/
inductive Rv where
  | sh (d : D) | fr (ds : List D)
def Rv.d : Rv → D
  | .sh d => d
  | .fr ds => .lst ds

/-- a slot: nothing, a value, a list that this slot alone holds -/
inductive Sl where
  | no | v (d : D) | own (ds : List D)

inductive Cell where
  | obj (c : Str) (fs : List (Str × Sl)) | lst (ds : List D) | dic (kvs : List (Str × Sl))

abbrev Env := List Sl
abbrev Store := List Cell

/-- an exception: its class, its field -/
structure Xn where
  cls : Str
  fld : Option Int

inductive Out (α : Type) where
  | ok (a : α) (ρ : Env) (S : Store) | exc (x : Xn) (ρ : Env) (S : Store) | bad
inductive Res where
  | ok (r : Rv) (S : Store) | exc (x : Xn) (S : Store) | bad

/-- and then; p: what is raised goes on, else it is not looked at -/
def Out.bnd {α β : Type} (p : Bool) (m : Out α) (f : α → Env → Store → Out β) : Out β := match m with
  | .ok a ρ S => f a ρ S
  | .exc x ρ S => match p with
    | true => .exc x ρ S
    | false => .bad
  | .bad => .bad
abbrev Out.bind {α β : Type} (m : Out α) (f : α → Env → Store → Out β) : Out β := Out.bnd true m f
abbrev Out.bindB {α β : Type} (m : Out α) (f : α → Env → Store → Out β) : Out β := Out.bnd false m f
@[simp] theorem Out.bind_ok {α β : Type} (a : α) (ρ : Env) (S : Store) (f : α → Env → Store → Out β) : (Out.ok a ρ S).bind f = f a ρ S := rfl
@[simp] theorem Out.bind_exc {α β : Type} (x : Xn) (ρ : Env) (S : Store) (f : α → Env → Store → Out β) : (Out.exc x ρ S : Out α).bind f = .exc x ρ S := rfl
@[simp] theorem Out.bind_bad {α β : Type} (f : α → Env → Store → Out β) : (Out.bad : Out α).bind f = .bad := rfl
@[simp] theorem Out.bindB_ok {α β : Type} (a : α) (ρ : Env) (S : Store) (f : α → Env → Store → Out β) : (Out.ok a ρ S).bindB f = f a ρ S := rfl
@[simp] theorem Out.bindB_exc {α β : Type} (x : Xn) (ρ : Env) (S : Store) (f : α → Env → Store → Out β) : (Out.exc x ρ S : Out α).bindB f = .bad := rfl
@[simp] theorem Out.bindB_bad {α β : Type} (f : α → Env → Store → Out β) : (Out.bad : Out α).bindB f = .bad := rfl
/-- nothing raised -/
def Out.okOnly {α : Type} : Out α → Out α
  | .ok a ρ S => .ok a ρ S
  | _ => .bad
@[simp] theorem Out.okOnly_ok {α : Type} (a : α) (ρ : Env) (S : Store) : Out.okOnly (.ok a ρ S) = .ok a ρ S := rfl
theorem Out.okOnly_inv {α : Type} {m : Out α} {a : α} {ρ : Env} {S : Store} (h : m.okOnly = .ok a ρ S) : m = .ok a ρ S := by
  cases m <;> first | exact h | cases h
theorem Out.okOnly_exc {α : Type} {m : Out α} {x : Xn} {ρ : Env} {S : Store} (h : m.okOnly = .exc x ρ S) : False := by
  cases m <;> cases h
/-- what is raised goes on where b is true -/
def Out.chk {α : Type} (b : Bool) (m : Out α) : Out α := match m with
  | .exc x ρ S => match b with
    | true => .exc x ρ S
    | false => .bad
  | m => m
@[simp] theorem Out.chk_ok {α : Type} (b : Bool) (a : α) (ρ : Env) (S : Store) : Out.chk b (.ok a ρ S) = .ok a ρ S := rfl
@[simp] theorem Out.chk_exc {α : Type} (x : Xn) (ρ : Env) (S : Store) : Out.chk true (.exc x ρ S : Out α) = .exc x ρ S := rfl
@[simp] theorem Out.chk_bad {α : Type} (b : Bool) : Out.chk b (.bad : Out α) = .bad := rfl
def Out.of {α : Type} (o : Option α) (ρ : Env) (S : Store) : Out α := match o with
  | some a => .ok a ρ S
  | none => .bad
@[simp] theorem Out.of_some {α : Type} (a : α) (ρ : Env) (S : Store) : Out.of (some a) ρ S = .ok a ρ S := rfl
@[simp] theorem Out.of_none {α : Type} (ρ : Env) (S : Store) : (Out.of none ρ S : Out α) = .bad := rfl

/-! ### slots -/
def gt : Env → Nat → Sl
  | [], _ => .no
  | x :: _, 0 => x
  | _ :: r, i + 1 => gt r i
def st : Env → Nat → Sl → Env
  | [], _, _ => []
  | _ :: r, 0, y => y :: r
  | x :: r, i + 1, y => x :: st r i y
/-- the own lists of a slot row forgotten -/
def Sl.mask : Sl → Sl
  | .own _ => .no
  | s => s
/-- a slot's list is shared from now on -/
def Sl.share : Sl → Sl
  | .own ds => .v (.lst ds)
  | s => s
def shareAt : Env → List Nat → Env
  | ρ, [] => ρ
  | ρ, i :: is => shareAt (st ρ i (gt ρ i).share) is

/-! ### equality -/
mutual
/-- Python's == of data -/
def D.eqv : D → D → Bool
  | .non, .non => true
  | .bl a, .bl b => a == b
  | .bl a, .int j => (if a then 1 else 0) == j
  | .int i, .bl b => i == (if b then 1 else 0)
  | .int i, .int j => i == j
  | .str x, .str y => x == y
  | .lst xs, .lst ys => D.eqvs xs ys
  | .tup xs, .tup ys => D.eqvs xs ys
  | _, _ => false
def D.eqvs : List D → List D → Bool
  | [], [] => true
  | x :: xs, y :: ys => D.eqv x y && D.eqvs xs ys
  | _, _ => false
end
mutual
/-- no cell within, at most so deep -/
def D.flatTo : D → Nat → Bool
  | .ref _, _ => false
  | .scr _, _ => false
  | .tup _, 0 => false
  | .tup ds, n + 1 => D.flatsTo ds n
  | .lst _, 0 => false
  | .lst ds, n + 1 => D.flatsTo ds n
  | .str s, _ => s.all (· < 128)
  | _, _ => true
def D.flatsTo : List D → Nat → Bool
  | [], _ => true
  | d :: ds, n => D.flatTo d n && D.flatsTo ds n
end
mutual
/-- no list within -/
def D.lfree : D → Bool
  | .lst _ => false
  | .scr _ => false
  | .tup ds => D.lfrees ds
  | _ => true
def D.lfrees : List D → Bool
  | [] => true
  | d :: ds => D.lfree d && D.lfrees ds
end
mutual
/-- no cell within -/
def D.rfree : D → Bool
  | .ref _ => false
  | .tup ds => D.rfrees ds
  | .lst ds => D.rfrees ds
  | _ => true
def D.rfrees : List D → Bool
  | [] => true
  | d :: ds => D.rfree d && D.rfrees ds
end
/-- a slot as a pure reader sees it -/
def Sl.pure : Sl → Sl
  | .v d => if d.rfree then .v d else .no
  | _ => .no
/-- a thing without parts -/
def D.flat : D → Bool
  | .non | .bl _ | .int _ | .str _ => true
  | _ => false
mutual
def D.same : D → D → Bool
  | .non, .non => true
  | .bl a, .bl b => a == b
  | .int i, .int j => i == j
  | .str x, .str y => x == y
  | .lst xs, .lst ys => D.sames xs ys
  | .tup xs, .tup ys => D.sames xs ys
  | .ref n, .ref m => n == m
  | .scr n, .scr m => n == m
  | _, _ => false
def D.sames : List D → List D → Bool
  | [], [] => true
  | x :: xs, y :: ys => D.same x y && D.sames xs ys
  | _, _ => false
end

mutual
theorem D.same_refl : ∀ d : D, D.same d d = true
  | .non => rfl
  | .bl _ => by simp [D.same]
  | .int _ => by simp [D.same]
  | .str _ => by simp [D.same]
  | .ref _ => by simp [D.same]
  | .scr _ => by simp [D.same]
  | .lst ds => by simp [D.same, D.sames_refl ds]
  | .tup ds => by simp [D.same, D.sames_refl ds]
theorem D.sames_refl : ∀ ds : List D, D.sames ds ds = true
  | [] => rfl
  | d :: ds => by simp [D.sames, D.same_refl d, D.sames_refl ds]
end
mutual
theorem D.same_eq : ∀ d e : D, D.same d e = true → d = e
  | .non, .non, _ => rfl
  | .bl _, .bl _, h => by simp [D.same] at h; rw [h]
  | .int _, .int _, h => by simp [D.same] at h; rw [h]
  | .str _, .str _, h => by simp [D.same] at h; rw [h]
  | .ref _, .ref _, h => by simp [D.same] at h; rw [h]
  | .scr _, .scr _, h => by simp [D.same] at h; rw [h]
  | .lst ds, .lst es, h => by simp [D.same] at h; rw [D.sames_eq ds es h]
  | .tup ds, .tup es, h => by simp [D.same] at h; rw [D.sames_eq ds es h]
  | .scr _, .bl _, h | .scr _, .int _, h | .scr _, .str _, h | .scr _, .tup _, h | .scr _, .lst _, h | .scr _, .ref _, h | .scr _, .non, h => by simp [D.same] at h
  | .bl _, .scr _, h | .int _, .scr _, h | .str _, .scr _, h | .tup _, .scr _, h | .lst _, .scr _, h | .ref _, .scr _, h | .non, .scr _, h => by simp [D.same] at h
  | .non, .bl _, h | .non, .int _, h | .non, .str _, h | .non, .tup _, h | .non, .lst _, h | .non, .ref _, h => by simp [D.same] at h
  | .bl _, .non, h | .bl _, .int _, h | .bl _, .str _, h | .bl _, .tup _, h | .bl _, .lst _, h | .bl _, .ref _, h => by simp [D.same] at h
  | .int _, .non, h | .int _, .bl _, h | .int _, .str _, h | .int _, .tup _, h | .int _, .lst _, h | .int _, .ref _, h => by simp [D.same] at h
  | .str _, .non, h | .str _, .bl _, h | .str _, .int _, h | .str _, .tup _, h | .str _, .lst _, h | .str _, .ref _, h => by simp [D.same] at h
  | .tup _, .non, h | .tup _, .bl _, h | .tup _, .int _, h | .tup _, .str _, h | .tup _, .lst _, h | .tup _, .ref _, h => by simp [D.same] at h
  | .lst _, .non, h | .lst _, .bl _, h | .lst _, .int _, h | .lst _, .str _, h | .lst _, .tup _, h | .lst _, .ref _, h => by simp [D.same] at h
  | .ref _, .non, h | .ref _, .bl _, h | .ref _, .int _, h | .ref _, .str _, h | .ref _, .tup _, h | .ref _, .lst _, h => by simp [D.same] at h
theorem D.sames_eq : ∀ ds es : List D, D.sames ds es = true → ds = es
  | [], [], _ => rfl
  | d :: ds, e :: es, h => by
    simp only [D.sames, Bool.and_eq_true] at h
    rw [D.same_eq d e h.1, D.sames_eq ds es h.2]
  | [], _ :: _, h => by simp [D.sames] at h
  | _ :: _, [], h => by simp [D.sames] at h
end
instance : DecidableEq D := fun a b => if h : D.same a b = true then isTrue (D.same_eq a b h) else isFalse fun e => h (e ▸ D.same_refl a)

/-! ### the core language -/
inductive Ty where
  | int | bool | list | tuple | str | cls (c : Str)
mutual
inductive CE where
  | slot (i : Nat)
  | non | bl (b : Bool) | int (i : Int) | str (s : Str)
  | glob (x : Str)
  | bin (op : Operator) (a b : CE)
  | neg (a : CE)
  | nt (a : CE)
  | band (a b : CE)
  | bor (a b : CE)
  | cmp (op : CmpOp) (a b : CE)
  | chain (op1 op2 : CmpOp) (a b c : CE)
  | ite (t : CT) (a b : CE)
  | call (f : Str) (as : List CE)
  | len (a : CE) | abs (a : CE) | max2 (a b : CE) | min2 (a b : CE) | maxl (a : CE) | any (a : CE) | all (a : CE) | list (a : CE) | sorted (a : CE) | strI (a : CE)
  | range (lo hi : CE)
  | isin (a : CE) (t : Ty)
  | idx (a i : CE)
  | slc (a : CE) (lo hi : Option CE)
  | lst (es : List CE)
  | tup (es : List CE)
  /-- [elt for x in src if cond]; sh: own slots that are read within -/
  | comp (sh : List Nat) (elt : CE) (i : Nat) (src : Src) (cond : Option CT)
  /-- x.pop() of an own slot -/
  | pop (i : Nat)
  /-- the slots are read within, and stay own -/
  | guard (is : List Nat) (a : CE)
  /-- a.index(b) -/
  | index (a b : CE)
  /-- x[a] of a dict that the top has written -/
  | dget (x : Str) (a : CE)
  /-- a.f -/
  | fld (a : CE) (f : Str)
  /-- list(a.f) of an own field -/
  | flist (a : CE) (f : Str)
  /-- a.f == [] of an own field -/
  | fnil (a : CE) (f : Str)
  /-- a.f.pop() -/
  | fpop (a : CE) (f : Str)
  /-- a.m(..) -/
  | meth (a : CE) (m : Str) (as : List CE)
  /-- C(..) -/
  | make (c : Str) (as : List CE)
  /-- a in x, a not in x, a dict that the top has written -/
  | din (neg : Bool) (x : Str) (a : CE)
  /-- a slot that is looked at in a guarded call -/
  | peek (i : Nat)
  /-- f(..) that leaves nothing: own slots among the arguments stay own -/
  | gcall (f : Str) (as : List CE)
  /-- isinstance(e, c), e what an except clause has caught -/
  | xis (c : Str)
/-- a test -/
inductive CT where
  | e (a : CE) | nt (a : CT) | and (a b : CT) | or (a b : CT)
inductive Src where
  | e (a : CE) | rng1 (hi : CE) | rng (lo hi : CE) | enum (a : CE) | rev (lo hi : CE)
end
mutual
inductive CS where
  | asg (own : Bool) (i : Nat) (e : CE)
  | asgT (is : List Nat) (e : CE)
  | aug (i : Nat) (op : Operator) (e : CE)
  | exp (e : CE)
  | app (i : Nat) (e : CE)
  | ret (e : CE)
  | retS (i : Nat)
  | retN
  | ite (t : CT) (a b : List CS)
  | whl (t : CT) (b : List CS)
  | for1 (i : Nat) (src : Src) (b : List CS)
  | forT (is : List Nat) (src : Src) (b : List CS)
  | forN (i : Nat) (is : List Nat) (src : Src) (b : List CS)
  | pas | brk | cnt
  /-- x.extend(e) of an own slot by a new list -/
  | ext (i : Nat) (e : CE)
  /-- x[k] = e of an own slot -/
  | seti (i : Nat) (k e : CE)
  /-- a statement that the evaluator doesn't know -/
  | unk
  /-- a.f = e -/
  | fset (own : Bool) (a : CE) (f : Str) (e : CE)
  /-- a.f.append(e) of an own field -/
  | fapp (a : CE) (f : Str) (e : CE)
  /-- x.f.append(y.g), x, y slots -/
  | fappF (i : Nat) (f : Str) (j : Nat) (g : Str)
  /-- for x in [..]: x.append(..), all new lists -/
  | spoil (i : Nat) (es : List CE)
  /-- raise c() -/
  | rais (c : Str)
  /-- raise c(e), kept as its field -/
  | raisAt (c : Str) (e : CE)
  /-- try: b, with clauses -/
  | tri (b : List CS) (h : Hd)
/-- except clauses -/
inductive Hd where
  | nil
  /-- except c [as slot i]: b -/
  | cons (c : Str) (i : Option Nat) (b : List CS) (r : Hd)
  /-- except c as slot i: return (None, e.at) -/
  | retAt (c : Str) (i : Nat) (r : Hd)
  /-- except c as slot i: slot j = e.at -/
  | asgAt (c : Str) (i j : Nat) (r : Hd)
end

inductive Fl where
  | nx | bk | ct | rt (r : Rv)

/-! ### the operations -/
def big : Nat := 2 ^ 24
/-- the whole numbers that may be multiplied by any -/
def smallI (i : Int) : Bool := decide (-(2 ^ 64) < i) && decide (i < 2 ^ 64)
def binD : Operator → D → D → Option Rv
  | .Add, .int i, .int j => some (.sh (.int (i + j)))
  | .Add, .str s, .str t => if s.length + t.length ≤ big then some (.sh (.str (s ++ t))) else none
  | .Add, .lst s, .lst t => if s.length + t.length ≤ big then some (.fr (s ++ t)) else none
  | .Sub, .int i, .int j => some (.sh (.int (i - j)))
  | .Mult, .int i, .int j => if smallI i || smallI j then some (.sh (.int (i * j))) else none
  | .FloorDiv, .int i, .int j => if 0 < j ∧ j < 2 ^ 64 then some (.sh (.int (i / j))) else none
  | .Mod, .int i, .int j => if 0 < j then some (.sh (.int (i % j))) else none
  | .Pow, .int i, .int j => if 0 ≤ j ∧ j ≤ 1000 ∧ smallI i = true then some (.sh (.int (i ^ j.toNat))) else none
  | .Mult, .str s, .int k => if -(2 ^ 63) ≤ k ∧ k < 2 ^ 20 ∧ s.length * k.toNat ≤ big then some (.sh (.str (List.replicate k.toNat s).flatten)) else none
  | _, _, _ => none
def cmpD : CmpOp → D → D → Option Bool
  | .Eq, .str s, .str t => some (decide (s = t))
  | .NotEq, .str s, .str t => some (!decide (s = t))
  | .NotEq, .scr ns, .lst [] => some (!ns.isEmpty)
  | .Eq, a, b => if a.flatTo 62 && b.flatTo 62 then some (a.eqv b) else none
  | .NotEq, a, b => if a.flatTo 62 && b.flatTo 62 then some (!a.eqv b) else none
  | .Lt, .int i, .int j => some (decide (i < j))
  | .LtE, .int i, .int j => some (decide (i ≤ j))
  | .Gt, .int i, .int j => some (decide (j < i))
  | .GtE, .int i, .int j => some (decide (j ≤ i))
  | .In, a, .lst ds => if a.flat && ds.all D.flat then some (ds.any fun d => d.eqv a) else if a.flatTo 62 && D.flatsTo ds 61 then some (ds.any fun d => d.eqv a) else none
  | .In, a, .tup ds => if a.flat && ds.all D.flat then some (ds.any fun d => d.eqv a) else none
  | .In, .str [c], .str t => some (decide (c ∈ t))
  | .NotIn, a, .lst ds => if a.flat && ds.all D.flat then some (!ds.any fun d => d.eqv a) else none
  | .NotIn, a, .tup ds => if a.flat && ds.all D.flat then some (!ds.any fun d => d.eqv a) else none
  | .NotIn, .str [c], .str t => some (!decide (c ∈ t))
  | .Is, .bl a, .bl b => some (decide (a = b))
  | .IsNot, .bl a, .bl b => some (!decide (a = b))
  | .Is, a, .non => some (decide (a = .non))
  | .IsNot, a, .non => some (!decide (a = .non))
  | _, _, _ => none
/-- the place that an index means -/
def ixN (n : Nat) (i : Int) : Option Nat :=
  if 0 ≤ i then (if i < n then some i.toNat else none) else if -(n : Int) ≤ i then some (i + n).toNat else none
def idxD : D → D → Option D
  | .lst ds, .int i => (ixN ds.length i).bind fun k => ds[k]?
  | .tup ds, .int i => (ixN ds.length i).bind fun k => ds[k]?
  | .scr ns, .int i => (ixN ns.length i).bind fun k => (ns[k]?).map .int
  | .str s, .int i => if s.length ≤ big then (ixN s.length i).bind fun k => (s[k]?).map fun c => .str [c] else none
  | _, _ => none
def lenD : D → Option D
  | .lst ds => some (.int ds.length)
  | .tup ds => some (.int ds.length)
  | .scr ns => some (.int ns.length)
  | .str s => if s.length ≤ big then some (.int s.length) else none
  | _ => none
def absD : D → Option D
  | .int i => some (.int (if i < 0 then -i else i))
  | _ => none
def max2D : D → D → Option D
  | .int i, .int j => some (.int (if j > i then j else i))
  | _, _ => none
def min2D : D → D → Option D
  | .int i, .int j => some (.int (if j < i then j else i))
  | _, _ => none
def intsOf : List D → Option (List Int)
  | [] => some []
  | .int i :: r => (intsOf r).map (i :: ·)
  | _ => none
def boolsOf : List D → Option (List Bool)
  | [] => some []
  | .bl b :: r => (boolsOf r).map (b :: ·)
  | _ => none
def maxlD : D → Option D
  | .lst ds => match intsOf ds with
    | some (i :: r) => some (.int (r.foldl (fun a b => if b > a then b else a) i))
    | _ => none
  | _ => none
def anyD : D → Option D
  | .lst ds => (boolsOf ds).map fun bs => .bl (bs.any id)
  | _ => none
def allD : D → Option D
  | .lst ds => (boolsOf ds).map fun bs => .bl (bs.all id)
  | _ => none
def listD : D → Option (List D)
  | .lst ds => some ds
  | .tup ds => some ds
  | _ => none
/-- insertion of a whole number into a rising row -/
def insI (i : Int) : List Int → List Int
  | [] => [i]
  | j :: r => if i ≤ j then i :: j :: r else j :: insI i r
def sortI : List Int → List Int
  | [] => []
  | i :: r => insI i (sortI r)
def sortedD : D → Option (List D)
  | .lst ds => (intsOf ds).map fun is => (sortI is).map .int
  | _ => none
def strD : D → Option D
  | .int i => if 0 ≤ i ∧ i ≤ 9 then some (.str [48 + i.toNat]) else none
  | _ => none
/-- the place of a sign in "&|>=" -/
def jointIx (c : Nat) : Option D := if c = 38 then some (.int 0) else if c = 124 then some (.int 1) else if c = 62 then some (.int 2) else if c = 61 then some (.int 3) else none
def indexD : D → D → Option D
  | .lst ds, a => if a.flatTo 62 && D.flatsTo ds 61 then (ds.findIdx? fun d => d.eqv a).map fun (k : Nat) => .int k else none
  | .str s, .str [c] => if s = [97, 98, 99, 100, 101] ∧ 97 ≤ c ∧ c ≤ 101 then some (.int ((c - 97 : Nat) : Int)) else if s = [38, 124, 62, 61] then jointIx c else none
  | _, _ => none
def dlk : List (List Nat × D) → List Nat → Option D
  | [], _ => none
  | (k, d) :: r, x => if x = k then some d else dlk r x
def rangeL (lo hi : Int) : Option (List D) :=
  if -(2 ^ 60) ≤ lo ∧ lo < 2 ^ 60 ∧ -(2 ^ 60) ≤ hi ∧ hi < 2 ^ 60 ∧ (hi - lo).toNat ≤ 1000000 then some ((List.range (hi - lo).toNat).map fun (k : Nat) => .int (lo + k)) else none
def rangeD : D → D → Option (List D)
  | .int lo, .int hi => rangeL lo hi
  | _, _ => none
def isinD : D → Ty → Option Bool
  | .int _, .int => some true
  | .bl _, .int => some true
  | .non, .int => some false
  | .str _, .int => some false
  | .tup _, .int => some false
  | .lst _, .int => some false
  | .bl _, .bool => some true
  | .int _, .bool => some false
  | .non, .bool => some false
  | .str _, .bool => some false
  | .tup _, .bool => some false
  | .lst _, .bool => some false
  | .lst _, .list => some true
  | .int _, .list => some false
  | .bl _, .list => some false
  | .non, .list => some false
  | .str _, .list => some false
  | .tup _, .list => some false
  | .tup _, .tuple => some true
  | .int _, .tuple => some false
  | .bl _, .tuple => some false
  | .non, .tuple => some false
  | .str _, .tuple => some false
  | .lst _, .tuple => some false
  | .str _, .str => some true
  | .int _, .str => some false
  | .bl _, .str => some false
  | .non, .str => some false
  | .tup _, .str => some false
  | .lst _, .str => some false
  | _, _ => none
/-- the bounds of a slice -/
def cutN (n : Nat) (dflt : Nat) : Option Int → Nat
  | none => dflt
  | some i => if i < 0 then (i + n).toNat else min i.toNat n
def cutL {α : Type} (xs : List α) (lo hi : Option Int) : List α := (xs.drop (cutN xs.length 0 lo)).take (cutN xs.length xs.length hi - cutN xs.length 0 lo)
def slcD : D → Option Int → Option Int → Option Rv
  | .lst ds, lo, hi => some (.fr (cutL ds lo hi))
  | .tup ds, lo, hi => some (.sh (.tup (cutL ds lo hi)))
  | .str s, lo, hi => if s.length ≤ big then some (.sh (.str (cutL s lo hi))) else none
  | _, _, _ => none
/-- what a loop walks -/
def walkD : D → Option (List D)
  | .lst ds => some ds
  | .tup ds => some ds
  | .str s => some (s.map fun c => .str [c])
  | _ => none
def enumL : List D → Nat → List D
  | [], _ => []
  | d :: ds, n => .tup [.int n, d] :: enumL ds (n + 1)
def isB : Rv → Option Bool
  | .sh (.bl b) => some b
  | _ => none
def isI : Rv → Option Int
  | .sh (.int b) => some b
  | _ => none

structure Ctx where
  cf : Str → List D → Store → Res
  gl : Str → Option D
  dc : Str → Option (List (List Nat × D))
  /-- a method of a class -/
  cm : Str → Str → List D → Store → Res
  /-- the __init__ of a class -/
  ci : Str → List D → Store → Res
  /-- the classes of exceptions: 0 is over all others, 1 has no field, 2 has one -/
  xc : Str → Option Nat
  /-- what an except clause has caught -/
  xn : Option Xn
  /-- the defs that are there, the methods -/
  hf : Str → Bool
  hm : Str → Str → Bool

def excSub (a b : Str) : Bool := decide (b = "TalkError") || decide (a = b)
/-! ### cells -/
def fget : List (Str × Sl) → Str → Sl
  | [], _ => .no
  | (k, s) :: r, f => if f = k then s else fget r f
def fput (f : Str) (y : Sl) : List (Str × Sl) → List (Str × Sl)
  | [] => [(f, y)]
  | (g, x) :: r => if g = f then (g, y) :: r else (g, x) :: fput f y r
def hasF : List (Str × Sl) → Str → Bool
  | [], _ => false
  | (k, _) :: r, f => decide (f = k) || hasF r f
def fldAt (S : Store) (n : Nat) (f : Str) : Sl := match S[n]? with
  | some (.obj _ fs) => fget fs f
  | _ => .no
def setFld (S : Store) (n : Nat) (f : Str) (y : Sl) : Store := match S[n]? with
  | some (.obj c fs) => S.set n (.obj c (fput f y fs))
  | _ => S
def ownSl (own : Bool) (x : Rv) : Sl := match own, x with
  | true, .fr ds => .own ds
  | _, x => .v x.d

def isPeek : CE → Option Nat
  | .peek i => some i
  | _ => none
def isNo : Sl → Bool
  | .no => true
  | _ => false
def slD : Sl → Option D
  | .own xs => some (.lst xs)
  | .v d => some d
  | .no => none
/-- a comprehension's turns: f gives the kept item of a turn -/
def compL (f : D → Store → Out (Option D)) : List D → Store → List D → Out (List D)
  | [], S, acc => .ok acc [] S
  | d :: ds, S, acc => match f d S with
    | .ok none _ S => compL f ds S acc
    | .ok (some y) _ S => if acc.length < big then compL f ds S (acc ++ [y]) else .bad
    | .exc _ _ _ => .bad
    | .bad => .bad

mutual
def ev (Γ : Ctx) : CE → Env → Store → Out Rv
  | .slot i, ρ, S => match gt ρ i with
    | .v d => .ok (.sh d) ρ S
    | .own ds => .ok (.sh (.lst ds)) (st ρ i (.v (.lst ds))) S
    | .no => .bad
  | .non, ρ, S => .ok (.sh .non) ρ S
  | .bl b, ρ, S => .ok (.sh (.bl b)) ρ S
  | .int i, ρ, S => .ok (.sh (.int i)) ρ S
  | .str s, ρ, S => .ok (.sh (.str s.cps.toList)) ρ S
  | .glob x, ρ, S => match Γ.gl x with
    | some d => .ok (.sh d) ρ S
    | none => .bad
  | .bin op a b, ρ, S => (ev Γ a ρ S).bindB fun x ρ S => (ev Γ b ρ S).bindB fun y ρ S => .of (binD op x.d y.d) ρ S
  | .neg a, ρ, S => (ev Γ a ρ S).bindB fun x ρ S => match x with
    | .sh (.int i) => .ok (.sh (.int (-i))) ρ S
    | _ => .bad
  | .nt a, ρ, S => (ev Γ a ρ S).bindB fun x ρ S => (Out.of (isB x) ρ S).bindB fun b ρ S => .ok (.sh (.bl (!b))) ρ S
  | .band a b, ρ, S => (ev Γ a ρ S).bind fun x ρ S => (Out.of (isB x) ρ S).bind fun c ρ S => if c then ev Γ b ρ S else .ok (.sh (.bl false)) ρ S
  | .bor a b, ρ, S => (ev Γ a ρ S).bind fun x ρ S => (Out.of (isB x) ρ S).bind fun c ρ S => if c then .ok (.sh (.bl true)) ρ S else ev Γ b ρ S
  | .cmp op a b, ρ, S => (ev Γ a ρ S).bind fun x ρ S => (ev Γ b ρ S).bind fun y ρ S => (Out.of (cmpD op x.d y.d) ρ S).bind fun c ρ S => .ok (.sh (.bl c)) ρ S
  | .chain o1 o2 a b c, ρ, S => (ev Γ a ρ S).bindB fun x ρ S => (ev Γ b ρ S).bindB fun y ρ S => (Out.of (cmpD o1 x.d y.d) ρ S).bindB fun k ρ S =>
      if k then (ev Γ c ρ S).bindB fun z ρ S => (Out.of (cmpD o2 y.d z.d) ρ S).bindB fun c ρ S => .ok (.sh (.bl c)) ρ S else .ok (.sh (.bl false)) ρ S
  | .ite t a b, ρ, S => (evT Γ t ρ S).bind fun c ρ S => if c then ev Γ a ρ S else ev Γ b ρ S
  | .call f as, ρ, S => (Out.chk (Γ.hf f) (evs Γ as ρ S)).bind fun ds ρ S => match Γ.cf f ds S with
    | .ok r S => .ok r ρ S
    | .exc x S => .exc x ρ S
    | .bad => .bad
  | .len a, ρ, S => (ev Γ a ρ S).bindB fun x ρ S => (Out.of (lenD x.d) ρ S).bindB fun d ρ S => .ok (.sh d) ρ S
  | .abs a, ρ, S => (ev Γ a ρ S).bindB fun x ρ S => (Out.of (absD x.d) ρ S).bindB fun d ρ S => .ok (.sh d) ρ S
  | .max2 a b, ρ, S => (ev Γ a ρ S).bindB fun x ρ S => (ev Γ b ρ S).bindB fun y ρ S => (Out.of (max2D x.d y.d) ρ S).bindB fun d ρ S => .ok (.sh d) ρ S
  | .min2 a b, ρ, S => (ev Γ a ρ S).bindB fun x ρ S => (ev Γ b ρ S).bindB fun y ρ S => (Out.of (min2D x.d y.d) ρ S).bindB fun d ρ S => .ok (.sh d) ρ S
  | .maxl a, ρ, S => (ev Γ a ρ S).bindB fun x ρ S => (Out.of (maxlD x.d) ρ S).bindB fun d ρ S => .ok (.sh d) ρ S
  | .any a, ρ, S => (ev Γ a ρ S).bindB fun x ρ S => (Out.of (anyD x.d) ρ S).bindB fun d ρ S => .ok (.sh d) ρ S
  | .all a, ρ, S => (ev Γ a ρ S).bindB fun x ρ S => (Out.of (allD x.d) ρ S).bindB fun d ρ S => .ok (.sh d) ρ S
  | .list a, ρ, S => (ev Γ a ρ S).bindB fun x ρ S => (Out.of (listD x.d) ρ S).bindB fun d ρ S => .ok (.fr d) ρ S
  | .sorted a, ρ, S => (ev Γ a ρ S).bindB fun x ρ S => (Out.of (sortedD x.d) ρ S).bindB fun d ρ S => .ok (.fr d) ρ S
  | .strI a, ρ, S => (ev Γ a ρ S).bindB fun x ρ S => (Out.of (strD x.d) ρ S).bindB fun d ρ S => .ok (.sh d) ρ S
  | .range a b, ρ, S => (ev Γ a ρ S).bindB fun x ρ S => (ev Γ b ρ S).bindB fun y ρ S => (Out.of (rangeD x.d y.d) ρ S).bindB fun d ρ S => .ok (.fr d) ρ S
  | .isin a t, ρ, S => (ev Γ a ρ S).bindB fun x ρ S => (Out.of (isinD x.d t) ρ S).bindB fun c ρ S => .ok (.sh (.bl c)) ρ S
  | .idx a i, ρ, S => (ev Γ a ρ S).bindB fun x ρ S => (ev Γ i ρ S).bindB fun y ρ S => (Out.of (idxD x.d y.d) ρ S).bindB fun d ρ S => .ok (.sh d) ρ S
  | .slc a lo hi, ρ, S => (ev Γ a ρ S).bindB fun x ρ S => (evo Γ lo ρ S).bindB fun l ρ S => (evo Γ hi ρ S).bindB fun h ρ S => .of (slcD x.d l h) ρ S
  | .lst es, ρ, S => (evs Γ es ρ S).bind fun ds ρ S => if ds.length ≤ big then .ok (.fr ds) ρ S else .bad
  | .tup es, ρ, S => (evs Γ es ρ S).bind fun ds ρ S => if ds.length ≤ big then .ok (.sh (.tup ds)) ρ S else .bad
  | .comp sh elt i src cond, ρ, S => (evSrc Γ src ρ S).bindB fun ds ρ S =>
      let ρ := shareAt ρ sh
      let ρ' := ρ.map Sl.mask
      match compL (fun d S => (evc Γ cond (st ρ' i (.v d)) S).bind fun c ρ S => if c then (ev Γ elt ρ S).bind fun y ρ S => .ok (some y.d) ρ S else .ok none ρ S) ds S [] with
      | .ok r _ S => .ok (.fr r) ρ S
      | _ => .bad
  | .pop i, ρ, S => match gt ρ i with
    | .own ds => match ds.getLast? with
      | some d => .ok (.sh d) (st ρ i (.own ds.dropLast)) S
      | none => .bad
    | _ => .bad
  | .guard is a, ρ, S => match ev Γ a ((shareAt ρ is).map Sl.pure) [] with
    | .ok (.sh d) _ [] => if d.lfree = true then .ok (.sh d) ρ S else if is.isEmpty then .bad else Out.okOnly (ev Γ a ρ S)
    | _ => if is.isEmpty then .bad else Out.okOnly (ev Γ a ρ S)
  | .index a b, ρ, S => (ev Γ a ρ S).bindB fun x ρ S => (ev Γ b ρ S).bindB fun y ρ S => (Out.of (indexD x.d y.d) ρ S).bindB fun d ρ S => .ok (.sh d) ρ S
  | .dget x a, ρ, S => (ev Γ a ρ S).bindB fun k ρ S => match Γ.dc x, k.d with
    | some kvs, .str s => match dlk kvs s with
      | some d => .ok (.sh d) ρ S
      | none => .bad
    | _, _ => .bad
  | .fld a f, ρ, S => (ev Γ a ρ S).bind fun x ρ S => match x with
    | .sh (.ref n) => match fldAt S n f with
      | .v d => .ok (.sh d) ρ S
      | _ => .bad
    | _ => .bad
  | .flist a f, ρ, S => (ev Γ a ρ S).bindB fun x ρ S => match x with
    | .sh (.ref n) => match fldAt S n f with
      | .own ds => .ok (.fr ds) ρ S
      | _ => .bad
    | _ => .bad
  | .fnil a f, ρ, S => (ev Γ a ρ S).bindB fun x ρ S => match x with
    | .sh (.ref n) => match fldAt S n f with
      | .own ds => if D.flatsTo ds 61 then .ok (.sh (.bl ds.isEmpty)) ρ S else .bad
      | _ => .bad
    | _ => .bad
  | .fpop a f, ρ, S => (ev Γ a ρ S).bindB fun x ρ S => match x with
    | .sh (.ref n) => match fldAt S n f with
      | .own ds => match ds.getLast? with
        | some d => .ok (.sh d) ρ (setFld S n f (.own ds.dropLast))
        | none => .bad
      | _ => .bad
    | _ => .bad
  | .meth a m as, ρ, S => (ev Γ a ρ S).bind fun x ρ S => match x with
    | .sh (.ref n) => match S[n]? with
      | some (.obj c fs) => if hasF fs m then .bad else (Out.chk (Γ.hm c m) (evs Γ as ρ S)).bind fun ds ρ S => match Γ.cm c m (.ref n :: ds) S with
        | .ok r S => .ok r ρ S
        | .exc x S => .exc x ρ S
        | .bad => .bad
      | _ => .bad
    | _ => .bad
  | .make c as, ρ, S => (Out.chk (Γ.hm c "__init__") (evs Γ as ρ S)).bind fun ds ρ S => match Γ.ci c (.ref S.length :: ds) (S ++ [.obj c []]) with
    | .ok (.sh .non) S' => .ok (.sh (.ref S.length)) ρ S'
    | .exc x S' => .exc x ρ S'
    | _ => .bad
  | .din neg x a, ρ, S => (ev Γ a ρ S).bindB fun k ρ S => match Γ.dc x, k.d with
    | some kvs, .str s => .ok (.sh (.bl ((dlk kvs s).isSome != neg))) ρ S
    | _, _ => .bad
  | .peek _, _, _ => .bad
  | .gcall f as, ρ, S => (evsP Γ as ρ S).bindB fun ds ρ S => if D.rfrees ds then match Γ.cf f ds [] with
    | .ok (.sh d) [] => if d.lfree then .ok (.sh d) ρ S else .bad
    | _ => .bad
    else .bad
  | .xis c, ρ, S => match Γ.xn with
    | some x => if c = "ValueError" ∨ Γ.xc c ≠ none then .ok (.sh (.bl (decide (c = "ValueError") || excSub x.cls c))) ρ S else .bad
    | none => .bad
def evT (Γ : Ctx) : CT → Env → Store → Out Bool
  | .nt a, ρ, S => (evT Γ a ρ S).bind fun b ρ S => .ok (!b) ρ S
  | .and a b, ρ, S => (evT Γ a ρ S).bind fun c ρ S => if c then evT Γ b ρ S else .ok false ρ S
  | .or a b, ρ, S => (evT Γ a ρ S).bind fun c ρ S => if c then .ok true ρ S else evT Γ b ρ S
  | .e a, ρ, S => (ev Γ a ρ S).bind fun x ρ S => .of (isB x) ρ S
def evs (Γ : Ctx) : List CE → Env → Store → Out (List D)
  | [], ρ, S => .ok [] ρ S
  | e :: es, ρ, S => (ev Γ e ρ S).bind fun x ρ S => (evs Γ es ρ S).bind fun ds ρ S => .ok (x.d :: ds) ρ S
def evsP (Γ : Ctx) : List CE → Env → Store → Out (List D)
  | [], ρ, S => .ok [] ρ S
  | e :: es, ρ, S => match isPeek e with
    | some i => if isNo (gt ρ i) then .bad else (evsP Γ es ρ S).bindB fun ds ρ S => (Out.of (slD (gt ρ i)) ρ S).bindB fun d ρ S => .ok (d :: ds) ρ S
    | none => (ev Γ e ρ S).bindB fun x ρ S => (evsP Γ es ρ S).bindB fun ds ρ S => .ok (x.d :: ds) ρ S
def evo (Γ : Ctx) : Option CE → Env → Store → Out (Option Int)
  | none, ρ, S => .ok none ρ S
  | some e, ρ, S => (ev Γ e ρ S).bindB fun x ρ S => (Out.of (isI x) ρ S).bindB fun i ρ S => .ok (some i) ρ S
def evc (Γ : Ctx) : Option CT → Env → Store → Out Bool
  | none, ρ, S => .ok true ρ S
  | some e, ρ, S => evT Γ e ρ S
def evSrc (Γ : Ctx) : Src → Env → Store → Out (List D)
  | .e a, ρ, S => (ev Γ a ρ S).bindB fun x ρ S => .of (walkD x.d) ρ S
  | .rng1 a, ρ, S => (ev Γ a ρ S).bindB fun x ρ S => .of (rangeD (.int 0) x.d) ρ S
  | .rng a b, ρ, S => (ev Γ a ρ S).bindB fun x ρ S => (ev Γ b ρ S).bindB fun y ρ S => .of (rangeD x.d y.d) ρ S
  | .enum a, ρ, S => (ev Γ a ρ S).bindB fun x ρ S => match x.d with
    | .lst ds => .ok (enumL ds 0) ρ S
    | _ => .bad
  | .rev a b, ρ, S => (ev Γ a ρ S).bindB fun x ρ S => (ev Γ b ρ S).bindB fun y ρ S => (Out.of (rangeD x.d y.d) ρ S).bindB fun ds ρ S => .ok ds.reverse ρ S
end

/-- new lists, one after the other, and all let go -/
def evFr (Γ : Ctx) : List CE → Env → Store → Out Unit
  | [], ρ, S => .ok () ρ S
  | e :: es, ρ, S => (ev Γ e ρ S).bindB fun x ρ S => match x with
    | .fr ds => if ds.length + 1000 < big then evFr Γ es ρ S else .bad
    | _ => .bad
/-! ### statements -/
def loopS (f : D → Env → Store → Out Fl) : List D → Env → Store → Out Fl
  | [], ρ, S => .ok .nx ρ S
  | d :: ds, ρ, S => match f d ρ S with
    | .ok .nx ρ S => loopS f ds ρ S
    | .ok .ct ρ S => loopS f ds ρ S
    | .ok .bk ρ S => .ok .nx ρ S
    | .ok (.rt r) ρ S => .ok (.rt r) ρ S
    | .exc x ρ S => .exc x ρ S
    | .bad => .bad
def whileS (t : Env → Store → Out Bool) (b : Env → Store → Out Fl) : Nat → Env → Store → Out Fl
  | 0, _, _ => .bad
  | n + 1, ρ, S => (t ρ S).bindB fun c ρ S => if c then match b ρ S with
      | .ok .nx ρ S => whileS t b n ρ S
      | .ok .ct ρ S => whileS t b n ρ S
      | .ok .bk ρ S => .ok .nx ρ S
      | .ok (.rt r) ρ S => .ok (.rt r) ρ S
      | .exc _ _ _ => .bad
      | .bad => .bad
    else .ok .nx ρ S
def setT : List Nat → List D → Env → Option Env
  | [], [], ρ => some ρ
  | i :: is, d :: ds, ρ => setT is ds (st ρ i (.v d))
  | _, _, _ => none
def asgT (is : List Nat) (d : D) (ρ : Env) (S : Store) : Out Fl := match d with
  | .tup ds => match setT is ds ρ with
    | some ρ => .ok .nx ρ S
    | none => .bad
  | _ => .bad
def asgN (i : Nat) (is : List Nat) (d : D) (ρ : Env) (S : Store) : Out Fl := match d with
  | .tup [a, b] => asgT is b (st ρ i (.v a)) S
  | _ => .bad
/-- a clause's name goes -/
def noSl (i : Option Nat) (ρ : Env) : Env := match i with
  | some i => st ρ i .no
  | none => ρ
def slIn (i : Option Nat) (ρ : Env) : Bool := match i with
  | some i => decide (i < ρ.length)
  | none => true
/-- the classes of all clauses are there -/
def Hd.known (xc : Str → Option Nat) : Hd → Bool
  | .nil => true
  | .cons c _ _ r => (xc c).isSome && r.known xc
  | .retAt c _ r => (xc c).isSome && r.known xc
  | .asgAt c _ _ r => (xc c).isSome && r.known xc
/-- behind a suite -/
def outSu (i : Option Nat) : Out Fl → Out Fl
  | .ok fl ρ S => .ok fl (noSl i ρ) S
  | _ => .bad
/-- the turns of a while loop that are looked at -/
def turns : Nat := 1000000
mutual
def evS (Γ : Ctx) : CS → Env → Store → Out Fl
  | .asg own i e, ρ, S => (ev Γ e ρ S).bind fun x ρ S => .ok .nx (st ρ i (match own, x with
      | true, .fr ds => .own ds
      | _, x => .v x.d)) S
  | .asgT is e, ρ, S => (ev Γ e ρ S).bind fun x ρ S => asgT is x.d ρ S
  | .aug i op e, ρ, S => match gt ρ i with
    | .v (.int k) => (ev Γ e ρ S).bindB fun y ρ S => match op, y with
      | .Add, .sh (.int j) => .ok .nx (st ρ i (.v (.int (k + j)))) S
      | _, _ => .bad
    | _ => .bad
  | .exp e, ρ, S => (ev Γ e ρ S).bind fun _ ρ S => .ok .nx ρ S
  | .app i e, ρ, S => match gt ρ i with
    | .own _ => (ev Γ e ρ S).bindB fun y ρ S => match gt ρ i with
      | .own ds => if ds.length < big then .ok .nx (st ρ i (.own (ds ++ [y.d]))) S else .bad
      | _ => .bad
    | _ => .bad
  | .ret e, ρ, S => (ev Γ e ρ S).bind fun x ρ S => .ok (.rt x) ρ S
  | .retS i, ρ, S => match gt ρ i with
    | .v d => .ok (.rt (.sh d)) ρ S
    | .own ds => .ok (.rt (.fr ds)) (st ρ i .no) S
    | .no => .bad
  | .retN, ρ, S => .ok (.rt (.sh .non)) ρ S
  | .ite t a b, ρ, S => (evT Γ t ρ S).bind fun c ρ S => if c then evSs Γ a ρ S else evSs Γ b ρ S
  | .whl t b, ρ, S => whileS (evT Γ t) (evSs Γ b) turns ρ S
  | .for1 i src b, ρ, S => (evSrc Γ src ρ S).bindB fun ds ρ S => loopS (fun d ρ S => evSs Γ b (st ρ i (.v d)) S) ds ρ S
  | .forT is src b, ρ, S => (evSrc Γ src ρ S).bindB fun ds ρ S => loopS (fun d ρ S => (asgT is d ρ S).bind fun _ ρ S => evSs Γ b ρ S) ds ρ S
  | .forN i is src b, ρ, S => (evSrc Γ src ρ S).bindB fun ds ρ S => loopS (fun d ρ S => (asgN i is d ρ S).bind fun _ ρ S => evSs Γ b ρ S) ds ρ S
  | .pas, ρ, S => .ok .nx ρ S
  | .brk, ρ, S => .ok .bk ρ S
  | .cnt, ρ, S => .ok .ct ρ S
  | .ext i e, ρ, S => match gt ρ i with
    | .own _ => (ev Γ e ρ S).bindB fun y ρ S => match y, gt ρ i with
      | .fr es, .own ds => if ds.length + es.length ≤ big then .ok .nx (st ρ i (.own (ds ++ es))) S else .bad
      | _, _ => .bad
    | _ => .bad
  | .seti i k e, ρ, S => (ev Γ e ρ S).bindB fun y ρ S => match gt ρ i with
    | .own _ => (ev Γ k ρ S).bindB fun z ρ S => match gt ρ i, z with
      | .own ds, .sh (.int j) => match ixN ds.length j with
        | some q => .ok .nx (st ρ i (.own (ds.set q y.d))) S
        | none => .bad
      | _, _ => .bad
    | _ => .bad
  | .unk, _, _ => .bad
  | .fset own a f e, ρ, S => (ev Γ e ρ S).bind fun y ρ S => (ev Γ a ρ S).bindB fun x ρ S => match x with
    | .sh (.ref n) => match S[n]? with
      | some (.obj _ fs) => if fs.length < 999 then .ok .nx ρ (setFld S n f (ownSl own y)) else .bad
      | _ => .bad
    | _ => .bad
  | .fapp a f e, ρ, S => (ev Γ a ρ S).bindB fun x ρ S => match x with
    | .sh (.ref n) => match fldAt S n f with
      | .own ds => (ev Γ (.guard [] e) ρ S).bindB fun y ρ S => if ds.length < big then .ok .nx ρ (setFld S n f (.own (ds ++ [y.d]))) else .bad
      | _ => .bad
    | _ => .bad
  | .fappF i f j g, ρ, S => match gt ρ i, gt ρ j with
    | .v (.ref n), .v (.ref m) => match fldAt S n f, fldAt S m g with
      | .own ds, .v d => if ds.length < big then .ok .nx ρ (setFld S n f (.own (ds ++ [d]))) else .bad
      | _, _ => .bad
    | _, _ => .bad
  | .spoil i es, ρ, S => (evFr Γ es ρ S).bindB fun _ ρ S => if i < ρ.length then .ok .nx (st ρ i .no) S else .bad
  | .rais c, ρ, S => if Γ.xc c = some 1 then .exc ⟨c, none⟩ ρ S else .bad
  | .raisAt c e, ρ, S => (ev Γ e ρ S).bindB fun x ρ S => match x with
    | .sh (.int i) => if Γ.xc c = some 2 then .exc ⟨c, some i⟩ ρ S else .bad
    | _ => .bad
  | .tri b h, ρ, S => if h.known Γ.xc then (match evSs Γ b ρ S with
    | .exc x ρ S => evH Γ x h ρ S
    | r => r) else .bad
def evSs (Γ : Ctx) : List CS → Env → Store → Out Fl
  | [], ρ, S => .ok .nx ρ S
  | s :: r, ρ, S => (evS Γ s ρ S).bind fun f ρ S => match f with
    | .nx => evSs Γ r ρ S
    | f => .ok f ρ S
def evH (Γ : Ctx) (x : Xn) : Hd → Env → Store → Out Fl
  | .nil, ρ, S => .exc x ρ S
  | .cons c i b r, ρ, S => if excSub x.cls c then (if slIn i ρ then outSu i (evSs { Γ with xn := some x } b (noSl i ρ) S) else .bad) else evH Γ x r ρ S
  | .retAt c i r, ρ, S => if excSub x.cls c then (match x.fld with
    | some k => if slIn (some i) ρ = true ∧ Γ.xc x.cls = some 2 then .ok (.rt (.sh (.tup [.non, .int k]))) (st ρ i .no) S else .bad
    | none => .bad) else evH Γ x r ρ S
  | .asgAt c i j r, ρ, S => if excSub x.cls c then (match x.fld with
    | some k => if slIn (some i) ρ = true ∧ i ≠ j ∧ Γ.xc x.cls = some 2 then .ok .nx (st (st ρ i .no) j (.v (.int k))) S else .bad
    | none => .bad) else evH Γ x r ρ S
end

/-! ### functions -/
structure Fn where
  np : Nat
  nl : Nat
  body : List CS
def Fl.res : Out Fl → Res
  | .ok (.rt r) _ S => .ok r S
  | .ok .nx _ S => .ok (.sh .non) S
  | .ok _ _ _ => .bad
  | .exc x _ S => .exc x S
  | .bad => .bad
def runF (Γ : Ctx) (f : Fn) (ds : List D) (S : Store) : Res :=
  if ds.length = f.np then Fl.res (evSs Γ f.body (ds.map .v ++ List.replicate (f.nl - f.np) .no) S) else .bad
structure Tab where
  fn : Str → Option Fn
  gl : Str → Option D
  dc : Str → Option (List (List Nat × D)) := fun _ => none
  mt : Str → Str → Option Fn := fun _ _ => none
  xc : Str → Option Nat := fun _ => none
/-- a def of the top, a method -/
inductive Fk where
  | g (x : Str) | m (c x : Str)
def Tab.at (T : Tab) : Fk → Option Fn
  | .g x => T.fn x
  | .m c x => T.mt c x
/-- the context of a body, from the calls one and two levels below -/
def mkC (T : Tab) (c1 c2 : Fk → List D → Store → Res) : Ctx := ⟨fun f => c1 (.g f), T.gl, T.dc, fun c m => c1 (.m c m), fun c => c2 (.m c "__init__"), T.xc, none, fun f => (T.fn f).isSome, fun c m => (T.mt c m).isSome⟩
/-- two levels at once: the calls at level n, and at level n - 1 -/
def callP (T : Tab) : Nat → (Fk → List D → Store → Res) × (Fk → List D → Store → Res)
  | 0 => (fun _ _ _ => .bad, fun _ _ _ => .bad)
  | n + 1 => (fun k ds S => match T.at k with
    | some fn => runF (mkC T (callP T n).1 (callP T n).2) fn ds S
    | none => .bad, (callP T n).1)
def callG (T : Tab) (n : Nat) : Fk → List D → Store → Res := (callP T n).1
def callF (T : Tab) (n : Nat) (f : Str) (ds : List D) (S : Store) : Res := callG T n (.g f) ds S
def callM (T : Tab) (n : Nat) (c m : Str) (ds : List D) (S : Store) : Res := callG T n (.m c m) ds S
/-- the context of a body at level n + 1 -/
abbrev cx (T : Tab) (n : Nat) : Ctx := ⟨callF T n, T.gl, T.dc, callM T n, fun c => (callP T n).2 (.m c "__init__"), T.xc, none, fun f => (T.fn f).isSome, fun c m => (T.mt c m).isSome⟩
theorem callG_succ (T : Tab) (n : Nat) (k : Fk) (ds : List D) (S : Store) : callG T (n + 1) k ds S = match T.at k with
    | some fn => runF (cx T n) fn ds S
    | none => .bad := rfl
theorem callF_succ (T : Tab) (n : Nat) (f : Str) (ds : List D) (S : Store) : callF T (n + 1) f ds S = match T.fn f with
    | some fn => runF (cx T n) fn ds S
    | none => .bad := rfl
theorem callM_succ (T : Tab) (n : Nat) (c m : Str) (ds : List D) (S : Store) : callM T (n + 1) c m ds S = match T.mt c m with
    | some fn => runF (cx T n) fn ds S
    | none => .bad := rfl
theorem cx_cf (T : Tab) (n : Nat) : (cx T n).cf = callF T n := rfl
theorem cx_cm (T : Tab) (n : Nat) : (cx T n).cm = callM T n := rfl
theorem cx_gl (T : Tab) (n : Nat) : (cx T n).gl = T.gl := rfl
theorem cx_dc (T : Tab) (n : Nat) : (cx T n).dc = T.dc := rfl
theorem cx_xc (T : Tab) (n : Nat) : (cx T n).xc = T.xc := rfl
theorem cx_hf (T : Tab) (n : Nat) (f : Str) : (cx T n).hf f = (T.fn f).isSome := rfl
theorem cx_hm (T : Tab) (n : Nat) (c m : Str) : (cx T n).hm c m = (T.mt c m).isSome := rfl
theorem cx_xn (T : Tab) (n : Nat) : (cx T n).xn = none := rfl
theorem cx_ci (T : Tab) (n : Nat) (c : Str) (ds : List D) (S : Store) : (cx T (n + 1)).ci c ds S = callM T n c "__init__" ds S := rfl
theorem callF_zero (T : Tab) (f : Str) (ds : List D) (S : Store) : callF T 0 f ds S = .bad := rfl
end Ht

set_option Elab.async false
set_option linter.all false
set_option maxRecDepth 100000
set_option maxHeartbeats 2000000
/-! ### rules of the machine that the layer lacks: raise C(), calls that may raise at known slots, several except clauses with names -/
namespace HtX
open PySem PySem.Spec PyProof.Rows L2
section
variable {X : Cx} {C : Addr} {bmB : List Value} {B newId initId : String}
/-- C(), to be raised -/
theorem mk0 {x : Str} {p pos : Pos} (F : ExcBaseFacts B newId initId bmB) (q : PySem.W.excIn X.K C bmB newId = true) (gC : X.mg x = some (.ref C)) (kC : PySem.W.keepIn X.K (.ref C) = true)
    (r : Raises X (.ref C)) (hg : Gl X x) (hdb : (x == ("__debug__" : Str)) = false) : L2N.PMk X (.Call (.Name x p) [] [] pos) (fun _ H Q => Q (.ref C) none H) := by
  intro pns st sl Hh Qq J hq
  refine wpAny_Call_Name_kw (ld_glob J hg gC ?_ hdb)
  refine PySem.W.callWith_K0 J.kIn kC ?_
  obtain ⟨bm, N, nm, qn, bs, hdct, sn, sub, ab, col, dd, k0, k1, k2, k3, k5, mN, cC, cN, cI, cT⟩ := exc_obj J.kIn q
  exact wpAny_call_exc_subT F cT cC cN cI (fun h' e mm => L2N.mk_of J mm r hq (J.hok.gone mm.new)) (Nat.zero_le _)
end
section
variable {X : Cx} {CX : CXT} {k : Nat} {f C : Addr} {fd : FuncData} {ps : List Str} {sp : Sp} {E : L2.St → XK} {x m : Str} {p pos apos : Pos} {e o : Expr} {es : List Expr} {ta : TE} {t : TA}
/-- f() -/
theorem call0 (F : FnOk X.prog X.w X.K X.mg X.base CX k f fd ps sp) (hr : Room k X.A) (hg : Gl X x) (hm : X.mg x = some (.ref f)) (hk : PySem.W.keepIn X.K (.ref f) = true) (hb : Binds X.K fd ps [])
    (hx : ∀ σ, PassesAt CX X σ (E σ)) (hdb : (x == ("__debug__" : Str)) = false) : PE X (.Call (.Name x p) [] [] pos) (tCallS sp E tNil) :=
  ⟨fun pns st sl Hh Qq J hq => wpAny_Call_Name_kw (ld_glob J hg hm (PySem.W.callWith_K0 J.kIn hk (run_fnS (us := []) F hr hb (hx sl) J .nil hq)) hdb)⟩
def tMethS (C : Addr) (m : Str) (sp : Sp) (E : L2.St → XK) (ta : TE) (t : TA) : TE := fun σ H Q => ta σ H fun x H1 => ∃ a dx fs, x = .ref a ∧ H1 a = some (.ins C dx fs) ∧ fs.lookup m = none ∧ t σ H1 fun vs H2 => sp (.ref a :: vs) H2 Q (E σ)
/-- o.m(..) -/
theorem meth {pl : Sem Bool} (he : PE X o ta) (c : Cls X.K C) (hm : Meth X.K C m f) (F : FnOk X.prog X.w X.K X.mg X.base CX k f fd ps sp) (hr : Room k X.A) (hb : Binds X.K fd ps []) (hx : ∀ σ, PassesAt CX X σ (E σ)) (ha : PA X (e :: es) t)
    (hst : starEach (e :: es) X.env = (false, eval e X.env) :: starEach es X.env) (hpl : (backTo pos (starEach es X.env)).any (·.1) = false)
    (ht : eval (.Call (.Attribute o m apos) (e :: es) [] pos) X.env = (do let ov ← eval o X.env; standAt apos.atName; let (f, first) ← holding [ov] (getMethod ov m pl); callWith pos f first (backTo pos (starEach (e :: es) X.env)) (backToKw pos (keywordEach [] X.env)))) :
    PE X (.Call (.Attribute o m apos) (e :: es) [] pos) (tMethS C m sp E ta t) := by
  refine ⟨fun pns st sl Hh Qq J hq => ?_⟩
  refine PySem.W.methodCall_KW (pl := pl) (thn (he.run pns st sl Hh _ J hq) fun u s1 z => ?_) ht
  obtain ⟨y, H1, J1, ry, a, dx, fs, rfl, ea, hl, q1⟩ := z
  obtain rfl : u = Value.ref a := ry
  refine getmeth_ok J1 ea c hm hl (PySem.W.callWith_K (first := [.ref a]) (h₀ := X.base) J.ok.mod.kin hm.kp (thn (ha.run pos pns s1 sl H1 _ J1 q1) fun us s2 z2 => ?_) hst hpl)
  obtain ⟨vs, H2, J2, r2, q2⟩ := z2
  exact ⟨J2.kIn, run_fnS (us := .ref a :: us) (vs := .ref a :: vs) F hr hb (hx sl) J2 (.cons rfl r2) q2⟩
/-- o.m() -/
theorem meth0 {pl : Sem Bool} (he : PE X o ta) (c : Cls X.K C) (hm : Meth X.K C m f) (F : FnOk X.prog X.w X.K X.mg X.base CX k f fd ps sp) (hr : Room k X.A) (hb : Binds X.K fd ps []) (hx : ∀ σ, PassesAt CX X σ (E σ))
    (ht : eval (.Call (.Attribute o m apos) [] [] pos) X.env = (do let ov ← eval o X.env; standAt apos.atName; let (f, first) ← holding [ov] (getMethod ov m pl); callWith pos f first (backTo pos (starEach [] X.env)) (backToKw pos (keywordEach [] X.env)))) :
    PE X (.Call (.Attribute o m apos) [] [] pos) (tMethS C m sp E ta tNil) := by
  refine ⟨fun pns st sl Hh Qq J hq => ?_⟩
  refine PySem.W.methodCall_KW (pl := pl) (thn (he.run pns st sl Hh _ J hq) fun u s1 z => ?_) ht
  obtain ⟨y, H1, J1, ry, a, dx, fs, rfl, ea, hl, q1⟩ := z
  obtain rfl : u = Value.ref a := ry
  exact getmeth_ok J1 ea c hm hl (PySem.W.callWith_K0 (first := [.ref a]) J1.kIn hm.kp (run_fnS (us := [.ref a]) (vs := [.ref a]) F hr hb (hx sl) J1 (.cons rfl .nil) q1))
def tMakeS (C : Addr) (sp : Sp) (E : L2.St → XK) (t : TA) : TE := fun σ H Q => t σ H fun vs H1 => ∀ x dx, H1 x = none → H1 dx = none → dx ≠ x → sp (.ref x :: vs) (upd (upd H1 dx (.own x)) x (.ins C dx [])) (fun v H2 => v = .non ∧ Q (.ref x) H2) (E σ)
theorem run_mk {pns : List (Addr × Obj)} {sl : L2.St} {Hh : Hp} {st : Shared} {Qq : VK} {us : List Value} {vs : List V} (M : Mk X.K C f) (F : FnOk X.prog X.w X.K X.mg X.base CX k f fd ps sp) (hr : Room (k + 1) X.A) (hb : Binds X.K fd ps [])
    (hx : PassesAt CX X sl (E sl)) (J : Inv X pns sl Hh st) (r : Vals vs us) (h : ∀ x dx, Hh x = none → Hh dx = none → dx ≠ x → sp (.ref x :: vs) (upd (upd Hh dx (.own x)) x (.ins C dx [])) (fun v H2 => v = .non ∧ Qq (.ref x) H2) (E sl)) :
    wpAny (model X.prog X.w) X.A (call (.ref C) us) (EP X pns sl Qq) X.xe st := by
  have hq := h (st.heap.objs.size + 1) st.heap.objs.size (J.hok.fresh (Nat.le_succ _)) (J.hok.fresh (Nat.le_refl _)) (Nat.ne_of_lt (Nat.lt_succ_self _))
  have J2 := Inv.made (C := C) J
  have r2 : Vals (V.ref (st.heap.objs.size + 1) :: vs) (Value.ref (st.heap.objs.size + 1) :: us) := .cons rfl r
  have hl : (Value.ref (st.heap.objs.size + 1) :: us ++ []).length = ps.length := by
    have z := r2.length
    rw [F.len _ _ _ _ hq] at z
    rw [List.append_nil]
    exact z.symm
  have b2 := hb _ (Value.ref (st.heap.objs.size + 1) :: us) J2.kIn hl
  rw [List.append_nil] at b2
  have run := F.run _ X.stack _ _ ⟨Value.ref (st.heap.objs.size + 1) :: us, []⟩ (Value.ref (st.heap.objs.size + 1) :: us) _ _ (E sl) (hr.make C us []) (J2.env0.make C us []) b2 r2 hq
  refine wpAny_call (make_map (f := f) J.kIn M.makes M.init (beq_iff_eq.mp M.fn) (codeAny_mono run fun res s' z => ?_))
  match res, z with
  | .error er, z => exact hx pns _ _ er s' J2 z
  | .ok (.ret u), z =>
    obtain ⟨v, H', J3, rv, ev, q3⟩ := J2.after z
    subst ev
    exact ⟨rv, ⟨V.ref (st.heap.objs.size + 1), H', J3, rfl, q3⟩⟩
  | .ok .next, z => exact z.elim
  | .ok .brk, z => exact z.elim
  | .ok .cont, z => exact z.elim
/-- C(..), an object -/
theorem make (M : Mk X.K C f) (F : FnOk X.prog X.w X.K X.mg X.base CX k f fd ps sp) (hr : Room (k + 1) X.A) (hg : Gl X x) (hm : X.mg x = some (.ref C)) (hb : Binds X.K fd ps []) (hx : ∀ σ, PassesAt CX X σ (E σ)) (ha : PA X (e :: es) t) (hdb : (x == ("__debug__" : Str)) = false)
    (he : starEach (e :: es) X.env = (false, eval e X.env) :: starEach es X.env) (hpl : (backTo pos (starEach es X.env)).any (·.1) = false) : PE X (.Call (.Name x p) (e :: es) [] pos) (tMakeS C sp E t) :=
  ⟨fun pns st sl Hh Qq J hq => wpAny_Call_Name_kw (ld_glob J hg hm (PySem.W.callWith_K (h₀ := X.base) J.ok.mod.kin M.kp (thn (ha.run pos pns st sl Hh _ J hq) fun us s1 z => by
    obtain ⟨vs, H1, J1, r1, q1⟩ := z
    exact ⟨J1.kIn, run_mk M F hr hb (hx sl) J1 r1 q1⟩) he hpl) hdb)⟩
theorem make0 (M : Mk X.K C f) (F : FnOk X.prog X.w X.K X.mg X.base CX k f fd ps sp) (hr : Room (k + 1) X.A) (hg : Gl X x) (hm : X.mg x = some (.ref C)) (hb : Binds X.K fd ps []) (hx : ∀ σ, PassesAt CX X σ (E σ)) (hdb : (x == ("__debug__" : Str)) = false) :
    PE X (.Call (.Name x p) [] [] pos) (tMakeS C sp E tNil) :=
  ⟨fun pns st sl Hh Qq J hq => wpAny_Call_Name_kw (ld_glob J hg hm (PySem.W.callWith_K0 J.kIn M.kp (run_mk (us := []) M F hr hb (hx sl) J .nil hq)) hdb)⟩
end
/-- nothing is let out -/
theorem passNone {P : Program} {w : World} {X : Cx} (hP : X.prog = P) (hw : X.w = w) (σ : L2.St) : PassesAt (L2N.CX P w) X σ (fun _ _ _ => False) := fun _ _ _ _ _ _ c => by
  obtain ⟨_, _, _, _, _, _, _, _, _, _, _, _, q⟩ := c
  exact q.elim
theorem takesNone {X : Cx} : L2N.Takes X (fun _ _ _ _ => False) := fun _ _ c => by
  obtain ⟨_, _, _, _, _, _, _, _, _, _, _, _, _, _, _, _, q⟩ := c
  exact q.elim
/-! ### try, with several clauses, each with a name or without -/
/-- behind a suite its name is gone -/
def goneD (i : Option Nat) (D : Ends) : Ends := match i with
  | none => D
  | some j => { nx := fun σ' H' => D.nx (σ'.set j none) H', rt := D.rt, bk := fun σ' H' => D.bk (σ'.set j none) H', ct := fun σ' H' => D.ct (σ'.set j none) H' }
def namedS (i : Option Nat) (a : Addr) (σ : L2.St) : L2.St := match i with
  | none => σ
  | some j => σ.set j (some (.ref a))
abbrev Suite := Addr → Value → Option Addr → TS
def wAll (K : PySem.W.Frag) (W0 : WX) (D : Ends) : List (Value × Option Nat × Suite) → WX
  | [] => W0
  | (c, i, ts) :: r => fun cls d σ H => ∃ y, PySem.W.exmOne K cls c = some y ∧ (y = true → ∀ a, H a = none → ts a cls d (goneD i D) (namedS i a σ) H) ∧ (y = false → wAll K W0 D r cls d σ H)
/-- the slot of a clause's name -/
def NameAt (X : Cx) : Option Str → Option Nat → Prop
  | none, none => True
  | some n, some i => X.N[i]? = some n ∧ X.env.kindOf n = some .local
  | _, _ => False
inductive Hs (X : Cx) : List ExceptHandler → List (Value × Option Nat × Suite) → Prop
  | nil : Hs X [] []
  | cons {x : Str} {c : Value} {nm : Option Str} {i : Option Nat} {ts : Suite} {b0 : Stmt} {bs : List Stmt} {np hp : Pos} {r : List ExceptHandler} {l : List (Value × Option Nat × Suite)} (hc : Names X x c) (hn : NameAt X nm i)
      (su : ∀ (a : Addr) (oe : Obj) (cls : Value) (d : Option Addr) (pn : List (Addr × Obj)), L2N.Zn cls d oe → (∃ vs, oe.data = .fields vs) → PSs (X.suite a ((a, oe) :: pn)) (b0 :: bs) (ts a cls d)) (t : Hs X r l) :
      Hs X (.ExceptHandler (some (.Name x np)) nm (b0 :: bs) hp :: r) ((c, i, ts) :: l)
section
variable {X : Cx} {body : List Stmt} {h0 : ExceptHandler} {hds : List ExceptHandler} {l : List (Value × Option Nat × Suite)} {pos : Pos} {tb : WX → TS} {W0 : WX}
theorem tryAll (hs : X.stack = X.env :: X.outer) (hf : X.env.frame = some X.env.locals) (hN : X.N.Nodup) (tk : L2N.Takes X W0)
    (hb : ∀ (W : WX) (pn : List (Addr × Obj)) (xe : Value → Shared → Prop), L2N.Takes (X.tr pn xe) W → PassesOwn (model X.prog X.w) X.A X.env xe → PSs (X.tr pn xe) body (tb W))
    (hh : Hs X (h0 :: hds) l) : PS X (.Try body (h0 :: hds) [] [] pos) (fun D σ H => tb (wAll X.K W0 D l) D σ H) := by
  refine ⟨fun pns st sl Hh D J hq => wpAny_Try_except ?_⟩
  have okX := J.ok
  have frm : X.A.frames = some (X.env :: X.outer) := by rw [okX.frames, hs]
  refine wpAny_mono ((hb (wAll X.K W0 D l) (X.pn ++ pns) (fun e s₁ => wpAny (model X.prog X.w) X.A (noteFrame e X.env) (fun _ s₂ => wpAny (model X.prog X.w) X.A (setFlight e none)
    (fun _ s₃ => wpAny (model X.prog X.w) X.A (handleBy e X.env (h0 :: hds)) (SP X pns D) X.xe s₃) X.xe s₂) X.xe s₁) (fun u s2 xx => ?_) PassesOwn.looking).run [] st sl Hh D (J.toTry _) hq) (fun fl s2 z => ?_) (fun _ _ z => z)
  · obtain ⟨a, B, sI, pns', sl', H', cls, d, rfl, K1, gr, up, sky, na, os, ag, w⟩ := xx
    have K0 : Inv X pns sl' H' sI := K1.ofTry okX
    rw [show X.stack = X.env :: X.outer from hs] at sky
    show wpAny (model X.prog X.w) X.A (noteFrame (.ref a) X.env) _ _ _
    refine L2N.Sky.land L2N.Zn.steady frm hf sky fun hA flA upA => ?_
    have KA : Inv X pns sl' H' { s2 with heap := hA } := K0.landed gr flA.1 (up.trans upA) os ag
    obtain ⟨oA, vA, gA, zA, dA⟩ := flA.there
    have off : a ∉ frs (X.env :: X.outer) := fun hm => by
      obtain ⟨_, o', e', hnf⟩ := flA.2.2.1.mem hm
      rw [gA] at e'
      cases e'
      exact hnf _ dA
    have nL : a ≠ X.env.locals := fun z => off (List.mem_filterMap.mpr ⟨X.env, List.mem_cons_self, by rw [hf, z]⟩)
    have nF : a ∉ X.fs := fun hm => by
      obtain ⟨e, he, q⟩ := List.mem_filterMap.mp hm
      exact off (List.mem_filterMap.mpr ⟨e, List.mem_cons_of_mem _ he, q⟩)
    have SA := KA.suite gA dA na nL nF
    have go : ∀ {hds' : List ExceptHandler} {l' : List (Value × Option Nat × Suite)}, Hs X hds' l' → wAll X.K W0 D l' cls d sl' H' → wpAny (model X.prog X.w) X.A (handleBy (.ref a) X.env hds') (SP X pns D) X.xe { s2 with heap := hA } := by
      intro hds' l' hk
      induction hk with
      | nil =>
        intro w
        refine wpAny_handleBy_nil ?_
        obtain ⟨_, _, _, oe, vs, T, oT, ts', he, hz, hd, h1, _⟩ := id flA
        unfold PySem.passOn
        refine wpAny_bind (wpAny_field he hd h1 ?_)
        rw [if_neg (by simp : ¬ ((Value.ref T == Value.none) = true))]
        have fin : wpAny (model X.prog X.w) X.A (setFlight (.ref a) X.env.frame) (fun _ s4 => wpAny (model X.prog X.w) X.A (throw (.ref a) : Sem Flow) (SP X pns D) X.xe s4) X.xe { s2 with heap := hA } := by
          rw [hf]
          exact HandSPX.setFlight_upZ flA fun h4 hh4 up4 => wpAny_throw (tk _ _ ⟨a, B, sI, pns, sl', H', cls, d, rfl, K0, gr, (up.trans upA).trans up4, .inr (.inr (by rw [hs]; exact hh4)), na, os, ag, w⟩)
        first
          | exact wpAny_bind (wpAny_pure (wpAny_bind fin))
          | exact wpAny_bind fin
      | @cons x c nm i ts b0 bs np hp r l2 hc hn su t ih =>
        intro w
        obtain ⟨y, hy, yes, no⟩ := w
        refine wpAny_handleBy_cons (codeAny_handlers_test ?_) (fun q => by cases q)
        have look : PySem.W.Looks (model X.prog X.w) hA (typeOf (.ref a)) cls := fun A Q E s k q => wpAny_typeOf_ref (k _ _ gA) (by rw [zA.1]; exact q)
        have LM := PySem.W.exm_one (M := model X.prog X.w) (KA.kIn) look hy
        have test : ∀ {Q : Value → Shared → Prop} {E : Value → Shared → Prop}, Q c { s2 with heap := hA } → wpAny (model X.prog X.w) (X.A.mark (some (.ref a))) (eval (.Name x np) X.env) Q E { s2 with heap := hA } := fun {Q E} q => by
          rcases hc with ⟨hg, hdbg, hm | ⟨hm, hv, hnn⟩⟩
          · exact ld_glob (X := X.suite a ((a, oA) :: (X.pn ++ pns))) SA hg hm q hdbg
          · exact ld_blt (X := X.suite a ((a, oA) :: (X.pn ++ pns))) SA hg hm hv q hnn hdbg
        refine test (LM.here ?_)
        cases y with
        | false => exact ih (no rfl)
        | true =>
          match nm, i, hn with
          | none, none, _ =>
            refine codeAny_handlers_suite (HandSPX.lands_againZ flA fun h4 fl4 up4 => ?_)
            have K4 : Inv X pns sl' H' { s2 with heap := h4 } := K0.landed gr fl4.1 ((up.trans upA).trans up4) os ag
            obtain ⟨o4, v4, g4, z4, d4⟩ := fl4.there
            refine wpAny_mono ((su a o4 cls d (X.pn ++ pns) z4 ⟨_, d4⟩).run [] _ _ H' _ (K4.suite g4 d4 na nL nF) (yes rfl a na)) (fun fl s6 z => ?_) (fun _ _ z => z.elim)
            match fl, z with
            | .next, ⟨_, _, S6, q6⟩ => exact ⟨_, _, S6.unsuite okX, q6⟩
            | .brk, ⟨_, _, S6, q6⟩ => exact ⟨_, _, S6.unsuite okX, q6⟩
            | .cont, ⟨_, _, S6, q6⟩ => exact ⟨_, _, S6.unsuite okX, q6⟩
            | .ret _, ⟨_, _, _, S6, r6, q6⟩ => exact ⟨_, _, _, S6.unsuite okX, r6, q6⟩
          | some n, some j, ⟨hi, hln⟩ =>
            refine codeAny_handlers_suite_as (HandSPX.lands_againZ flA fun h4 fl4 up4 => ?_)
            have K4 : Inv X pns sl' H' { s2 with heap := h4 } := K0.landed gr fl4.1 ((up.trans upA).trans up4) os ag
            obtain ⟨o4, v4, g4, z4, d4⟩ := fl4.there
            refine store_ok (X := X.suite a ((a, o4) :: (X.pn ++ pns))) (v := .ref a) (K4.suite g4 d4 na nL nF) hN hi (.inl hln) rfl (fun s5 S5 => ?_) (.inr hln)
            refine wpAny_mono ((su a o4 cls d (X.pn ++ pns) z4 ⟨_, d4⟩).run [] s5 _ H' _ S5 (yes rfl a na)) (fun fl s6 z => ?_) (fun _ _ z => z.elim)
            have fin : ∀ {sl6 : L2.St} {H6 : Hp} {Q : Shared → Prop}, Inv (X.suite a ((a, o4) :: (X.pn ++ pns))) [] sl6 H6 s6 → (∀ s7, Inv X pns (sl6.set j none) H6 s7 → Q s7) →
                wpAny (model X.prog X.w) X.A (do bindName X.env n .none; unbindBehindTheSuite X.env n hp) (fun _ s7 => Q s7) X.xe s6 := fun {sl6 H6 Q} S6 hq => gone_ok (S6.unsuite okX) hN hi hln hq
            match fl, z with
            | .next, ⟨_, _, S6, q6⟩ => exact fin S6 fun s7 J7 => ⟨_, _, J7, q6⟩
            | .brk, ⟨_, _, S6, q6⟩ => exact fin S6 fun s7 J7 => ⟨_, _, J7, q6⟩
            | .cont, ⟨_, _, S6, q6⟩ => exact fin S6 fun s7 J7 => ⟨_, _, J7, q6⟩
            | .ret _, ⟨_, _, _, S6, r6, q6⟩ => exact fin S6 fun s7 J7 => ⟨_, _, _, J7, r6, q6⟩
          | none, some _, h => exact h.elim
          | some _, none, h => exact h.elim
    exact go hh w
  · match fl, z with
    | .next, ⟨sl', H', J', q⟩ => exact wpAny_execs_nil ⟨sl', H', J'.ofTry okX, q⟩
    | .brk, ⟨sl', H', J', q⟩ => exact ⟨sl', H', J'.ofTry okX, q⟩
    | .cont, ⟨sl', H', J', q⟩ => exact ⟨sl', H', J'.ofTry okX, q⟩
    | .ret _, ⟨v, sl', H', J', r, q⟩ => exact ⟨v, sl', H', J'.ofTry okX, r, q⟩
end
/-! ### isinstance(e, c), e caught, with a dict or without -/
def rIs (K : PySem.W.Frag) (D a : Addr) (d : Option Addr) : List V → Hp → VK → Prop := fun xs H Q => ∃ (c : V) (cv : Value) (b : Bool), xs = [.ref a, c] ∧ (∀ u, RelV c u → u = cv) ∧ PySem.W.kitOne K (.ref D) cv = some b ∧ (∀ dx, d = some dx → H dx ≠ none) ∧ Q (.bl b) H
theorem isE {X : Cx} {a D : Addr} {d : Option Addr} {oe : Obj} {pn : List (Addr × Obj)} (C : ExcC X.K D) (hz : L2N.Zn (.ref D) d oe) (hf : ∃ vs, oe.data = .fields vs) : CallR (X.suite a ((a, oe) :: pn)) (.builtin "isinstance") (rIs X.K D a d) := by
  intro pns st sl Hh xs us Qq J r h
  obtain ⟨c, cv, b, rfl, hcv, e, hd, q⟩ := h
  cases r with
  | cons rx rr => cases rr with
    | cons rt rr =>
      cases rr
      cases rx
      obtain rfl := hcv _ rt
      obtain ⟨hget, _⟩ := J.pin (a, oe) (List.mem_append_left _ List.mem_cons_self)
      obtain ⟨vs, hv⟩ := hf
      have hcl : (PySem.W.clsIn X.K D).isSome = true := by
        obtain ⟨cd, hc, _⟩ := PySem.W.any_some C.hd
        rw [hc]
        rfl
      have key : ∃ od, PySem.W.InstAt st.heap a oe D od := by
        cases d with
        | none => exact ⟨none, hget, hz.1, by unfold PySem.W.notCls; rw [hv], by rw [hz.2.1]; trivial⟩
        | some dx =>
          cases ho : Hh dx with
          | none => exact absurd ho (hd dx rfl)
          | some o =>
            obtain ⟨u, hu⟩ := objOk_get (J.hok dx o ho)
            exact ⟨some u, hget, hz.1, by unfold PySem.W.notCls; rw [hv], by rw [hz.2.1]; exact hu⟩
      obtain ⟨od, I0⟩ := key
      exact PySem.W.kia_one (PySem.W.kitx_exc hcl C.hg C.hk C.hs C.ha C.hn C.ht C.hm) J.kIn I0 e (fun z => nomatch z) fun tk => ⟨.bl b, Hh, J.kept (t' := tk) fun _ _ z => z, rfl, q⟩
end HtX

set_option Elab.async false
set_option linter.all false
set_option maxRecDepth 100000
set_option maxHeartbeats 2000000
/-! an own exception with one field, "at" (after skel 42 of the guide) -/
namespace HtY
open PySem PySem.W PySem.Calls PyProof.Rows PySem.HandSPX
def aAt (r1 r2 : Pos) : Arguments := { posonlyargs := [], args := [{ arg := "self", annotation := none, pos := r1 }, { arg := "at", annotation := none, pos := r2 }], vararg := none, kwonlyargs := [], kw_defaults := [], kwarg := none, defaults := [] }
def bAt (r1 r2 r3 r4 : Pos) : List Stmt := [.Assign [.Attribute (.Name "self" r1) "at" r2] (.Name "at" r3) r4]
def sAt : Scope := { kind := .function, names := [(PySem.Str.ofString "self", .local), (PySem.Str.ofString "at", .local)], isGenerator := false, isCoroutine := false, more := [] }
/-- the text of a class c at C, its __init__ at g -/
structure AtTxt (K : Frag) (qn : Str) (C g : Addr) : Prop where
  cls : ∃ nm q N bs bm sn sub ab col dd k0 k1 k2 k3 k5, K.lookup C = some (excClassObj nm q C N bs bm true sn sub ab col dd k0 k1 k2 k3 k5 "ValueError.__new__") ∧ refsVE bm = true
  put : findIn K (.ref C) "__setattr__" = some (some (.builtin "object.__setattr__"))
  tell : findIn K (.ref C) "__getattribute__" = some (some (.builtin "BaseException.__getattribute__"))
  tell2 : findIn K (.ref C) "__getattr__" = some none
  bare : findIn K (.ref C) "at" = some none
  ini : findIn K (.ref C) "__init__" = some (some (.ref g))
  tIni : typeIn K (.ref g) = some (.type "function")
  kept : keepIn K (.ref C) = true
  exc : subIn K (.ref C) (.type "BaseException") = some true
  typ : typeIn K (.ref C) = some (.type "type")
  dct : hasDictIn K C = true
  def_ : ∃ (oc : Value) (od : Option Addr) (doc pm : Value) (an : Option Addr) (cdv ct : Value) (osl : Array (Option Value)) (r1 r2 q1 q2 q3 q4 : Pos),
    K.lookup g = some ⟨oc, od, .func (fnOf "__init__" qn (aAt r1 r2) (bAt q1 q2 q3 q4) sAt .none .none doc pm an cdv ct), osl⟩ ∧ codeIn K cdv qn = true
theorem at_mk {K : Frag} {C g N : Addr} {nm q qn : Str} {bs bm : List Value} {sn : List Str} {sub : List Value} {ab : Bool} {col : Option Bool} {dd od an : Option Addr} {k0 k1 k2 k3 k5 : Option Value} {oc doc pm cdv ct : Value} {osl : Array (Option Value)} (r1 r2 q1 q2 q3 q4 : Pos)
    (d1 : K.lookup C = some (excClassObj nm q C N bs bm true sn sub ab col dd k0 k1 k2 k3 k5 "ValueError.__new__")) (d2 : refsVE bm = true) (d3 : findIn K (.ref C) "__setattr__" = some (some (.builtin "object.__setattr__"))) (d4 : findIn K (.ref C) "__getattribute__" = some (some (.builtin "BaseException.__getattribute__"))) (d5 : findIn K (.ref C) "__getattr__" = some none) (d6 : findIn K (.ref C) "at" = some none)
    (d7 : findIn K (.ref C) "__init__" = some (some (.ref g))) (d8 : typeIn K (.ref g) = some (.type "function")) (d9 : keepIn K (.ref C) = true) (e1 : subIn K (.ref C) (.type "BaseException") = some true) (e2 : typeIn K (.ref C) = some (.type "type")) (e3 : hasDictIn K C = true)
    (e4 : K.lookup g = some ⟨oc, od, .func (fnOf "__init__" qn (aAt r1 r2) (bAt q1 q2 q3 q4) sAt .none .none doc pm an cdv ct), osl⟩) (e5 : codeIn K cdv qn = true) : ∃ qn g, AtTxt K qn C g :=
  ⟨qn, g, ⟨nm, q, N, bs, bm, sn, sub, ab, col, dd, k0, k1, k2, k3, k5, d1, d2⟩, d3, d4, d5, d6, d7, d8, d9, e1, e2, e3, ⟨oc, od, doc, pm, an, cdv, ct, osl, r1, r2, q1, q2, q3, q4, e4, e5⟩⟩
theorem one_fits (v : Value) : [v].length ≤ sizeLine := by
  rw [sizeLine_eq]
  exact (by decide : 1 ≤ 16777216)
theorem ld_loc {M : Model} {s : Shared} {nm : Str} {sc : Scope} {L a : Addr} {cd : Value} {m : Str → Option Value} {x : Str} {pos : Pos} {v : Value} {Q : Value → Shared → Prop} {A : Around} {E : Value → Shared → Prop} (hn : s.heap.Ns L m) (hv : m x = some v) (h : Q v s)
    (hk : sc.kind = .function := by rfl) (hl : (envOfC nm sc L a cd).kindOf x = some .local := by rfl) (hd : (x == ("__debug__" : Str)) = false := by decide) : wpAny M A (eval (.Name x pos) (envOfC nm sc L a cd)) Q E s :=
  wpAny_Name (wpAny_loadName_local hk hl hn hv h) hd
/-- the heap behind __init__ -/
structure Inited (h h' : Heap) (x C dx t1 : Addr) (v : Value) : Prop where
  stay : ∀ b o, b ≠ x → h.get? b = some o → h'.get? b = some o
  self : h'.get? x = some { cls := .ref C, dict := some dx, data := .fields #[.ref t1, .none, .none, .none, .bool false, .none] }
  late : h.objs.size ≤ dx
  off : dx ≠ x
  ns : h'.Ns1 dx (fun y => if y = "at" then some v else none)
/-- the heap behind the making -/
structure Born (h h' : Heap) (e C d : Addr) (v : Value) : Prop where
  stay : ∀ b o, h.get? b = some o → h'.get? b = some o
  late : h.objs.size ≤ e
  self : ∃ t1 : Addr, h'.get? e = some { cls := .ref C, dict := some d, data := .fields #[.ref t1, .none, .none, .none, .bool false, .none] }
  dlate : h.objs.size ≤ d
  off : d ≠ e
  ns : h'.Ns1 d (fun y => if y = "at" then some v else none)
section
variable {prog : Program} {w : World} {A : Around} {E : Value → Shared → Prop} {R : Result → Shared → Prop} {s : Shared} {K : Frag} {qn : Str} {C g : Addr}
theorem run_init (T : AtTxt K qn C g) {x t0 : Addr} {v : Value} (X : K.In s.heap) (hlim : s.heap.NoLimit) (hx : s.heap.get? x = some (excO C t0)) (hroom : A.depth < recursionLimit)
    (hq : ∀ h' tk dx, Inited s.heap h' x C dx t0 v → R (.ok (.ret .none)) { s with heap := h', toks := tk }) : codeAny (model prog w) A (.call (.ref g) ⟨[.ref x, v], []⟩) R s := by
  obtain ⟨oc, od, doc, pm, an, cdv, ct, osl, r1, r2, q1, q2, q3, q4, ho, hcd⟩ := T.def_
  obtain ⟨nm, q, N, bs, bm, sn, sub, ab, col, dd, k0, k1, k2, k3, k5, hC, hbm⟩ := T.cls
  have hcl : clsIn K C = some { name := nm, bases := bs, mro := .ref C :: bm, ns := N, qualname := q, hasDict := true, slotNames := sn, subclasses := sub, abstract := ab, collection := col, hasDel := false } := by unfold clsIn; rw [hC] <;> rfl
  refine Att.call_fn (binds := [("self", .ref x), ("at", v)]) X hlim ho hcd hroom (BindsTo.of_eq (by first | rfl | with_unfolding_all rfl)) (by first | rfl | decide | with_unfolding_all rfl) (fun s1 J => ?_) rfl rfl rfl
  obtain ⟨h1, tk1, rfl⟩ := J.toInCall.same
  have old : ∀ b o, s.heap.get? b = some o → h1.get? b = some o := J.toInCall.keep
  have hn := J.toInCall.ns
  have X1 : K.In h1 := X.keeps old
  have hx1 := old _ _ hx
  show wpAny _ _ (execs _ _) _ _ _
  refine wpAny_execs_cons (plainObj_wpAny_Assign_Attribute ?_)
  refine ld_loc (v := v) hn (by first | rfl | with_unfolding_all rfl | kernel_rfl) (ld_loc (v := .ref x) hn (by first | rfl | with_unfolding_all rfl | kernel_rfl) ?_)
  refine set_plain X1 (ox := excO C t0) (od := none) ⟨hx1, rfl, rfl, trivial⟩ T.put ?_
  refine exc_osa X1 hx1 hcl (show refsVE (.ref C :: bm) = true from hbm) rfl T.bare (fun h3 tk3 dx y1 y2 y3 y4 y5 => ?_)
  show wpAny _ _ (execs _ _) _ _ _
  have z : s.heap.objs.size < h1.objs.size := hn.lt
  exact wpAny_execs_nil (hq h3 tk3 dx ⟨fun b o hb e => y1 b o hb (old b o e), y4, Nat.le_of_lt (Nat.lt_of_lt_of_le z y2), y3, y5⟩)
theorem run_make (T : AtTxt K qn C g) {v : Value} (X : K.In s.heap) (hlim : s.heap.NoLimit) (hroom : A.depth + 1 < recursionLimit)
    (hq : ∀ h' tk e d, Born s.heap h' e C d v → R (.ok (.ret (.ref e))) { s with heap := h', toks := tk }) : codeAny (model prog w) A (.call (.ref C) ⟨[v], []⟩) R s := by
  obtain ⟨nm, q, N, bs, bm, sn, sub, ab, col, dd, k0, k1, k2, k3, k5, hC, hbm⟩ := T.cls
  obtain ⟨hp, gs, dr, tk, os⟩ := s
  have two : ∀ b o, hp.get? b = some o → ((hp.push (kdv_tup [v])).push (excO C hp.objs.size)).get? b = some o := fun b o e => Heap.get?_push_of_some _ (Heap.get?_push_of_some _ e)
  have top : ((hp.push (kdv_tup [v])).push (excO C hp.objs.size)).get? (hp.objs.size + 1) = some (excO C hp.objs.size) := by heap_get
  refine call_own F.excBase_ValueError (fun X => refsVE_contains X bm hbm) (X _ _ hC) (looks_findIn X T.ini) (fun self => bind_fn X self T.tIni) (one_fits v) ?_
  refine run_init (s := ⟨(hp.push (kdv_tup [v])).push (excO C hp.objs.size), gs, dr, tk, os⟩) T (X.keeps two) (hlim.keeps two) top ?_ fun h' tk' dx J => ?_
  · show A.depth + 1 < recursionLimit
    exact hroom
  · obtain ⟨y1, y2, y3, y4, y5⟩ := J
    have old : ∀ b o, hp.get? b = some o → h'.get? b = some o := fun b o e => y1 b o (Nat.ne_of_lt (Nat.lt_succ_of_lt (Heap.lt_size e))) (two b o e)
    have z : hp.objs.size + 1 + 1 ≤ dx := by
      first
        | (simpa only [Heap.size_push] using y3)
        | exact y3
    exact ⟨rfl, hq h' tk' (hp.objs.size + 1) dx ⟨old, Nat.le_succ _, ⟨_, y2⟩, Nat.le_trans (Nat.le_add_right hp.objs.size 2) z, y4, y5⟩⟩
end
open PySem.Spec L2
theorem rel_at {v : V} {u : Value} (r : RelV v u) (f : Str) : RelO (List.lookup f [(("at" : Str), v)]) (if f = "at" then some u else none) := by
  by_cases hw : f = "at"
  · subst hw
    rw [if_pos rfl, show List.lookup ("at" : Str) [(("at" : Str), v)] = some v by simp [List.lookup]]
    exact r
  · rw [if_neg hw]
    have qw : (f == ("at" : Str)) = false := by simpa using hw
    rw [show List.lookup f [(("at" : Str), v)] = none by simp [List.lookup, qw]]
    trivial
section
variable {X : Cx} {c qn : Str} {C g : Addr}
/-- C(e), to be raised -/
def tMkAt (C : Addr) (ta : TA) : L2.St → Hp → XK → Prop := fun σ H Q => ta σ H fun vs H1 => ∃ v, vs = [v] ∧ ∀ d, H1 d = none → Q (.ref C) (some d) (upd H1 d (.xd [(("at" : Str), v)]))
theorem mkAt {a : Expr} {ta : TA} {p pos : Pos} {k : Nat} (T : AtTxt X.K qn C g) (hm : X.mg c = some (.ref C)) (hr : Room k X.A) (ha : PA X [a] ta) (hg : Gl X c) (hdb : (c == ("__debug__" : Str)) = false)
    (he : starEach (a :: []) X.env = (false, eval a X.env) :: starEach [] X.env) (hpl : (backTo pos (starEach [] X.env)).any (·.1) = false := by rfl) : L2N.PMk X (.Call (.Name c p) [a] [] pos) (tMkAt C ta) := by
  intro pns st sl Hh Qq J hq
  refine wpAny_Call_Name_kw (ld_glob J hg hm ?_ hdb)
  refine PySem.W.callWith_K (h₀ := X.base) J.ok.mod.kin T.kept (thn (ha.run pos pns st sl Hh _ J hq) fun us s1 hh => ?_) he hpl
  obtain ⟨vs, H1, J1, r1, v, ev, q1⟩ := hh
  subst ev
  refine ⟨J1.kIn, ?_⟩
  cases r1 with
  | cons rv rn =>
    rename_i u us'
    cases rn
    show wpAny _ _ (call (.ref C) [u]) _ _ _
    have hlim := J1.nolimit
    obtain ⟨hp, gs, dr, tk, os⟩ := s1
    refine wpAny_call (run_make T J1.kIn hlim (by have := hr.dp; omega) fun h' tk' e d M => ?_)
    show L2N.MkP X pns sl Qq (.ref e) ⟨h', gs, dr, tk', os⟩
    obtain ⟨t1, ob⟩ := M.self
    obtain ⟨G, g1, g2⟩ := restrict h' fun b => decide (b ≠ e)
    have gk : ∀ b, b ≠ e → G.get? b = h'.get? b := fun b hb => g1 b (decide_eq_true hb)
    have ge : G.get? e = none := g2 e (by simp)
    have old : ∀ b o, hp.get? b = some o → G.get? b = some o := fun b o q => (gk b (Nat.ne_of_lt (Nat.lt_of_lt_of_le (Heap.lt_size q) M.late))).trans (M.stay b o q)
    have od : ObjOk X.prog X.w (upd H1 d (.xd [(("at" : Str), v)])) G d (.xd [(("at" : Str), v)]) := ⟨_, M.ns.at (fun o q => (gk d M.off).trans q), fun f => rel_at rv f⟩
    have J2 : Inv X pns sl (upd H1 d (.xd [(("at" : Str), v)])) ⟨G, gs, dr, tk', os⟩ := J1.laid (t' := tk') old M.dlate od
    refine ⟨e, _, _, ⟨G, gs, dr, tk', os⟩, _, .ref C, some d, rfl, J2, fun b o q => ?_, ge, ob, ⟨rfl, rfl, fun vs e => by cases e; rfl⟩, rfl, rfl, ?_, rfl, J1.bare, raises_own T.exc T.typ, q1 d (J1.hok.fresh M.dlate)⟩
    · by_cases hb : b = e
      · have q' : G.get? b = some o := q
        rw [hb, ge] at q'
        cases q'
      · exact (gk b hb).symm.trans q
    · rw [upd_ne (Ne.symm M.off)]
      exact J1.hok.fresh M.late
/-- e.at, e what the suite holds -/
def tAt (C : Addr) (a : Addr) (cls : Value) (d : Option Addr) (te : TE) : TE := fun σ H Q => te σ H fun x H1 => x = .ref a ∧ cls = .ref C ∧ ∃ (dd : Addr) (v : V), d = some dd ∧ H1 dd = some (.xd [(("at" : Str), v)]) ∧ Q v H1
theorem peAt {a : Addr} {oe : Obj} {cls : Value} {d : Option Addr} {pn : List (Addr × Obj)} {e : Expr} {te : TE} {pos : Pos} (T : AtTxt X.K qn C g) (hz : L2N.Zn cls d oe) (hf : ∃ vs, oe.data = .fields vs) (he : PE (X.suite a ((a, oe) :: pn)) e te)
    (hb : attributeBase e "at" X.env (eval e X.env) = eval e X.env := by rfl) : PE (X.suite a ((a, oe) :: pn)) (.Attribute e "at" pos) (tAt C a cls d te) := by
  refine ⟨fun pns st sl Hh Qq J hq => ?_⟩
  refine attr_of hb (thn (he.run pns st sl Hh _ J hq) fun u s1 hh => ?_)
  obtain ⟨x, H1, J1, rx, ex, ec, dd, v, ed, ea, q⟩ := hh
  subst ex
  obtain rfl : u = Value.ref a := rx
  subst ec
  subst ed
  obtain ⟨ha, _⟩ := J1.pin (a, oe) (List.mem_append_left _ List.mem_cons_self)
  obtain ⟨vs, hd⟩ := hf
  obtain ⟨mA, hns, hr⟩ : ObjOk X.prog X.w H1 s1.heap dd (.xd [(("at" : Str), v)]) := J1.hok dd _ ea
  obtain ⟨od, ho, hl⟩ := lookIn_ns hns
  obtain ⟨u2, hu, ru⟩ := RelO.some_of (v := v) (o := mA "at") (by rw [← (show List.lookup ("at" : Str) [(("at" : Str), v)] = some v by simp [List.lookup])]; exact hr "at")
  have Ji : PySem.W.InstAt s1.heap a oe C (some od) := ⟨ha, hz.1, by unfold PySem.W.notCls; rw [hd] <;> rfl, by rw [hz.2.1]; exact ho⟩
  exact HandSPX.exc_get J1.kIn Ji T.tell T.tell2 T.exc (PySem.W.findObj_own T.dct T.bare rfl (by rw [hl, hu])) (handed_of ru) ⟨v, H1, J1.tok _, ru, q⟩
end
end HtY

set_option Elab.async false
set_option linter.all false
set_option maxRecDepth 100000
/-! ### from the Python text to the core language -/
namespace Ht
open PySem

def slotOf : List Str → Str → Option Nat
  | [], _ => none
  | y :: r, x => if x = y then some 0 else (slotOf r x).map (· + 1)
def visB (sc : Scope) (x : Str) : Bool := match sc.names.lookup x with
  | some .local => true
  | some .cell => true
  | some .free => true
  | _ => false
def locB (sc : Scope) (x : Str) : Bool := match sc.names.lookup x with
  | some .local => true
  | some .cell => true
  | _ => false
def glbB (sc : Scope) (x : Str) : Bool := match sc.names.lookup x with
  | some .globalImplicit => true
  | _ => false
def okName (x : Str) : Bool := !(x == ("__debug__" : Str)) && !(x == ("__classdict__" : Str)) && !(x == ("__name__" : Str))
/-- a local name's slot -/
def locOf (sc : Scope) (N : List Str) (x : Str) : Option Nat := if visB sc x && okName x then slotOf N x else none
def tyOf (x : Str) : Option Ty :=
  if x = "int" then some .int else if x = "bool" then some .bool else if x = "list" then some .list else if x = "tuple" then some .tuple else if x = "str" then some .str else none
/-- the slots of mu that a written name means -/
def muOf (sc : Scope) (N : List Str) (mu : List Nat) : Expr → List Nat
  | .Name x _ => match locOf sc N x with
    | some i => if mu.contains i then [i] else []
    | none => []
  | _ => []
def muAll (sc : Scope) (N : List Str) (mu : List Nat) : List Expr → List Nat
  | [] => []
  | e :: es => muOf sc N mu e ++ muAll sc N mu es
def grd (is : List Nat) (c : CE) : CE := match is with
  | [] => c
  | is => .guard is c
mutual
/-- the slots that are read -/
def CE.uses : CE → List Nat
  | .slot i => [i]
  | .bin _ a b | .band a b | .bor a b | .cmp _ a b | .max2 a b | .min2 a b | .idx a b | .range a b => a.uses ++ b.uses
  | .neg a | .nt a | .len a | .abs a | .maxl a | .any a | .all a | .list a | .sorted a | .strI a | .isin a _ => a.uses
  | .chain _ _ a b c => a.uses ++ b.uses ++ c.uses
  | .ite t b c => t.uses ++ b.uses ++ c.uses
  | .call _ as => CE.usesL as
  | .slc a lo hi => a.uses ++ CE.usesO lo ++ CE.usesO hi
  | .lst es | .tup es => CE.usesL es
  | .comp _ elt _ src cond => elt.uses ++ Src.uses src ++ CT.usesO cond
  | .pop i => [i]
  | .guard _ a | .dget _ a | .fld a _ | .flist a _ | .fnil a _ | .fpop a _ | .din _ _ a => a.uses
  | .meth a _ as => a.uses ++ CE.usesL as
  | .make _ as | .gcall _ as => CE.usesL as
  | .peek i => [i]
  | .index a b => a.uses ++ b.uses
  | .non | .bl _ | .int _ | .str _ | .glob _ | .xis _ => []
def CE.usesL : List CE → List Nat
  | [] => []
  | e :: es => e.uses ++ CE.usesL es
def CE.usesO : Option CE → List Nat
  | none => []
  | some e => e.uses
def CT.uses : CT → List Nat
  | .e a => a.uses
  | .nt a => a.uses
  | .and a b | .or a b => a.uses ++ b.uses
def CT.usesO : Option CT → List Nat
  | none => []
  | some e => e.uses
def Src.uses : Src → List Nat
  | .e a | .rng1 a | .enum a => a.uses
  | .rng a b | .rev a b => a.uses ++ b.uses
end
/-- those of mu, each once -/
def pick (mu us : List Nat) : List Nat := mu.filter fun i => us.contains i

/-- what the evaluator doesn't know -/
def CE.unk : CE := .glob "?"
/-- the written dicts -/
def dicNames : List Str := ["SIGNS", "JOINTS", "WORTHS", "COUNTS", "WORD_COUNTS"]
def dicOf (sc : Scope) : Expr → Option Str
  | .Name x _ => if dicNames.contains x && glbB sc x && okName x then some x else none
  | _ => none
def isRecv : Expr → Bool
  | .Name _ _ | .List _ _ => true
  | .Constant (.str _) _ _ => true
  | _ => false
/-- no call of a name without arguments (super) -/
def isRecvM : Expr → Bool
  | .Call (.Name _ _) [] [] _ => false
  | _ => true
/-- the fields that own a list -/
def ownFields : List Str := ["said", "elders", "lines"]
/-- the methods of the program's classes -/
def methNames : List Str := ["room", "sides", "base", "held", "going", "entries", "caught", "over", "open_for", "ask", "say", "back", "fork", "end",
  "seen", "log", "has_letter_at", "known", "learn", "plainly", "names", "named", "new_name", "begin", "drop", "why", "clash", "bring", "catch"]
/-- the program's classes -/
def clsNames : List Str := ["Talk", "House"]
/-- the fields of the program's objects -/
def fldNames : List Str := ["many", "kind", "sentence", "rule", "place", "parts", "left", "said", "elders", "ended", "worlds", "marks", "talks", "lines"]
/-- an own field that is read -/
def ownFld : Expr → Option (Expr × Str)
  | .Attribute o f _ => if ownFields.contains f && isRecvM o then some (o, f) else none
  | _ => none
def isNil : Expr → Bool
  | .List [] _ => true
  | _ => false

def isMarked (op : CmpOp) (b : Expr) : Bool := behindInMarks op b

def isStar : Expr → Bool
  | .Starred _ _ => true
  | _ => false
def convSrc (cv : Expr → CE) (sc : Scope) (tup : Bool) (e : Expr) : Src := match e with
  | .Call (.Name x _) as [] _ =>
    if glbB sc x && okName x && !as.any isStar then
      if x = "range" then (match as with
        | [h] => .rng1 (cv h)
        | [l, h] => .rng (cv l) (cv h)
        | _ => .e .unk)
      else if x = "enumerate" then (match as with
        | [a] => if tup then .enum (cv a) else .e .unk
        | _ => .e .unk)
      else if x = "reversed" then (match as with
        | [.Call (.Name y _) [l, h] [] _] => if y = "range" && glbB sc y && !isStar l && !isStar h then .rev (cv l) (cv h) else .e .unk
        | _ => .e .unk)
      else .e (cv e)
    else .e (cv e)
  | e => .e (cv e)

/-- what is asked of an object -/
def isObjE : Expr → Bool
  | .Call (.Attribute _ _ _) _ _ _ => true
  | .Attribute _ _ _ => true
  | _ => false
/-- an argument of a guarded call -/
def convP (cv : Expr → CE) (sc : Scope) (N : List Str) (mu : List Nat) (a : Expr) : CE := match a with
  | .Name x _ => match locOf sc N x with
    | some i => if mu.contains i then .peek i else cv a
    | none => cv a
  | _ => cv a
/-- a call of a global name -/
def convCall (cv : Expr → CE) (sc : Scope) (N : List Str) (mu : List Nat) (x : Str) (as : List Expr) : CE :=
  if x = "len" then (match as with | [a] => grd (muAll sc N mu [a]) (.len (cv a)) | _ => .unk)
  else if x = "abs" then (match as with | [a] => .abs (cv a) | _ => .unk)
  else if x = "max" then (match as with | [a] => .maxl (cv a) | [a, b] => .max2 (cv a) (cv b) | _ => .unk)
  else if x = "min" then (match as with | [a, b] => .min2 (cv a) (cv b) | _ => .unk)
  else if x = "any" then (match as with | [a] => .any (cv a) | _ => .unk)
  else if x = "all" then (match as with | [a] => .all (cv a) | _ => .unk)
  else if x = "sorted" then (match as with | [a] => .sorted (cv a) | _ => .unk)
  else if x = "str" then (match as with | [a] => .strI (cv a) | _ => .unk)
  else if x = "isinstance" then (match as with
    | [a, .Name t _] => (match tyOf t with
      | some ty => if glbB sc t && okName t then grd (muAll sc N mu [a]) (.isin (cv a) ty) else .unk
      | none => .unk)
    | _ => .unk)
  else if x = "list" then (match as with
    | [a] => (match a with
      | .Call (.Name y _) as2 [] _ => if y = "range" then (if glbB sc y then (match as2 with
          | [h] => if isStar h then .unk else .range (.int 0) (cv h)
          | [l, h] => if isStar l || isStar h then .unk else .range (cv l) (cv h)
          | _ => .unk) else .unk) else .list (cv a)
      | a => match ownFld a with
        | some (o, f) => .flist (cv o) f
        | none => .list (cv a))
    | _ => .unk)
  else if x = "range" || x = "enumerate" || x = "reversed" || x = "dict" || x = "int" then .unk
  else if clsNames.contains x then .make x (as.map cv)
  else if as.any isObjE && !(muAll sc N mu as).isEmpty then .gcall x (as.map (convP cv sc N mu))
  else grd (muAll sc N mu as) (.call x (as.map cv))

/-- a test -/
def convT (cv : Expr → CE) : Nat → Expr → CT
  | 0, _ => .e .unk
  | f + 1, e => match e with
    | .IfExp _ _ _ _ => .e .unk
    | .UnaryOp .Not a _ => .nt (convT cv f a)
    | .BoolOp op vs p => match vs with
      | [a] => convT cv f a
      | a :: b :: r => match op with
        | .And => .and (convT cv f a) (convT cv f (.BoolOp .And (b :: r) p))
        | .Or => .or (convT cv f a) (convT cv f (.BoolOp .Or (b :: r) p))
      | [] => .e .unk
    | e => .e (cv e)

def convE : Nat → List Str → List Nat → Scope → Expr → CE
  | 0, _, _, _, _ => .unk
  | f + 1, N, mu, sc, e => match e with
    | .Name x _ => match locOf sc N x with
      | some i => .slot i
      | none => if glbB sc x && okName x then .glob x else .unk
    | .Constant (.int i) _ _ => .int i
    | .Constant (.bool b) _ _ => .bl b
    | .Constant .none _ _ => .non
    | .Constant (.str s) _ _ => .str s
    | .BinOp a op b _ => .bin op (convE f N mu sc a) (convE f N mu sc b)
    | .UnaryOp .USub a _ => .neg (convE f N mu sc a)
    | .UnaryOp .Not a _ => .nt (convE f N mu sc a)
    | .BoolOp op vs p => match vs with
      | [a] => convE f N mu sc a
      | a :: b :: r => match op with
        | .And => .band (convE f N mu sc a) (convE f N mu sc (.BoolOp .And (b :: r) p))
        | .Or => .bor (convE f N mu sc a) (convE f N mu sc (.BoolOp .Or (b :: r) p))
      | [] => .unk
    | .Compare a ops bs _ => match ops, bs with
      | [op], [b] => if behindInMarks op b then .unk else match ownFld a with
        | some (o, fl) => if op == .Eq && isNil b then .fnil (convE f N mu sc o) fl else .unk
        | none => match dicOf sc b with
          | some x => (match op with
            | .In => .din false x (convE f N mu sc a)
            | .NotIn => .din true x (convE f N mu sc a)
            | _ => .unk)
          | none => grd (muAll sc N mu [a, b]) (.cmp op (convE f N mu sc a) (convE f N mu sc b))
      | [o1, o2], [b, c] => if lastMarks [o1, o2] [b, c] then .unk else .chain o1 o2 (convE f N mu sc a) (convE f N mu sc b) (convE f N mu sc c)
      | _, _ => .unk
    | .IfExp t a b _ => .ite (convT (convE f N mu sc) f t) (convE f N mu sc a) (convE f N mu sc b)
    | .Subscript a b _ => match b with
      | .Slice lo hi none _ => .slc (convE f N mu sc a) (lo.map (convE f N mu sc)) (hi.map (convE f N mu sc))
      | b => match dicOf sc a with
        | some x => .dget x (convE f N mu sc b)
        | none => grd (muAll sc N mu [a]) (.idx (convE f N mu sc a) (convE f N mu sc b))
    | .List es _ => if es.any isStar then .unk else .lst (es.map (convE f N mu sc))
    | .Tuple es _ _ => if es.any isStar then .unk else .tup (es.map (convE f N mu sc))
    | .ListComp elt [⟨.Name x _, iter, ifs, 0⟩] scope _ => match slotOf N x with
      | none => .unk
      | some i =>
        if L2.blkC N sc scope [(x, i)] && locB scope x && okName x then
          match ifs with
          | [] => .comp (pick mu (convE f N mu (L2.relS scope sc) elt).uses) (convE f N mu (L2.relS scope sc) elt) i (convSrc (convE f N mu sc) sc false iter) none
          | [c] => .comp (pick mu ((convE f N mu (L2.relS scope sc) elt).uses ++ (convT (convE f N mu (L2.relS scope sc)) f c).uses)) (convE f N mu (L2.relS scope sc) elt) i (convSrc (convE f N mu sc) sc false iter) (some (convT (convE f N mu (L2.relS scope sc)) f c))
          | _ => .unk
        else .unk
    | .Call g as [] cp => match g with
      | .Name x _ => if glbB sc x && okName x && !as.any isStar then convCall (convE f N mu sc) sc N mu x as else .unk
      | .Attribute v m ap => if m = "index" then (match as with
          | [b] => if isRecv v && (ap.endLine == cp.line) && !isStar b then .index (convE f N mu sc v) (convE f N mu sc b) else .unk
          | _ => .unk)
        else if m = "pop" then (match v with
          | .Name x _ => if as.isEmpty && (ap.endLine == cp.line) then (match locOf sc N x with
            | some i => .pop i
            | none => .unk) else .unk
          | v => match ownFld v with
            | some (o, fl) => if as.isEmpty && (ap.endLine == cp.line) then .fpop (convE f N mu sc o) fl else .unk
            | none => .unk)
        else if methNames.contains m && isRecvM v && (ap.endLine == cp.line) && !as.any isStar && decide (as.length < 29) then .meth (convE f N mu sc v) m (as.map (convE f N mu sc))
        else .unk
      | _ => .unk
    | .Attribute v m _ => if fldNames.contains m && !ownFields.contains m && isRecvM v then .fld (convE f N mu sc v) m else .unk
    | _ => .unk

def slotsOf (sc : Scope) (N : List Str) : List Expr → Option (List Nat)
  | [] => some []
  | .Name x _ :: r => if locB sc x && okName x then (slotOf N x).bind fun i => (slotsOf sc N r).map (i :: ·) else none
  | _ => none

/-! ### except suites -/
/-- an expression of a suite; en: the name of what was caught -/
def convX : Nat → List Str → List Nat → Scope → Option Str → Expr → CE
  | 0, _, _, _, _, _ => .unk
  | f + 1, N, mu, sc, en, e => match e with
    | .Name x _ => match locOf sc N x with
      | some i => if en = some x then .unk else .slot i
      | none => .unk
    | .Constant (.int i) _ _ => .int i
    | .Constant (.bool b) _ _ => .bl b
    | .Constant .none _ _ => .non
    | .Constant (.str s) _ _ => .str s
    | .BinOp a op b _ => .bin op (convX f N mu sc en a) (convX f N mu sc en b)
    | .UnaryOp .Not a _ => .nt (convX f N mu sc en a)
    | .BoolOp op vs p => match vs with
      | [a] => convX f N mu sc en a
      | a :: b :: r => match op with
        | .And => .band (convX f N mu sc en a) (convX f N mu sc en (.BoolOp .And (b :: r) p))
        | .Or => .bor (convX f N mu sc en a) (convX f N mu sc en (.BoolOp .Or (b :: r) p))
      | [] => .unk
    | .IfExp t a b _ => .ite (convT (convX f N mu sc en) f t) (convX f N mu sc en a) (convX f N mu sc en b)
    | .List es _ => if es.any isStar then .unk else .lst (es.map (convX f N mu sc en))
    | .Tuple es _ _ => if es.any isStar then .unk else .tup (es.map (convX f N mu sc en))
    | .Call (.Name g _) [.Name y _, .Name c _] [] _ => if g = "isinstance" then (if glbB sc g && glbB sc c && okName c && okName y && visB sc y && decide (en = some y) then .xis c else .unk) else .unk
    | _ => .unk
def convXS : Nat → List Str → List Nat → Scope → Option Str → Stmt → CS
  | 0, _, _, _, _, _ => .unk
  | f + 1, N, mu, sc, en, s => match s with
    | .Return (some e) _ => .ret (convX f N mu sc en e)
    | .Assign [.Name x py] e _ => match slotsOf sc N [.Name x py] with
      | some [i] => match e with
        | .ListComp _ _ _ _ => .unk
        | e => if en = some x then .unk else .asg (mu.contains i) i (convX f N mu sc en e)
      | _ => .unk
    | .Expr (.Call (.Attribute (.Name x _) m ap) [a] [] cp) _ => if m = "append" && (ap.endLine == cp.line) && !isStar a then (match locOf sc N x with
        | some i => .app i (convX f N mu sc en a)
        | none => .unk) else .unk
    | .If t a b _ => .ite (convT (convX f N mu sc en) f t) (a.map (convXS f N mu sc en)) (b.map (convXS f N mu sc en))
    | .Pass _ => .pas
    | _ => .unk
/-- return (None, e.at) alone -/
def isRetAt (n : Str) : List Stmt → Bool
  | [.Return (some (.Tuple [.Constant .none _ _, .Attribute (.Name y _) m _] _ _)) _] => (y == n) && (m == ("at" : Str))
  | _ => false
/-- the clauses of a try -/
def convHd (f : Nat) (N : List Str) (mu : List Nat) (sc : Scope) : List ExceptHandler → Option Hd
  | [] => some .nil
  | .ExceptHandler (some (.Name x _)) nm (b0 :: bs) _ :: r => if glbB sc x && okName x then (match convHd f N mu sc r with
    | none => none
    | some h => match nm with
      | none => some (.cons x none ((b0 :: bs).map (convXS f N mu sc none)) h)
      | some n => match slotOf N n with
        | none => none
        | some i => if decide (sc.names.lookup n = some .local) && okName n then (if isRetAt n (b0 :: bs) then some (.retAt x i h) else some (.cons x (some i) ((b0 :: bs).map (convXS f N mu sc (some n))) h)) else none) else none
  | _ => none
/-- told.append(a number) alone -/
def isSpoil (x : Str) : List Stmt → Bool
  | [.Expr (.Call (.Attribute (.Name y _) m ap) [.Constant (.int _) _ _] [] cp) _] => (y == x) && (m == ("append" : Str)) && (ap.endLine == cp.line)
  | _ => false
def plainIx : Expr → Bool
  | .Slice _ _ _ _ => false
  | _ => true
def noComp : Expr → Bool
  | .ListComp _ _ _ _ | .SetComp _ _ _ _ | .DictComp _ _ _ _ _ => false
  | _ => true
def convS : Nat → List Str → List Nat → Scope → Stmt → CS
  | 0, _, _, _, _ => .unk
  | f + 1, N, mu, sc, s => match s with
    | .Assign [.Name x py] e _ => match slotsOf sc N [.Name x py] with
      | some [i] => match e with
        | .ListComp elt gs scope pos => if sc.names.lookup x = some .local then
            (if (py.line == pos.line) && !(scope.names.any fun (n, k) => n == x && (k == .local || k == .cell)) then .asg (mu.contains i) i (convE f N mu sc e) else .unk)
          else .asg (mu.contains i) i (convE f N mu sc e)
        | e => .asg (mu.contains i) i (convE f N mu sc e)
      | _ => .unk
    | .Assign [.Tuple ts _ _] (.Call g as ks p) _ => match slotsOf sc N ts with
      | some is => .asgT is (convE f N mu sc (.Call g as ks p))
      | none => .unk
    | .Assign [.Tuple ts _ _] (.Subscript a b p) _ => match slotsOf sc N ts with
      | some is => .asgT is (convE f N mu sc (.Subscript a b p))
      | none => .unk
    | .Assign [.Tuple ts _ _] (.Name x p) _ => match slotsOf sc N ts with
      | some is => .asgT is (convE f N mu sc (.Name x p))
      | none => .unk
    | .Assign [.Attribute o fl _] e _ => if fldNames.contains fl && isRecvM o then .fset (ownFields.contains fl) (convE f N mu sc o) fl (convE f N mu sc e) else .unk
    | .Assign [.Subscript (.Name x _) k _] e _ => match locOf sc N x with
      | some i => if mu.contains i && plainIx k && noComp e then .seti i (convE f N mu sc k) (convE f N mu sc e) else .unk
      | none => .unk
    | .AugAssign (.Name x p) op e _ => match slotsOf sc N [.Name x p] with
      | some [i] => match op with
        | .Add => .aug i op (convE f N mu sc e)
        | _ => .unk
      | _ => .unk
    | .Expr e _ => match e with
      | .Call (.Attribute (.Name x _) m ap) [a] [] cp =>
        if m = "append" && (ap.endLine == cp.line) && !isStar a then (match locOf sc N x with
          | some i => .app i (convE f N mu sc a)
          | none => .unk)
        else if m = "extend" && (ap.endLine == cp.line) && !isStar a then (match locOf sc N x with
          | some i => .ext i (convE f N mu sc a)
          | none => .unk)
        else if methNames.contains m then .exp (convE f N mu sc e)
        else .unk
      | .Call (.Attribute (.Attribute o fl fp) m ap) [a] [] cp =>
        if m = "append" then (if ownFields.contains fl && isRecvM o && (ap.endLine == cp.line) && !isStar a then (match o, a with
          | .Name x _, .Attribute (.Name y _) g _ => (match locOf sc N x, locOf sc N y with
            | some i, some j => if fldNames.contains g && !ownFields.contains g then .fappF i fl j g else .unk
            | _, _ => .unk)
          | o, a => .fapp (convE f N mu sc o) fl (convE f N mu sc a)) else .unk)
        else .exp (convE f N mu sc e)
      | .Call g as ks p => .exp (convE f N mu sc (.Call g as ks p))
      | _ => .unk
    | .Return none _ => .retN
    | .Return (some e) _ => match e with
      | .Name x _ => match locOf sc N x with
        | some i => .retS i
        | none => .ret (convE f N mu sc e)
      | e => .ret (convE f N mu sc e)
    | .If t a b _ => .ite (convT (convE f N mu sc) f t) (a.map (convS f N mu sc)) (b.map (convS f N mu sc))
    | .While t b [] _ => .whl (convT (convE f N mu sc) f t) (b.map (convS f N mu sc))
    | .For tg it b [] _ => match tg with
      | .Name x p => match slotsOf sc N [.Name x p] with
        | some [i] => match it with
          | .List es _ => if isSpoil x b && !es.any isStar && decide (es.length < 1000) then .spoil i (es.map (convE f N mu sc)) else .for1 i (convSrc (convE f N mu sc) sc false it) (b.map (convS f N mu sc))
          | it => .for1 i (convSrc (convE f N mu sc) sc false it) (b.map (convS f N mu sc))
        | _ => .unk
      | .Tuple ts _ _ => match slotsOf sc N ts with
        | some is => .forT is (convSrc (convE f N mu sc) sc true it) (b.map (convS f N mu sc))
        | none => match ts with
          | [t, .Tuple us _ _] => match slotsOf sc N [t], slotsOf sc N us with
            | some [i], some is => .forN i is (convSrc (convE f N mu sc) sc true it) (b.map (convS f N mu sc))
            | _, _ => .unk
          | _ => .unk
      | _ => .unk
    | .Pass _ => .pas
    | .Break _ => .brk
    | .Continue _ => .cnt
    | .Raise (some e) none _ => match e with
      | .Call (.Name x _) [] [] _ => if glbB sc x && okName x then .rais x else .unk
      | .Call (.Name x _) [a] [] _ => if glbB sc x && okName x && !isStar a then .raisAt x (convE f N mu sc a) else .unk
      | _ => .unk
    | .Try b (h0 :: hs) [] [] _ => match convHd f N mu sc (h0 :: hs) with
      | some h => .tri (b.map (convS f N mu sc)) h
      | none => .unk
    | _ => .unk

def convF (N : List Str) (mu : List Nat) (np : Nat) (st : Stmt) : Fn := ⟨np, N.length, (L2.defBody st).map (convS 40 N mu (L2.defScope st))⟩
end Ht

set_option Elab.async false
set_option linter.all false
set_option maxRecDepth 100000
set_option maxHeartbeats 1000000
/-! ### soundness: representation -/
namespace Ht
open PySem L2

abbrev AS := Addr → Prop
abbrev Fg := PySem.W.Frag

/-- a list that nobody changes: frozen, or written in the top -/
def Zq (K : Fg) (H : Hp) (a : Addr) (vs : List V) : Prop := (∃ o, H a = some (.frz o (.lst vs))) ∨ SqL K (fun _ => none) a vs
theorem Zq.sql {K : Fg} {H : Hp} {a : Addr} {vs : List V} (h : Zq K H a vs) : SqL K H a vs := by
  rcases h with ⟨o, h⟩ | (h | ⟨o, h⟩) | h
  · exact .inl (.inr ⟨o, h⟩)
  · cases h
  · cases h
  · exact .inr h
mutual
inductive Rep (K : Fg) (H : Hp) (π : List Addr) (M : AS) : V → D → Prop
  | non : Rep K H π M .non .non
  | bl (b : Bool) : Rep K H π M (.bl b) (.bl b)
  | int (i : Int) : Rep K H π M (.int i) (.int i)
  | str (x : Str) : Rep K H π M (.str x) (.str x.cps.toList)
  | tup {a : Addr} {vs : List V} {ds : List D} : SqT K H a vs → Reps K H π M vs ds → Rep K H π M (.ref a) (.tup ds)
  | lst {a : Addr} {vs : List V} {ds : List D} : Rd H a (.lst vs) → ¬ M a → Reps K H π M vs ds → Rep K H π M (.ref a) (.lst ds)
  | ref {a : Addr} {n : Nat} : π[n]? = some a → Rep K H π M (.ref a) (.ref n)
  | scr {a : Addr} {ns : List Int} : Zq K H a (ns.map V.int) → Rep K H π M (.ref a) (.scr ns)
inductive Reps (K : Fg) (H : Hp) (π : List Addr) (M : AS) : List V → List D → Prop
  | nil : Reps K H π M [] []
  | cons {v : V} {vs : List V} {d : D} {ds : List D} : Rep K H π M v d → Reps K H π M vs ds → Reps K H π M (v :: vs) (d :: ds)
end

/-- a list, frozen or not -/
def LstO : HO → Prop
  | .lst _ => True
  | .frz _ (.lst _) => True
  | _ => False
theorem rd_lstO {H : Hp} {a : Addr} {vs : List V} (h : Rd H a (.lst vs)) : ∃ o, H a = some o ∧ LstO o ∧ ∀ H' : Hp, H' a = some o → Rd H' a (.lst vs) := by
  rcases h with h | ⟨q, h⟩
  · exact ⟨_, h, trivial, fun _ e => .inl e⟩
  · exact ⟨_, h, trivial, fun _ e => .inr ⟨q, e⟩⟩
/-- from one heap to a later one: what was known of the things that may not change is known -/
structure Keeps (K : Fg) (H : Hp) (π : List Addr) (M : AS) (H' : Hp) (π' : List Addr) (M' : AS) : Prop where
  pi : ∃ new, π' = π ++ new
  ls : ∀ a o, H a = some o → LstO o → ¬ M a → H' a = some o ∧ ¬ M' a
  tp : ∀ a vs, SqT K H a vs → SqT K H' a vs
  fz : ∀ a o u, H a = some (.frz o u) → H' a = some (.frz o u)

section
variable {K : Fg} {H H' H'' : Hp} {π π' π'' : List Addr} {M M' M'' : AS}
theorem Keeps.pix (k : Keeps K H π M H' π' M') {n : Nat} {a : Addr} (h : π[n]? = some a) : π'[n]? = some a := by
  obtain ⟨new, e⟩ := k.pi
  subst e
  rw [List.getElem?_append_left (List.getElem?_eq_some_iff.mp h).1]
  exact h
theorem Keeps.rd (k : Keeps K H π M H' π' M') {a : Addr} {vs : List V} (h : Rd H a (.lst vs)) (m : ¬ M a) : Rd H' a (.lst vs) ∧ ¬ M' a := by
  obtain ⟨o, h1, h2, h3⟩ := rd_lstO h
  exact ⟨h3 _ (k.ls a o h1 h2 m).1, (k.ls a o h1 h2 m).2⟩
mutual
theorem Rep.keep (k : Keeps K H π M H' π' M') : ∀ {v : V} {d : D}, Rep K H π M v d → Rep K H' π' M' v d
  | _, _, .non => .non
  | _, _, .bl b => .bl b
  | _, _, .int i => .int i
  | _, _, .str x => .str x
  | _, _, .tup h hs => .tup (k.tp _ _ h) (Reps.keep k hs)
  | _, _, .lst h hm hs => .lst (k.rd h hm).1 (k.rd h hm).2 (Reps.keep k hs)
  | _, _, .ref h => .ref (k.pix h)
  | _, _, .scr h => .scr (h.elim (fun ⟨o, h⟩ => .inl ⟨o, k.fz _ _ _ h⟩) .inr)
theorem Reps.keep (k : Keeps K H π M H' π' M') : ∀ {vs : List V} {ds : List D}, Reps K H π M vs ds → Reps K H' π' M' vs ds
  | _, _, .nil => .nil
  | _, _, .cons h hs => .cons (Rep.keep k h) (Reps.keep k hs)
end
theorem Keeps.refl : Keeps K H π M H π M := ⟨⟨[], by simp⟩, fun _ _ h _ m => ⟨h, m⟩, fun _ _ h => h, fun _ _ _ h => h⟩
theorem Keeps.trans (a : Keeps K H π M H' π' M') (b : Keeps K H' π' M' H'' π'' M'') : Keeps K H π M H'' π'' M'' :=
  ⟨by
    obtain ⟨n1, e1⟩ := a.pi
    obtain ⟨n2, e2⟩ := b.pi
    exact ⟨n1 ++ n2, by rw [e2, e1, List.append_assoc]⟩, fun x o h l m => b.ls _ _ (a.ls _ _ h l m).1 l (a.ls _ _ h l m).2, fun x vs h => b.tp _ _ (a.tp _ _ h), fun x o u h => b.fz _ _ _ (a.fz _ _ _ h)⟩
/-- fewer things may change -/
theorem Keeps.less (h : ∀ a, M' a → M a) : Keeps K H π M H π M' := ⟨⟨[], by simp⟩, fun _ _ r _ m => ⟨r, fun q => m (h _ q)⟩, fun _ _ r => r, fun _ _ _ r => r⟩
theorem Rep.less (h : ∀ a, M' a → M a) {v : V} {d : D} (r : Rep K H π M v d) : Rep K H π M' v d := r.keep (.less h)
theorem Reps.less (h : ∀ a, M' a → M a) {v : List V} {d : List D} (r : Reps K H π M v d) : Reps K H π M' v d := r.keep (.less h)
theorem Reps.length : ∀ {vs : List V} {ds : List D}, Reps K H π M vs ds → vs.length = ds.length
  | _, _, .nil => rfl
  | _, _, .cons _ hs => by simp [Reps.length hs]
theorem Reps.get : ∀ {vs : List V} {ds : List D} {i : Nat} {d : D}, Reps K H π M vs ds → ds[i]? = some d → ∃ v, vs[i]? = some v ∧ Rep K H π M v d
  | _, _, _, _, .nil, e => by simp at e
  | _, _, 0, _, .cons h _, e => by simp at e; subst e; exact ⟨_, rfl, h⟩
  | _, _, i + 1, d, .cons _ hs, e => by
    obtain ⟨v, h1, h2⟩ := Reps.get (i := i) (d := d) hs (by simpa using e)
    exact ⟨v, by simpa using h1, h2⟩
theorem Reps.getV : ∀ {vs : List V} {ds : List D} {i : Nat} {v : V}, Reps K H π M vs ds → vs[i]? = some v → ∃ d, ds[i]? = some d ∧ Rep K H π M v d
  | _, _, _, _, .nil, e => by simp at e
  | _, _, 0, _, .cons h _, e => by simp at e; subst e; exact ⟨_, rfl, h⟩
  | _, _, i + 1, d, .cons _ hs, e => by
    obtain ⟨v, h1, h2⟩ := Reps.getV (i := i) (v := d) hs (by simpa using e)
    exact ⟨v, by simpa using h1, h2⟩
theorem Reps.append : ∀ {vs ws : List V} {ds es : List D}, Reps K H π M vs ds → Reps K H π M ws es → Reps K H π M (vs ++ ws) (ds ++ es)
  | _, _, _, _, .nil, h => h
  | _, _, _, _, .cons h hs, q => .cons h (Reps.append hs q)
theorem Reps.drop : ∀ {vs : List V} {ds : List D} (n : Nat), Reps K H π M vs ds → Reps K H π M (vs.drop n) (ds.drop n)
  | _, _, 0, h => h
  | _, _, _ + 1, .nil => .nil
  | _, _, n + 1, .cons _ hs => Reps.drop n hs
theorem Reps.take : ∀ {vs : List V} {ds : List D} (n : Nat), Reps K H π M vs ds → Reps K H π M (vs.take n) (ds.take n)
  | _, _, 0, _ => .nil
  | _, _, _ + 1, .nil => .nil
  | _, _, n + 1, .cons h hs => .cons h (Reps.take n hs)
theorem Reps.set : ∀ {vs : List V} {ds : List D} {v : V} {d : D} (n : Nat), Reps K H π M vs ds → Rep K H π M v d → Reps K H π M (vs.set n v) (ds.set n d)
  | _, _, _, _, _, .nil, _ => .nil
  | _, _, _, _, 0, .cons _ hs, h => .cons h hs
  | _, _, _, _, n + 1, .cons h0 hs, h => .cons h0 (Reps.set n hs h)
theorem Reps.dropLast {vs : List V} {ds : List D} (h : Reps K H π M vs ds) : Reps K H π M vs.dropLast ds.dropLast := by
  rw [List.dropLast_eq_take, List.dropLast_eq_take, h.length]
  exact h.take _
end

/-! ### heaps -/
theorem rd_new {H : Hp} {p a : Addr} {o u : HO} (hp : H p = none) (h : Rd H a u) : Rd (upd H p o) a u := by
  rcases h with h | ⟨q, h⟩
  · exact .inl (by rw [upd_ne (ne_of_none h hp)]; exact h)
  · exact .inr ⟨q, by rw [upd_ne (ne_of_none h hp)]; exact h⟩
theorem sqt_new {K : Fg} {H : Hp} {p a : Addr} {o : HO} {vs : List V} (hp : H p = none) (h : SqT K H a vs) : SqT K (upd H p o) a vs := by
  rcases h with h | h
  · exact .inl (rd_new hp h)
  · exact .inr h
theorem rd_ne {H : Hp} {a b : Addr} {o u : HO} (h : Rd H a u) (hb : b ≠ a) : Rd (upd H b o) a u := by
  rcases h with h | ⟨q, h⟩
  · exact .inl (by rw [upd_ne (Ne.symm hb)]; exact h)
  · exact .inr ⟨q, by rw [upd_ne (Ne.symm hb)]; exact h⟩
/-- a list is written over: tuples stay -/
theorem sqt_lst {K : Fg} {H : Hp} {p a : Addr} {xs ys : List V} {vs : List V} (hp : H p = some (.lst xs)) (h : SqT K H a vs) : SqT K (upd H p (.lst ys)) a vs := by
  rcases h with (h | ⟨q, h⟩) | h
  · exact .inl (.inl (by rw [upd_ne (ne_of h hp (by intro z; cases z))]; exact h))
  · exact .inl (.inr ⟨q, by rw [upd_ne (ne_of h hp (by intro z; cases z))]; exact h⟩)
  · exact .inr h
theorem rd_some {H : Hp} {a : Addr} {u : HO} (h : Rd H a u) : H a ≠ none := by
  rcases h with h | ⟨q, h⟩ <;> (rw [h]; intro z; cases z)

/-! ### slots -/
theorem gt_st_same : ∀ {ρ : Env} {i : Nat} {y : Sl}, i < ρ.length → gt (st ρ i y) i = y
  | [], _, _, h => by simp at h
  | _ :: _, 0, _, _ => rfl
  | _ :: r, i + 1, y, h => gt_st_same (ρ := r) (i := i) (by simpa using h)
theorem gt_st_ne : ∀ {ρ : Env} {i j : Nat} {y : Sl}, i ≠ j → gt (st ρ i y) j = gt ρ j
  | [], _, _, _, _ => rfl
  | _ :: _, 0, 0, _, h => absurd rfl h
  | _ :: _, 0, _ + 1, _, _ => rfl
  | _ :: _, _ + 1, 0, _, _ => rfl
  | _ :: r, i + 1, j + 1, y, h => gt_st_ne (ρ := r) (i := i) (j := j) (fun e => h (by rw [e]))
theorem gt_lt : ∀ {ρ : Env} {i : Nat}, gt ρ i ≠ .no → i < ρ.length
  | [], _, h => absurd rfl h
  | _ :: _, 0, _ => by simp
  | _ :: r, i + 1, h => by
    have := gt_lt (ρ := r) (i := i) h
    simp; omega
theorem gt_ge : ∀ {ρ : Env} {i : Nat}, ρ.length ≤ i → gt ρ i = .no
  | [], _, _ => rfl
  | _ :: _, 0, h => by simp at h
  | _ :: r, i + 1, h => gt_ge (ρ := r) (i := i) (by simpa using h)
theorem st_length : ∀ (ρ : Env) (i : Nat) (y : Sl), (st ρ i y).length = ρ.length
  | [], _, _ => rfl
  | _ :: _, 0, _ => rfl
  | _ :: r, i + 1, y => by simp [st, st_length r i y]
theorem st_ge : ∀ {ρ : Env} {i : Nat} {y : Sl}, ρ.length ≤ i → st ρ i y = ρ
  | [], _, _, _ => rfl
  | _ :: _, 0, _, h => by simp at h
  | x :: r, i + 1, y, h => by simp [st, st_ge (ρ := r) (i := i) (by simpa using h)]
theorem gt_mask : ∀ (ρ : Env) (i : Nat), gt (ρ.map Sl.mask) i = (gt ρ i).mask
  | [], _ => rfl
  | _ :: _, 0 => rfl
  | _ :: r, i + 1 => gt_mask r i
theorem gt_map_v : ∀ (ds : List D) (k i : Nat), gt (ds.map Sl.v ++ List.replicate k Sl.no) i = match ds[i]? with | some d => .v d | none => .no
  | [], 0, _ => rfl
  | [], k + 1, 0 => rfl
  | [], k + 1, i + 1 => by
    have := gt_map_v [] k i
    simpa [List.replicate_succ, gt] using this
  | _ :: _, _, 0 => rfl
  | _ :: r, k, i + 1 => by simpa [gt] using gt_map_v r k i

/-- what may be changed in place -/
def Mt (F : AS) (ρ : Env) (S : Store) (π : List Addr) (lo : Nat → Addr) (lf : Nat → Str → Addr) : AS := fun a =>
  F a ∨ (∃ i ds, gt ρ i = .own ds ∧ a = lo i) ∨ a ∈ π ∨ ∃ n f ds, fldAt S n f = .own ds ∧ a = lf n f
/-- a field -/
def FldOk (K : Fg) (H : Hp) (π : List Addr) (M : AS) (p : Addr) : Sl → Option V → Prop
  | .no, _ => True
  | .v d, o => ∃ v, o = some v ∧ Rep K H π M v d
  | .own ds, o => o = some (.ref p) ∧ ∃ vs, H p = some (.lst vs) ∧ Reps K H π M vs ds
/-- the class of a name: its attributes are plain, its fields are no names of the class -/
def ClsAt (K : Fg) (c : Str) (C : Addr) : Prop := PySem.W.nsIn K mainGlobals c = some (some (.ref C)) ∧ Cls K C ∧ ∀ f ∈ fldNames, NoAttr K C f
def ObjAt (K : Fg) (H : Hp) (π : List Addr) (M : AS) (lf : Nat → Str → Addr) (n : Nat) (c : Str) (fs : List (Str × Sl)) : Prop :=
  ∃ a C dx vfs, π[n]? = some a ∧ H a = some (.ins C dx vfs) ∧ ClsAt K c C ∧ vfs.map (·.1) = fs.map (·.1) ∧ ∀ f, FldOk K H π M (lf n f) (fget fs f) (vfs.lookup f)
/-- the store's cells -/
structure StoreOk (K : Fg) (S : Store) (H : Hp) (π : List Addr) (M : AS) (lf : Nat → Str → Addr) : Prop where
  len : π.length = S.length
  nd : π.Nodup
  cell : ∀ n cl, S[n]? = some cl → ∃ c fs, cl = .obj c fs ∧ ObjAt K H π M lf n c fs
  inj : ∀ n f ds m g es, fldAt S n f = .own ds → fldAt S m g = .own es → lf n f = lf m g → n = m ∧ f = g
  np : ∀ n f ds, fldAt S n f = .own ds → lf n f ∉ π
theorem StoreOk.nil {K : Fg} {H : Hp} {M : AS} {lf : Nat → Str → Addr} : StoreOk K [] H [] M lf :=
  ⟨rfl, List.nodup_nil, fun n cl e => (by simp at e), fun n f ds m g es e => (by simp [fldAt] at e), fun n f ds e => (by simp [fldAt] at e)⟩
theorem StoreOk.of_nil {K : Fg} {H : Hp} {π : List Addr} {M : AS} {lf : Nat → Str → Addr} (h : StoreOk K [] H π M lf) : π = [] := List.eq_nil_of_length_eq_zero h.len
theorem FldOk.keep {K : Fg} {H H' : Hp} {π π' : List Addr} {M M' : AS} {p : Addr} (k : Keeps K H π M H' π' M') : ∀ {s : Sl} {o : Option V}, (∀ ds o, s = .own ds → H p = some o → H' p = some o) → FldOk K H π M p s o → FldOk K H' π' M' p s o
  | .no, _, _, h => h
  | .v d, _, _, ⟨v, h1, h2⟩ => ⟨v, h1, h2.keep k⟩
  | .own ds, _, hf, ⟨h1, vs, h2, h3⟩ => ⟨h1, vs, hf ds _ rfl h2, h3.keep k⟩
theorem mem_of_get {π : List Addr} {n : Nat} {a : Addr} (h : π[n]? = some a) : a ∈ π := List.mem_of_getElem? h
theorem fldAt_obj {S : Store} {n : Nat} {c : Str} {fs : List (Str × Sl)} {f : Str} (h : S[n]? = some (.obj c fs)) : fldAt S n f = fget fs f := by simp only [fldAt, h]
theorem StoreOk.keep {K : Fg} {S : Store} {H H' : Hp} {π : List Addr} {M M' : AS} {lf : Nat → Str → Addr} (h : StoreOk K S H π M lf) (k : Keeps K H π M H' π M')
    (hc : ∀ a o, a ∈ π → H a = some o → H' a = some o) (hf : ∀ n f ds o, fldAt S n f = .own ds → H (lf n f) = some o → H' (lf n f) = some o) : StoreOk K S H' π M' lf :=
  ⟨h.len, h.nd, fun n cl e => by
    obtain ⟨c, fs, rfl, a, C, dx, vfs, h1, h2, h3, h4, h5⟩ := h.cell n cl e
    exact ⟨c, fs, rfl, a, C, dx, vfs, h1, hc a _ (mem_of_get h1) h2, h3, h4, fun f => (h5 f).keep k fun ds o e' q => hf n f ds o (by rw [fldAt_obj e]; exact e') q⟩, h.inj, h.np⟩
/-- an own field -/
theorem StoreOk.own {K : Fg} {S : Store} {H : Hp} {π : List Addr} {M : AS} {lf : Nat → Str → Addr} (h : StoreOk K S H π M lf) {n : Nat} {f : Str} {ds : List D} (e : fldAt S n f = .own ds) :
    ∃ c fs a C dx vfs vs, S[n]? = some (.obj c fs) ∧ π[n]? = some a ∧ H a = some (.ins C dx vfs) ∧ ClsAt K c C ∧ vfs.map (·.1) = fs.map (·.1) ∧ (∀ f, FldOk K H π M (lf n f) (fget fs f) (vfs.lookup f)) ∧ fget fs f = .own ds ∧ vfs.lookup f = some (.ref (lf n f)) ∧ H (lf n f) = some (.lst vs) ∧ Reps K H π M vs ds := by
  cases hn : S[n]? with
  | none => simp [fldAt, hn] at e
  | some cl =>
    obtain ⟨c, fs, rfl, a, C, dx, vfs, h1, h2, h3, h4, h5⟩ := h.cell n cl hn
    rw [fldAt_obj hn] at e
    have := h5 f
    rw [e] at this
    obtain ⟨k1, vs, k2, k3⟩ := this
    exact ⟨c, fs, a, C, dx, vfs, vs, rfl, h1, h2, h3, h4, h5, e, k1, k2, k3⟩
theorem StoreOk.dom {K : Fg} {S : Store} {H : Hp} {π : List Addr} {M : AS} {lf : Nat → Str → Addr} (h : StoreOk K S H π M lf) : (∀ a ∈ π, H a ≠ none) ∧ ∀ n f ds, fldAt S n f = .own ds → H (lf n f) ≠ none := by
  refine ⟨fun a ha => ?_, fun n f ds e => ?_⟩
  · obtain ⟨n, hn, rfl⟩ := List.getElem_of_mem ha
    have hs : n < S.length := by rw [← h.len]; exact hn
    obtain ⟨c, fs, _, a', C, dx, vfs, h1, h2, _⟩ := h.cell n _ (List.getElem?_eq_getElem hs)
    rw [List.getElem?_eq_getElem hn] at h1
    cases h1
    rw [h2]
    intro z
    cases z
  · obtain ⟨c, fs, a, C, dx, vfs, vs, _, _, _, _, _, _, _, _, h1, _⟩ := h.own e
    rw [h1]
    intro z
    cases z

structure Sim (K : Fg) (H0 : Hp) (F : AS) (ρ : Env) (S : Store) (σ : L2.St) (H : Hp) (π : List Addr) (lo : Nat → Addr) (lf : Nat → Str → Addr) : Prop where
  sl : ∀ i d, gt ρ i = .v d → ∃ v, σ[i]? = some (some v) ∧ Rep K H π (Mt F ρ S π lo lf) v d
  ow : ∀ i ds, gt ρ i = .own ds → σ[i]? = some (some (.ref (lo i))) ∧ ∃ vs, H (lo i) = some (.lst vs) ∧ Reps K H π (Mt F ρ S π lo lf) vs ds
  inj : ∀ i j ds es, gt ρ i = .own ds → gt ρ j = .own es → lo i = lo j → i = j
  nf : ∀ i ds, gt ρ i = .own ds → ¬ F (lo i) ∧ lo i ∉ π ∧ H0 (lo i) = none ∧ ∀ n f es, fldAt S n f = .own es → lo i ≠ lf n f
  np : ∀ a ∈ π, ¬ F a
  nq : ∀ n f ds, fldAt S n f = .own ds → ¬ F (lf n f)
  len : σ.length = ρ.length
  ok : StoreOk K S H π (Mt F ρ S π lo lf) lf
  dm : ∀ a, H a = none → H0 a = none
  fh : ∀ a, F a → H a ≠ none

structure Ext (K : Fg) (F : AS) (H : Hp) (π : List Addr) (M : AS) (H' : Hp) (π' : List Addr) (M' : AS) : Prop extends Keeps K H π M H' π' M' where
  fo : ∀ a o, F a → H a = some o → H' a = some o
  dm : ∀ a, H' a = none → H a = none
section
variable {K : Fg} {F : AS} {H H' H'' : Hp} {π π' π'' : List Addr} {M M' M'' : AS}
theorem Ext.refl : Ext K F H π M H π M := ⟨Keeps.refl, fun _ _ _ h => h, fun _ h => h⟩
theorem Ext.trans (a : Ext K F H π M H' π' M') (b : Ext K F H' π' M' H'' π'' M'') : Ext K F H π M H'' π'' M'' :=
  ⟨a.toKeeps.trans b.toKeeps, fun x o hf h => b.fo x o hf (a.fo x o hf h), fun x h => a.dm x (b.dm x h)⟩
end
/-- with one more address -/
def AS.add (F : AS) (a : Addr) : AS := fun b => F b ∨ b = a

def RvOk (K : Fg) (H0 Hs : Hp) (F : AS) (ρ : Env) (S : Store) (σ : L2.St) (H : Hp) (π : List Addr) (lo : Nat → Addr) (lf : Nat → Str → Addr) (v : V) : Rv → Prop
  | .sh d => Sim K H0 F ρ S σ H π lo lf ∧ Rep K H π (Mt F ρ S π lo lf) v d
  | .fr ds => ∃ a vs, v = .ref a ∧ H a = some (.lst vs) ∧ Hs a = none ∧ ¬ Mt F ρ S π lo lf a ∧ Sim K H0 (F.add a) ρ S σ H π lo lf ∧ Reps K H π (Mt (F.add a) ρ S π lo lf) vs ds

section
variable {K : Fg} {H0 : Hp} {F F' : AS} {ρ : Env} {S : Store} {σ : L2.St} {H H' : Hp} {π : List Addr} {lo : Nat → Addr} {lf : Nat → Str → Addr}
theorem Mt.less (h : ∀ a, F' a → F a) : ∀ a, Mt F' ρ S π lo lf a → Mt F ρ S π lo lf a := fun a q => by
  rcases q with q | q
  · exact .inl (h a q)
  · exact .inr q
theorem Sim.less (h : ∀ a, F' a → F a) (s : Sim K H0 F ρ S σ H π lo lf) : Sim K H0 F' ρ S σ H π lo lf where
  sl := fun i d e => let ⟨v, h1, h2⟩ := s.sl i d e; ⟨v, h1, h2.less (Mt.less h)⟩
  ow := fun i ds e => let ⟨h1, vs, h2, h3⟩ := s.ow i ds e; ⟨h1, vs, h2, h3.less (Mt.less h)⟩
  inj := s.inj
  nf := fun i ds e => let ⟨a, b⟩ := s.nf i ds e; ⟨fun q => a (h _ q), b⟩
  np := fun a ha q => s.np a ha (h a q)
  nq := fun n f ds e q => s.nq n f ds e (h _ q)
  len := s.len
  ok := s.ok.keep (.less (Mt.less h)) (fun _ _ _ q => q) fun _ _ _ _ _ q => q
  dm := s.dm
  fh := fun a q => s.fh a (h a q)
theorem RvOk.of {Hs Hs' : Hp} {v : V} (h : ∀ a, Hs a = none → Hs' a = none) : ∀ {r : Rv}, RvOk K H0 Hs F ρ S σ H π lo lf v r → RvOk K H0 Hs' F ρ S σ H π lo lf v r
  | .sh _, k => k
  | .fr ds, ⟨a, vs, e, h1, h2, k⟩ => ⟨a, vs, e, h1, h a h2, k⟩
theorem RvOk.sh {Hs : Hp} {v : V} : ∀ {r : Rv}, RvOk K H0 Hs F ρ S σ H π lo lf v r → Sim K H0 F ρ S σ H π lo lf ∧ Rep K H π (Mt F ρ S π lo lf) v r.d
  | .sh _, h => h
  | .fr ds, ⟨a, vs, e, h1, h2, h3, h4, h5⟩ => ⟨h4.less fun _ q => .inl q, by
    subst e
    exact .lst (.inl h1) h3 (h5.less (Mt.less fun _ q => .inl q))⟩
/-- what may be changed is there -/
theorem Sim.there (s : Sim K H0 F ρ S σ H π lo lf) {a : Addr} (h : Mt F ρ S π lo lf a) : H a ≠ none := by
  rcases h with h | ⟨i, ds, h, rfl⟩ | h | ⟨n, f, ds, h, rfl⟩
  · exact s.fh a h
  · obtain ⟨_, vs, e, _⟩ := s.ow i ds h
    rw [e]
    intro z
    cases z
  · exact s.ok.dom.1 a h
  · exact s.ok.dom.2 n f ds h
/-- a new object, which may be changed from now on or not -/
theorem keeps_new {M' : AS} {p : Addr} {o : HO} (hp : H p = none) (hM : ∀ a, M' a → Mt F ρ S π lo lf a ∨ a = p) : Keeps K H π (Mt F ρ S π lo lf) (upd H p o) π M' :=
  ⟨⟨[], by simp⟩, fun a o h _ m => ⟨by rw [upd_ne (ne_of_none h hp)]; exact h, fun q => by
    rcases hM a q with q | q
    · exact m q
    · subst q
      rw [hp] at h
      cases h⟩, fun a vs h => sqt_new hp h, fun a o u h => by rw [upd_ne (ne_of_none h hp)]; exact h⟩
theorem Sim.newF {p : Addr} {o : HO} (hp : H p = none) (s : Sim K H0 F ρ S σ H π lo lf) : Sim K H0 (F.add p) ρ S σ (upd H p o) π lo lf := by
  have k : Keeps K H π (Mt F ρ S π lo lf) (upd H p o) π (Mt (F.add p) ρ S π lo lf) := keeps_new hp fun a q => by
    rcases q with (q | q) | q
    · exact .inl (.inl q)
    · exact .inr q
    · exact .inl (.inr q)
  have ne : ∀ a, H a ≠ none → a ≠ p := fun a h e => h (e ▸ hp)
  refine ⟨fun i d e => ?_, fun i ds e => ?_, s.inj, fun i ds e => ?_, fun a ha q => ?_, fun n f ds e q => ?_, s.len, s.ok.keep k (fun a o' ha q => ?_) (fun n f ds o' e q => ?_), fun a q => ?_, fun a q => ?_⟩
  · obtain ⟨v, h1, h2⟩ := s.sl i d e
    exact ⟨v, h1, h2.keep k⟩
  · obtain ⟨h1, vs, h2, h3⟩ := s.ow i ds e
    exact ⟨h1, vs, by rw [upd_ne (ne_of_none h2 hp)]; exact h2, h3.keep k⟩
  · obtain ⟨h1, h2, h3, h4⟩ := s.nf i ds e
    obtain ⟨_, vs, h5, _⟩ := s.ow i ds e
    refine ⟨fun q => ?_, h2, h3, h4⟩
    rcases q with q | q
    · exact h1 q
    · exact ne_of_none h5 hp q
  · rcases q with q | q
    · exact s.np a ha q
    · exact ne a (s.ok.dom.1 a ha) q
  · rcases q with q | q
    · exact s.nq n f ds e q
    · exact ne _ (s.ok.dom.2 n f ds e) q
  · rw [upd_ne (ne_of_none q hp)]
    exact q
  · rw [upd_ne (ne_of_none q hp)]
    exact q
  · by_cases h : a = p
    · subst h
      rw [upd_same] at q
      cases q
    · rw [upd_ne h] at q
      exact s.dm a q
  · rcases q with q | q
    · rw [upd_ne (ne a (s.fh a q))]
      exact s.fh a q
    · subst q
      rw [upd_same]
      intro z
      cases z
theorem Sim.new {p : Addr} {o : HO} (hp : H p = none) (s : Sim K H0 F ρ S σ H π lo lf) : Sim K H0 F ρ S σ (upd H p o) π lo lf := (s.newF hp).less fun _ q => .inl q
theorem Ext.new {p : Addr} {o : HO} (hp : H p = none) (s : Sim K H0 F ρ S σ H π lo lf) : Ext K F H π (Mt F ρ S π lo lf) (upd H p o) π (Mt F ρ S π lo lf) :=
  ⟨keeps_new hp fun _ q => .inl q, fun a o' _ q => by rw [upd_ne (ne_of_none q hp)]; exact q, fun a q => by
    by_cases h : a = p
    · subst h
      exact hp
    · rw [upd_ne h] at q
      exact q⟩

/-! ### values -/
def ValOk (K : Fg) (H0 : Hp) (F : AS) (ρ : Env) (S : Store) (σ : L2.St) (H : Hp) (π : List Addr) (lo : Nat → Addr) (lf : Nat → Str → Addr) (r : Rv) (t : VK → Prop) : Prop :=
  ∀ Q : VK, (∀ v H' π' lf', Ext K F H π (Mt F ρ S π lo lf) H' π' (Mt F ρ S π' lo lf') → RvOk K H0 H F ρ S σ H' π' lo lf' v r → Q v H') → t Q
theorem val_pure {z : V} {d : D} {t : VK → Prop} (s : Sim K H0 F ρ S σ H π lo lf) (hr : Rep K H π (Mt F ρ S π lo lf) z d) (ht : ∀ Q : VK, Q z H → t Q) : ValOk K H0 F ρ S σ H π lo lf (.sh d) t :=
  fun Q q => ht Q (q z H π lf .refl ⟨s, hr⟩)
theorem val_lst {vs : List V} {ds : List D} {t : VK → Prop} (s : Sim K H0 F ρ S σ H π lo lf) (hr : Reps K H π (Mt F ρ S π lo lf) vs ds) (ht : ∀ Q : VK, (∀ p, H p = none → Q (.ref p) (upd H p (.lst vs))) → t Q) : ValOk K H0 F ρ S σ H π lo lf (.fr ds) t := fun Q q => ht Q fun p hp =>
  q (.ref p) _ π lf (.new hp s) ⟨p, vs, rfl, upd_same, hp, fun m => s.there m hp, s.newF hp, hr.keep (keeps_new hp fun a q => by
    rcases q with (q | q) | q
    · exact .inl (.inl q)
    · exact .inr q
    · exact .inl (.inr q))⟩
theorem val_tup {vs : List V} {ds : List D} {t : VK → Prop} (s : Sim K H0 F ρ S σ H π lo lf) (hr : Reps K H π (Mt F ρ S π lo lf) vs ds) (ht : ∀ Q : VK, (∀ p, H p = none → Q (.ref p) (upd H p (.tup vs))) → t Q) : ValOk K H0 F ρ S σ H π lo lf (.sh (.tup ds)) t := fun Q q => ht Q fun p hp =>
  q (.ref p) _ π lf (.new hp s) ⟨s.new hp, .tup (SqT.of upd_same) (hr.keep (keeps_new hp fun _ q => .inl q))⟩
end
end Ht

set_option Elab.async false
set_option linter.all false
set_option maxRecDepth 100000
set_option maxHeartbeats 1000000
/-! ### soundness: the operations on values -/
namespace Ht
open PySem L2

theorem big_eq : big = sizeLine := rfl
section
variable {K : Fg} {H : Hp} {π : List Addr} {M : AS}
theorem Rep.int_inv {v : V} {i : Int} (h : Rep K H π M v (.int i)) : v = .int i := by cases h; rfl
theorem Rep.bl_inv {v : V} {b : Bool} (h : Rep K H π M v (.bl b)) : v = .bl b := by cases h; rfl
theorem Rep.non_inv {v : V} (h : Rep K H π M v .non) : v = .non := by cases h; rfl
theorem Rep.str_inv {v : V} {s : List Nat} (h : Rep K H π M v (.str s)) : ∃ x : Str, v = .str x ∧ x.cps.toList = s := by cases h; exact ⟨_, rfl, rfl⟩
theorem Rep.lst_inv {v : V} {ds : List D} (h : Rep K H π M v (.lst ds)) : ∃ a vs, v = .ref a ∧ Rd H a (.lst vs) ∧ ¬ M a ∧ Reps K H π M vs ds := by cases h with | lst a b c => exact ⟨_, _, rfl, a, b, c⟩
theorem Rep.tup_inv {v : V} {ds : List D} (h : Rep K H π M v (.tup ds)) : ∃ a vs, v = .ref a ∧ SqT K H a vs ∧ Reps K H π M vs ds := by cases h with | tup a b => exact ⟨_, _, rfl, a, b⟩
theorem Rep.scr_inv {v : V} {ns : List Int} (h : Rep K H π M v (.scr ns)) : ∃ a, v = .ref a ∧ Zq K H a (ns.map V.int) := by cases h with | scr a => exact ⟨_, rfl, a⟩
theorem Reps.ints_inv : ∀ {vs : List V} {ds : List D} {is : List Int}, Reps K H π M vs ds → intsOf ds = some is → vs = is.map V.int
  | _, _, _, .nil, e => by simp [intsOf] at e; subst e; rfl
  | _, .int i :: ds, _, .cons h hs, e => by
    simp only [intsOf, Option.map_eq_some_iff] at e
    obtain ⟨is', e1, e2⟩ := e
    subst e2
    rw [h.int_inv, Reps.ints_inv hs e1]
    rfl
  | _, .non :: _, _, .cons _ _, e | _, .bl _ :: _, _, .cons _ _, e | _, .str _ :: _, _, .cons _ _, e | _, .tup _ :: _, _, .cons _ _, e | _, .lst _ :: _, _, .cons _ _, e | _, .ref _ :: _, _, .cons _ _, e | _, .scr _ :: _, _, .cons _ _, e => by simp [intsOf] at e
theorem Reps.bools_inv : ∀ {vs : List V} {ds : List D} {is : List Bool}, Reps K H π M vs ds → boolsOf ds = some is → vs = is.map V.bl
  | _, _, _, .nil, e => by simp [boolsOf] at e; subst e; rfl
  | _, .bl i :: ds, _, .cons h hs, e => by
    simp only [boolsOf, Option.map_eq_some_iff] at e
    obtain ⟨is', e1, e2⟩ := e
    subst e2
    rw [h.bl_inv, Reps.bools_inv hs e1]
    rfl
  | _, .non :: _, _, .cons _ _, e | _, .int _ :: _, _, .cons _ _, e | _, .str _ :: _, _, .cons _ _, e | _, .tup _ :: _, _, .cons _ _, e | _, .lst _ :: _, _, .cons _ _, e | _, .ref _ :: _, _, .cons _ _, e | _, .scr _ :: _, _, .cons _ _, e => by simp [boolsOf] at e
theorem reps_ints : ∀ (is : List Int), Reps K H π M (is.map V.int) (is.map D.int)
  | [] => .nil
  | i :: is => .cons (.int i) (reps_ints is)
theorem str_ext {x y : Str} (h : x.cps.toList = y.cps.toList) : x = y := by
  cases x
  cases y
  simp only at h
  rw [Array.toList_inj.mp h]
theorem str_append (x y : Str) : (x ++ y).cps.toList = x.cps.toList ++ y.cps.toList := by
  show (x.cps ++ y.cps).toList = _
  simp
theorem str_length (x : Str) : x.cps.toList.length = x.length := by
  show _ = x.cps.size
  simp
end

/-! ### lists, frozen or not, one behind the other -/
section
variable {X : Cx}
theorem rd_list {pins : List (Addr × Obj)} {σ : L2.St} {H : Hp} {s : Shared} {a : Addr} {xs : List V} (I : Inv X pins σ H s) (h : Rd H a (.lst xs)) :
    xs.length ≤ sizeLine ∧ ∃ (its : List Value) (n : Nat), Vals xs its ∧ xs.length = its.length ∧ s.heap.get? a = some { cls := .type "list", data := .seq its.toArray n } := by
  obtain ⟨z, its, n, r, e⟩ := (show ObjOk X.prog X.w H s.heap a (.lst xs) from h.ok I.hok)
  exact ⟨z, its, n, r, r.length, e⟩
def rCatR : R2 := fun x y H Q => ∃ l b xs zs, x = .ref l ∧ y = .ref b ∧ Rd H l (.lst xs) ∧ Rd H b (.lst zs) ∧ xs.length + zs.length ≤ sizeLine ∧ ∀ p, H p = none → Q (.ref p) (upd H p (.lst (xs ++ zs)))
theorem op_catR : OpR X (binaryOp .Add) rCatR := by
  intro pins s σ H x y v u Q I rx ry h
  obtain ⟨l, b, xs, zs, rfl, rfl, hH, hB, hz, q⟩ := h
  cases rx
  cases ry
  obtain ⟨z, its, n, r, hl, e⟩ := rd_list I hH
  obtain ⟨z2, its2, n2, r2, hl2, e2⟩ := rd_list I hB
  refine PySem.P.add_list e e2 ?_ (by rw [List.size_toArray, List.size_toArray]; omega)
  have ea : its.toArray ++ its2.toArray = (its ++ its2).toArray := by simp
  rw [ea]
  exact ⟨.ref _, _, I.lnew (t' := s.toks) (r.append r2) (by rw [List.length_append]; omega), rfl, q _ I.fresh⟩
end
theorem Rd.sql {K : Fg} {H : Hp} {a : Addr} {vs : List V} (h : Rd H a (.lst vs)) : SqL K H a vs := .inl h

section
variable {X : Cx} {H0 : Hp} {F : AS} {ρ : Env} {S : Store} {σ : L2.St} {H : Hp} {π : List Addr} {lo : Nat → Addr} {lf : Nat → Str → Addr} {x y : V}
/-! ### a op b -/
theorem foldl_arr : ∀ (n : Nat) (a acc : Array Nat), ((List.replicate n a).foldl (· ++ ·) acc).toList = acc.toList ++ (List.replicate n a.toList).flatten
  | 0, a, acc => by simp
  | n + 1, a, acc => by
    rw [List.replicate_succ, List.foldl_cons, foldl_arr n a (acc ++ a), List.replicate_succ, List.flatten_cons, Array.toList_append, List.append_assoc]
theorem op_mulS : OpR X (binaryOp .Mult) (fun x y H Q => ∃ (a : Str) (k : Int), x = .str a ∧ y = .int k ∧ -(2 ^ 63) ≤ k ∧ k < 2 ^ 20 ∧ a.cps.toList.length * k.toNat ≤ big ∧ ∀ b : Str, b.cps.toList = (List.replicate k.toNat a.cps.toList).flatten → Q (.str b) H) := by
  intro pins s σ H x y v u Q I rx ry h
  obtain ⟨a, k, rfl, rfl, h1, h2, h3, q⟩ := h
  obtain ⟨t, rfl⟩ := rx
  obtain ⟨t2, rfl⟩ := ry
  have hl : a.cps.toList.length = a.length := by simp [Str.length]
  rw [hl] at h3
  refine PySem.P.mul_str ?_ ?_ ?_ ?_
  · rw [decide_eq_false (by omega), decide_eq_false (by omega)]
    rfl
  · intro c1 c2 c3
    have hk : 1 ≤ k := by omega
    have h4 : a.length ≤ a.length * k.toNat := Nat.le_mul_of_pos_right _ (by omega)
    have h5 : a.length ≤ 16777216 := by unfold big at h3; omega
    have h6 : (16777216 : Int) ≤ (2 ^ 63 - 1) / k := by
      rw [Int.le_ediv_iff_mul_le (by omega)]
      omega
    omega
  · intro c1 c2
    show decide (_ > sizeLine) = false
    have : a.length * k.toNat ≤ sizeLine := Nat.le_trans h3 (by decide)
    exact decide_eq_false (by omega)
  · by_cases c : k < 1
    · rw [if_pos c]
      refine ⟨by decide, .str Str.empty, H, I.tok _, ⟨_, rfl⟩, q _ ?_⟩
      have : k.toNat = 0 := by omega
      rw [this]
      rfl
    · rw [if_neg c]
      by_cases c2 : (k == 1 || a.length == 0) = true
      · rw [if_pos c2]
        refine ⟨.str a, H, I, ⟨_, rfl⟩, q a ?_⟩
        rw [Bool.or_eq_true] at c2
        rcases c2 with c2 | c2
        · have : k = 1 := by simpa using c2
          subst this
          simp
        · have h0 : a.cps.toList = [] := List.length_eq_zero_iff.mp (by rw [hl]; simpa using c2)
          rw [h0]
          simp
      · rw [if_neg c2]
        refine ⟨?_, .str _, H, I.tok _, ⟨_, rfl⟩, q _ ?_⟩
        · have e : (⟨(List.replicate k.toNat a.cps).foldl (· ++ ·) #[]⟩ : Str).length = a.length * k.toNat := by
            show ((List.replicate k.toNat a.cps).foldl (· ++ ·) #[]).size = _
            rw [← Array.length_toList, foldl_arr]
            simp [Str.length, Nat.mul_comm]
          rw [e]
          exact Nat.le_trans h3 (by decide)
        · rw [foldl_arr]
          rfl
theorem bin_val {op : Operator} {dx dy : D} {r : Rv} (e : binD op dx dy = some r) : ∃ rl : R2, OpR X (binaryOp op) rl ∧ ∀ (H0 : Hp) (F : AS) (ρ : Env) (S : Store) (σ : L2.St) (H : Hp) (π : List Addr) (lo : Nat → Addr) (lf : Nat → Str → Addr) (x y : V),
    Sim X.K H0 F ρ S σ H π lo lf → Rep X.K H π (Mt F ρ S π lo lf) x dx → Rep X.K H π (Mt F ρ S π lo lf) y dy → ValOk X.K H0 F ρ S σ H π lo lf r (rl x y H) := by
  unfold binD at e
  split at e
  · cases e
    refine ⟨_, op_add, fun H0 F ρ S σ H π lo lf x y s hx hy => val_pure s (.int _) fun Q q => ?_⟩
    exact ⟨_, _, hx.int_inv, hy.int_inv, q⟩
  · split at e
    · cases e
      refine ⟨_, op_add_str, fun H0 F ρ S σ H π lo lf x y s hx hy => ?_⟩
      obtain ⟨a, rfl, rfl⟩ := hx.str_inv
      obtain ⟨b, rfl, rfl⟩ := hy.str_inv
      refine val_pure (z := .str (a ++ b)) s ?_ fun Q q => ⟨a, b, rfl, rfl, ?_, q⟩
      · rw [← str_append]
        exact .str _
      · rename_i h
        rw [str_length, str_length] at h
        exact h
    · cases e
  · split at e
    · cases e
      rename_i h
      refine ⟨_, op_catR, fun H0 F ρ S σ H π lo lf x y s hx hy => ?_⟩
      obtain ⟨a, vs, rfl, h1, _, h3⟩ := hx.lst_inv
      obtain ⟨b, ws, rfl, g1, _, g3⟩ := hy.lst_inv
      refine val_lst s (h3.append g3) fun Q q => ⟨a, b, vs, ws, rfl, rfl, h1, g1, ?_, q⟩
      rw [← h3.length, ← g3.length] at h
      exact h
    · cases e
  · cases e
    refine ⟨_, op_sub, fun H0 F ρ S σ H π lo lf x y s hx hy => val_pure s (.int _) fun Q q => ?_⟩
    exact ⟨_, _, hx.int_inv, hy.int_inv, q⟩
  · split at e
    · cases e
      rename_i h
      refine ⟨_, op_mul, fun H0 F ρ S σ H π lo lf x y s hx hy => val_pure s (.int _) fun Q q => ?_⟩
      refine ⟨_, _, hx.int_inv, hy.int_inv, ?_, q⟩
      simp only [smallI, Bool.or_eq_true, Bool.and_eq_true, decide_eq_true_eq] at h
      exact h
    · cases e
  · split at e
    · cases e
      rename_i i j h
      refine ⟨_, op_fdivW, fun H0 F ρ S σ H π lo lf x y s hx hy => val_pure s (.int _) fun Q q => ?_⟩
      exact ⟨_, _, hx.int_inv, hy.int_inv, wide_div (b := 64) h.1 (by omega) (by decide) (by decide), q⟩
    · cases e
  · split at e
    · cases e
      rename_i i j h
      refine ⟨_, op_mod, fun H0 F ρ S σ H π lo lf x y s hx hy => val_pure s (.int _) fun Q q => ?_⟩
      exact ⟨_, _, hx.int_inv, hy.int_inv, h, q⟩
    · cases e
  · split at e
    · cases e
      rename_i i j h
      refine ⟨_, op_pow, fun H0 F ρ S σ H π lo lf x y s hx hy => val_pure s (.int _) fun Q q => ?_⟩
      refine ⟨_, _, hx.int_inv, hy.int_inv, ⟨h.1, by omega, ?_⟩, q⟩
      have h3 := h.2.2
      simp only [smallI, Bool.and_eq_true, decide_eq_true_eq] at h3
      omega
    · cases e
  · split at e
    · cases e
      rename_i t k h
      refine ⟨_, op_mulS, fun H0 F ρ S σ H π lo lf x y s hx hy => ?_⟩
      obtain ⟨a, rfl, rfl⟩ := hx.str_inv
      have e2 := hy.int_inv
      subst e2
      refine val_pure (z := .str ⟨((List.replicate k.toNat a.cps.toList).flatten).toArray⟩) s ?_ fun Q q => ⟨a, k, rfl, rfl, h.1, h.2.1, h.2.2, fun b hb => ?_⟩
      · exact .str (⟨((List.replicate k.toNat a.cps.toList).flatten).toArray⟩ : Str)
      · have : b = (⟨((List.replicate k.toNat a.cps.toList).flatten).toArray⟩ : Str) := str_ext hb
        rw [this]
        exact q
    · cases e
  · cases e
end

/-! ### == -/
mutual
def toPy : D → PyData
  | .non => .none
  | .bl b => .bool b
  | .int i => .int i
  | .str s => .str ⟨s.toArray⟩
  | .tup ds => .tuple (toPys ds)
  | .lst ds => .list (toPys ds)
  | .ref _ => .none
  | .scr _ => .none
def toPys : List D → List PyData
  | [] => []
  | d :: ds => toPy d :: toPys ds
end
mutual
theorem toPy_eqv : ∀ (a b : D) (n m : Nat), a.flatTo n = true → b.flatTo m = true → PyData.eqv (toPy a) (toPy b) = a.eqv b
  | .non, b, _, _, _, hb => by cases b <;> simp [toPy, D.eqv, PyData.eqv, D.flatTo] at hb ⊢
  | .bl _, b, _, _, _, hb => by cases b <;> simp [toPy, D.eqv, PyData.eqv, D.flatTo] at hb ⊢
  | .int _, b, _, _, _, hb => by cases b <;> simp [toPy, D.eqv, PyData.eqv, D.flatTo] at hb ⊢
  | .str s, b, _, _, _, hb => by
    cases b <;> simp [toPy, D.eqv, PyData.eqv, D.flatTo] at hb ⊢
    rw [Bool.eq_iff_iff]
    simp
  | .ref _, _, _, _, ha, _ => by simp [D.flatTo] at ha
  | .scr _, _, _, _, ha, _ => by simp [D.flatTo] at ha
  | .tup ds, .tup es, 0, _, ha, _ => by simp [D.flatTo] at ha
  | .tup ds, .tup es, _, 0, _, hb => by simp [D.flatTo] at hb
  | .tup ds, .tup es, n + 1, m + 1, ha, hb => by
    simp only [toPy, D.eqv, PyData.eqv]
    exact toPys_eqv ds es n m (by simpa [D.flatTo] using ha) (by simpa [D.flatTo] using hb)
  | .lst ds, .lst es, 0, _, ha, _ => by simp [D.flatTo] at ha
  | .lst ds, .lst es, _, 0, _, hb => by simp [D.flatTo] at hb
  | .lst ds, .lst es, n + 1, m + 1, ha, hb => by
    simp only [toPy, D.eqv, PyData.eqv]
    exact toPys_eqv ds es n m (by simpa [D.flatTo] using ha) (by simpa [D.flatTo] using hb)
  | .tup _, .non, _, _, _, _ | .tup _, .bl _, _, _, _, _ | .tup _, .int _, _, _, _, _ | .tup _, .str _, _, _, _, _ | .tup _, .lst _, _, _, _, _ => by simp [toPy, D.eqv, PyData.eqv]
  | .lst _, .non, _, _, _, _ | .lst _, .bl _, _, _, _, _ | .lst _, .int _, _, _, _, _ | .lst _, .str _, _, _, _, _ | .lst _, .tup _, _, _, _, _ => by simp [toPy, D.eqv, PyData.eqv]
  | .tup _, .ref _, _, _, _, hb | .lst _, .ref _, _, _, _, hb | .tup _, .scr _, _, _, _, hb | .lst _, .scr _, _, _, _, hb => by simp [D.flatTo] at hb
theorem toPys_eqv : ∀ (a b : List D) (n m : Nat), D.flatsTo a n = true → D.flatsTo b m = true → PyData.eqvAll (toPys a) (toPys b) = D.eqvs a b
  | [], [], _, _, _, _ => rfl
  | d :: ds, e :: es, n, m, ha, hb => by
    simp only [D.flatsTo, Bool.and_eq_true] at ha hb
    simp only [toPys, D.eqvs, PyData.eqvAll, toPy_eqv d e n m ha.1 hb.1, toPys_eqv ds es n m ha.2 hb.2]
  | [], _ :: _, _, _, _, _ => rfl
  | _ :: _, [], _, _, _, _ => rfl
end
mutual
theorem toPy_ok : ∀ (a : D) (n : Nat), a.flatTo n = true → (toPy a).canLay0 = true ∧ (toPy a).depth ≤ n
  | .non, _, _ => ⟨rfl, Nat.zero_le _⟩
  | .bl _, _, _ => ⟨rfl, Nat.zero_le _⟩
  | .int _, _, _ => ⟨rfl, Nat.zero_le _⟩
  | .str s, _, h => by
    refine ⟨?_, Nat.zero_le _⟩
    simp only [D.flatTo] at h
    show PyData.strOk ⟨s.toArray⟩ = true
    simp only [PyData.strOk, List.all_toArray, List.all_eq_true, decide_eq_true_eq] at h ⊢
    intro c hc
    have := h c hc
    omega
  | .ref _, _, h => by simp [D.flatTo] at h
  | .scr _, _, h => by simp [D.flatTo] at h
  | .tup ds, 0, h => by simp [D.flatTo] at h
  | .tup ds, n + 1, h => by
    have ih := toPys_ok ds n (by simpa [D.flatTo] using h)
    simp only [toPy, PyData.canLay0, PyData.depth]
    exact ⟨ih.1, Nat.succ_le_succ ih.2⟩
  | .lst ds, 0, h => by simp [D.flatTo] at h
  | .lst ds, n + 1, h => by
    have ih := toPys_ok ds n (by simpa [D.flatTo] using h)
    simp only [toPy, PyData.canLay0, PyData.depth]
    exact ⟨ih.1, Nat.succ_le_succ ih.2⟩
theorem toPys_ok : ∀ (a : List D) (n : Nat), D.flatsTo a n = true → PyData.canLayAll0 (toPys a) = true ∧ PyData.depthAll (toPys a) ≤ n
  | [], _, _ => ⟨rfl, Nat.zero_le _⟩
  | d :: ds, n, h => by
    simp only [D.flatsTo, Bool.and_eq_true] at h
    have h1 := toPy_ok d n h.1
    have h2 := toPys_ok ds n h.2
    simp only [toPys, PyData.canLayAll0, PyData.depthAll, h1.1, h2.1, Bool.and_self, true_and]
    exact Nat.max_le.mpr ⟨h1.2, h2.2⟩
end
theorem toPy_shaped {a : D} (h : a.flatTo 62 = true) : SeqAt.shaped (toPy a) = true := by
  have := toPy_ok a 62 h
  simp only [SeqAt.shaped, this.1, Bool.true_and, decide_eq_true_eq]
  omega
section
variable {K : Fg} {H : Hp} {π : List Addr} {M : AS}
mutual
theorem rep_dp : ∀ {v : V} {d : D} {n : Nat}, Rep K H π M v d → d.flatTo n = true → Dp K H v (toPy d)
  | _, .non, _, .non, _ => .non
  | _, .bl _, _, .bl b, _ => .bl b
  | _, .int _, _, .int i, _ => .int i
  | _, .str _, _, .str x, _ => by
    have : toPy (.str x.cps.toList) = .str x := by simp [toPy]
    rw [this]
    exact .str x
  | _, .tup ds, 0, .tup _ _, h => by simp [D.flatTo] at h
  | _, .tup ds, n + 1, .tup a b, h => .tup a (reps_dp b (by simpa [D.flatTo] using h))
  | _, .lst ds, 0, .lst _ _ _, h => by simp [D.flatTo] at h
  | _, .lst ds, n + 1, .lst a _ b, h => .lst (Rd.sql a) (reps_dp b (by simpa [D.flatTo] using h))
  | _, .ref _, _, .ref _, h => by simp [D.flatTo] at h
  | _, .scr _, _, .scr _, h => by simp [D.flatTo] at h
theorem reps_dp : ∀ {v : List V} {d : List D} {n : Nat}, Reps K H π M v d → D.flatsTo d n = true → DpAll K H v (toPys d)
  | _, [], _, .nil, _ => .nil
  | _, d :: ds, n, .cons a b, h => by
    simp only [D.flatsTo, Bool.and_eq_true] at h
    exact .cons (rep_dp a h.1) (reps_dp b h.2)
end
theorem flat_inv {v : V} {d : D} (h : Rep K H π M v d) (hf : d.flat = true) : flatV v = true := by
  cases h <;> first | rfl | (simp [D.flat] at hf)
theorem flats_inv : ∀ {vs : List V} {ds : List D}, Reps K H π M vs ds → ds.all D.flat = true → vs.all flatV = true
  | _, _, .nil, _ => rfl
  | _, _, .cons h hs, hf => by
    simp only [List.all_cons, Bool.and_eq_true] at hf ⊢
    exact ⟨flat_inv h hf.1, flats_inv hs hf.2⟩
theorem eqV_eqv {v w : V} {d e : D} (h : Rep K H π M v d) (g : Rep K H π M w e) (hf : d.flat = true) (hg : e.flat = true) : eqV v w = d.eqv e := by
  cases h <;> cases g <;> first | rfl | (simp [D.flat] at hf hg) | skip
  rename_i x y
  show (x == y) = (x.cps.toList == y.cps.toList)
  rw [Bool.eq_iff_iff]
  simp only [beq_iff_eq]
  exact ⟨fun e => by rw [e], str_ext⟩
theorem inV_any : ∀ {vs : List V} {ds : List D} {w : V} {e : D}, Reps K H π M vs ds → Rep K H π M w e → ds.all D.flat = true → e.flat = true → inV w vs = ds.any fun d => d.eqv e
  | _, _, _, _, .nil, _, _, _ => rfl
  | _, _, w, e, .cons h hs, g, hf, hg => by
    simp only [List.all_cons, Bool.and_eq_true] at hf
    have ih := inV_any hs g hf.2 hg
    unfold inV at ih ⊢
    rw [List.any_cons, List.any_cons, ih, eqV_eqv h g hf.1 hg]
end
theorem dp_ints {K : Fg} {H : Hp} : ∀ ns : List Int, DpAll K H (ns.map V.int) (ns.map PyData.int)
  | [] => .nil
  | n :: ns => .cons (.int n) (dp_ints ns)
theorem lay_ints : ∀ ns : List Int, PyData.canLayAll0 (ns.map PyData.int) = true ∧ PyData.depthAll (ns.map PyData.int) = 0
  | [] => ⟨rfl, rfl⟩
  | n :: ns => by
    have h := lay_ints ns
    simp only [List.map_cons, PyData.canLayAll0, PyData.canLay0, PyData.depthAll, PyData.depth, h.1, h.2, Bool.and_self, Nat.max_self, and_self]
theorem eqv_nil : ∀ ns : List Int, PyData.eqv (.list (ns.map PyData.int)) (.list []) = ns.isEmpty
  | [] => by simp [PyData.eqv, PyData.eqvAll]
  | _ :: _ => by simp [PyData.eqv, PyData.eqvAll]
section
variable {X : Cx}
theorem any_deep {K : Fg} {H : Hp} {π : List Addr} {M : AS} : ∀ {ds : List D} {a : D} {n m : Nat}, D.flatsTo ds n = true → a.flatTo m = true → ((toPys ds).any fun z => PyData.eqv z (toPy a)) = ds.any fun d => d.eqv a
  | [], _, _, _, _, _ => rfl
  | d :: ds, a, n, m, h, ha => by
    simp only [D.flatsTo, Bool.and_eq_true] at h
    simp only [toPys, List.any_cons, toPy_eqv d a n m h.1 ha, any_deep (K := K) (H := H) (π := π) (M := M) h.2 ha]
theorem cmp_val {op : CmpOp} {dx dy : D} {c : Bool} (hu2 : X.A.units + 65 < cLine) (e : cmpD op dx dy = some c) : ∃ rl : R2, OpR X (compareOp op) rl ∧ ∀ (H : Hp) (π : List Addr) (M : AS) (x y : V),
    Rep X.K H π M x dx → Rep X.K H π M y dy → ∀ Q : VK, Q (.bl c) H → rl x y H Q := by
  have hu : X.A.units + 64 < cLine := by omega
  unfold cmpD at e
  split at e
  · cases e
    refine ⟨_, op_eq, fun H π M x y hx hy Q q => ?_⟩
    obtain ⟨a, rfl, rfl⟩ := hx.str_inv
    obtain ⟨b, rfl, rfl⟩ := hy.str_inv
    refine ⟨rfl, ?_⟩
    have : decide (V.str a = V.str b) = decide (a.cps.toList = b.cps.toList) := decide_eq_decide.mpr ⟨fun z => by cases z; rfl, fun z => by rw [str_ext z]⟩
    rw [this]
    exact q
  · cases e
    refine ⟨_, op_ne, fun H π M x y hx hy Q q => ?_⟩
    obtain ⟨a, rfl, rfl⟩ := hx.str_inv
    obtain ⟨b, rfl, rfl⟩ := hy.str_inv
    refine ⟨rfl, ?_⟩
    have : decide (V.str a = V.str b) = decide (a.cps.toList = b.cps.toList) := decide_eq_decide.mpr ⟨fun z => by cases z; rfl, fun z => by rw [str_ext z]⟩
    rw [this]
    exact q
  · cases e
    rename_i ns
    refine ⟨_, op_neD hu, fun H π M x y hx hy Q q => ?_⟩
    obtain ⟨a, rfl, h1⟩ := hx.scr_inv
    obtain ⟨b, ws, rfl, g1, _, g3⟩ := hy.lst_inv
    cases g3
    have h := lay_ints ns
    refine ⟨.list (ns.map .int), .list [], .lst h1.sql (dp_ints ns), .lst (Rd.sql g1) .nil, ?_, by decide, ?_⟩
    · simp only [SeqAt.shaped, PyData.canLay0, PyData.depth, h.1, h.2]
      decide
    · rw [eqv_nil]
      exact q
  · split at e
    · cases e
      rename_i h
      rw [Bool.and_eq_true] at h
      refine ⟨_, op_eqD hu, fun H π M x y hx hy Q q => ⟨_, _, rep_dp hx h.1, rep_dp hy h.2, toPy_shaped h.1, toPy_shaped h.2, ?_⟩⟩
      rw [toPy_eqv _ _ _ _ h.1 h.2]
      exact q
    · cases e
  · split at e
    · cases e
      rename_i h
      rw [Bool.and_eq_true] at h
      refine ⟨_, op_neD hu, fun H π M x y hx hy Q q => ⟨_, _, rep_dp hx h.1, rep_dp hy h.2, toPy_shaped h.1, toPy_shaped h.2, ?_⟩⟩
      rw [toPy_eqv _ _ _ _ h.1 h.2]
      exact q
    · cases e
  · cases e
    exact ⟨_, op_lt, fun H π M x y hx hy Q q => ⟨_, _, hx.int_inv, hy.int_inv, q⟩⟩
  · cases e
    exact ⟨_, op_le, fun H π M x y hx hy Q q => ⟨_, _, hx.int_inv, hy.int_inv, q⟩⟩
  · cases e
    exact ⟨_, op_gt, fun H π M x y hx hy Q q => ⟨_, _, hx.int_inv, hy.int_inv, q⟩⟩
  · cases e
    exact ⟨_, op_ge, fun H π M x y hx hy Q q => ⟨_, _, hx.int_inv, hy.int_inv, q⟩⟩
  · split at e
    · cases e
      rename_i h
      rw [Bool.and_eq_true] at h
      refine ⟨_, op_in_seq, fun H π M x y hx hy Q q => ?_⟩
      obtain ⟨a, vs, rfl, h1, _, h3⟩ := hy.lst_inv
      refine ⟨a, vs, rfl, .inl (Rd.sql h1), flat_inv hx h.1, flats_inv h3 h.2, ?_⟩
      rw [inV_any h3 hx h.2 h.1]
      exact q
    · split at e
      · cases e
        rename_i ds _ h
        rw [Bool.and_eq_true] at h
        have hl : (D.lst ds).flatTo 62 = true := by simpa [D.flatTo] using h.2
        refine ⟨_, op_inD hu2, fun H π M x y hx hy Q q => ⟨_, toPys ds, rep_dp hx h.1, rep_dp hy hl, toPy_shaped h.1, toPy_shaped hl, ?_⟩⟩
        rw [any_deep (K := X.K) (H := H) (π := π) (M := M) h.2 h.1]
        exact q
      · cases e
  · split at e
    · cases e
      rename_i h
      rw [Bool.and_eq_true] at h
      refine ⟨_, op_in_seq, fun H π M x y hx hy Q q => ?_⟩
      obtain ⟨a, vs, rfl, h1, h3⟩ := hy.tup_inv
      refine ⟨a, vs, rfl, .inr h1, flat_inv hx h.1, flats_inv h3 h.2, ?_⟩
      rw [inV_any h3 hx h.2 h.1]
      exact q
    · cases e
  · cases e
    rename_i c0 t0
    refine ⟨_, op_in_sign, fun H π M x y hx hy Q q => ?_⟩
    obtain ⟨a, rfl, ha⟩ := hx.str_inv
    obtain ⟨b, rfl, rfl⟩ := hy.str_inv
    have : a = ⟨#[c0]⟩ := str_ext ha
    subst this
    exact ⟨c0, b, rfl, rfl, q⟩
  · split at e
    · cases e
      rename_i h
      rw [Bool.and_eq_true] at h
      refine ⟨_, op_notIn_seq, fun H π M x y hx hy Q q => ?_⟩
      obtain ⟨a, vs, rfl, h1, _, h3⟩ := hy.lst_inv
      refine ⟨a, vs, rfl, .inl (Rd.sql h1), flat_inv hx h.1, flats_inv h3 h.2, ?_⟩
      rw [inV_any h3 hx h.2 h.1]
      exact q
    · cases e
  · split at e
    · cases e
      rename_i h
      rw [Bool.and_eq_true] at h
      refine ⟨_, op_notIn_seq, fun H π M x y hx hy Q q => ?_⟩
      obtain ⟨a, vs, rfl, h1, h3⟩ := hy.tup_inv
      refine ⟨a, vs, rfl, .inr h1, flat_inv hx h.1, flats_inv h3 h.2, ?_⟩
      rw [inV_any h3 hx h.2 h.1]
      exact q
    · cases e
  · cases e
    rename_i c0 t0
    refine ⟨_, op_notIn_sign, fun H π M x y hx hy Q q => ?_⟩
    obtain ⟨a, rfl, ha⟩ := hx.str_inv
    obtain ⟨b, rfl, rfl⟩ := hy.str_inv
    have : a = ⟨#[c0]⟩ := str_ext ha
    subst this
    exact ⟨c0, b, rfl, rfl, q⟩
  · cases e
    exact ⟨_, op_isBl, fun H π M x y hx hy Q q => ⟨_, _, hx.bl_inv, hy.bl_inv, q⟩⟩
  · cases e
    exact ⟨_, op_notBl, fun H π M x y hx hy Q q => ⟨_, _, hx.bl_inv, hy.bl_inv, q⟩⟩
  · cases e
    refine ⟨_, op_isN, fun H π M x y hx hy Q q => ⟨hy.non_inv, ?_⟩⟩
    have : decide (x = V.non) = decide (dx = D.non) := decide_eq_decide.mpr ⟨fun z => by subst z; cases hx; rfl, fun z => by subst z; exact hx.non_inv⟩
    rw [this]
    exact q
  · cases e
    refine ⟨_, op_notN, fun H π M x y hx hy Q q => ⟨hy.non_inv, ?_⟩⟩
    have : decide (x = V.non) = decide (dx = D.non) := decide_eq_decide.mpr ⟨fun z => by subst z; cases hx; rfl, fun z => by subst z; exact hx.non_inv⟩
    rw [this]
    exact q
  · cases e
end
end Ht

set_option Elab.async false
set_option linter.all false
set_option maxRecDepth 100000
set_option maxHeartbeats 1000000
/-! ### soundness: subscripts, slices, built-in calls on values -/
namespace Ht
open PySem L2
theorem ixN_eq (n : Nat) (i : Int) : Ht.ixN n i = L2.ixN n i := rfl
section
variable {K : Fg} {H : Hp} {π : List Addr} {M : AS}
theorem Reps.atI {vs : List V} {ds : List D} {i : Int} {d : D} (h : Reps K H π M vs ds) (e : ((Ht.ixN ds.length i).bind fun k => ds[k]?) = some d) : ∃ v, L2.atI vs i = some v ∧ Rep K H π M v d := by
  unfold L2.atI
  rw [h.length, ← ixN_eq]
  cases hk : Ht.ixN ds.length i with
  | none => rw [hk] at e; cases e
  | some k =>
    rw [hk] at e
    exact h.get e
end
section
variable {X : Cx}
theorem idx_val {dx dy d : D} (e : idxD dx dy = some d) : ∃ rl : R2, IxR X rl ∧ ∀ (H : Hp) (π : List Addr) (M : AS) (x y : V), Rep X.K H π M x dx → Rep X.K H π M y dy → ∃ v, Rep X.K H π M v d ∧ ∀ Q : VK, Q v H → rl x y H Q := by
  unfold idxD at e
  split at e
  · refine ⟨_, ix_list, fun H π M x y hx hy => ?_⟩
    obtain ⟨a, vs, rfl, h1, _, h3⟩ := hx.lst_inv
    obtain ⟨v, hv, hr⟩ := h3.atI e
    exact ⟨v, hr, fun Q q => ⟨a, vs, _, v, rfl, hy.int_inv, Rd.sql h1, hv, q⟩⟩
  · refine ⟨_, ix_tup, fun H π M x y hx hy => ?_⟩
    obtain ⟨a, vs, rfl, h1, h3⟩ := hx.tup_inv
    obtain ⟨v, hv, hr⟩ := h3.atI e
    exact ⟨v, hr, fun Q q => ⟨a, vs, _, v, rfl, hy.int_inv, h1, hv, q⟩⟩
  · rename_i ns i
    refine ⟨_, ix_list, fun H π M x y hx hy => ?_⟩
    obtain ⟨a, rfl, h1⟩ := hx.scr_inv
    cases hk : Ht.ixN ns.length i with
    | none => rw [hk] at e; cases e
    | some k =>
      rw [hk] at e
      simp only [Option.bind_some, Option.map_eq_some_iff] at e
      obtain ⟨n, hn, rfl⟩ := e
      refine ⟨.int n, .int n, fun Q q => ⟨a, ns.map V.int, i, .int n, rfl, hy.int_inv, h1.sql, ?_, q⟩⟩
      unfold L2.atI
      rw [List.length_map, ← ixN_eq, hk]
      show (ns.map V.int)[k]? = _
      rw [List.getElem?_map, hn]
      rfl
  · split at e
    · rename_i s i hl
      refine ⟨_, ix_str, fun H π M x y hx hy => ?_⟩
      obtain ⟨z, rfl, rfl⟩ := hx.str_inv
      rw [str_length] at hl
      cases hk : Ht.ixN z.cps.toList.length i with
      | none => rw [hk] at e; cases e
      | some k =>
        rw [hk] at e
        simp only [Option.bind_some, Option.map_eq_some_iff] at e
        obtain ⟨c, hc, rfl⟩ := e
        refine ⟨.str ⟨#[c]⟩, .str ⟨#[c]⟩, fun Q q => ⟨z, i, c, rfl, hy.int_inv, hl, ?_, q⟩⟩
        unfold L2.atI
        rw [← ixN_eq, hk]
        exact hc
    · cases e
  · cases e
theorem len_val {dx d : D} (e : lenD dx = some d) : ∃ rl : List V → Hp → VK → Prop, CallR X (.builtin "len") rl ∧ ∀ (H : Hp) (π : List Addr) (M : AS) (x : V), Rep X.K H π M x dx → ∃ v, Rep X.K H π M v d ∧ ∀ Q : VK, Q v H → rl [x] H Q := by
  unfold lenD at e
  split at e
  · cases e
    refine ⟨_, call_len_seq, fun H π M x hx => ?_⟩
    obtain ⟨a, vs, rfl, h1, _, h3⟩ := hx.lst_inv
    refine ⟨.int vs.length, by rw [h3.length]; exact .int _, fun Q q => ⟨a, vs, rfl, .inl (Rd.sql h1), q⟩⟩
  · cases e
    refine ⟨_, call_len_seq, fun H π M x hx => ?_⟩
    obtain ⟨a, vs, rfl, h1, h3⟩ := hx.tup_inv
    refine ⟨.int vs.length, by rw [h3.length]; exact .int _, fun Q q => ⟨a, vs, rfl, .inr h1, q⟩⟩
  · cases e
    rename_i ns
    refine ⟨_, call_len_seq, fun H π M x hx => ?_⟩
    obtain ⟨a, rfl, h1⟩ := hx.scr_inv
    refine ⟨.int (ns.map V.int).length, by rw [List.length_map]; exact .int _, fun Q q => ⟨a, _, rfl, .inl h1.sql, q⟩⟩
  · split at e
    · cases e
      rename_i s hl
      refine ⟨_, call_len_str, fun H π M x hx => ?_⟩
      obtain ⟨z, rfl, rfl⟩ := hx.str_inv
      rw [str_length] at hl
      exact ⟨.int z.length, by rw [str_length]; exact .int _, fun Q q => ⟨z, rfl, hl, q⟩⟩
    · cases e
  · cases e
theorem abs_val {dx d : D} (e : absD dx = some d) : ∀ (H : Hp) (π : List Addr) (M : AS) (x : V), Rep X.K H π M x dx → ∃ v, Rep X.K H π M v d ∧ ∀ Q : VK, Q v H → (fun xs H Q => ∃ i, xs = [.int i] ∧ Q (.int (if i < 0 then -i else i)) H : List V → Hp → VK → Prop) [x] H Q := by
  unfold absD at e
  split at e
  · cases e
    intro H π M x hx
    exact ⟨_, .int _, fun Q q => ⟨_, by rw [hx.int_inv], q⟩⟩
  · cases e
theorem max2_val {dx dy d : D} (e : max2D dx dy = some d) : ∀ (H : Hp) (π : List Addr) (M : AS) (x y : V), Rep X.K H π M x dx → Rep X.K H π M y dy → ∃ v, Rep X.K H π M v d ∧ ∀ Q : VK, Q v H → (fun xs H Q => ∃ i j, xs = [.int i, .int j] ∧ Q (.int (if j > i then j else i)) H : List V → Hp → VK → Prop) [x, y] H Q := by
  unfold max2D at e
  split at e
  · cases e
    intro H π M x y hx hy
    exact ⟨_, .int _, fun Q q => ⟨_, _, by rw [hx.int_inv, hy.int_inv], q⟩⟩
  · cases e
theorem min2_val {dx dy d : D} (e : min2D dx dy = some d) : ∀ (H : Hp) (π : List Addr) (M : AS) (x y : V), Rep X.K H π M x dx → Rep X.K H π M y dy → ∃ v, Rep X.K H π M v d ∧ ∀ Q : VK, Q v H → (fun xs H Q => ∃ i j, xs = [.int i, .int j] ∧ Q (.int (if j < i then j else i)) H : List V → Hp → VK → Prop) [x, y] H Q := by
  unfold min2D at e
  split at e
  · cases e
    intro H π M x y hx hy
    exact ⟨_, .int _, fun Q q => ⟨_, _, by rw [hx.int_inv, hy.int_inv], q⟩⟩
  · cases e
theorem foldl_max : ∀ (r : List Int) (i m : Int), m ∈ i :: r → (∀ y ∈ i :: r, y ≤ m) → r.foldl (fun a b => if b > a then b else a) i = m
  | [], i, m, h, _ => by simp at h; simp [h]
  | j :: r, i, m, h, g => by
    rw [List.foldl_cons]
    have hi := g i (by simp)
    have hj := g j (by simp)
    refine foldl_max r _ m ?_ fun y hy => ?_
    · simp only [List.mem_cons] at h ⊢
      by_cases c : j > i
      · rw [if_pos c]
        rcases h with h | h | h
        · exact .inl (by omega)
        · exact .inl h
        · exact .inr h
      · rw [if_neg c]
        rcases h with h | h | h
        · exact .inl h
        · exact .inl (by omega)
        · exact .inr h
    · rcases List.mem_cons.mp hy with h | h
      · subst h
        split <;> assumption
      · exact g y (by simp [h])
theorem maxl_val {dx d : D} (e : maxlD dx = some d) : ∀ (H : Hp) (π : List Addr) (M : AS) (x : V), Rep X.K H π M x dx → ∃ v, Rep X.K H π M v d ∧ ∀ Q : VK, Q v H → rMax X.K [x] H Q := by
  unfold maxlD at e
  split at e
  · split at e
    · cases e
      rename_i ds i r hi
      intro H π M x hx
      obtain ⟨a, vs, rfl, h1, _, h3⟩ := hx.lst_inv
      have := h3.ints_inv hi
      subst this
      exact ⟨_, .int _, fun Q q => ⟨a, i :: r, rfl, Rd.sql h1, by simp, fun m hm hy => by
        rw [foldl_max r i m hm hy] at q
        exact q⟩⟩
    · cases e
  · cases e
theorem any_val {dx d : D} (e : anyD dx = some d) : ∀ (H : Hp) (π : List Addr) (M : AS) (x : V), Rep X.K H π M x dx → ∃ v, Rep X.K H π M v d ∧ ∀ Q : VK, Q v H → rAny X.K [x] H Q := by
  unfold anyD at e
  split at e
  · simp only [Option.map_eq_some_iff] at e
    obtain ⟨bs, hb, rfl⟩ := e
    intro H π M x hx
    obtain ⟨a, vs, rfl, h1, _, h3⟩ := hx.lst_inv
    have := h3.bools_inv hb
    subst this
    exact ⟨_, .bl _, fun Q q => ⟨a, bs, rfl, Rd.sql h1, q⟩⟩
  · cases e
theorem all_val {dx d : D} (e : allD dx = some d) : ∀ (H : Hp) (π : List Addr) (M : AS) (x : V), Rep X.K H π M x dx → ∃ v, Rep X.K H π M v d ∧ ∀ Q : VK, Q v H → rAll X.K [x] H Q := by
  unfold allD at e
  split at e
  · simp only [Option.map_eq_some_iff] at e
    obtain ⟨bs, hb, rfl⟩ := e
    intro H π M x hx
    obtain ⟨a, vs, rfl, h1, _, h3⟩ := hx.lst_inv
    have := h3.bools_inv hb
    subst this
    exact ⟨_, .bl _, fun Q q => ⟨a, bs, rfl, Rd.sql h1, q⟩⟩
  · cases e
theorem list_val {dx : D} {ds : List D} (e : listD dx = some ds) : ∀ (H : Hp) (π : List Addr) (M : AS) (x : V), Rep X.K H π M x dx → ∃ a vs, x = .ref a ∧ (SqL X.K H a vs ∨ SqT X.K H a vs) ∧ Reps X.K H π M vs ds := by
  unfold listD at e
  split at e
  · cases e
    intro H π M x hx
    obtain ⟨a, vs, rfl, h1, _, h3⟩ := hx.lst_inv
    exact ⟨a, vs, rfl, .inl (Rd.sql h1), h3⟩
  · cases e
    intro H π M x hx
    obtain ⟨a, vs, rfl, h1, h3⟩ := hx.tup_inv
    exact ⟨a, vs, rfl, .inr h1, h3⟩
  · cases e
/-! sorting -/
theorem insI_perm (i : Int) : ∀ r : List Int, (insI i r).Perm (i :: r)
  | [] => .refl _
  | j :: r => by
    unfold insI
    split
    · exact .refl _
    · exact ((insI_perm i r).cons j).trans (.swap i j r)
theorem sortI_perm : ∀ r : List Int, (sortI r).Perm r
  | [] => .refl _
  | i :: r => (insI_perm i _).trans ((sortI_perm r).cons i)
theorem insI_sorted (i : Int) : ∀ r : List Int, r.Pairwise (· ≤ ·) → (insI i r).Pairwise (· ≤ ·)
  | [], _ => by simp [insI]
  | j :: r, h => by
    unfold insI
    split
    · rename_i hij
      refine List.pairwise_cons.mpr ⟨fun y hy => ?_, h⟩
      rcases List.mem_cons.mp hy with e | hy
      · subst e
        exact hij
      · exact Int.le_trans hij (List.rel_of_pairwise_cons h hy)
    · rename_i hij
      refine List.pairwise_cons.mpr ⟨fun y hy => ?_, insI_sorted i r h.of_cons⟩
      rcases List.mem_cons.mp ((insI_perm i r).mem_iff.mp hy) with e | hy
      · subst e
        omega
      · exact List.rel_of_pairwise_cons h hy
theorem sortI_sorted : ∀ r : List Int, (sortI r).Pairwise (· ≤ ·)
  | [] => .nil
  | i :: r => insI_sorted i _ (sortI_sorted r)
theorem sorted_one {xs ys : List Int} (h : xs.Perm ys) (hx : xs.Pairwise (· ≤ ·)) (hy : ys.Pairwise (· ≤ ·)) : xs = ys :=
  List.Perm.eq_of_pairwise (le := (· ≤ ·)) (fun a b _ _ h1 h2 => Int.le_antisymm h1 h2) hx hy h
theorem sorted_val {dx : D} {ds : List D} (e : sortedD dx = some ds) : ∀ (H : Hp) (π : List Addr) (M : AS) (x : V), Rep X.K H π M x dx → ∃ vs, Reps X.K H π M vs ds ∧ ∀ Q : VK, (∀ p, H p = none → Q (.ref p) (upd H p (.lst vs))) → rSortedI X.K [x] H Q := by
  unfold sortedD at e
  split at e
  · simp only [Option.map_eq_some_iff] at e
    obtain ⟨is, hi, rfl⟩ := e
    intro H π M x hx
    obtain ⟨a, vs, rfl, h1, _, h3⟩ := hx.lst_inv
    have := h3.ints_inv hi
    subst this
    refine ⟨(sortI is).map V.int, reps_ints _, fun Q q => ⟨a, is, rfl, Rd.sql h1, fun ns' p hp hs hn => ?_⟩⟩
    have := sorted_one (hp.trans (sortI_perm is).symm) hs (sortI_sorted is)
    subst this
    exact q p hn
  · cases e
theorem str_digit : ∀ i : Int, 0 ≤ i → i ≤ 9 → (Str.ofString (toString i)).cps.toList = [48 + i.toNat] := by
  intro i h0 h9
  have : i = 0 ∨ i = 1 ∨ i = 2 ∨ i = 3 ∨ i = 4 ∨ i = 5 ∨ i = 6 ∨ i = 7 ∨ i = 8 ∨ i = 9 := by omega
  rcases this with h | h | h | h | h | h | h | h | h | h <;> subst h <;> decide +kernel
theorem str_val {dx d : D} (e : strD dx = some d) : ∀ (H : Hp) (π : List Addr) (M : AS) (x : V), Rep X.K H π M x dx → ∃ v, Rep X.K H π M v d ∧ ∀ Q : VK, Q v H → (fun xs H Q => ∃ i : Int, xs = [.int i] ∧ i.natAbs.log2 < 1920 ∧ Q (.str (toString i)) H : List V → Hp → VK → Prop) [x] H Q := by
  unfold strD at e
  split at e
  · split at e
    · cases e
      rename_i i hi
      intro H π M x hx
      refine ⟨.str (Str.ofString (toString i)), ?_, fun Q q => ⟨i, by rw [hx.int_inv], ?_, q⟩⟩
      · rw [← str_digit i hi.1 hi.2]
        exact .str _
      · have : i.natAbs.log2 ≤ i.natAbs := Nat.log2_le_self _
        omega
    · cases e
  · cases e
/-! slices -/
theorem cutV_eq {K : Fg} {H : Hp} {π : List Addr} {M : AS} {vs : List V} {ds : List D} (h : Reps K H π M vs ds) (lo hi : Option Int) : Reps K H π M (cutV vs lo hi) (cutL ds lo hi) := by
  unfold cutV cutL
  rw [h.length]
  have e : ∀ n d o, HT.sIx n d o = cutN n d o := fun n d o => by cases o <;> rfl
  rw [e, e]
  exact (h.drop _).take _
theorem slc_val {dx : D} {l h : Option Int} {r : Rv} (e : slcD dx l h = some r) : ∃ rl : V → Option Int → Option Int → Hp → VK → Prop, SlR X rl ∧ ∀ (H0 : Hp) (F : AS) (ρ : Env) (S : Store) (σ : L2.St) (H : Hp) (π : List Addr) (lo : Nat → Addr) (lf : Nat → Str → Addr) (x : V),
    Sim X.K H0 F ρ S σ H π lo lf → Rep X.K H π (Mt F ρ S π lo lf) x dx → ValOk X.K H0 F ρ S σ H π lo lf r (rl x l h H) := by
  unfold slcD at e
  split at e
  · cases e
    refine ⟨_, sl_list, fun H0 F ρ S σ H π lo lf x s hx => ?_⟩
    obtain ⟨a, vs, rfl, h1, _, h3⟩ := hx.lst_inv
    exact val_lst s (cutV_eq h3 l h) fun Q q => ⟨a, vs, rfl, Rd.sql h1, q⟩
  · cases e
    rename_i ds lo0 hi0
    refine ⟨_, sl_tupA, fun H0 F ρ S σ H π lo lf x s hx => ?_⟩
    obtain ⟨a, vs, rfl, h1, h3⟩ := hx.tup_inv
    by_cases c : HT.sIx vs.length 0 l = 0 ∧ HT.sIx vs.length vs.length h = vs.length
    · refine val_pure (z := .ref a) s ?_ fun Q q => ⟨a, vs, rfl, h1, fun _ => q, fun n => absurd c n⟩
      refine .tup h1 ?_
      have hc := cutV_eq h3 l h
      have : cutV vs l h = vs := by
        unfold cutV
        rw [c.1, c.2]
        simp
      rw [this] at hc
      exact hc
    · exact val_tup s (cutV_eq h3 l h) fun Q q => ⟨a, vs, rfl, h1, fun z => absurd z c, fun _ => q⟩
  · split at e
    · cases e
      rename_i s0 lo0 hi0 hl
      refine ⟨_, sl_str, fun H0 F ρ S σ H π lo lf x s hx => ?_⟩
      obtain ⟨z, rfl, rfl⟩ := hx.str_inv
      rw [str_length] at hl
      refine val_pure (z := .str (cutS z l h)) s ?_ fun Q q => ⟨z, rfl, hl, q⟩
      have : cutL z.cps.toList l h = (cutS z l h).cps.toList := by
        unfold cutL cutS
        have e : ∀ n d o, HT.sIx n d o = cutN n d o := fun n d o => by cases o <;> rfl
        simp [e]
        rfl
      rw [this]
      exact .str _
    · cases e
  · cases e
end
end Ht

set_option Elab.async false
set_option linter.all false
set_option maxRecDepth 100000
set_option maxHeartbeats 1000000
/-! ### soundness: expressions -/
namespace Ht
open PySem L2

/-! the greatest readings -/
def MxE (X : Cx) (e : Expr) : TE := fun σ H Q => ∃ t, PE X e t ∧ t σ H Q
def MxT (X : Cx) (e : Expr) : TT := fun σ H Q => ∃ t, PT X e t ∧ t σ H Q
def MxA (X : Cx) (es : List Expr) : TA := fun σ H Q => ∃ t, PA X es t ∧ t σ H Q
def MxO (X : Cx) (e : Option Expr) : TO := fun σ H Q => ∃ t, PO X e t ∧ t σ H Q
def MxI (X : Cx) (tg it : Expr) : TI := fun σ H R => ∃ t, PI X tg it t ∧ t σ H R
theorem mxE (X : Cx) (e : Expr) : PE X e (MxE X e) := ⟨fun pins s σ H Q I ⟨t, h, q⟩ => h.run pins s σ H Q I q⟩
theorem mxT (X : Cx) (e : Expr) : PT X e (MxT X e) := ⟨fun pins s σ H Q I ⟨t, h, q⟩ => h.run pins s σ H Q I q⟩
theorem mxA (X : Cx) (e : List Expr) : PA X e (MxA X e) := ⟨fun pos pins s σ H Q I ⟨t, h, q⟩ => h.run pos pins s σ H Q I q⟩
theorem mxO (X : Cx) (e : Option Expr) : PO X e (MxO X e) := ⟨fun pins s σ H Q I ⟨t, h, q⟩ => h.run pins s σ H Q I q⟩
theorem mxI (X : Cx) (tg it : Expr) : PI X tg it (MxI X tg it) := ⟨fun pins s σ H R I ⟨t, h, q⟩ => h.run pins s σ H R I q⟩

/-- a class of exceptions of the program -/
structure XClsAt (K : Fg) (c : Str) (C : Addr) : Prop where
  at_ : PySem.W.nsIn K mainGlobals c = some (some (.ref C))
  is : ExcC K C
  ty : PySem.W.typeIn K (.ref C) = some (.type "type")
  kp : PySem.W.keepIn K (.ref C) = true
  ve : PySem.W.kitCls K (.ref C) (.type "ValueError") = some true
/-- an exception as it flies -/
def ExcOk (K : Fg) (xc : Str → Option Nat) (x : Xn) (cls : Value) (d : Option Addr) (H : Hp) : Prop := xc x.cls ≠ none ∧ (∃ C, cls = .ref C ∧ XClsAt K x.cls C) ∧ match x.fld with
  | none => d = none
  | some i => ∃ dx, d = some dx ∧ H dx = some (.xd [(("at" : Str), .int i)])
/-- where a call's end leads -/
def ResTo (K : Fg) (xc : Str → Option Nat) (F : AS) (S : Store) (H : Hp) (π : List Addr) (lf : Nat → Str → Addr) (Q : VK) (E : XK) : Res → Prop
  | .ok r S' => ∀ v H' π' lf', Ext K F H π (Mt F [] S π (fun _ => 0) lf) H' π' (Mt F [] S' π' (fun _ => 0) lf') → RvOk K H H F [] S' [] H' π' (fun _ => 0) lf' v r → Q v H'
  | .exc x S' => ∀ cls d H' π' lf', Ext K F H π (Mt F [] S π (fun _ => 0) lf) H' π' (Mt F [] S' π' (fun _ => 0) lf') → Sim K H F [] S' [] H' π' (fun _ => 0) lf' → ExcOk K xc x cls d H' → E cls d H'
  | .bad => False
/-- what a call promises, by the evaluator -/
def spG (K : Fg) (xc : Str → Option Nat) (g : List D → Store → Res) (np : Nat) : Sp := fun vs H Q E => ∃ F S ds π lf, vs.length = np ∧ Sim K H F [] S [] H π (fun _ => 0) lf ∧ Reps K H π (Mt F [] S π (fun _ => 0) lf) vs ds ∧ ResTo K xc F S H π lf Q E (g ds S)
def spC (K : Fg) (xc : Str → Option Nat) (cf : Str → List D → Store → Res) (np : Nat) (f : Str) : Sp := spG K xc (cf f) np
abbrev CXN := L2N.CX

def bltNames : List Str := ["len", "abs", "max", "min", "any", "all", "sorted", "str", "isinstance", "list", "range", "enumerate", "reversed", "int", "bool", "tuple"]
/-- the context of a def's body that is served: also within an except suite -/
structure CokB (X : Cx) (Γ : Ctx) : Prop where
  nd : X.N.Nodup
  hu : X.A.units + 64 < cLine
  blt : ∀ x ∈ bltNames, X.mg x = none
  unk : Γ.gl "?" = none
  hu2 : X.A.units + 65 < cLine
  dc : ∀ x kvs, Γ.dc x = some kvs → ∃ (a : Addr) (es : Array DictEntry) (n : Nat), X.mg x = some (.ref a) ∧ KDict X.K X.w a es n ∧ ∀ z : Str, ∃ r, PySem.W.nsIn X.K a z = some r ∧ (match dlk kvs z.cps.toList with
    | some d => ∃ u v, r = some u ∧ RelV v u ∧ ∀ H π M, Rep X.K H π M v d
    | none => r = none)
  gl : ∀ x d, Γ.gl x = some d → ∃ u v, X.mg x = some u ∧ RelV v u ∧ ∀ H π M, Rep X.K H π M v d
  xc : ∀ c k, Γ.xc c = some k → ∃ C, XClsAt X.K c C ∧ X.mg c = some (.ref C) ∧ (k = 1 → PySem.W.excIn X.K C PySem.HandSPX.veTail "ValueError.__new__" = true) ∧ (k = 2 → ∃ qn g, HtY.AtTxt X.K qn C g)
  xp : ∀ c C c' C', Γ.xc c ≠ none → Γ.xc c' ≠ none → XClsAt X.K c C → XClsAt X.K c' C' → PySem.W.kitCls X.K (.ref C) (.ref C') = some (excSub c c')
  xv : X.mg "ValueError" = none
  hf : ∀ f, Γ.hf f = true → ∃ fa, X.mg f = some (.ref fa) ∧ PySem.W.keepIn X.K (.ref fa) = true
  hm : ∀ c m, Γ.hm c m = true → ∃ C fa, ClsAt X.K c C ∧ Meth X.K C m fa ∧ X.mg c = some (.ref C) ∧ (m = "__init__" → Mk X.K C fa)
structure Cok (X : Cx) (Γ : Ctx) : Prop extends CokB X Γ where
  calm : X.calm = true
  cf : ∀ f ds S, Γ.cf f ds S ≠ .bad → ∃ (k : Nat) (fa : Addr) (fd : FuncData) (ps : List Str), FnOk X.prog X.w X.K X.mg X.base (CXN X.prog X.w) k fa fd ps (spC X.K Γ.xc Γ.cf ds.length f) ∧ Room k X.A ∧ X.mg f = some (.ref fa) ∧ PySem.W.keepIn X.K (.ref fa) = true ∧ Binds X.K fd ps []
  cm : ∀ c m ds S, Γ.cm c m ds S ≠ .bad → ∃ (k : Nat) (fa : Addr) (fd : FuncData) (ps : List Str) (C : Addr), FnOk X.prog X.w X.K X.mg X.base (CXN X.prog X.w) k fa fd ps (spG X.K Γ.xc (Γ.cm c m) ds.length) ∧ Room k X.A ∧ ClsAt X.K c C ∧ Meth X.K C m fa ∧ Binds X.K fd ps []
  ci : ∀ c ds S, Γ.ci c ds S ≠ .bad → ∃ (k : Nat) (fa : Addr) (fd : FuncData) (ps : List Str) (C : Addr), FnOk X.prog X.w X.K X.mg X.base (CXN X.prog X.w) k fa fd ps (spG X.K Γ.xc (Γ.ci c) ds.length) ∧ Room (k + 1) X.A ∧ ClsAt X.K c C ∧ X.mg c = some (.ref C) ∧ Mk X.K C fa ∧ Binds X.K fd ps []

instance {X : Cx} {Γ : Ctx} : Coe (Cok X Γ) (CokB X Γ) := ⟨Cok.toCokB⟩
def SndE (X : Cx) (Γ : Ctx) (e : Expr) (c : CE) : Prop := ∀ H0 F ρ S σ H π lo lf, Sim X.K H0 F ρ S σ H π lo lf → ∀ r ρ' S', ev Γ c ρ S = .ok r ρ' S' → ∀ Q : VK,
  (∀ v H' π' lf', Ext X.K F H π (Mt F ρ S π lo lf) H' π' (Mt F ρ' S' π' lo lf') → RvOk X.K H0 H F ρ' S' σ H' π' lo lf' v r → Q v H') → MxE X e σ H Q
def SndT (X : Cx) (Γ : Ctx) (e : Expr) (c : CT) : Prop := ∀ H0 F ρ S σ H π lo lf, Sim X.K H0 F ρ S σ H π lo lf → ∀ b ρ' S', evT Γ c ρ S = .ok b ρ' S' → ∀ Q : Bool → Hp → Prop,
  (∀ H' π' lf', Ext X.K F H π (Mt F ρ S π lo lf) H' π' (Mt F ρ' S' π' lo lf') → Sim X.K H0 F ρ' S' σ H' π' lo lf' → Q b H') → MxT X e σ H Q
def SndA (X : Cx) (Γ : Ctx) (es : List Expr) (cs : List CE) : Prop := ∀ H0 F ρ S σ H π lo lf, Sim X.K H0 F ρ S σ H π lo lf → ∀ ds ρ' S', evs Γ cs ρ S = .ok ds ρ' S' → ∀ Q : List V → Hp → Prop,
  (∀ vs H' π' lf', Ext X.K F H π (Mt F ρ S π lo lf) H' π' (Mt F ρ' S' π' lo lf') → Sim X.K H0 F ρ' S' σ H' π' lo lf' → Reps X.K H' π' (Mt F ρ' S' π' lo lf') vs ds → Q vs H') → MxA X es σ H Q
def SndO (X : Cx) (Γ : Ctx) (e : Option Expr) (c : Option CE) : Prop := ∀ H0 F ρ S σ H π lo lf, Sim X.K H0 F ρ S σ H π lo lf → ∀ i ρ' S', evo Γ c ρ S = .ok i ρ' S' → ∀ Q : Option Int → Hp → Prop,
  (∀ H' π' lf', Ext X.K F H π (Mt F ρ S π lo lf) H' π' (Mt F ρ' S' π' lo lf') → Sim X.K H0 F ρ' S' σ H' π' lo lf' → Q i H') → MxO X e σ H Q

theorem bind_ok_inv {α β : Type} {p : Bool} {m : Out α} {f : α → Env → Store → Out β} {b : β} {ρ : Env} {S : Store} (h : Out.bnd p m f = .ok b ρ S) : ∃ a ρ1 S1, m = .ok a ρ1 S1 ∧ f a ρ1 S1 = .ok b ρ S := by
  cases m with
  | ok a ρ1 S1 => exact ⟨a, ρ1, S1, rfl, h⟩
  | exc x ρ1 S1 => cases p <;> cases h
  | bad => cases h
theorem chk_ok_inv {α : Type} {b : Bool} {m : Out α} {a : α} {ρ : Env} {S : Store} (h : Out.chk b m = .ok a ρ S) : m = .ok a ρ S := by
  cases m with
  | ok _ _ _ => exact h
  | exc _ _ _ => cases b <;> cases h
  | bad => cases h
theorem chk_exc_inv {α : Type} {b : Bool} {m : Out α} {x : Xn} {ρ : Env} {S : Store} (h : Out.chk b m = .exc x ρ S) : b = true ∧ m = .exc x ρ S := by
  cases m with
  | ok _ _ _ => cases h
  | exc _ _ _ =>
    cases b with
    | true => exact ⟨rfl, h⟩
    | false => cases h
  | bad => cases h
theorem bindB_exc_inv {α β : Type} {m : Out α} {f : α → Env → Store → Out β} {x : Xn} {ρ : Env} {S : Store} (h : m.bindB f = .exc x ρ S) : ∃ a ρ1 S1, m = .ok a ρ1 S1 ∧ f a ρ1 S1 = .exc x ρ S := by
  cases m with
  | ok a ρ1 S1 => exact ⟨a, ρ1, S1, rfl, h⟩
  | exc x ρ1 S1 => cases h
  | bad => cases h
theorem bind_exc_inv {α β : Type} {m : Out α} {f : α → Env → Store → Out β} {x : Xn} {ρ : Env} {S : Store} (h : m.bind f = .exc x ρ S) : m = .exc x ρ S ∨ ∃ a ρ1 S1, m = .ok a ρ1 S1 ∧ f a ρ1 S1 = .exc x ρ S := by
  cases m with
  | ok a ρ1 S1 => exact .inr ⟨a, ρ1, S1, rfl, h⟩
  | exc y ρ1 S1 => cases h; exact .inl rfl
  | bad => cases h
theorem of_exc_inv {α : Type} {o : Option α} {x : Xn} {ρ ρ' : Env} {S S' : Store} (h : Out.of o ρ S = .exc x ρ' S') : False := by
  cases o <;> cases h
theorem of_ok_inv {α : Type} {o : Option α} {a : α} {ρ ρ' : Env} {S S' : Store} (h : Out.of o ρ S = .ok a ρ' S') : o = some a ∧ ρ' = ρ ∧ S' = S := by
  cases o with
  | none => cases h
  | some b => cases h; exact ⟨rfl, rfl, rfl⟩

section
variable {X : Cx} {Γ : Ctx} {e a b : Expr} {c ca cb : CE} {k ka kb : CT} {pos : Pos}

/-- then -/
theorem SndE.sh (h : SndE X Γ e c) {H0 : Hp} {F : AS} {ρ : Env} {S : Store} {σ : L2.St} {H : Hp} {π : List Addr} {lo : Nat → Addr} {lf : Nat → Str → Addr} (s : Sim X.K H0 F ρ S σ H π lo lf) {r : Rv} {ρ' : Env} {S' : Store} (he : ev Γ c ρ S = .ok r ρ' S') {Q : VK}
    (q : ∀ v H' π' lf', Ext X.K F H π (Mt F ρ S π lo lf) H' π' (Mt F ρ' S' π' lo lf') → Sim X.K H0 F ρ' S' σ H' π' lo lf' → Rep X.K H' π' (Mt F ρ' S' π' lo lf') v r.d → Q v H') : MxE X e σ H Q :=
  h H0 F ρ S σ H π lo lf s r ρ' S' he Q fun v H' π' lf' x k => q v H' π' lf' x k.sh.1 k.sh.2

theorem snd_bad (h : ∀ ρ S, ev Γ c ρ S = .bad) : SndE X Γ e c := fun H0 F ρ S σ H π lo lf s r ρ' S' he Q q => by rw [h] at he; cases he
theorem ev_unk (ok : CokB X Γ) (ρ : Env) (S : Store) : ev Γ CE.unk ρ S = .bad := by simp only [CE.unk, ev, ok.unk]
theorem snd_unk (ok : CokB X Γ) : SndE X Γ e CE.unk := snd_bad (ev_unk ok)
theorem evT_unk (ok : CokB X Γ) (ρ : Env) (S : Store) : evT Γ (.e CE.unk) ρ S = .bad := by
  simp only [evT, ev_unk ok ρ S, Out.bind_bad]
theorem sndT_unk (ok : CokB X Γ) : SndT X Γ e (.e CE.unk) := fun H0 F ρ S σ H π lo lf s r ρ' S' he Q q => by rw [evT_unk ok] at he; cases he

theorem snd_const {v : V} {d : D} (hp : PE X e (tC v)) (he : ∀ ρ S, ev Γ c ρ S = .ok (.sh d) ρ S) (hr : ∀ H π M, Rep X.K H π M v d) : SndE X Γ e c := fun H0 F ρ S σ H π lo lf s r ρ' S' h Q q => by
  rw [he] at h
  cases h
  exact ⟨_, hp, q v H π lf .refl ⟨s, hr _ _ _⟩⟩
theorem snd_int {i : Int} {j : Nat} : SndE X Γ (.Constant (.int i) j pos) (.int i) := snd_const pe_int (fun _ _ => rfl) fun _ _ _ => .int i
theorem snd_bl {i : Bool} {j : Nat} : SndE X Γ (.Constant (.bool i) j pos) (.bl i) := snd_const pe_bl (fun _ _ => rfl) fun _ _ _ => .bl i
theorem snd_non {j : Nat} : SndE X Γ (.Constant .none j pos) .non := snd_const pe_non (fun _ _ => rfl) fun _ _ _ => .non
theorem snd_str {i : Str} {j : Nat} : SndE X Γ (.Constant (.str i) j pos) (.str i) := snd_const pe_str (fun _ _ => rfl) fun _ _ _ => .str i
theorem snd_glob {x : Str} (ok : CokB X Γ) (hg : Gl X x) (hd : (x == ("__debug__" : Str)) = false) : SndE X Γ (.Name x pos) (.glob x) := fun H0 F ρ S σ H π lo lf s r ρ' S' h Q q => by
  simp only [ev] at h
  cases hx : Γ.gl x with
  | none => rw [hx] at h; cases h
  | some d =>
    rw [hx] at h
    cases h
    obtain ⟨u, v, hm, rv, hr⟩ := ok.gl x d hx
    exact ⟨_, pe_glob hg hm rv hd, q v H π lf .refl ⟨s, hr _ _ _⟩⟩

theorem snd_bin {op : Operator} (ha : SndE X Γ a ca) (hb : SndE X Γ b cb) : SndE X Γ (.BinOp a op b pos) (.bin op ca cb) := fun H0 F ρ S σ H π lo lf s r ρ' S' h Q q => by
  simp only [ev] at h
  obtain ⟨x, ρ1, S1, h1, h⟩ := bind_ok_inv h
  obtain ⟨y, ρ2, S2, h2, h⟩ := bind_ok_inv h
  obtain ⟨h3, rfl, rfl⟩ := of_ok_inv h
  obtain ⟨rl, ho, hv⟩ := bin_val (X := X) h3
  refine ⟨_, pe_op ho (mxE X a) (mxE X b), ?_⟩
  refine ha.sh s h1 fun v1 H1 π1 lf1 x1 s1 r1 => hb.sh s1 h2 fun v2 H2 π2 lf2 x2 s2 r2 => ?_
  exact hv _ _ _ _ _ _ _ _ _ _ _ s2 (r1.keep x2.toKeeps) r2 Q fun v H' π' lf' x3 k => q v H' π' lf' (x1.trans (x2.trans x3)) (k.of (x1.trans x2).dm)
theorem snd_neg (ha : SndE X Γ a ca) : SndE X Γ (.UnaryOp .USub a pos) (.neg ca) := fun H0 F ρ S σ H π lo lf s r ρ' S' h Q q => by
  simp only [ev] at h
  obtain ⟨x, ρ1, S1, h1, h⟩ := bind_ok_inv h
  split at h
  · cases h
    refine ⟨_, pe_un un_neg (mxE X a), ?_⟩
    exact ha.sh s h1 fun v1 H1 π1 lf1 x1 s1 r1 => ⟨_, r1.int_inv, q _ _ _ _ x1 ⟨s1, .int _⟩⟩
  · cases h
theorem isB_inv {x : Rv} {b : Bool} (h : isB x = some b) : x = .sh (.bl b) := by
  unfold isB at h
  split at h
  · cases h; rfl
  · cases h
theorem isI_inv {x : Rv} {b : Int} (h : isI x = some b) : x = .sh (.int b) := by
  unfold isI at h
  split at h
  · cases h; rfl
  · cases h
theorem snd_nt (ha : SndE X Γ a ca) : SndE X Γ (.UnaryOp .Not a pos) (.nt ca) := fun H0 F ρ S σ H π lo lf s r ρ' S' h Q q => by
  simp only [ev] at h
  obtain ⟨x, ρ1, S1, h1, h⟩ := bind_ok_inv h
  obtain ⟨y, ρ2, S2, h2, g⟩ := bind_ok_inv h
  clear h
  obtain ⟨h3, rfl, rfl⟩ := of_ok_inv h2
  cases g
  have := isB_inv h3
  subst this
  refine ⟨_, pe_not (mxE X a), ?_⟩
  exact ha.sh s h1 fun v1 H1 π1 lf1 x1 s1 r1 => ⟨_, r1.bl_inv, q _ _ _ _ x1 ⟨s1, .bl _⟩⟩
theorem snd_band {r : List Expr} (ha : SndE X Γ a ca) (hb : SndE X Γ (.BoolOp .And (b :: r) pos) cb) : SndE X Γ (.BoolOp .And (a :: b :: r) pos) (.band ca cb) := fun H0 F ρ S σ H π lo lf s r ρ' S' h Q q => by
  simp only [ev] at h
  obtain ⟨x, ρ1, S1, h1, h⟩ := bind_ok_inv h
  obtain ⟨y, ρ2, S2, h2, g⟩ := bind_ok_inv h
  clear h
  have h := g
  clear g
  obtain ⟨h3, rfl, rfl⟩ := of_ok_inv h2
  have := isB_inv h3
  subst this
  refine ⟨_, pe_and (mxE X a) (mxE X _), ?_⟩
  refine ha.sh s h1 fun v1 H1 π1 lf1 x1 s1 r1 => ⟨y, r1.bl_inv, ?_⟩
  cases y with
  | true => exact iteT (hb _ _ _ _ _ _ _ _ _ s1 _ _ _ h Q fun v H' π' lf' x2 k => q v H' π' lf' (x1.trans x2) (k.of x1.dm))
  | false =>
    cases h
    exact iteF (q _ _ _ _ x1 ⟨s1, .bl _⟩)
theorem snd_bor {r : List Expr} (ha : SndE X Γ a ca) (hb : SndE X Γ (.BoolOp .Or (b :: r) pos) cb) : SndE X Γ (.BoolOp .Or (a :: b :: r) pos) (.bor ca cb) := fun H0 F ρ S σ H π lo lf s r ρ' S' h Q q => by
  simp only [ev] at h
  obtain ⟨x, ρ1, S1, h1, h⟩ := bind_ok_inv h
  obtain ⟨y, ρ2, S2, h2, g⟩ := bind_ok_inv h
  clear h
  have h := g
  clear g
  obtain ⟨h3, rfl, rfl⟩ := of_ok_inv h2
  have := isB_inv h3
  subst this
  refine ⟨_, pe_or (mxE X a) (mxE X _), ?_⟩
  refine ha.sh s h1 fun v1 H1 π1 lf1 x1 s1 r1 => ⟨y, r1.bl_inv, ?_⟩
  cases y with
  | false => exact iteF (hb _ _ _ _ _ _ _ _ _ s1 _ _ _ h Q fun v H' π' lf' x2 k => q v H' π' lf' (x1.trans x2) (k.of x1.dm))
  | true =>
    cases h
    exact iteT (q _ _ _ _ x1 ⟨s1, .bl _⟩)
theorem snd_one {op : BoolOp} (ha : SndE X Γ a ca) : SndE X Γ (.BoolOp op [a] pos) ca := fun H0 F ρ S σ H π lo lf s r ρ' S' h Q q => ⟨_, pe_one (mxE X a), ha H0 F ρ S σ H π lo lf s r ρ' S' h Q q⟩
theorem snd_cmp {op : CmpOp} (ok : CokB X Γ) (hm : behindInMarks op b = false) (ha : SndE X Γ a ca) (hb : SndE X Γ b cb) : SndE X Γ (.Compare a [op] [b] pos) (.cmp op ca cb) := fun H0 F ρ S σ H π lo lf s r ρ' S' h Q q => by
  simp only [ev] at h
  obtain ⟨x, ρ1, S1, h1, h⟩ := bind_ok_inv h
  obtain ⟨y, ρ2, S2, h2, h⟩ := bind_ok_inv h
  obtain ⟨z, ρ3, S3, h3, g⟩ := bind_ok_inv h
  clear h
  obtain ⟨h4, rfl, rfl⟩ := of_ok_inv h3
  cases g
  obtain ⟨rl, ho, hv⟩ := cmp_val (X := X) ok.hu2 h4
  refine ⟨_, pe_cmpR ho (mxE X a) (mxE X b) hm, ?_⟩
  refine ha.sh s h1 fun v1 H1 π1 lf1 x1 s1 r1 => hb.sh s1 h2 fun v2 H2 π2 lf2 x2 s2 r2 => ?_
  exact hv _ _ _ _ _ (r1.keep x2.toKeeps) r2 Q (q _ _ _ _ (x1.trans x2) ⟨s2, .bl _⟩)
theorem sndT_cmp {op : CmpOp} (ok : CokB X Γ) (hm : behindInMarks op b = false) (ha : SndE X Γ a ca) (hb : SndE X Γ b cb) : SndT X Γ (.Compare a [op] [b] pos) (.e (.cmp op ca cb)) := fun H0 F ρ S σ H π lo lf s r ρ' S' h Q q => by
  simp only [evT, ev] at h
  obtain ⟨w, ρ0, S0, h0, h⟩ := bind_ok_inv h
  obtain ⟨x, ρ1, S1, h1, h0⟩ := bind_ok_inv h0
  obtain ⟨y, ρ2, S2, h2, h0⟩ := bind_ok_inv h0
  obtain ⟨z, ρ3, S3, h3, g⟩ := bind_ok_inv h0
  clear h0
  obtain ⟨h4, rfl, rfl⟩ := of_ok_inv h3
  cases g
  obtain ⟨h5, rfl, rfl⟩ := of_ok_inv h
  cases h5
  obtain ⟨rl, ho, hv⟩ := cmp_val (X := X) ok.hu2 h4
  refine ⟨_, pt_cmpR ho (mxE X a) (mxE X b) hm, ?_⟩
  refine ha.sh s h1 fun v1 H1 π1 lf1 x1 s1 r1 => hb.sh s1 h2 fun v2 H2 π2 lf2 x2 s2 r2 => ?_
  exact hv _ _ _ _ _ (r1.keep x2.toKeeps) r2 _ ⟨_, rfl, q _ _ _ (x1.trans x2) s2⟩

/-- tests -/
theorem sndT_of (he : ∀ whole, isTrue e X.env whole = (do let v ← whole; standAt e.pos; holding [v] (truthy v))) (h : SndE X Γ e c) : SndT X Γ e (.e c) := fun H0 F ρ S σ H π lo lf s r ρ' S' hv Q q => by
  simp only [evT] at hv
  obtain ⟨x, ρ1, S1, h1, hv⟩ := bind_ok_inv hv
  obtain ⟨h2, rfl, rfl⟩ := of_ok_inv hv
  have := isB_inv h2
  subst this
  exact ⟨_, pt_val (mxE X e) he, h.sh s h1 fun v1 H1 π1 lf1 x1 s1 r1 => ⟨_, r1.bl_inv, q _ _ _ x1 s1⟩⟩
theorem sndT_nt (ha : SndT X Γ a ka) : SndT X Γ (.UnaryOp .Not a pos) (.nt ka) := fun H0 F ρ S σ H π lo lf s r ρ' S' h Q q => by
  simp only [evT] at h
  obtain ⟨x, ρ1, S1, h1, h⟩ := bind_ok_inv h
  cases h
  exact ⟨_, pt_not (mxT X a), ha _ _ _ _ _ _ _ _ _ s _ _ _ h1 _ fun H' π' lf' x1 s1 => q H' π' lf' x1 s1⟩
/-- and, or as tests: whatever the whole is -/
def SndW (X : Cx) (Γ : Ctx) (e : Expr) (c : CT) : Prop := ∀ H0 F ρ S σ H π lo lf, Sim X.K H0 F ρ S σ H π lo lf → ∀ b ρ' S', evT Γ c ρ S = .ok b ρ' S' → ∀ Q : Bool → Hp → Prop,
  (∀ H' π' lf', Ext X.K F H π (Mt F ρ S π lo lf) H' π' (Mt F ρ' S' π' lo lf') → Sim X.K H0 F ρ' S' σ H' π' lo lf' → Q b H') → ∃ t, PW X e t ∧ t σ H Q
def MxW (X : Cx) (e : Expr) : TT := fun σ H Q => ∃ t, PW X e t ∧ t σ H Q
theorem mxW (X : Cx) (e : Expr) : PW X e (MxW X e) := ⟨fun wh pins s σ H Q I ⟨t, h, q⟩ => h.run wh pins s σ H Q I q⟩
theorem SndW.t (h : SndW X Γ e k) : SndT X Γ e k := fun H0 F ρ S σ H π lo lf s r ρ' S' hv Q q => by
  obtain ⟨t, h1, h2⟩ := h H0 F ρ S σ H π lo lf s r ρ' S' hv Q q
  exact ⟨t, h1.pt, h2⟩
theorem sndW_one {op : BoolOp} (ha : SndT X Γ a ka) : SndW X Γ (.BoolOp op [a] pos) ka := fun H0 F ρ S σ H π lo lf s r ρ' S' h Q q => by
  cases op with
  | And => exact ⟨_, pw_and1 (mxT X a), ha H0 F ρ S σ H π lo lf s r ρ' S' h Q q⟩
  | Or => exact ⟨_, pw_or1 (mxT X a), ha H0 F ρ S σ H π lo lf s r ρ' S' h Q q⟩
theorem sndW_and {r : List Expr} (ha : SndT X Γ a ka) (hb : SndW X Γ (.BoolOp .And (b :: r) pos) kb) : SndW X Γ (.BoolOp .And (a :: b :: r) pos) (.and ka kb) := fun H0 F ρ S σ H π lo lf s r ρ' S' h Q q => by
  simp only [evT] at h
  obtain ⟨x, ρ1, S1, h1, h⟩ := bind_ok_inv h
  refine ⟨_, pw_and (mxT X a) (mxW X _), ha _ _ _ _ _ _ _ _ _ s _ _ _ h1 _ fun H1 π1 lf1 x1 s1 => ?_⟩
  cases x with
  | true => exact iteT (hb _ _ _ _ _ _ _ _ _ s1 _ _ _ h Q fun H' π' lf' x2 k => q H' π' lf' (x1.trans x2) k)
  | false =>
    cases h
    exact iteF (q _ _ _ x1 s1)
theorem sndW_or {r : List Expr} (ha : SndT X Γ a ka) (hb : SndW X Γ (.BoolOp .Or (b :: r) pos) kb) : SndW X Γ (.BoolOp .Or (a :: b :: r) pos) (.or ka kb) := fun H0 F ρ S σ H π lo lf s r ρ' S' h Q q => by
  simp only [evT] at h
  obtain ⟨x, ρ1, S1, h1, h⟩ := bind_ok_inv h
  refine ⟨_, pw_or (mxT X a) (mxW X _), ha _ _ _ _ _ _ _ _ _ s _ _ _ h1 _ fun H1 π1 lf1 x1 s1 => ?_⟩
  cases x with
  | false => exact iteF (hb _ _ _ _ _ _ _ _ _ s1 _ _ _ h Q fun H' π' lf' x2 k => q H' π' lf' (x1.trans x2) k)
  | true =>
    cases h
    exact iteT (q _ _ _ x1 s1)
theorem snd_ite {t : Expr} {ct : CT} (ht : SndT X Γ t ct) (ha : SndE X Γ a ca) (hb : SndE X Γ b cb) : SndE X Γ (.IfExp t a b pos) (.ite ct ca cb) := fun H0 F ρ S σ H π lo lf s r ρ' S' h Q q => by
  simp only [ev] at h
  obtain ⟨x, ρ1, S1, h1, h⟩ := bind_ok_inv h
  refine ⟨_, pe_ifExp (mxT X t) (mxE X a) (mxE X b), ht _ _ _ _ _ _ _ _ _ s _ _ _ h1 _ fun H1 π1 lf1 x1 s1 => ?_⟩
  cases x with
  | true => exact iteT (ha _ _ _ _ _ _ _ _ _ s1 _ _ _ h Q fun v H' π' lf' x2 k => q v H' π' lf' (x1.trans x2) (k.of x1.dm))
  | false => exact iteF (hb _ _ _ _ _ _ _ _ _ s1 _ _ _ h Q fun v H' π' lf' x2 k => q v H' π' lf' (x1.trans x2) (k.of x1.dm))
end
end Ht

set_option Elab.async false
set_option linter.all false
set_option maxRecDepth 100000
set_option maxHeartbeats 1000000
/-! ### soundness: slots, own lists, calls -/
namespace Ht
open PySem L2
section
variable {K : Fg} {H0 : Hp} {F F' : AS} {ρ : Env} {S S' : Store} {σ : L2.St} {H H' : Hp} {π π' : List Addr} {lo : Nat → Addr} {lf lf' : Nat → Str → Addr}
theorem gt_st_own {i j : Nat} {d : D} {ds : List D} (h : gt (st ρ i (.v d)) j = .own ds) : j ≠ i ∧ gt ρ j = .own ds := by
  by_cases e : i = j
  · subst e
    by_cases hl : i < ρ.length
    · rw [gt_st_same hl] at h
      cases h
    · rw [st_ge (by omega), gt_ge (by omega)] at h
      cases h
  · rw [gt_st_ne e] at h
    exact ⟨fun z => e z.symm, h⟩
theorem mt_st_v {i : Nat} {d : D} {a : Addr} (h : Mt F (st ρ i (.v d)) S π lo lf a) : Mt F ρ S π lo lf a := by
  rcases h with h | ⟨j, ds, h, e⟩ | h
  · exact .inl h
  · exact .inr (.inl ⟨j, ds, (gt_st_own h).2, e⟩)
  · exact .inr (.inr h)
/-- an own list is shared from now on -/
theorem Sim.share {i : Nat} {ds : List D} (s : Sim K H0 F ρ S σ H π lo lf) (h : gt ρ i = .own ds) : Sim K H0 F (st ρ i (.v (.lst ds))) S σ H π lo lf ∧ Rep K H π (Mt F (st ρ i (.v (.lst ds))) S π lo lf) (.ref (lo i)) (.lst ds) ∧ σ[i]? = some (some (.ref (lo i))) := by
  have less : ∀ a, Mt F (st ρ i (.v (.lst ds))) S π lo lf a → Mt F ρ S π lo lf a := fun a => mt_st_v
  obtain ⟨h1, vs, h2, h3⟩ := s.ow i ds h
  obtain ⟨n1, n2, n3, n4⟩ := s.nf i ds h
  have hl : i < ρ.length := gt_lt (by rw [h]; intro z; cases z)
  have nm : ¬ Mt F (st ρ i (.v (.lst ds))) S π lo lf (lo i) := fun m => by
    rcases m with m | ⟨j, es, m, e⟩ | m | ⟨n, f, es, m, e⟩
    · exact n1 m
    · obtain ⟨q1, q2⟩ := gt_st_own m
      exact q1 (s.inj j i _ _ q2 h e.symm)
    · exact n2 m
    · exact n4 n f es m e
  have rp : Rep K H π (Mt F (st ρ i (.v (.lst ds))) S π lo lf) (.ref (lo i)) (.lst ds) := .lst (.inl h2) nm (h3.less less)
  refine ⟨⟨fun j d e => ?_, fun j es e => ?_, fun j k es fs e1 e2 => s.inj j k es fs (gt_st_own e1).2 (gt_st_own e2).2, fun j es e => s.nf j es (gt_st_own e).2, s.np, s.nq, by rw [st_length]; exact s.len, s.ok.keep (.less less) (fun _ _ _ q => q) fun _ _ _ _ _ q => q, s.dm, s.fh⟩, rp, h1⟩
  · by_cases c : i = j
    · subst c
      rw [gt_st_same hl] at e
      cases e
      exact ⟨_, h1, rp⟩
    · rw [gt_st_ne c] at e
      obtain ⟨v, q1, q2⟩ := s.sl j d e
      exact ⟨v, q1, q2.less less⟩
  · obtain ⟨q1, vs, q2, q3⟩ := s.ow j es (gt_st_own e).2
    exact ⟨q1, vs, q2, q3.less less⟩
theorem st_self {i : Nat} : st ρ i (gt ρ i) = ρ := by
  induction ρ generalizing i with
  | nil => rfl
  | cons x r ih =>
    cases i with
    | zero => rfl
    | succ i => simp [st, gt, ih]
theorem Sim.shareAt : ∀ (is : List Nat) {ρ : Env}, Sim K H0 F ρ S σ H π lo lf → Sim K H0 F (shareAt ρ is) S σ H π lo lf ∧ ∀ a, Mt F (Ht.shareAt ρ is) S π lo lf a → Mt F ρ S π lo lf a
  | [], ρ, s => ⟨s, fun _ h => h⟩
  | i :: is, ρ, s => by
    unfold Ht.shareAt
    cases h : gt ρ i with
    | no =>
      have e : st ρ i (Sl.share .no) = ρ := by
        rw [show Sl.share .no = gt ρ i from h.symm]
        exact st_self
      rw [e]
      exact Sim.shareAt is s
    | v d =>
      have e : st ρ i (Sl.share (.v d)) = ρ := by
        rw [show Sl.share (.v d) = gt ρ i from h.symm]
        exact st_self
      rw [e]
      exact Sim.shareAt is s
    | own ds =>
      obtain ⟨s1, _, _⟩ := s.share h
      obtain ⟨s2, l2⟩ := Sim.shareAt is s1
      exact ⟨s2, fun a m => mt_st_v (l2 a m)⟩
/-- the own list of a slot is written over -/
theorem keeps_own {i : Nat} {ds es : List D} {ws : List V} (s : Sim K H0 F ρ S σ H π lo lf) (h : gt ρ i = .own ds) : Keeps K H π (Mt F ρ S π lo lf) (upd H (lo i) (.lst ws)) π (Mt F (st ρ i (.own es)) S π lo lf) := by
  obtain ⟨h1, vs, h2, h3⟩ := s.ow i ds h
  refine ⟨⟨[], by simp⟩, fun a o r _ m => ⟨by rw [upd_ne (show a ≠ lo i from fun e => m (.inr (.inl ⟨i, ds, h, e⟩)))]; exact r, fun m' => m ?_⟩, fun a vs' r => sqt_lst h2 r, fun a o u r => by rw [upd_ne (ne_of r h2 (by intro z; cases z))]; exact r⟩
  rcases m' with m' | ⟨j, fs, m', e⟩ | m'
  · exact .inl m'
  · by_cases c : i = j
    · subst c
      exact .inr (.inl ⟨i, ds, h, e⟩)
    · rw [gt_st_ne c] at m'
      exact .inr (.inl ⟨j, fs, m', e⟩)
  · exact .inr (.inr m')
theorem Sim.setOwn {i : Nat} {ds es : List D} {ws : List V} (s : Sim K H0 F ρ S σ H π lo lf) (h : gt ρ i = .own ds) (hr : Reps K H π (Mt F ρ S π lo lf) ws es) :
    Sim K H0 F (st ρ i (.own es)) S σ (upd H (lo i) (.lst ws)) π lo lf ∧ Ext K F H π (Mt F ρ S π lo lf) (upd H (lo i) (.lst ws)) π (Mt F (st ρ i (.own es)) S π lo lf) := by
  obtain ⟨h1, vs, h2, h3⟩ := s.ow i ds h
  obtain ⟨n1, n2, n3, n4⟩ := s.nf i ds h
  have hl : i < ρ.length := gt_lt (by rw [h]; intro z; cases z)
  have k := keeps_own (es := es) (ws := ws) s h
  have back : ∀ j fs, gt (st ρ i (.own es)) j = .own fs → ∃ gs, gt ρ j = .own gs := fun j fs e => by
    by_cases c : i = j
    · subst c
      exact ⟨ds, h⟩
    · rw [gt_st_ne c] at e
      exact ⟨fs, e⟩
  have nn : ∀ a, upd H (lo i) (.lst ws) a = none → H a = none := fun a q => by
    by_cases c : a = lo i
    · subst c
      rw [upd_same] at q
      cases q
    · rw [upd_ne c] at q
      exact q
  refine ⟨⟨fun j d e => ?_, fun j fs e => ?_, fun j k' fs gs e1 e2 e3 => ?_, fun j fs e => ?_, s.np, s.nq, by rw [st_length]; exact s.len, s.ok.keep k (fun a o ha q => ?_) (fun n f fs o e q => ?_), fun a q => s.dm a (nn a q), fun a q z => s.fh a q (nn a z)⟩,
    k, fun a o hf q => ?_, nn⟩
  · have c : i ≠ j := fun c => by
      subst c
      rw [gt_st_same hl] at e
      cases e
    rw [gt_st_ne c] at e
    obtain ⟨v, q1, q2⟩ := s.sl j d e
    exact ⟨v, q1, q2.keep k⟩
  · by_cases c : i = j
    · subst c
      rw [gt_st_same hl] at e
      cases e
      exact ⟨h1, ws, upd_same, hr.keep k⟩
    · rw [gt_st_ne c] at e
      obtain ⟨q1, vs', q2, q3⟩ := s.ow j fs e
      exact ⟨q1, vs', by rw [upd_ne fun z => c (s.inj j i _ _ e h z).symm]; exact q2, q3.keep k⟩
  · obtain ⟨_, g1⟩ := back j fs e1
    obtain ⟨_, g2⟩ := back k' gs e2
    exact s.inj j k' _ _ g1 g2 e3
  · obtain ⟨_, g1⟩ := back j fs e
    exact s.nf j _ g1
  · rw [upd_ne (show a ≠ lo i from fun z => n2 (z ▸ ha))]
    exact q
  · rw [upd_ne fun z => n4 n f fs e z.symm]
    exact q
  · rw [upd_ne (show a ≠ lo i from fun z => n1 (z ▸ hf))]
    exact q
/-- the own slots as things of others -/
def ownF (F : AS) (ρ : Env) (lo : Nat → Addr) : AS := fun a => F a ∨ ∃ i ds, gt ρ i = .own ds ∧ a = lo i
theorem mt_ownF (a : Addr) : Mt (ownF F ρ lo) [] S π (fun _ => 0) lf a ↔ Mt F ρ S π lo lf a := by
  constructor
  · intro h
    rcases h with (h | h) | ⟨i, ds, h, _⟩ | h
    · exact .inl h
    · exact .inr (.inl h)
    · cases h
    · exact .inr (.inr h)
  · intro h
    rcases h with h | h | h
    · exact .inl (.inl h)
    · exact .inl (.inr h)
    · exact .inr (.inr h)
theorem mt_mask {ρ' : Env} (hm : ∀ j ds, gt ρ' j ≠ .own ds) (a : Addr) : Mt (ownF F ρ lo) ρ' S π lo lf a ↔ Mt F ρ S π lo lf a := by
  constructor
  · intro h
    rcases h with (h | h) | ⟨i, ds, h, _⟩ | h
    · exact .inl h
    · exact .inr (.inl h)
    · exact absurd h (hm i ds)
    · exact .inr (.inr h)
  · intro h
    rcases h with h | h | h
    · exact .inl (.inl h)
    · exact .inl (.inr h)
    · exact .inr (.inr h)
theorem Sim.own_there (s : Sim K H0 F ρ S σ H π lo lf) : ∀ a, ownF F ρ lo a → H a ≠ none := fun a h => s.there (by
  rcases h with h | h
  · exact .inl h
  · exact .inr (.inl h))
/-- into a call: no slots -/
theorem Sim.into (s : Sim K H0 F ρ S σ H π lo lf) : Sim K H (ownF F ρ lo) [] S [] H π (fun _ => 0) lf where
  sl := fun i d e => by cases e
  ow := fun i d e => by cases e
  inj := fun i j ds es e => by cases e
  nf := fun i ds e => by cases e
  np := fun a ha h => by
    rcases h with h | ⟨i, ds, h, e⟩
    · exact s.np a ha h
    · exact (s.nf i ds h).2.1 (e ▸ ha)
  nq := fun n f ds e h => by
    rcases h with h | ⟨i, es, h, e'⟩
    · exact s.nq n f ds e h
    · exact (s.nf i es h).2.2.2 n f ds e e'.symm
  len := rfl
  ok := s.ok.keep (.less fun a h => (mt_ownF a).mp h) (fun _ _ _ q => q) fun _ _ _ _ _ q => q
  dm := fun _ h => h
  fh := s.own_there
/-- behind a call -/
theorem Sim.back {G : AS} {H0' : Hp} (s : Sim K H0 F ρ S σ H π lo lf) {M' : AS} (x : Ext K (ownF F ρ lo) H π (Mt F ρ S π lo lf) H' π' M') (hM : ∀ a, Mt (fun a => ownF F ρ lo a ∨ G a) [] S' π' (fun _ => 0) lf' a → M' a ∨ G a) (hG : ∀ a, G a → H a = none) (hG' : ∀ a, G a → H' a ≠ none)
    (s' : Sim K H0' (fun a => ownF F ρ lo a ∨ G a) [] S' [] H' π' (fun _ => 0) lf') : Sim K H0 (fun a => F a ∨ G a) ρ S' σ H' π' lo lf' := by
  have up : ∀ a, Mt (fun a => F a ∨ G a) ρ S' π' lo lf' a → Mt (fun a => ownF F ρ lo a ∨ G a) [] S' π' (fun _ => 0) lf' a := fun a h => by
    rcases h with (h | h) | h | h
    · exact .inl (.inl (.inl h))
    · exact .inl (.inr h)
    · exact .inl (.inl (.inr h))
    · exact .inr (.inr h)
  have down : ∀ a, Mt (fun a => ownF F ρ lo a ∨ G a) [] S' π' (fun _ => 0) lf' a → Mt (fun a => F a ∨ G a) ρ S' π' lo lf' a := fun a h => by
    rcases h with ((h | h) | h) | ⟨i, ds, h, _⟩ | h
    · exact .inl (.inl h)
    · exact .inr (.inl h)
    · exact .inl (.inr h)
    · cases h
    · exact .inr (.inr h)
  have k : Keeps K H π (Mt F ρ S π lo lf) H' π' (Mt (fun a => F a ∨ G a) ρ S' π' lo lf') := ⟨x.pi, fun a o r l m => ⟨(x.ls a o r l m).1, fun q => by
    rcases hM a (up a q) with q | q
    · exact (x.ls a o r l m).2 q
    · have := hG a q
      rw [r] at this
      cases this⟩, x.tp, x.fz⟩
  refine ⟨fun i d e => ?_, fun i ds e => ?_, s.inj, fun i ds e => ?_, fun a ha h => ?_, fun n f ds e h => ?_, s.len, s'.ok.keep (.less fun a h => up a h) (fun _ _ _ q => q) (fun _ _ _ _ _ q => q), fun a h => s.dm a (x.dm a h), fun a h => ?_⟩
  · obtain ⟨v, q1, q2⟩ := s.sl i d e
    exact ⟨v, q1, q2.keep k⟩
  · obtain ⟨q1, vs, q2, q3⟩ := s.ow i ds e
    exact ⟨q1, vs, x.fo _ _ (.inr ⟨i, ds, e, rfl⟩) q2, q3.keep k⟩
  · obtain ⟨n1, n2, n3, n4⟩ := s.nf i ds e
    obtain ⟨q1, vs, q2, q3⟩ := s.ow i ds e
    refine ⟨fun h => ?_, fun h => s'.np _ h (.inl (.inr ⟨i, ds, e, rfl⟩)), n3, fun n f es h z => s'.nq n f es h (.inl (.inr ⟨i, ds, e, z.symm⟩))⟩
    rcases h with h | h
    · exact n1 h
    · have := hG _ h
      rw [q2] at this
      cases this
  · rcases h with h | h
    · exact s'.np a ha (.inl (.inl h))
    · exact s'.np a ha (.inr h)
  · rcases h with h | h
    · exact s'.nq n f ds e (.inl (.inl h))
    · exact s'.nq n f ds e (.inr h)
  · rcases h with h | h
    · intro z
      exact s.fh a h (x.dm a z)
    · exact hG' a h
theorem Ext.ofCall {M M' : AS} {F' : AS} (x : Ext K F' H π M H' π' M') (h : ∀ a, F a → F' a) {M1 M1' : AS} (h1 : ∀ a, M a → M1 a) (h2 : ∀ a, M1' a → M' a) : Ext K F H π M1 H' π' M1' :=
  ⟨⟨x.pi, fun a o r l m => ⟨(x.ls a o r l fun q => m (h1 a q)).1, fun q => (x.ls a o r l fun q => m (h1 a q)).2 (h2 a q)⟩, x.tp, x.fz⟩, fun a o hf q => x.fo a o (h a hf) q, x.dm⟩
/-- nothing that may be changed was changed -/
theorem Sim.stay (s : Sim K H0 F ρ S σ H π lo lf) (k : Keeps K H π (Mt F ρ S π lo lf) H' π (Mt F ρ S π lo lf)) (hM : ∀ a o, Mt F ρ S π lo lf a → H a = some o → H' a = some o) (dm : ∀ a, H' a = none → H a = none) : Sim K H0 F ρ S σ H' π lo lf where
  sl := fun i d e => let ⟨v, h1, h2⟩ := s.sl i d e; ⟨v, h1, h2.keep k⟩
  ow := fun i ds e => let ⟨h1, vs, h2, h3⟩ := s.ow i ds e; ⟨h1, vs, hM _ _ (.inr (.inl ⟨i, ds, e, rfl⟩)) h2, h3.keep k⟩
  inj := s.inj
  nf := s.nf
  np := s.np
  nq := s.nq
  len := s.len
  ok := s.ok.keep k (fun a o ha q => hM a o (.inr (.inr (.inl ha))) q) fun n f ds o e q => hM _ o (.inr (.inr (.inr ⟨n, f, ds, e, rfl⟩))) q
  dm := fun a h => s.dm a (dm a h)
  fh := fun a h z => s.fh a h (dm a z)
mutual
theorem Rep.noref {M : AS} : ∀ {v : V} {d : D}, d.rfree = true → Rep K H π M v d → Rep K H [] M v d
  | _, _, _, .non => .non
  | _, _, _, .bl b => .bl b
  | _, _, _, .int i => .int i
  | _, _, _, .str x => .str x
  | _, .tup ds, h, .tup a b => .tup a (Reps.noref (by simpa [D.rfree] using h) b)
  | _, .lst ds, h, .lst a m b => .lst a m (Reps.noref (by simpa [D.rfree] using h) b)
  | _, .ref _, h, .ref _ => by simp [D.rfree] at h
  | _, .scr _, _, .scr h => .scr h
theorem Reps.noref {M : AS} : ∀ {v : List V} {d : List D}, D.rfrees d = true → Reps K H π M v d → Reps K H [] M v d
  | _, _, _, .nil => .nil
  | _, d :: ds, h, .cons a b => by
    simp only [D.rfrees, Bool.and_eq_true] at h
    exact .cons (Rep.noref h.1 a) (Reps.noref h.2 b)
end
mutual
/-- a thing without lists is what it is, whatever may change -/
theorem Rep.lfree {M M' : AS} : ∀ {v : V} {d : D}, d.lfree = true → Rep K H [] M v d → Rep K H π M' v d
  | _, _, _, .non => .non
  | _, _, _, .bl b => .bl b
  | _, _, _, .int i => .int i
  | _, _, _, .str x => .str x
  | _, .tup ds, h, .tup a b => .tup a (Reps.lfree (by simpa [D.lfree] using h) b)
  | _, .lst ds, h, .lst a m b => by simp [D.lfree] at h
  | _, .ref _, h, .ref e => by simp at e
  | _, .scr _, h, .scr _ => by simp [D.lfree] at h
theorem Reps.lfree {M M' : AS} : ∀ {v : List V} {d : List D}, D.lfrees d = true → Reps K H [] M v d → Reps K H π M' v d
  | _, _, _, .nil => .nil
  | _, d :: ds, h, .cons a b => by
    simp only [D.lfrees, Bool.and_eq_true] at h
    exact .cons (Rep.lfree h.1 a) (Reps.lfree h.2 b)
end
theorem gt_pure : ∀ (ρ : Env) (i : Nat), gt (ρ.map Sl.pure) i = (gt ρ i).pure
  | [], _ => rfl
  | _ :: _, 0 => rfl
  | _ :: r, i + 1 => gt_pure r i
theorem shareAt_length : ∀ (is : List Nat) (ρ : Env), (shareAt ρ is).length = ρ.length
  | [], _ => rfl
  | i :: is, ρ => by
    unfold shareAt
    rw [shareAt_length is, st_length]
theorem pure_v {x : Sl} {d : D} (h : x.pure = .v d) : x = .v d ∧ d.rfree = true := by
  cases x with
  | no => cases h
  | own ds => cases h
  | v e =>
    simp only [Sl.pure] at h
    split at h
    · cases h
      exact ⟨rfl, by assumption⟩
    · cases h
theorem pure_own {x : Sl} {ds : List D} (h : x.pure = .own ds) : False := by
  cases x with
  | no => cases h
  | own ds => cases h
  | v e =>
    simp only [Sl.pure] at h
    split at h <;> cases h
/-- into a pure reader -/
theorem Sim.reader (s : Sim K H0 F ρ S σ H π lo lf) (is : List Nat) : Sim K H0 (Mt F (Ht.shareAt ρ is) S π lo lf) ((Ht.shareAt ρ is).map Sl.pure) [] σ H [] lo lf := by
  obtain ⟨s1, l1⟩ := s.shareAt is
  have mm : ∀ a, Mt (Mt F (Ht.shareAt ρ is) S π lo lf) ((Ht.shareAt ρ is).map Sl.pure) [] [] lo lf a → Mt F (Ht.shareAt ρ is) S π lo lf a := fun a h => by
    rcases h with h | ⟨i, ds, h, _⟩ | h | ⟨n, f, ds, h, _⟩
    · exact h
    · rw [gt_pure] at h
      exact (pure_own h).elim
    · cases h
    · simp [fldAt] at h
  refine ⟨fun i d e => ?_, fun i ds e => ?_, fun i j ds es e => ?_, fun i ds e => ?_, fun a ha => (by cases ha), fun n f ds e => (by simp [fldAt] at e), by rw [List.length_map, shareAt_length]; exact s.len, .nil, s.dm, fun a h => s1.there h⟩
  · rw [gt_pure] at e
    obtain ⟨e1, e2⟩ := pure_v e
    obtain ⟨v, h1, h2⟩ := s1.sl i d e1
    exact ⟨v, h1, (h2.noref e2).less mm⟩
  · rw [gt_pure] at e
    exact (pure_own e).elim
  · rw [gt_pure] at e
    exact (pure_own e).elim
  · rw [gt_pure] at e
    exact (pure_own e).elim
end
end Ht

set_option Elab.async false
set_option linter.all false
set_option maxRecDepth 100000
set_option maxHeartbeats 1000000
/-! ### soundness: the store's objects -/
namespace Ht
open PySem L2
theorem fget_fput (f g : Str) (y : Sl) : ∀ fs : List (Str × Sl), fget (fput f y fs) g = if g = f then y else fget fs g
  | [] => by simp only [fput, fget]
  | (k, x) :: r => by
    have ih := fget_fput f g y r
    unfold fput
    by_cases hk : k = f
    · rw [if_pos hk]
      subst hk
      simp only [fget]
      by_cases h : g = k
      · rw [if_pos h, if_pos h]
      · rw [if_neg h, if_neg h, if_neg h]
    · rw [if_neg hk]
      simp only [fget]
      by_cases h : g = k
      · rw [if_pos h, if_pos h, if_neg (fun e => hk (h.symm.trans e))]
      · rw [if_neg h, if_neg h, ih]
theorem keys_put (f : Str) (y : Sl) (v : V) : ∀ (vfs : List (Str × V)) (fs : List (Str × Sl)), vfs.map (·.1) = fs.map (·.1) → (putF f v vfs).map (·.1) = (fput f y fs).map (·.1)
  | [], [], _ => rfl
  | [], _ :: _, h => by simp at h
  | _ :: _, [], h => by simp at h
  | (k, x) :: vr, (k', x') :: r, h => by
    simp only [List.map_cons, List.cons.injEq] at h
    obtain ⟨rfl, h2⟩ := h
    have ih := keys_put f y v vr r h2
    rw [show putF f v ((k, x) :: vr) = (if k = f then (k, v) :: vr else (k, x) :: putF f v vr) from rfl]
    unfold fput
    by_cases hk : k = f
    · rw [if_pos hk, if_pos hk, List.map_cons, List.map_cons, h2]
    · rw [if_neg hk, if_neg hk, List.map_cons, List.map_cons, ih]
theorem hasF_none {m : Str} : ∀ (vfs : List (Str × V)) (fs : List (Str × Sl)), vfs.map (·.1) = fs.map (·.1) → hasF fs m = false → vfs.lookup m = none
  | [], _, _, _ => rfl
  | _ :: _, [], h, _ => by simp at h
  | (k, x) :: vr, (k', x') :: r, h, e => by
    simp only [List.map_cons, List.cons.injEq] at h
    obtain ⟨rfl, h2⟩ := h
    simp only [hasF, Bool.or_eq_false_iff, decide_eq_false_iff_not] at e
    have hb : (m == k) = false := beq_eq_false_iff_ne.mpr e.1
    simp only [List.lookup, hb]
    exact hasF_none vr r h2 e.2
section
variable {S : Store} {n m : Nat} {c : Str} {fs : List (Str × Sl)} {f g : Str} {y : Sl}
theorem setFld_obj (h : S[n]? = some (.obj c fs)) : setFld S n f y = S.set n (.obj c (fput f y fs)) := by simp only [setFld, h]
theorem fldAt_set (h : S[n]? = some (.obj c fs)) : fldAt (setFld S n f y) m g = if m = n ∧ g = f then y else fldAt S m g := by
  rw [setFld_obj h]
  have hn : n < S.length := (List.getElem?_eq_some_iff.mp h).1
  by_cases e : m = n
  · subst e
    simp only [fldAt, List.getElem?_set_self hn, h, fget_fput, true_and]
  · rw [if_neg fun z => e z.1]
    simp only [fldAt, List.getElem?_set_ne (Ne.symm e)]
theorem fldAt_push : fldAt (S ++ [.obj c []]) m g = fldAt S m g := by
  unfold fldAt
  by_cases h : m < S.length
  · rw [List.getElem?_append_left h]
  · rw [List.getElem?_append_right (by omega), List.getElem?_eq_none (l := S) (by omega)]
    cases hm : m - S.length with
    | zero => rfl
    | succ k => rfl
end
section
variable {K : Fg} {H0 : Hp} {F F' : AS} {ρ : Env} {S S' : Store} {σ : L2.St} {H H' : Hp} {π π' : List Addr} {lo : Nat → Addr} {lf lf' : Nat → Str → Addr}
/-- a new object in the store -/
theorem Sim.addCell {x C dx : Addr} {c : Str} (s : Sim K H0 F ρ S σ H π lo lf) (hx : H x = some (.ins C dx [])) (hn : x ∉ π) (hF : ¬ F x) (hc : ClsAt K c C) :
    Sim K H0 F ρ (S ++ [.obj c []]) σ H (π ++ [x]) lo lf ∧ Ext K F H π (Mt F ρ S π lo lf) H (π ++ [x]) (Mt F ρ (S ++ [.obj c []]) (π ++ [x]) lo lf) := by
  have up : ∀ a, Mt F ρ (S ++ [.obj c []]) (π ++ [x]) lo lf a → Mt F ρ S π lo lf a ∨ a = x := fun a h => by
    rcases h with h | h | h | ⟨n, f, ds, h, e⟩
    · exact .inl (.inl h)
    · exact .inl (.inr (.inl h))
    · rcases List.mem_append.mp h with h | h
      · exact .inl (.inr (.inr (.inl h)))
      · exact .inr (by simpa using h)
    · rw [fldAt_push] at h
      exact .inl (.inr (.inr (.inr ⟨n, f, ds, h, e⟩)))
  have k : Keeps K H π (Mt F ρ S π lo lf) H (π ++ [x]) (Mt F ρ (S ++ [.obj c []]) (π ++ [x]) lo lf) := ⟨⟨[x], rfl⟩, fun a o h l m => ⟨h, fun q => by
    rcases up a q with q | q
    · exact m q
    · subst q
      rw [hx] at h
      cases h
      exact l⟩, fun _ _ h => h, fun _ _ _ h => h⟩
  have ne : ∀ a vs, H a = some (.lst vs) → a ≠ x := fun a vs h e => by
    subst e
    rw [hx] at h
    cases h
  refine ⟨⟨fun i d e => ?_, fun i ds e => ?_, s.inj, fun i ds e => ?_, fun a ha h => ?_, fun n f ds e h => ?_, s.len, ⟨?_, ?_, fun n cl e => ?_, fun n f ds m g es e1 e2 e3 => ?_, fun n f ds e h => ?_⟩, s.dm, s.fh⟩, k, fun _ _ _ h => h, fun _ h => h⟩
  · obtain ⟨v, h1, h2⟩ := s.sl i d e
    exact ⟨v, h1, h2.keep k⟩
  · obtain ⟨h1, vs, h2, h3⟩ := s.ow i ds e
    exact ⟨h1, vs, h2, h3.keep k⟩
  · obtain ⟨h1, h2, h3, h4⟩ := s.nf i ds e
    obtain ⟨_, vs, h5, _⟩ := s.ow i ds e
    refine ⟨h1, fun h => ?_, h3, fun n f es h => ?_⟩
    · rcases List.mem_append.mp h with h | h
      · exact h2 h
      · exact ne _ vs h5 (by simpa using h)
    · rw [fldAt_push] at h
      exact h4 n f es h
  · rcases List.mem_append.mp ha with ha | ha
    · exact s.np a ha h
    · have : a = x := by simpa using ha
      subst this
      exact hF h
  · rw [fldAt_push] at e
    exact s.nq n f ds e h
  · rw [List.length_append, List.length_append, s.ok.len]
    rfl
  · refine List.nodup_append.mpr ⟨s.ok.nd, by simp, fun a ha b hb => ?_⟩
    have : b = x := by simpa using hb
    subst this
    exact fun e => hn (e ▸ ha)
  · by_cases hl : n < S.length
    · rw [List.getElem?_append_left hl] at e
      obtain ⟨c', fs, rfl, a, C', dx', vfs, h1, h2, h3, h4, h5⟩ := s.ok.cell n cl e
      exact ⟨c', fs, rfl, a, C', dx', vfs, by rw [List.getElem?_append_left (by rw [s.ok.len]; exact hl)]; exact h1, h2, h3, h4, fun f => (h5 f).keep k fun _ _ _ q => q⟩
    · rw [List.getElem?_append_right (by omega)] at e
      have hz : n - S.length = 0 := by
        have := (List.getElem?_eq_some_iff.mp e).1
        simp at this
        omega
      rw [hz] at e
      cases e
      refine ⟨c, [], rfl, x, C, dx, [], ?_, hx, hc, rfl, fun f => trivial⟩
      rw [List.getElem?_append_right (by rw [s.ok.len]; omega), s.ok.len, hz]
      rfl
  · rw [fldAt_push] at e1 e2
    exact s.ok.inj n f ds m g es e1 e2 e3
  · rw [fldAt_push] at e
    rcases List.mem_append.mp h with h | h
    · exact s.ok.np n f ds e h
    · obtain ⟨_, _, _, _, _, _, vs, _, _, _, _, _, _, _, _, q, _⟩ := s.ok.own e
      exact ne _ vs q (by simpa using h)
/-- an instance is written over: lists and tuples stay -/
theorem keeps_ins {a C dx : Addr} {vfs ws : List (Str × V)} {M M' : AS} (ha : H a = some (.ins C dx vfs)) (hM : ∀ b o, H b = some o → LstO o → M' b → M b) : Keeps K H π M (upd H a (.ins C dx ws)) π M' :=
  ⟨⟨[], by simp⟩, fun b o h l m => ⟨by rw [upd_ne (ne_of h ha (by intro z; subst z; exact l))]; exact h, fun q => m (hM b o h l q)⟩, fun b vs h => by
    rcases h with (h | ⟨q, h⟩) | h
    · exact .inl (.inl (by rw [upd_ne (ne_of h ha (by intro z; cases z))]; exact h))
    · exact .inl (.inr ⟨q, by rw [upd_ne (ne_of h ha (by intro z; cases z))]; exact h⟩)
    · exact .inr h, fun b o u h => by rw [upd_ne (ne_of h ha (by intro z; cases z))]; exact h⟩
theorem upd_none {a b : Addr} {o : HO} (h : upd H a o b = none) : H b = none := by
  by_cases c : b = a
  · subst c
    rw [upd_same] at h
    cases h
  · rw [upd_ne c] at h
    exact h
/-- the last step of a field's store: sl is the new content, p its address if it is own -/
theorem Sim.putFld {n : Nat} {c : Str} {fs : List (Str × Sl)} {f : Str} {y : Sl} {v : V} {a C dx p : Addr} {vfs : List (Str × V)} {G : AS} (s : Sim K H0 G ρ S σ H π lo lf) (hG : ∀ b, F b → G b) (hS : S[n]? = some (.obj c fs)) (ha : π[n]? = some a) (hH : H a = some (.ins C dx vfs)) (hC : ClsAt K c C) (hk : vfs.map (·.1) = fs.map (·.1))
    (hv : ∀ g, FldOk K H π (Mt G ρ S π lo lf) (lf n g) (fget fs g) (vfs.lookup g)) (hy : ∀ ds, y = .own ds → G p ∧ ¬ Mt F ρ S π lo lf p) (hfv : FldOk K H π (Mt G ρ S π lo lf) p y (some v)) :
    Sim K H0 F ρ (setFld S n f y) σ (upd H a (.ins C dx (putF f v vfs))) π lo (fun m g => if m = n ∧ g = f then p else lf m g) ∧
    Ext K F H π (Mt G ρ S π lo lf) (upd H a (.ins C dx (putF f v vfs))) π (Mt F ρ (setFld S n f y) π lo (fun m g => if m = n ∧ g = f then p else lf m g)) := by
  have up : ∀ b, Mt F ρ (setFld S n f y) π lo (fun m g => if m = n ∧ g = f then p else lf m g) b → Mt G ρ S π lo lf b := fun b h => by
    rcases h with h | h | h | ⟨m, g, ds, h, e⟩
    · exact .inl (hG b h)
    · exact .inr (.inl h)
    · exact .inr (.inr (.inl h))
    · rw [fldAt_set hS] at h
      by_cases q : m = n ∧ g = f
      · rw [if_pos q] at h
        simp only [if_pos q] at e
        rw [e]
        exact .inl (hy ds h).1
      · rw [if_neg q] at h
        simp only [if_neg q] at e
        exact .inr (.inr (.inr ⟨m, g, ds, h, e⟩))
  have k : Keeps K H π (Mt G ρ S π lo lf) (upd H a (.ins C dx (putF f v vfs))) π (Mt F ρ (setFld S n f y) π lo (fun m g => if m = n ∧ g = f then p else lf m g)) := keeps_ins hH fun b o _ _ q => up b q
  have am : a ∈ π := mem_of_get ha
  have ne : ∀ b vs, H b = some (.lst vs) → b ≠ a := fun b vs h e => by
    subst e
    rw [hH] at h
    cases h
  have nG : ∀ b, G b → b ≠ a := fun b h e => s.np a am (e ▸ h)
  refine ⟨⟨fun i d e => ?_, fun i ds e => ?_, s.inj, fun i ds e => ?_, fun b hb h => s.np b hb (hG b h), fun m g ds e h => ?_, s.len, ⟨?_, s.ok.nd, fun m cl e => ?_, fun m g ds m' g' es e1 e2 e3 => ?_, fun m g ds e h => ?_⟩, fun b h => s.dm b (upd_none h), fun b h z => s.fh b (hG b h) (upd_none z)⟩, k, fun b o hf q => ?_, fun b h => upd_none h⟩
  · obtain ⟨v, h1, h2⟩ := s.sl i d e
    exact ⟨v, h1, h2.keep k⟩
  · obtain ⟨h1, vs, h2, h3⟩ := s.ow i ds e
    exact ⟨h1, vs, by rw [upd_ne (ne _ vs h2)]; exact h2, h3.keep k⟩
  · obtain ⟨h1, h2, h3, h4⟩ := s.nf i ds e
    refine ⟨fun h => h1 (hG _ h), h2, h3, fun m g es h z => ?_⟩
    rw [fldAt_set hS] at h
    by_cases q : m = n ∧ g = f
    · rw [if_pos q] at h
      simp only [if_pos q] at z
      exact (hy es h).2 (z ▸ .inr (.inl ⟨i, ds, e, rfl⟩))
    · rw [if_neg q] at h
      simp only [if_neg q] at z
      exact h4 m g es h z
  · rw [fldAt_set hS] at e
    by_cases q : m = n ∧ g = f
    · rw [if_pos q] at e
      simp only [if_pos q] at h
      exact (hy ds e).2 (.inl h)
    · rw [if_neg q] at e
      simp only [if_neg q] at h
      exact s.nq m g ds e (hG _ h)
  · rw [setFld_obj hS, List.length_set]
    exact s.ok.len
  · rw [setFld_obj hS] at e
    by_cases hm : m = n
    · subst hm
      rw [List.getElem?_set_self (List.getElem?_eq_some_iff.mp hS).1] at e
      cases e
      refine ⟨c, _, rfl, a, C, dx, _, ha, upd_same, hC, keys_put f y v vfs fs hk, fun g => ?_⟩
      rw [fget_fput, lookup_putF]
      by_cases q : g = f
      · rw [if_pos q, if_pos q]
        show FldOk _ _ _ _ (if m = m ∧ g = f then p else lf m g) _ _
        rw [if_pos (show m = m ∧ g = f from ⟨rfl, q⟩)]
        exact hfv.keep k fun ds o ey h => by
          rw [upd_ne (nG p (hy ds ey).1)]
          exact h
      · rw [if_neg q, if_neg q]
        show FldOk _ _ _ _ (if m = m ∧ g = f then p else lf m g) _ _
        rw [if_neg (show ¬ (m = m ∧ g = f) from fun z => q z.2)]
        exact (hv g).keep k fun ds o eg h => by
          have hgv := hv g
          rw [eg] at hgv
          obtain ⟨_, vs, h2, _⟩ := hgv
          rw [upd_ne (ne _ vs h2)]
          exact h
    · rw [List.getElem?_set_ne (Ne.symm hm)] at e
      obtain ⟨c', fs', rfl, a', C', dx', vfs', h1, h2, h3, h4, h5⟩ := s.ok.cell m cl e
      have na : a' ≠ a := fun z => by
        subst z
        exact hm ((List.getElem?_inj (List.getElem?_eq_some_iff.mp h1).1 s.ok.nd).mp (h1.trans ha.symm))
      refine ⟨c', fs', rfl, a', C', dx', vfs', h1, by rw [upd_ne na]; exact h2, h3, h4, fun g => ?_⟩
      simp only [if_neg (show ¬ (m = n ∧ g = f) from fun z => hm z.1)]
      exact (h5 g).keep k fun ds o eg h => by
        have hgv := h5 g
        rw [eg] at hgv
        obtain ⟨_, vs, h2, _⟩ := hgv
        rw [upd_ne (ne _ vs h2)]
        exact h
  · rw [fldAt_set hS] at e1 e2
    by_cases q1 : m = n ∧ g = f
    · by_cases q2 : m' = n ∧ g' = f
      · exact ⟨q1.1.trans q2.1.symm, q1.2.trans q2.2.symm⟩
      · rw [if_pos q1] at e1
        rw [if_neg q2] at e2
        simp only [if_pos q1, if_neg q2] at e3
        exact absurd (.inr (.inr (.inr ⟨m', g', es, e2, e3⟩))) (hy ds e1).2
    · by_cases q2 : m' = n ∧ g' = f
      · rw [if_neg q1] at e1
        rw [if_pos q2] at e2
        simp only [if_neg q1, if_pos q2] at e3
        exact absurd (.inr (.inr (.inr ⟨m, g, ds, e1, e3.symm⟩))) (hy es e2).2
      · rw [if_neg q1] at e1
        rw [if_neg q2] at e2
        simp only [if_neg q1, if_neg q2] at e3
        exact s.ok.inj m g ds m' g' es e1 e2 e3
  · rw [fldAt_set hS] at e
    by_cases q : m = n ∧ g = f
    · rw [if_pos q] at e
      simp only [if_pos q] at h
      exact (hy ds e).2 (.inr (.inr (.inl h)))
    · rw [if_neg q] at e
      simp only [if_neg q] at h
      exact s.ok.np m g ds e h
  · rw [upd_ne (nG b (hG b hf))]
    exact q
/-- the list of an own field is written over -/
theorem Sim.setOwnF {n : Nat} {f : Str} {ds es : List D} {ws : List V} (s : Sim K H0 F ρ S σ H π lo lf) (h : fldAt S n f = .own ds) (hr : Reps K H π (Mt F ρ S π lo lf) ws es) :
    Sim K H0 F ρ (setFld S n f (.own es)) σ (upd H (lf n f) (.lst ws)) π lo lf ∧ Ext K F H π (Mt F ρ S π lo lf) (upd H (lf n f) (.lst ws)) π (Mt F ρ (setFld S n f (.own es)) π lo lf) := by
  obtain ⟨c, fs, a, C, dx, vfs, vs, hS, ha, hH, hC, hk, hv, e1, e2, e3, e4⟩ := s.ok.own h
  have up : ∀ b, Mt F ρ (setFld S n f (.own es)) π lo lf b → Mt F ρ S π lo lf b := fun b m => by
    rcases m with m | m | m | ⟨m', g, gs, m, e⟩
    · exact .inl m
    · exact .inr (.inl m)
    · exact .inr (.inr (.inl m))
    · rw [fldAt_set hS] at m
      by_cases q : m' = n ∧ g = f
      · obtain ⟨rfl, rfl⟩ := q
        exact .inr (.inr (.inr ⟨_, _, ds, h, e⟩))
      · rw [if_neg q] at m
        exact .inr (.inr (.inr ⟨m', g, gs, m, e⟩))
  have mm : Mt F ρ S π lo lf (lf n f) := .inr (.inr (.inr ⟨n, f, ds, h, rfl⟩))
  have k : Keeps K H π (Mt F ρ S π lo lf) (upd H (lf n f) (.lst ws)) π (Mt F ρ (setFld S n f (.own es)) π lo lf) :=
    ⟨⟨[], by simp⟩, fun b o r _ m => ⟨by rw [upd_ne (show b ≠ lf n f from fun e => m (e ▸ mm))]; exact r, fun q => m (up b q)⟩, fun b vs' r => sqt_lst e3 r, fun b o u r => by rw [upd_ne (ne_of r e3 (by intro z; cases z))]; exact r⟩
  have back : ∀ m g gs, fldAt (setFld S n f (.own es)) m g = .own gs → ∃ gs', fldAt S m g = .own gs' := fun m g gs e => by
    rw [fldAt_set hS] at e
    by_cases q : m = n ∧ g = f
    · obtain ⟨rfl, rfl⟩ := q
      exact ⟨ds, h⟩
    · rw [if_neg q] at e
      exact ⟨gs, e⟩
  refine ⟨⟨fun i d e => ?_, fun i gs e => ?_, s.inj, fun i gs e => ?_, s.np, fun m g gs e q => ?_, s.len, ⟨?_, s.ok.nd, fun m cl e => ?_, fun m g gs m' g' gs' h1 h2 h3 => ?_, fun m g gs e q => ?_⟩, fun b q => s.dm b (upd_none q), fun b q z => s.fh b q (upd_none z)⟩, k, fun b o hf q => ?_, fun b q => upd_none q⟩
  · obtain ⟨v, h1, h2⟩ := s.sl i d e
    exact ⟨v, h1, h2.keep k⟩
  · obtain ⟨h1, vs', h2, h3⟩ := s.ow i gs e
    exact ⟨h1, vs', by rw [upd_ne ((s.nf i gs e).2.2.2 n f ds h)]; exact h2, h3.keep k⟩
  · obtain ⟨h1, h2, h3, h4⟩ := s.nf i gs e
    exact ⟨h1, h2, h3, fun m g gs' q => let ⟨gs'', q'⟩ := back m g gs' q; h4 m g gs'' q'⟩
  · obtain ⟨gs', e'⟩ := back m g gs e
    exact s.nq m g gs' e' q
  · rw [setFld_obj hS, List.length_set]
    exact s.ok.len
  · rw [setFld_obj hS] at e
    by_cases hm : m = n
    · subst hm
      rw [List.getElem?_set_self (List.getElem?_eq_some_iff.mp hS).1] at e
      cases e
      refine ⟨c, _, rfl, a, C, dx, vfs, ha, by rw [upd_ne (ne_of hH e3 (by intro z; cases z))]; exact hH, hC, ?_, fun g => ?_⟩
      · have hfs : ∀ (l : List (Str × Sl)), fget l f = .own ds → (fput f (.own es) l).map (·.1) = l.map (·.1) := by
          intro l
          induction l with
          | nil => intro z; cases z
          | cons p r ih =>
            obtain ⟨k0, x0⟩ := p
            intro z
            unfold fput
            by_cases hk0 : k0 = f
            · rw [if_pos hk0]
              rfl
            · rw [if_neg hk0, List.map_cons, List.map_cons]
              simp only [fget, if_neg (show ¬ f = k0 from fun z => hk0 z.symm)] at z
              rw [ih z]
        rw [hfs fs e1]
        exact hk
      · rw [fget_fput]
        by_cases q : g = f
        · subst q
          rw [if_pos rfl]
          exact ⟨e2, ws, upd_same, hr.keep k⟩
        · rw [if_neg q]
          exact (hv g).keep k fun gs o eg q' => by
            rw [upd_ne (fun z => q (s.ok.inj m g gs m f ds (by rw [fldAt_obj hS]; exact eg) h z).2)]
            exact q'
    · rw [List.getElem?_set_ne (Ne.symm hm)] at e
      obtain ⟨c', fs', rfl, a', C', dx', vfs', h1, h2, h3, h4, h5⟩ := s.ok.cell m cl e
      refine ⟨c', fs', rfl, a', C', dx', vfs', h1, by rw [upd_ne (ne_of h2 e3 (by intro z; cases z))]; exact h2, h3, h4, fun g => ?_⟩
      exact (h5 g).keep k fun gs o eg q' => by
        rw [upd_ne (fun z => hm (s.ok.inj m g gs n f ds (by rw [fldAt_obj e]; exact eg) h z).1)]
        exact q'
  · obtain ⟨_, e1'⟩ := back m g gs h1
    obtain ⟨_, e2'⟩ := back m' g' gs' h2
    exact s.ok.inj m g _ m' g' _ e1' e2' h3
  · obtain ⟨_, e'⟩ := back m g gs e
    exact s.ok.np m g _ e' q
  · rw [upd_ne (show b ≠ lf n f from fun z => s.nq n f ds h (z ▸ hf))]
    exact q
end
end Ht

set_option Elab.async false
set_option linter.all false
set_option maxRecDepth 100000
set_option maxHeartbeats 1000000
/-! ### soundness: the expressions, one by one -/
namespace Ht
open PySem L2
section
variable {K : Fg} {H0 : Hp} {F F' : AS} {ρ : Env} {S S' : Store} {σ : L2.St} {H H' : Hp} {π π' : List Addr} {lo : Nat → Addr} {lf lf' : Nat → Str → Addr}
/-- out of a pure reader -/
theorem Sim.unread (s : Sim K H0 F ρ S σ H π lo lf) (is : List Nat) {M1' : AS} (x : Ext K (Mt F (Ht.shareAt ρ is) S π lo lf) H [] (Mt (Mt F (Ht.shareAt ρ is) S π lo lf) ((Ht.shareAt ρ is).map Sl.pure) [] [] lo lf) H' π' M1') :
    Sim K H0 F ρ S σ H' π lo lf ∧ Ext K F H π (Mt F ρ S π lo lf) H' π (Mt F ρ S π lo lf) := by
  obtain ⟨s1, l1⟩ := s.shareAt is
  have mm : ∀ a, Mt (Mt F (Ht.shareAt ρ is) S π lo lf) ((Ht.shareAt ρ is).map Sl.pure) [] [] lo lf a → Mt F (Ht.shareAt ρ is) S π lo lf a := fun a h => by
    rcases h with h | ⟨i, ds, h, _⟩ | h | ⟨n, f, ds, h, _⟩
    · exact h
    · rw [gt_pure] at h
      exact (pure_own h).elim
    · cases h
    · simp [fldAt] at h
  have k : Keeps K H π (Mt F ρ S π lo lf) H' π (Mt F ρ S π lo lf) := ⟨⟨[], by simp⟩, fun a o h l m => ⟨(x.ls a o h l fun q => m (l1 a (mm a q))).1, m⟩, x.tp, x.fz⟩
  have hM : ∀ a o, Mt F ρ S π lo lf a → H a = some o → H' a = some o := fun a o m h => by
    by_cases c : Mt F (Ht.shareAt ρ is) S π lo lf a
    · exact x.fo a o c h
    · rcases m with m | ⟨i, ds, m, e⟩ | m
      · exact absurd (.inl m) c
      · obtain ⟨_, vs, q2, _⟩ := s.ow i ds m
        subst e
        rw [h] at q2
        cases q2
        exact (x.ls _ _ h trivial fun q => c (mm _ q)).1
      · exact absurd (.inr (.inr m)) c
  exact ⟨s.stay k hM x.dm, k, fun a o hf q => hM a o (.inl hf) q, x.dm⟩
end
theorem star_cons {e : Expr} {es : List Expr} {env : PySem.Env} (h : isStar e = false) : starEach (e :: es) env = (false, eval e env) :: starEach es env := by
  cases e <;> first | rfl | (simp [isStar] at h)
theorem star_any {pos : Pos} {env : PySem.Env} : ∀ {es : List Expr}, es.any isStar = false → (backTo pos (starEach es env)).any (·.1) = false
  | [], _ => rfl
  | e :: es, h => by
    simp only [List.any_cons, Bool.or_eq_false_iff] at h
    rw [star_cons h.1]
    have ih := star_any (pos := pos) (env := env) h.2
    simp only [backTo, List.map_cons, List.any_cons, Bool.or_eq_false_iff] at ih ⊢
    exact ⟨trivial, ih⟩

section
variable {X : Cx} {Γ : Ctx} {e a b : Expr} {c ca cb : CE} {k ka kb : CT} {pos : Pos}
theorem snd_slot {i : Nat} {x : Str} (hN : X.N[i]? = some x) (hv : Vis X.env.scope x) (hd : (x == ("__debug__" : Str)) = false) (hcd : (x == ("__classdict__" : Str)) = false) : SndE X Γ (.Name x pos) (.slot i) := fun H0 F ρ S σ H π lo lf s r ρ' S' h Q q => by
  simp only [ev] at h
  refine ⟨_, pe_var hN hv hd hcd, ?_⟩
  cases hg : gt ρ i with
  | no => rw [hg] at h; cases h
  | v d =>
    rw [hg] at h
    cases h
    obtain ⟨v, h1, h2⟩ := s.sl i d hg
    exact ⟨v, h1, q v H π lf .refl ⟨s, h2⟩⟩
  | own ds =>
    rw [hg] at h
    cases h
    obtain ⟨s1, h2, h1⟩ := s.share hg
    exact ⟨_, h1, q _ H π lf ⟨.less fun a => mt_st_v, fun _ _ _ z => z, fun _ z => z⟩ ⟨s1, h2⟩⟩
theorem snd_pop {i : Nat} {x : Str} {p ap cp : Pos} (hN : X.N[i]? = some x) (hv : Vis X.env.scope x) (hd : (x == ("__debug__" : Str)) = false) (hcd : (x == ("__classdict__" : Str)) = false) (hl : (ap.endLine == cp.line) = true) : SndE X Γ (.Call (.Attribute (.Name x p) "pop" ap) [] [] cp) (.pop i) := fun H0 F ρ S σ H π lo lf s r ρ' S' h Q q => by
  simp only [ev] at h
  cases hg : gt ρ i with
  | no => rw [hg] at h; cases h
  | v d => rw [hg] at h; cases h
  | own ds =>
    rw [hg] at h
    simp only at h
    cases hz : ds.getLast? with
    | none => rw [hz] at h; cases h
    | some d =>
      rw [hz] at h
      cases h
      obtain ⟨h1, vs, h2, h3⟩ := s.ow i ds hg
      refine ⟨_, pe_bm0 PySem.F.plainAttrs_list PySem.F.slot_list_pop PySem.F.type_list_pop mt_pop (pe_var hN hv hd hcd) rfl hl, ?_⟩
      rw [List.getLast?_eq_getElem?] at hz
      obtain ⟨v, hv1, hv2⟩ := h3.get hz
      obtain ⟨s1, x1⟩ := s.setOwn hg h3.dropLast
      refine ⟨_, h1, .inl ⟨rfl, _, SqL.of h2⟩, lo i, vs, v, rfl, rfl, h2, by rw [h3.length]; exact hv1, ?_⟩
      exact q v _ _ _ x1 ⟨s1, hv2.keep x1.toKeeps⟩
theorem guard_inv0 {ρ ρ' : Env} {S S' : Store} {r : Rv} (h : ev Γ (.guard [] c) ρ S = .ok r ρ' S') : ∃ d ρ1, ev Γ c ((shareAt ρ []).map Sl.pure) [] = .ok (.sh d) ρ1 [] ∧ d.lfree = true ∧ r = .sh d ∧ ρ' = ρ ∧ S' = S := by
  simp only [ev] at h
  split at h
  · split at h
    · cases h
      exact ⟨_, _, by assumption, by assumption, rfl, rfl, rfl⟩
    · cases h
  · cases h
theorem guard_inv {is : List Nat} {ρ ρ' : Env} {S S' : Store} {r : Rv} (h : ev Γ (.guard is c) ρ S = .ok r ρ' S') : (∃ d ρ1, ev Γ c ((shareAt ρ is).map Sl.pure) [] = .ok (.sh d) ρ1 [] ∧ d.lfree = true ∧ r = .sh d ∧ ρ' = ρ ∧ S' = S) ∨ ev Γ c ρ S = .ok r ρ' S' := by
  simp only [ev] at h
  split at h
  · split at h
    · cases h
      exact .inl ⟨_, _, by assumption, by assumption, rfl, rfl, rfl⟩
    · split at h
      · cases h
      · exact .inr (Out.okOnly_inv h)
  · split at h
    · cases h
    · exact .inr (Out.okOnly_inv h)
theorem snd_guard {is : List Nat} (hc : SndE X Γ e c) : SndE X Γ e (.guard is c) := fun H0 F ρ S σ H π lo lf s r ρ' S' h Q q => by
  rcases guard_inv h with ⟨d, ρ1, h1, h2, rfl, rfl, rfl⟩ | h
  · refine hc _ _ _ _ _ _ _ _ _ (s.reader is) _ _ _ h1 _ fun v H1 π1 lf1 x1 k1 => ?_
    obtain ⟨s1, r1⟩ := k1
    obtain ⟨s2, x2⟩ := s.unread is x1
    have hp := s1.ok.of_nil
    subst hp
    exact q v H1 π lf x2 ⟨s2, r1.lfree h2⟩
  · exact hc _ _ _ _ _ _ _ _ _ s _ _ _ h _ q
theorem sndT_guard {is : List Nat} (hc : SndT X Γ e (.e c)) : SndT X Γ e (.e (.guard is c)) := fun H0 F ρ S σ H π lo lf s r ρ' S' h Q q => by
  simp only [evT] at h
  obtain ⟨x, ρ1, S1, h1, g⟩ := bind_ok_inv h
  clear h
  obtain ⟨h2, rfl, rfl⟩ := of_ok_inv g
  rcases guard_inv h1 with ⟨d, ρ2, h3, h4, rfl, rfl, rfl⟩ | h1
  · have := isB_inv h2
    cases this
    have h5 : evT Γ (.e c) ((shareAt ρ' is).map Sl.pure) [] = .ok r ρ2 [] := by
      simp only [evT, h3, Out.bind_ok, isB, Out.of_some]
    refine hc _ _ _ _ _ _ _ _ _ (s.reader is) _ _ _ h5 _ fun H1 π1 lf1 x1 k1 => ?_
    obtain ⟨s2, x2⟩ := s.unread is x1
    exact q H1 π lf x2 s2
  · exact hc _ _ _ _ _ _ _ _ _ s _ _ _ (by simp only [evT, h1, Out.bind_ok, h2, Out.of_some]) _ q
theorem snd_grd {is : List Nat} (hc : SndE X Γ e c) : SndE X Γ e (grd is c) := by
  unfold grd
  split
  · exact hc
  · exact snd_guard hc
theorem sndT_grd {is : List Nat} (hc : SndT X Γ e (.e c)) : SndT X Γ e (.e (grd is c)) := by
  unfold grd
  split
  · exact hc
  · exact sndT_guard hc
theorem snd_idx (hs : PlainIx b) (ha : SndE X Γ a ca) (hb : SndE X Γ b cb) : SndE X Γ (.Subscript a b pos) (.idx ca cb) := fun H0 F ρ S σ H π lo lf s r ρ' S' h Q q => by
  simp only [ev] at h
  obtain ⟨x, ρ1, S1, h1, h'⟩ := bind_ok_inv h
  obtain ⟨y, ρ2, S2, h2, h''⟩ := bind_ok_inv h'
  obtain ⟨z, ρ3, S3, h3, g⟩ := bind_ok_inv h''
  clear h h' h''
  obtain ⟨h4, rfl, rfl⟩ := of_ok_inv h3
  cases g
  obtain ⟨rl, ho, hv⟩ := idx_val (X := X) h4
  refine ⟨_, pe_ix ho (mxE X a) (mxE X b) hs, ?_⟩
  refine ha.sh s h1 fun v1 H1 π1 lf1 x1 s1 r1 => hb.sh s1 h2 fun v2 H2 π2 lf2 x2 s2 r2 => ?_
  obtain ⟨v, hr, hq⟩ := hv _ _ _ _ _ (r1.keep x2.toKeeps) r2
  exact hq Q (q _ _ _ _ (x1.trans x2) ⟨s2, hr⟩)
theorem findIdx_facts {p : D → Bool} : ∀ {ds : List D} {k : Nat}, ds.findIdx? p = some k → (∃ d, ds[k]? = some d ∧ p d = true) ∧ ∀ m d, m < k → ds[m]? = some d → p d = false := by
  intro ds k h
  obtain ⟨hk, h1, h2⟩ := List.findIdx?_eq_some_iff_getElem.mp h
  refine ⟨⟨ds[k], List.getElem?_eq_getElem hk, h1⟩, fun m d hm e => ?_⟩
  obtain ⟨hm', rfl⟩ := List.getElem?_eq_some_iff.mp e
  have := h2 m hm
  simpa using this
theorem toPys_get : ∀ {ds : List D} {k : Nat}, (toPys ds)[k]? = (ds[k]?).map toPy
  | [], _ => rfl
  | _ :: _, 0 => rfl
  | _ :: ds, k + 1 => toPys_get (ds := ds)
theorem flats_get {n : Nat} : ∀ {ds : List D} {k : Nat} {d : D}, D.flatsTo ds n = true → ds[k]? = some d → d.flatTo n = true
  | e :: ds, 0, d, h, g => by
    simp only [D.flatsTo, Bool.and_eq_true] at h
    cases g
    exact h.1
  | e :: ds, k + 1, d, h, g => by
    simp only [D.flatsTo, Bool.and_eq_true] at h
    exact flats_get h.2 g
theorem snd_index {ap cp : Pos} (ok : Cok X Γ) (hbase : attributeBase a "index" X.env (eval a X.env) = eval a X.env) (hl : (ap.endLine == cp.line) = true) (hs : isStar b = false) (ha : SndE X Γ a ca) (hb : SndE X Γ b cb) : SndE X Γ (.Call (.Attribute a "index" ap) [b] [] cp) (.index ca cb) := fun H0 F ρ S σ H π lo lf s r ρ' S' h Q q => by
  simp only [ev] at h
  obtain ⟨x, ρ1, S1, h1, h'⟩ := bind_ok_inv h
  obtain ⟨y, ρ2, S2, h2, h''⟩ := bind_ok_inv h'
  obtain ⟨z, ρ3, S3, h3, g⟩ := bind_ok_inv h''
  clear h h' h''
  obtain ⟨h4, rfl, rfl⟩ := of_ok_inv h3
  cases g
  have inv : (∃ ds, x.d = .lst ds ∧ (y.d.flatTo 62 = true ∧ D.flatsTo ds 61 = true) ∧ (ds.findIdx? fun d => d.eqv y.d).map (fun (k : Nat) => D.int k) = some z) ∨ (∃ (t : List Nat) (c k : Nat), x.d = .str t ∧ y.d = .str [c] ∧ z = .int (k : Int) ∧ Builtin.Str.occurrences (⟨t.toArray⟩ : Str) ⟨#[c]⟩ 0 (⟨t.toArray⟩ : Str).length 1 = k :: []) := by
    generalize x.d = dx at h4 ⊢
    generalize y.d = dy at h4 ⊢
    unfold indexD at h4
    split at h4
    · split at h4
      · rename_i hf
        rw [Bool.and_eq_true] at hf
        exact .inl ⟨_, rfl, hf, h4⟩
      · cases h4
    · split at h4
      · rename_i hc
        obtain ⟨rfl, c1, c2⟩ := hc
        cases h4
        rename_i c
        have hc5 : c = 97 ∨ c = 98 ∨ c = 99 ∨ c = 100 ∨ c = 101 := by omega
        refine .inr ⟨_, _, _, rfl, rfl, rfl, ?_⟩
        rcases hc5 with rfl | rfl | rfl | rfl | rfl <;> decide +kernel
      · split at h4
        · rename_i hc
          subst hc
          unfold jointIx at h4
          repeat' split at h4
          all_goals first | (cases h4; done) | skip
          all_goals (cases h4; rename_i hc; subst hc)
          · exact .inr ⟨_, _, 0, rfl, rfl, rfl, by decide +kernel⟩
          · exact .inr ⟨_, _, 1, rfl, rfl, rfl, by decide +kernel⟩
          · exact .inr ⟨_, _, 2, rfl, rfl, rfl, by decide +kernel⟩
          · exact .inr ⟨_, _, 3, rfl, rfl, rfl, by decide +kernel⟩
        · cases h4
    · cases h4
  rcases inv with ⟨ds, e1, hf, h4⟩ | ⟨t, c, kk, e1, e2, rfl, ho⟩
  · obtain ⟨k, hk, rfl⟩ := Option.map_eq_some_iff.mp h4
    obtain ⟨⟨d, f1, f2⟩, f3⟩ := findIdx_facts hk
    refine ⟨_, pe_bm PySem.F.plainAttrs_list PySem.F.slot_list_index PySem.F.type_list_index (mt_indexD ok.hu2) (mxE X a) (pa_cons (mxE X b) pa_nil (star_cons hs)) hbase (by rw [star_cons hs]; rfl) hl (star_cons hs) rfl, ?_⟩
    refine ha.sh s h1 fun v1 H1 π1 lf1 x1 s1 r1 => ?_
    rw [e1] at r1
    obtain ⟨p, ws, rfl, g1, g2, g3⟩ := r1.lst_inv
    refine ⟨.inl ⟨rfl, _, Rd.sql g1⟩, hb.sh s1 h2 fun v2 H2 π2 lf2 x2 s2 r2 => ?_⟩
    have r1' := r1.keep x2.toKeeps
    have hd1 := rep_dp (n := 62) r1' hf.2
    refine ⟨p, v2, toPy y.d, toPys ds, k, toPy d, rfl, rfl, hd1, rep_dp r2 hf.1, toPy_shaped (a := .lst ds) hf.2, toPy_shaped hf.1, by rw [toPys_get, f1]; rfl, ?_, fun m z' hm hz => ?_, q _ _ _ _ (x1.trans x2) ⟨s2, .int _⟩⟩
    · rw [toPy_eqv _ _ 61 62 (flats_get hf.2 f1) hf.1]
      exact f2
    · rw [toPys_get] at hz
      obtain ⟨e, he, rfl⟩ := Option.map_eq_some_iff.mp hz
      rw [toPy_eqv _ _ 61 62 (flats_get hf.2 he) hf.1]
      exact f3 m e hm he
  · refine ⟨_, pe_bm PySem.F.plainAttrs_str PySem.F.slot_str_index PySem.F.type_str_index mt_sindex (mxE X a) (pa_cons (mxE X b) pa_nil (star_cons hs)) hbase (by rw [star_cons hs]; rfl) hl (star_cons hs) rfl, ?_⟩
    refine ha.sh s h1 fun v1 H1 π1 lf1 x1 s1 r1 => ?_
    rw [e1] at r1
    obtain ⟨t1, rfl, hx1⟩ := r1.str_inv
    refine ⟨rfl, hb.sh s1 h2 fun v2 H2 π2 lf2 x2 s2 r2 => ?_⟩
    rw [e2] at r2
    obtain ⟨t2, rfl, hx2⟩ := r2.str_inv
    have j1 : t1 = (⟨t.toArray⟩ : Str) := str_ext hx1
    have j2 : t2 = (⟨#[c]⟩ : Str) := str_ext hx2
    subst j1
    subst j2
    exact ⟨_, _, _, _, rfl, rfl, ho, q _ _ _ _ (x1.trans x2) ⟨s2, .int _⟩⟩
theorem snd_dget {x : Str} (ok : Cok X Γ) (hg : Gl X x) (hn : x ≠ "__name__") (hdb : (x == ("__debug__" : Str)) = false) (hs : PlainIx b) (hb : SndE X Γ b cb) : SndE X Γ (.Subscript (.Name x p) b pos) (.dget x cb) := fun H0 F ρ S σ H π lo lf s r ρ' S' h Q q => by
  simp only [ev] at h
  obtain ⟨y, ρ1, S1, h1, h'⟩ := bind_ok_inv h
  clear h
  split at h'
  · rename_i kvs t hk hy
    split at h'
    · rename_i d hd
      cases h'
      obtain ⟨a, es, n, ha, kd, hv⟩ := ok.dc x kvs hk
      refine ⟨_, pe_ix ix_kdict (pe_glob hg ha (show RelV (.ref a) (.ref a) from rfl) hdb) (mxE X b) hs, ?_⟩
      refine hb.sh s h1 fun v1 H1 π1 lf1 x1 s1 r1 => ?_
      rw [hy] at r1
      obtain ⟨z, rfl, hz⟩ := r1.str_inv
      obtain ⟨r0, hr0, hm⟩ := hv z
      rw [hz, hd] at hm
      obtain ⟨u, v, rfl, rv, hr⟩ := hm
      exact ⟨a, z, v, rfl, rfl, ⟨es, n, u, kd.at_, kd.lit, hr0, rv⟩, q _ _ _ _ x1 ⟨s1, hr _ _ _⟩⟩
    · cases h'
  · cases h'
theorem din_use {x : Str} {neg : Bool} (ok : Cok X Γ) (ha : SndE X Γ a ca) {H0 : Hp} {F : AS} {ρ ρ' : Env} {S S' : Store} {σ : L2.St} {H : Hp} {π : List Addr} {lo : Nat → Addr} {lf : Nat → Str → Addr} (s : Sim X.K H0 F ρ S σ H π lo lf) {r : Rv} (h : ev Γ (.din neg x ca) ρ S = .ok r ρ' S') :
    ∃ (w : Bool) (d : Addr) (rl : R2), r = .sh (.bl w) ∧ X.mg x = some (.ref d) ∧ OpR X (compareOp (if neg then .NotIn else .In)) rl ∧ ∀ Q : VK, (∀ H' π' lf', Ext X.K F H π (Mt F ρ S π lo lf) H' π' (Mt F ρ' S' π' lo lf') → Sim X.K H0 F ρ' S' σ H' π' lo lf' → Q (.bl w) H') → MxE X a σ H fun x1 H1 => rl x1 (.ref d) H1 Q := by
  simp only [ev] at h
  obtain ⟨y, ρ1, S1, h1, h'⟩ := bind_ok_inv h
  clear h
  split at h'
  · rename_i kvs t hk hy
    cases h'
    obtain ⟨d, es, n, ha', kd, hv⟩ := ok.dc x kvs hk
    have key : ∀ z : Str, z.cps.toList = t → ∃ r0, PySem.W.nsIn X.K d z = some r0 ∧ r0.isSome = (dlk kvs t).isSome := fun z hz => by
      obtain ⟨r0, hr0, hm⟩ := hv z
      rw [hz] at hm
      refine ⟨r0, hr0, ?_⟩
      split at hm
      · rename_i d' hd
        obtain ⟨u, v, rfl, _⟩ := hm
        rw [hd]
        rfl
      · rename_i hd
        rw [hm, hd]
        rfl
    cases neg with
    | false =>
      refine ⟨_, d, _, rfl, ha', op_in_kd kd, fun Q q => ha.sh s h1 fun v1 H1 π1 lf1 x1 s1 r1 => ?_⟩
      rw [hy] at r1
      obtain ⟨z, rfl, hz⟩ := r1.str_inv
      obtain ⟨r0, e1, e2⟩ := key z hz
      refine ⟨z, r0, rfl, rfl, e1, ?_⟩
      have := q _ _ _ x1 s1
      rw [e2]
      cases hb : (dlk kvs t).isSome <;> (rw [hb] at this; exact this)
    | true =>
      refine ⟨_, d, _, rfl, ha', op_notIn_kd kd, fun Q q => ha.sh s h1 fun v1 H1 π1 lf1 x1 s1 r1 => ?_⟩
      rw [hy] at r1
      obtain ⟨z, rfl, hz⟩ := r1.str_inv
      obtain ⟨r0, e1, e2⟩ := key z hz
      refine ⟨z, r0, rfl, rfl, e1, ?_⟩
      have := q _ _ _ x1 s1
      rw [e2]
      cases hb : (dlk kvs t).isSome <;> (rw [hb] at this; exact this)
  · cases h'
theorem snd_din {x : Str} {neg : Bool} {op : CmpOp} (ok : Cok X Γ) (hop : op = if neg then .NotIn else .In) (hm : behindInMarks op (.Name x p) = false) (hg : Gl X x) (hdb : (x == ("__debug__" : Str)) = false) (ha : SndE X Γ a ca) : SndE X Γ (.Compare a [op] [.Name x p] pos) (.din neg x ca) := fun H0 F ρ S σ H π lo lf s r ρ' S' h Q q => by
  obtain ⟨w, d, rl, rfl, hd, ho, k⟩ := din_use ok ha s h
  subst hop
  refine ⟨_, pe_cmpR ho (mxE X a) (pe_glob hg hd (show RelV (.ref d) (.ref d) from rfl) hdb) hm, ?_⟩
  exact k Q fun H' π' lf' x1 s1 => q _ _ _ _ x1 ⟨s1, .bl _⟩
theorem sndT_din {x : Str} {neg : Bool} {op : CmpOp} (ok : Cok X Γ) (hop : op = if neg then .NotIn else .In) (hm : behindInMarks op (.Name x p) = false) (hg : Gl X x) (hdb : (x == ("__debug__" : Str)) = false) (ha : SndE X Γ a ca) : SndT X Γ (.Compare a [op] [.Name x p] pos) (.e (.din neg x ca)) := fun H0 F ρ S σ H π lo lf s r ρ' S' h Q q => by
  simp only [evT] at h
  obtain ⟨y, ρ1, S1, h1, g⟩ := bind_ok_inv h
  clear h
  obtain ⟨h2, rfl, rfl⟩ := of_ok_inv g
  obtain ⟨w, d, rl, rfl, hd, ho, k⟩ := din_use ok ha s h1
  cases h2
  subst hop
  refine ⟨_, pt_cmpR ho (mxE X a) (pe_glob hg hd (show RelV (.ref d) (.ref d) from rfl) hdb) hm, ?_⟩
  exact k _ fun H' π' lf' x1 s1 => ⟨_, rfl, q _ _ _ x1 s1⟩
theorem sndO_none : SndO X Γ none none := fun H0 F ρ S σ H π lo lf s r ρ' S' h Q q => by
  simp only [evo] at h
  cases h
  exact ⟨_, po_none, q H π lf .refl s⟩
theorem sndO_some (ha : SndE X Γ a ca) : SndO X Γ (some a) (some ca) := fun H0 F ρ S σ H π lo lf s r ρ' S' h Q q => by
  simp only [evo] at h
  obtain ⟨x, ρ1, S1, h1, h'⟩ := bind_ok_inv h
  obtain ⟨y, ρ2, S2, h2, g⟩ := bind_ok_inv h'
  clear h h'
  obtain ⟨h3, rfl, rfl⟩ := of_ok_inv h2
  have := isI_inv h3
  subst this
  cases g
  refine ⟨_, po_some (mxE X a), ha.sh s h1 fun v1 H1 π1 lf1 x1 s1 r1 => ?_⟩
  exact ⟨_, r1.int_inv, q _ _ _ x1 s1⟩
theorem snd_slc {lo hi : Option Expr} {cl ch : Option CE} {p2 : Pos} (ha : SndE X Γ a ca) (hl : SndO X Γ lo cl) (hh : SndO X Γ hi ch) : SndE X Γ (.Subscript a (.Slice lo hi none p2) pos) (.slc ca cl ch) := fun H0 F ρ S σ H π lo lf s r ρ' S' h Q q => by
  simp only [ev] at h
  obtain ⟨x, ρ1, S1, h1, h'⟩ := bind_ok_inv h
  obtain ⟨y, ρ2, S2, h2, h''⟩ := bind_ok_inv h'
  obtain ⟨z, ρ3, S3, h3, g⟩ := bind_ok_inv h''
  clear h h' h''
  obtain ⟨h4, rfl, rfl⟩ := of_ok_inv g
  obtain ⟨rl, ho, hv⟩ := slc_val (X := X) h4
  refine ⟨_, pe_slice ho (mxE X a) (mxO X _) (mxO X _), ?_⟩
  refine ha.sh s h1 fun v1 H1 π1 lf1 x1 s1 r1 => hl _ _ _ _ _ _ _ _ _ s1 _ _ _ h2 _ fun H2 π2 lf2 x2 s2 => hh _ _ _ _ _ _ _ _ _ s2 _ _ _ h3 _ fun H3 π3 lf3 x3 s3 => ?_
  exact hv _ _ _ _ _ _ _ _ _ _ s3 (r1.keep (x2.trans x3).toKeeps) Q fun v H' π' lf' x4 k => q v H' π' lf' (x1.trans (x2.trans (x3.trans x4))) (k.of (x1.trans (x2.trans x3)).dm)
/-! argument lists -/
theorem sndA_nil : SndA X Γ [] [] := fun H0 F ρ S σ H π lo lf s r ρ' S' h Q q => by
  simp only [evs] at h
  cases h
  exact ⟨_, pa_nil, q [] H π lf .refl s .nil⟩
theorem sndA_cons {es : List Expr} {cs : List CE} (hs : isStar a = false) (ha : SndE X Γ a ca) (hr : SndA X Γ es cs) : SndA X Γ (a :: es) (ca :: cs) := fun H0 F ρ S σ H π lo lf s r ρ' S' h Q q => by
  simp only [evs] at h
  obtain ⟨x, ρ1, S1, h1, h'⟩ := bind_ok_inv h
  obtain ⟨y, ρ2, S2, h2, g⟩ := bind_ok_inv h'
  clear h h'
  cases g
  refine ⟨_, pa_cons (mxE X a) (mxA X es) (star_cons hs), ha.sh s h1 fun v1 H1 π1 lf1 x1 s1 r1 => hr _ _ _ _ _ _ _ _ _ s1 _ _ _ h2 _ fun vs H2 π2 lf2 x2 s2 r2 => ?_⟩
  exact q _ _ _ _ (x1.trans x2) s2 (.cons (r1.keep x2.toKeeps) r2)
theorem sndA_all {es : List Expr} {cv : Expr → CE} (hs : es.any isStar = false) (h : ∀ e ∈ es, SndE X Γ e (cv e)) : SndA X Γ es (es.map cv) := by
  induction es with
  | nil => exact sndA_nil
  | cons e es ih =>
    simp only [List.any_cons, Bool.or_eq_false_iff] at hs
    exact sndA_cons hs.1 (h e (by simp)) (ih hs.2 fun x hx => h x (by simp [hx]))
theorem snd_lst {es : List Expr} {cs : List CE} (ha : SndA X Γ es cs) : SndE X Γ (.List es pos) (.lst cs) := fun H0 F ρ S σ H π lo lf s r ρ' S' h Q q => by
  simp only [ev] at h
  obtain ⟨x, ρ1, S1, h1, g⟩ := bind_ok_inv h
  clear h
  split at g
  · cases g
    rename_i hz
    refine ⟨_, pe_lst (mxA X es), ha _ _ _ _ _ _ _ _ _ s _ _ _ h1 _ fun vs H2 π2 lf2 x2 s2 r2 => ⟨by rw [r2.length]; exact hz, ?_⟩⟩
    exact val_lst s2 r2 (fun Q z => z) (fun v H' => Q v H') fun v H' π' lf' x3 k => q v H' π' lf' (x2.trans x3) (k.of x2.dm)
  · cases g
theorem snd_tup {es : List Expr} {cs : List CE} {j : Nat} (ha : SndA X Γ es cs) : SndE X Γ (.Tuple es j pos) (.tup cs) := fun H0 F ρ S σ H π lo lf s r ρ' S' h Q q => by
  simp only [ev] at h
  obtain ⟨x, ρ1, S1, h1, g⟩ := bind_ok_inv h
  clear h
  split at g
  · cases g
    rename_i hz
    refine ⟨_, pe_tup (mxA X es), ha _ _ _ _ _ _ _ _ _ s _ _ _ h1 _ fun vs H2 π2 lf2 x2 s2 r2 => ⟨by rw [r2.length]; exact hz, ?_⟩⟩
    exact val_tup s2 r2 (fun Q z => z) (fun v H' => Q v H') fun v H' π' lf' x3 k => q v H' π' lf' (x2.trans x3) (k.of x2.dm)
  · cases g
/-! calls of built-ins of one and of two arguments -/
theorem sndA_one_inv {x : CE} {ρ ρ' : Env} {S S' : Store} {r : Rv} (h : ev Γ x ρ S = .ok r ρ' S') : evs Γ [x] ρ S = .ok [r.d] ρ' S' := by
  simp only [evs, h, Out.bind_ok]
theorem sndA_two_inv {x y : CE} {ρ ρ' ρ'' : Env} {S S' S'' : Store} {r r' : Rv} (h : ev Γ x ρ S = .ok r ρ' S') (h' : ev Γ y ρ' S' = .ok r' ρ'' S'') : evs Γ [x, y] ρ S = .ok [r.d, r'.d] ρ'' S'' := by
  simp only [evs, h, h', Out.bind_ok]
end
end Ht

set_option Elab.async false
set_option linter.all false
set_option maxRecDepth 100000
set_option maxHeartbeats 1000000
/-! ### soundness: calls, what loops walk -/
namespace Ht
open PySem L2
section
variable {X : Cx} {Γ : Ctx} {e a b : Expr} {c ca cb : CE} {k ka kb : CT} {p pos : Pos}
/-- a built-in function of one thing -/
theorem snd_b1 {x : Str} {id : String} {fD : D → Option D} {mk : CE → CE} (ok : Cok X Γ) (hx : x ∈ bltNames) (hg : Gl X x) (hn : x ≠ "__name__") (hdb : (x == ("__debug__" : Str)) = false) (hb : bootBuiltins x = some (.builtin id)) (hs : isStar a = false)
    (hev : ∀ ca ρ S, ev Γ (mk ca) ρ S = (ev Γ ca ρ S).bindB fun x ρ S => (Out.of (fD x.d) ρ S).bindB fun d ρ S => .ok (.sh d) ρ S)
    (hv : ∀ dx d, fD dx = some d → ∃ rl : List V → Hp → VK → Prop, CallR X (.builtin id) rl ∧ ∀ (H : Hp) (π : List Addr) (M : AS) (x : V), Rep X.K H π M x dx → ∃ v, Rep X.K H π M v d ∧ ∀ Q : VK, Q v H → rl [x] H Q)
    (ha : SndE X Γ a ca) : SndE X Γ (.Call (.Name x p) [a] [] pos) (mk ca) := fun H0 F ρ S σ H π lo lf s r ρ' S' h Q q => by
  rw [hev] at h
  obtain ⟨y, ρ1, S1, h1, h'⟩ := bind_ok_inv h
  obtain ⟨z, ρ2, S2, h2, g⟩ := bind_ok_inv h'
  clear h h'
  obtain ⟨h3, rfl, rfl⟩ := of_ok_inv h2
  cases g
  obtain ⟨rl, hc, hw⟩ := hv _ _ h3
  have hA : SndA X Γ [a] [ca] := sndA_cons hs ha sndA_nil
  refine ⟨_, pe_callB hc hg (ok.blt x hx) hb (mxA X [a]) hn hdb (star_cons hs) rfl, ?_⟩
  refine hA _ _ _ _ _ _ _ _ _ s _ _ _ (sndA_one_inv h1) _ fun vs H1 π1 lf1 x1 s1 r1 => ?_
  cases r1 with
  | cons r1 r2 =>
    cases r2
    obtain ⟨v, hr, hq⟩ := hw _ _ _ _ r1
    exact hq Q (q _ _ _ _ x1 ⟨s1, hr⟩)
/-- a built-in function of two things -/
theorem snd_b2 {x : Str} {id : String} {fD : D → D → Option D} {mk : CE → CE → CE} (ok : Cok X Γ) (hx : x ∈ bltNames) (hg : Gl X x) (hn : x ≠ "__name__") (hdb : (x == ("__debug__" : Str)) = false) (hb : bootBuiltins x = some (.builtin id)) (hs : isStar a = false) (hs2 : isStar b = false)
    (hev : ∀ ca cb ρ S, ev Γ (mk ca cb) ρ S = (ev Γ ca ρ S).bindB fun x ρ S => (ev Γ cb ρ S).bindB fun y ρ S => (Out.of (fD x.d y.d) ρ S).bindB fun d ρ S => .ok (.sh d) ρ S)
    (hv : ∀ dx dy d, fD dx dy = some d → ∃ rl : List V → Hp → VK → Prop, CallR X (.builtin id) rl ∧ ∀ (H : Hp) (π : List Addr) (M : AS) (x y : V), Rep X.K H π M x dx → Rep X.K H π M y dy → ∃ v, Rep X.K H π M v d ∧ ∀ Q : VK, Q v H → rl [x, y] H Q)
    (ha : SndE X Γ a ca) (hb' : SndE X Γ b cb) : SndE X Γ (.Call (.Name x p) [a, b] [] pos) (mk ca cb) := fun H0 F ρ S σ H π lo lf s r ρ' S' h Q q => by
  rw [hev] at h
  obtain ⟨y, ρ1, S1, h1, h'⟩ := bind_ok_inv h
  obtain ⟨y', ρ2, S2, h2, h''⟩ := bind_ok_inv h'
  obtain ⟨z, ρ3, S3, h3, g⟩ := bind_ok_inv h''
  clear h h' h''
  obtain ⟨h4, rfl, rfl⟩ := of_ok_inv h3
  cases g
  obtain ⟨rl, hc, hw⟩ := hv _ _ _ h4
  have hA : SndA X Γ [a, b] [ca, cb] := sndA_cons hs ha (sndA_cons hs2 hb' sndA_nil)
  refine ⟨_, pe_callB hc hg (ok.blt x hx) hb (mxA X [a, b]) hn hdb (star_cons hs) (star_any (by simp [hs2])), ?_⟩
  refine hA _ _ _ _ _ _ _ _ _ s _ _ _ (sndA_two_inv h1 h2) _ fun vs H1 π1 lf1 x1 s1 r1 => ?_
  cases r1 with
  | cons r1 r2 =>
    cases r2 with
    | cons r2 r3 =>
      cases r3
      obtain ⟨v, hr, hq⟩ := hw _ _ _ _ _ r1 r2
      exact hq Q (q _ _ _ _ x1 ⟨s1, hr⟩)
theorem snd_len (ok : Cok X Γ) (hg : Gl X "len") (hs : isStar a = false) (ha : SndE X Γ a ca) : SndE X Γ (.Call (.Name "len" p) [a] [] pos) (.len ca) :=
  snd_b1 (fD := lenD) ok (by decide) hg (by decide) (by decide) PySem.boot_len hs (fun _ _ _ => by rw [ev]) (fun dx d h => len_val h) ha
theorem snd_abs (ok : Cok X Γ) (hg : Gl X "abs") (hs : isStar a = false) (ha : SndE X Γ a ca) : SndE X Γ (.Call (.Name "abs" p) [a] [] pos) (.abs ca) :=
  snd_b1 (fD := absD) ok (by decide) hg (by decide) (by decide) PyProof.Rows.boot_abs hs (fun _ _ _ => by rw [ev]) (fun dx d h => ⟨_, call_abs, abs_val h⟩) ha
theorem snd_maxl (ok : Cok X Γ) (hg : Gl X "max") (hs : isStar a = false) (ha : SndE X Γ a ca) : SndE X Γ (.Call (.Name "max" p) [a] [] pos) (.maxl ca) :=
  snd_b1 (fD := maxlD) ok (by decide) hg (by decide) (by decide) PyProof.Rows.boot_max hs (fun _ _ _ => by rw [ev]) (fun dx d h => ⟨_, cr_max ok.calm, maxl_val h⟩) ha
theorem snd_any (ok : Cok X Γ) (hg : Gl X "any") (hs : isStar a = false) (ha : SndE X Γ a ca) : SndE X Γ (.Call (.Name "any" p) [a] [] pos) (.any ca) :=
  snd_b1 (fD := anyD) ok (by decide) hg (by decide) (by decide) PyProof.Rows.boot_any hs (fun _ _ _ => by rw [ev]) (fun dx d h => ⟨_, cr_any ok.calm, any_val h⟩) ha
theorem snd_all (ok : Cok X Γ) (hg : Gl X "all") (hs : isStar a = false) (ha : SndE X Γ a ca) : SndE X Γ (.Call (.Name "all" p) [a] [] pos) (.all ca) :=
  snd_b1 (fD := allD) ok (by decide) hg (by decide) (by decide) PyProof.Rows.boot_all hs (fun _ _ _ => by rw [ev]) (fun dx d h => ⟨_, cr_all ok.calm, all_val h⟩) ha
theorem snd_max2 (ok : Cok X Γ) (hg : Gl X "max") (hs : isStar a = false) (hs2 : isStar b = false) (ha : SndE X Γ a ca) (hb : SndE X Γ b cb) : SndE X Γ (.Call (.Name "max" p) [a, b] [] pos) (.max2 ca cb) :=
  snd_b2 (fD := max2D) ok (by decide) hg (by decide) (by decide) PyProof.Rows.boot_max hs hs2 (fun _ _ _ _ => by rw [ev]) (fun dx dy d h => ⟨_, call_max2 ok.calm, max2_val h⟩) ha hb
theorem snd_min2 (ok : Cok X Γ) (hg : Gl X "min") (hs : isStar a = false) (hs2 : isStar b = false) (ha : SndE X Γ a ca) (hb : SndE X Γ b cb) : SndE X Γ (.Call (.Name "min" p) [a, b] [] pos) (.min2 ca cb) :=
  snd_b2 (fD := min2D) ok (by decide) hg (by decide) (by decide) PyProof.Rows.boot_min hs hs2 (fun _ _ _ _ => by rw [ev]) (fun dx dy d h => ⟨_, call_min2 ok.calm, min2_val h⟩) ha hb
theorem snd_strI (ok : Cok X Γ) (hg : Gl X "str") (hs : isStar a = false) (ha : SndE X Γ a ca) : SndE X Γ (.Call (.Name "str" p) [a] [] pos) (.strI ca) := fun H0 F ρ S σ H π lo lf s r ρ' S' h Q q => by
  simp only [ev] at h
  obtain ⟨y, ρ1, S1, h1, h'⟩ := bind_ok_inv h
  obtain ⟨z, ρ2, S2, h2, g⟩ := bind_ok_inv h'
  clear h h'
  obtain ⟨h3, rfl, rfl⟩ := of_ok_inv h2
  cases g
  have hA : SndA X Γ [a] [ca] := sndA_cons hs ha sndA_nil
  refine ⟨_, pe_callTy call_str_int hg (ok.blt "str" (by decide)) PyProof.Rows.boot_str (mxA X [a]) (by decide) (by decide) (star_cons hs) rfl, ?_⟩
  refine hA _ _ _ _ _ _ _ _ _ s _ _ _ (sndA_one_inv h1) _ fun vs H1 π1 lf1 x1 s1 r1 => ?_
  cases r1 with
  | cons r1 r2 =>
    cases r2
    obtain ⟨v, hr, hq⟩ := str_val (X := X) h3 _ _ _ _ r1
    exact hq Q (q _ _ _ _ x1 ⟨s1, hr⟩)
theorem snd_list (ok : Cok X Γ) (hg : Gl X "list") (hs : isStar a = false) (ha : SndE X Γ a ca) : SndE X Γ (.Call (.Name "list" p) [a] [] pos) (.list ca) := fun H0 F ρ S σ H π lo lf s r ρ' S' h Q q => by
  simp only [ev] at h
  obtain ⟨y, ρ1, S1, h1, h'⟩ := bind_ok_inv h
  obtain ⟨z, ρ2, S2, h2, g⟩ := bind_ok_inv h'
  clear h h'
  obtain ⟨h3, rfl, rfl⟩ := of_ok_inv h2
  cases g
  have hA : SndA X Γ [a] [ca] := sndA_cons hs ha sndA_nil
  refine ⟨_, pe_callTy call_list_of hg (ok.blt "list" (by decide)) PyProof.Rows.boot_list (mxA X [a]) (by decide) (by decide) (star_cons hs) rfl, ?_⟩
  refine hA _ _ _ _ _ _ _ _ _ s _ _ _ (sndA_one_inv h1) _ fun vs H1 π1 lf1 x1 s1 r1 => ?_
  cases r1 with
  | cons r1 r2 =>
    cases r2
    obtain ⟨b, ws, rfl, hq, hr⟩ := list_val (X := X) h3 _ _ _ _ r1
    refine ⟨b, ws, rfl, hq, ?_⟩
    exact val_lst s1 hr (fun Q z => z) (fun v H' => Q v H') fun v H' π' lf' x3 k => q v H' π' lf' (x1.trans x3) (k.of x1.dm)
theorem snd_sorted (ok : Cok X Γ) (hg : Gl X "sorted") (hs : isStar a = false) (ha : SndE X Γ a ca) : SndE X Γ (.Call (.Name "sorted" p) [a] [] pos) (.sorted ca) := fun H0 F ρ S σ H π lo lf s r ρ' S' h Q q => by
  simp only [ev] at h
  obtain ⟨y, ρ1, S1, h1, h'⟩ := bind_ok_inv h
  obtain ⟨z, ρ2, S2, h2, g⟩ := bind_ok_inv h'
  clear h h'
  obtain ⟨h3, rfl, rfl⟩ := of_ok_inv h2
  cases g
  have hA : SndA X Γ [a] [ca] := sndA_cons hs ha sndA_nil
  refine ⟨_, pe_callB cr_sortedI hg (ok.blt "sorted" (by decide)) PyProof.Rows.boot_sorted (mxA X [a]) (by decide) (by decide) (star_cons hs) rfl, ?_⟩
  refine hA _ _ _ _ _ _ _ _ _ s _ _ _ (sndA_one_inv h1) _ fun vs H1 π1 lf1 x1 s1 r1 => ?_
  cases r1 with
  | cons r1 r2 =>
    cases r2
    obtain ⟨ws, hr, hq⟩ := sorted_val (X := X) h3 _ _ _ _ r1
    exact hq Q (val_lst s1 hr (fun Q z => z) (fun v H' => Q v H') fun v H' π' lf' x3 k => q v H' π' lf' (x1.trans x3) (k.of x1.dm))
/-! isinstance -/
theorem rep_tyT {K : Fg} {H : Hp} {a : Addr} {vs : List V} (h : SqT K H a vs) : TyX K H (.ref a) (.type "tuple") := by
  rcases h with (h | ⟨o, h⟩) | ⟨o, _, _, h1, h2, _⟩
  · exact .base (.tup h)
  · exact .fTuple h
  · exact .kTuple h1 h2
theorem rep_tyL {K : Fg} {H : Hp} {a : Addr} {vs : List V} (h : Rd H a (.lst vs)) : TyX K H (.ref a) (.type "list") := by
  rcases h with h | ⟨o, h⟩
  · exact .base (.lst h)
  · exact .base (.frz h)
def Ty.name : Ty → String
  | .int => "int" | .bool => "bool" | .list => "list" | .tuple => "tuple" | .str => "str" | .cls _ => "?"
theorem isin_val {dx : D} {t : Ty} {r : Bool} (e : isinD dx t = some r) : ∀ (H : Hp) (π : List Addr) (M : AS) (x : V), Rep X.K H π M x dx → ∀ Q : VK, Q (.bl r) H → rIsi X.K [x, .ty t.name] H Q := by
  intro H π M x hx Q q
  cases t with
  | cls c => cases dx <;> simp [isinD] at e
  | int =>
    cases dx with
    | non => cases e; cases hx; exact ⟨_, _, _, _, _, rfl, .ty _, .base .non, kit_ty (by decide +kernel), q⟩
    | bl b => cases e; cases hx; exact ⟨_, _, _, _, _, rfl, .ty _, .base (.bl _), kit_ty (by decide +kernel), q⟩
    | int b => cases e; cases hx; exact ⟨_, _, _, _, _, rfl, .ty _, .base (.int _), kit_ty (by decide +kernel), q⟩
    | str b => cases e; cases hx; exact ⟨_, _, _, _, _, rfl, .ty _, .base (.str _), kit_ty (by decide +kernel), q⟩
    | tup b => cases e; obtain ⟨_, _, rfl, h1, _⟩ := hx.tup_inv; exact ⟨_, _, _, _, _, rfl, .ty _, rep_tyT h1, kit_ty (by decide +kernel), q⟩
    | lst b => cases e; obtain ⟨_, _, rfl, h1, _⟩ := hx.lst_inv; exact ⟨_, _, _, _, _, rfl, .ty _, rep_tyL h1, kit_ty (by decide +kernel), q⟩
    | ref n => cases e
    | scr n => cases e
  | bool =>
    cases dx with
    | non => cases e; cases hx; exact ⟨_, _, _, _, _, rfl, .ty _, .base .non, kit_ty (by decide +kernel), q⟩
    | bl b => cases e; cases hx; exact ⟨_, _, _, _, _, rfl, .ty _, .base (.bl _), kit_ty (by decide +kernel), q⟩
    | int b => cases e; cases hx; exact ⟨_, _, _, _, _, rfl, .ty _, .base (.int _), kit_ty (by decide +kernel), q⟩
    | str b => cases e; cases hx; exact ⟨_, _, _, _, _, rfl, .ty _, .base (.str _), kit_ty (by decide +kernel), q⟩
    | tup b => cases e; obtain ⟨_, _, rfl, h1, _⟩ := hx.tup_inv; exact ⟨_, _, _, _, _, rfl, .ty _, rep_tyT h1, kit_ty (by decide +kernel), q⟩
    | lst b => cases e; obtain ⟨_, _, rfl, h1, _⟩ := hx.lst_inv; exact ⟨_, _, _, _, _, rfl, .ty _, rep_tyL h1, kit_ty (by decide +kernel), q⟩
    | ref n => cases e
    | scr n => cases e
  | list =>
    cases dx with
    | non => cases e; cases hx; exact ⟨_, _, _, _, _, rfl, .ty _, .base .non, kit_ty (by decide +kernel), q⟩
    | bl b => cases e; cases hx; exact ⟨_, _, _, _, _, rfl, .ty _, .base (.bl _), kit_ty (by decide +kernel), q⟩
    | int b => cases e; cases hx; exact ⟨_, _, _, _, _, rfl, .ty _, .base (.int _), kit_ty (by decide +kernel), q⟩
    | str b => cases e; cases hx; exact ⟨_, _, _, _, _, rfl, .ty _, .base (.str _), kit_ty (by decide +kernel), q⟩
    | tup b => cases e; obtain ⟨_, _, rfl, h1, _⟩ := hx.tup_inv; exact ⟨_, _, _, _, _, rfl, .ty _, rep_tyT h1, kit_ty (by decide +kernel), q⟩
    | lst b => cases e; obtain ⟨_, _, rfl, h1, _⟩ := hx.lst_inv; exact ⟨_, _, _, _, _, rfl, .ty _, rep_tyL h1, kit_ty (by decide +kernel), q⟩
    | ref n => cases e
    | scr n => cases e
  | tuple =>
    cases dx with
    | non => cases e; cases hx; exact ⟨_, _, _, _, _, rfl, .ty _, .base .non, kit_ty (by decide +kernel), q⟩
    | bl b => cases e; cases hx; exact ⟨_, _, _, _, _, rfl, .ty _, .base (.bl _), kit_ty (by decide +kernel), q⟩
    | int b => cases e; cases hx; exact ⟨_, _, _, _, _, rfl, .ty _, .base (.int _), kit_ty (by decide +kernel), q⟩
    | str b => cases e; cases hx; exact ⟨_, _, _, _, _, rfl, .ty _, .base (.str _), kit_ty (by decide +kernel), q⟩
    | tup b => cases e; obtain ⟨_, _, rfl, h1, _⟩ := hx.tup_inv; exact ⟨_, _, _, _, _, rfl, .ty _, rep_tyT h1, kit_ty (by decide +kernel), q⟩
    | lst b => cases e; obtain ⟨_, _, rfl, h1, _⟩ := hx.lst_inv; exact ⟨_, _, _, _, _, rfl, .ty _, rep_tyL h1, kit_ty (by decide +kernel), q⟩
    | ref n => cases e
    | scr n => cases e
  | str =>
    cases dx with
    | non => cases e; cases hx; exact ⟨_, _, _, _, _, rfl, .ty _, .base .non, kit_ty (by decide +kernel), q⟩
    | bl b => cases e; cases hx; exact ⟨_, _, _, _, _, rfl, .ty _, .base (.bl _), kit_ty (by decide +kernel), q⟩
    | int b => cases e; cases hx; exact ⟨_, _, _, _, _, rfl, .ty _, .base (.int _), kit_ty (by decide +kernel), q⟩
    | str b => cases e; cases hx; exact ⟨_, _, _, _, _, rfl, .ty _, .base (.str _), kit_ty (by decide +kernel), q⟩
    | tup b => cases e; obtain ⟨_, _, rfl, h1, _⟩ := hx.tup_inv; exact ⟨_, _, _, _, _, rfl, .ty _, rep_tyT h1, kit_ty (by decide +kernel), q⟩
    | lst b => cases e; obtain ⟨_, _, rfl, h1, _⟩ := hx.lst_inv; exact ⟨_, _, _, _, _, rfl, .ty _, rep_tyL h1, kit_ty (by decide +kernel), q⟩
    | ref n => cases e
    | scr n => cases e
theorem tyOf_boot {x : Str} {t : Ty} (h : tyOf x = some t) : bootBuiltins x = some (.type t.name) ∧ x ∈ bltNames ∧ x ≠ "__name__" ∧ (x == ("__debug__" : Str)) = false := by
  unfold tyOf at h
  split at h
  · cases h
    rename_i e
    subst e
    exact ⟨by decide +kernel, by decide, by decide, by decide⟩
  · split at h
    · cases h
      rename_i e
      subst e
      exact ⟨by decide +kernel, by decide, by decide, by decide⟩
    · split at h
      · cases h
        rename_i e
        subst e
        exact ⟨by decide +kernel, by decide, by decide, by decide⟩
      · split at h
        · cases h
          rename_i e
          subst e
          exact ⟨by decide +kernel, by decide, by decide, by decide⟩
        · split at h
          · cases h
            rename_i e
            subst e
            exact ⟨by decide +kernel, by decide, by decide, by decide⟩
          · cases h
theorem snd_isin {x : Str} {t : Ty} {p2 : Pos} (ok : Cok X Γ) (hg : Gl X "isinstance") (hg2 : Gl X x) (ht : tyOf x = some t) (hs : isStar a = false) (ha : SndE X Γ a ca) : SndE X Γ (.Call (.Name "isinstance" p) [a, .Name x p2] [] pos) (.isin ca t) := fun H0 F ρ S σ H π lo lf s r ρ' S' h Q q => by
  simp only [ev] at h
  obtain ⟨y, ρ1, S1, h1, h'⟩ := bind_ok_inv h
  obtain ⟨z, ρ2, S2, h2, g⟩ := bind_ok_inv h'
  clear h h'
  obtain ⟨h3, rfl, rfl⟩ := of_ok_inv h2
  cases g
  obtain ⟨b1, b2, b3, b4⟩ := tyOf_boot ht
  have hty : PE X (.Name x p2) (tC (.ty t.name)) := pe_bltn hg2 (ok.blt x b2) b1 rfl b3 b4
  refine ⟨_, pe_callB call_isi hg (ok.blt "isinstance" (by decide)) PyProof.Rows.boot_isinstance (pa_cons (mxE X a) (pa_cons hty pa_nil) (star_cons hs)) (by decide) (by decide) (star_cons hs) rfl, ?_⟩
  refine ha.sh s h1 fun v1 H1 π1 lf1 x1 s1 r1 => ?_
  exact isin_val h3 _ _ _ _ r1 Q (q _ _ _ _ x1 ⟨s1, .bl _⟩)
/-! own functions -/
/-- behind a call -/
theorem call_fin {xc : Str → Option Nat} {g : List D → Store → Res} {ds : List D} {S1 : Store} (nb : g ds S1 ≠ .bad) {H0 : Hp} {F : AS} {ρ' : Env} {σ : L2.St} {H1 : Hp} {π1 : List Addr} {lo : Nat → Addr} {lf1 : Nat → Str → Addr} {vs : List V} (s1 : Sim X.K H0 F ρ' S1 σ H1 π1 lo lf1) (r1 : Reps X.K H1 π1 (Mt F ρ' S1 π1 lo lf1) vs ds) {Q : VK} {E : XK}
    (q : ∀ r S', g ds S1 = .ok r S' → ∀ v H' π' lf', Ext X.K F H1 π1 (Mt F ρ' S1 π1 lo lf1) H' π' (Mt F ρ' S' π' lo lf') → RvOk X.K H0 H1 F ρ' S' σ H' π' lo lf' v r → Q v H')
    (qx : ∀ x S', g ds S1 = .exc x S' → ∀ cls d H' π' lf', Ext X.K F H1 π1 (Mt F ρ' S1 π1 lo lf1) H' π' (Mt F ρ' S' π' lo lf') → Sim X.K H0 F ρ' S' σ H' π' lo lf' → ExcOk X.K xc x cls d H' → E cls d H') : spG X.K xc g ds.length vs H1 Q E := by
  refine ⟨ownF F ρ' lo, S1, ds, π1, lf1, r1.length, s1.into, r1.less fun a h => (mt_ownF a).mp h, ?_⟩
  have x3 : ∀ {H2 : Hp} {π2 : List Addr} {lf2 : Nat → Str → Addr} {S' : Store}, Ext X.K (ownF F ρ' lo) H1 π1 (Mt (ownF F ρ' lo) [] S1 π1 (fun _ => 0) lf1) H2 π2 (Mt (ownF F ρ' lo) [] S' π2 (fun _ => 0) lf2) → Ext X.K (ownF F ρ' lo) H1 π1 (Mt F ρ' S1 π1 lo lf1) H2 π2 (Mt (ownF F ρ' lo) [] S' π2 (fun _ => 0) lf2) := fun x2 => x2.ofCall (fun _ h => h) (fun a h => (mt_ownF a).mp h) fun _ h => h
  have x4 : ∀ {H2 : Hp} {π2 : List Addr} {lf2 : Nat → Str → Addr} {S' : Store}, Ext X.K (ownF F ρ' lo) H1 π1 (Mt (ownF F ρ' lo) [] S1 π1 (fun _ => 0) lf1) H2 π2 (Mt (ownF F ρ' lo) [] S' π2 (fun _ => 0) lf2) → Ext X.K F H1 π1 (Mt F ρ' S1 π1 lo lf1) H2 π2 (Mt F ρ' S' π2 lo lf2) := fun x2 => x2.ofCall (fun _ h => .inl h) (fun a h => (mt_ownF a).mp h) fun a h => (mt_ownF a).mpr h
  have bk : ∀ {H2 : Hp} {π2 : List Addr} {lf2 : Nat → Str → Addr} {S' : Store}, Ext X.K (ownF F ρ' lo) H1 π1 (Mt (ownF F ρ' lo) [] S1 π1 (fun _ => 0) lf1) H2 π2 (Mt (ownF F ρ' lo) [] S' π2 (fun _ => 0) lf2) → Sim X.K H1 (ownF F ρ' lo) [] S' [] H2 π2 (fun _ => 0) lf2 → Sim X.K H0 F ρ' S' σ H2 π2 lo lf2 := fun x2 k1 =>
    (Sim.back (G := fun _ => False) s1 (x3 x2) (fun a h => .inl (Mt.less (fun _ z => z.elim id False.elim) a h)) (fun _ h => h.elim) (fun _ h => h.elim) (k1.less fun _ z => z.elim id False.elim)).less fun _ z => .inl z
  cases hg : g ds S1 with
  | bad => exact absurd hg nb
  | exc x S' => exact fun cls d H2 π2 lf2 x2 k2 ex => qx x S' hg cls d H2 π2 lf2 (x4 x2) (bk x2 k2) ex
  | ok r S' =>
    refine fun v H2 π2 lf2 x2 k2 => q r S' hg v H2 π2 lf2 (x4 x2) ?_
    cases r with
    | sh d => exact ⟨bk x2 k2.1, k2.2.less fun a h => (mt_ownF a).mpr h⟩
    | fr es =>
      obtain ⟨b, ws, e1, e2, e3, e4, e5, e6⟩ := k2
      refine ⟨b, ws, e1, e2, e3, fun h => e4 ((mt_ownF b).mpr h), ?_, ?_⟩
      · refine Sim.back (G := fun c => c = b) s1 (x3 x2) (fun a h => ?_) (fun c h => h ▸ e3) (fun c h z => ?_) e5
        · rcases h with (h | h) | ⟨i, ds, h, _⟩ | h
          · exact .inl (.inl h)
          · exact .inr h
          · cases h
          · exact .inl (.inr (.inr h))
        · subst h
          rw [e2] at z
          cases z
      · refine e6.less fun a h => ?_
        rcases h with (h | h) | h | h
        · exact .inl (.inl (.inl h))
        · exact .inl (.inr h)
        · exact .inl (.inl (.inr h))
        · exact .inr (.inr h)
theorem snd_call {x : Str} {es : List Expr} {cs : List CE} (ok : Cok X Γ) (hg : Gl X x) (hdb : (x == ("__debug__" : Str)) = false) (hs : es.any isStar = false) (hn : es = [] → cs = []) (ha : SndA X Γ es cs) : SndE X Γ (.Call (.Name x p) es [] pos) (.call x cs) := fun H0 F ρ S σ H π lo lf s r ρ' S' h Q q => by
  simp only [ev] at h
  obtain ⟨ds, ρ1, S1, h1, g⟩ := bind_ok_inv h
  clear h
  have h1 := chk_ok_inv h1
  cases hc : Γ.cf x ds S1 with
  | bad => rw [hc] at g; cases g
  | exc y S2 => rw [hc] at g; cases g
  | ok r2 S2 =>
    rw [hc] at g
    cases g
    obtain ⟨k, fa, fd, ps, hF, hr, hm, hk, hb⟩ := ok.cf x ds S1 (by rw [hc]; intro z; cases z)
    have fin : ∀ (vs : List V) (H1 : Hp) (π1 : List Addr) (lf1 : Nat → Str → Addr), Ext X.K F H π (Mt F ρ S π lo lf) H1 π1 (Mt F ρ' S1 π1 lo lf1) → Sim X.K H0 F ρ' S1 σ H1 π1 lo lf1 → Reps X.K H1 π1 (Mt F ρ' S1 π1 lo lf1) vs ds → spC X.K Γ.xc Γ.cf ds.length x vs H1 Q (fun _ _ _ => False) := fun vs H1 π1 lf1 x1 s1 r1 =>
      call_fin (by rw [hc]; intro z; cases z) s1 r1 (fun r2 S2 e2 v H2 π2 lf2 x2 k2 => by
        rw [hc] at e2
        cases e2
        exact q v H2 π2 lf2 (x1.trans x2) (k2.of x1.dm)) fun x2 S2 e2 => by rw [hc] at e2; cases e2
    cases es with
    | nil =>
      refine ⟨_, HtX.call0 hF hr hg hm hk hb (fun σ => HtX.passNone rfl rfl σ) hdb, ?_⟩
      have hcs := hn rfl
      subst hcs
      simp only [evs] at h1
      cases h1
      exact fin [] H π lf .refl s .nil
    | cons e es =>
      simp only [List.any_cons, Bool.or_eq_false_iff] at hs
      refine ⟨_, pe_callS hF hr hg hm hk hb (fun σ => HtX.passNone rfl rfl σ) (mxA X (e :: es)) hdb (star_cons hs.1) (star_any hs.2), ?_⟩
      exact ha _ _ _ _ _ _ _ _ _ s _ _ _ h1 _ fun vs H1 π1 lf1 x1 s1 r1 => fin vs H1 π1 lf1 x1 s1 r1
end
end Ht

set_option Elab.async false
set_option linter.all false
set_option maxRecDepth 100000
set_option maxHeartbeats 1000000
/-! ### soundness: what loops walk; comprehensions -/
namespace Ht
open PySem L2
structure Walk (K : Fg) (H1 : Hp) (π1 : List Addr) (M1 : AS) (J : It) (ds : List D) : Prop where
  stop : ∀ {H π M}, Keeps K H1 π1 M1 H π M → J.stop ds.length H
  go : ∀ {H π M i}, Keeps K H1 π1 M1 H π M → i < ds.length → J.go i H
  yld : ∀ {H π M i x H' d}, Keeps K H1 π1 M1 H π M → J.yld i H x H' → ds[i]? = some d → (H' = H ∧ Rep K H π M x d) ∨ ∃ p vs es, H p = none ∧ H' = upd H p (.tup vs) ∧ x = .ref p ∧ d = .tup es ∧ Reps K H π M vs es
def SndI (X : Cx) (Γ : Ctx) (tg it : Expr) (c : Src) : Prop := ∀ H0 F ρ S σ H π lo lf, Sim X.K H0 F ρ S σ H π lo lf → ∀ ds ρ' S', evSrc Γ c ρ S = .ok ds ρ' S' → ∀ R : It → Hp → Prop,
  (∀ J H' π' lf', Ext X.K F H π (Mt F ρ S π lo lf) H' π' (Mt F ρ' S' π' lo lf') → Sim X.K H0 F ρ' S' σ H' π' lo lf' → Walk X.K H' π' (Mt F ρ' S' π' lo lf') J ds → R J H') → MxI X tg it σ H R
section
variable {K : Fg} {H : Hp} {π : List Addr} {M : AS}
theorem walk_lst {a : Addr} {vs : List V} {ds : List D} (h : Rd H a (.lst vs)) (m : ¬ M a) (r : Reps K H π M vs ds) : Walk K H π M (Itl K a) ds where
  stop := fun k => ⟨vs, Rd.sql (k.rd h m).1, by rw [r.length]; exact Nat.le_refl _⟩
  go := fun {H π M i} k hi => by
    have hi' : i < vs.length := by rw [r.length]; exact hi
    exact ⟨vs, vs[i], Rd.sql (k.rd h m).1, List.getElem?_eq_getElem hi'⟩
  yld := fun {H π M i x H' d} k y hd => by
    obtain ⟨rfl, y⟩ := y
    have e := y vs (Rd.sql (k.rd h m).1)
    obtain ⟨v, e1, e2⟩ := r.get hd
    rw [e] at e1
    cases e1
    exact .inl ⟨rfl, e2.keep k⟩
theorem walk_tup {a : Addr} {vs : List V} {ds : List D} (h : SqT K H a vs) (r : Reps K H π M vs ds) : Walk K H π M (Itt K a) ds where
  stop := fun k => ⟨vs, k.tp _ _ h, by rw [r.length]; exact Nat.le_refl _⟩
  go := fun {H π M i} k hi => by
    have hi' : i < vs.length := by rw [r.length]; exact hi
    exact ⟨vs, vs[i], k.tp _ _ h, List.getElem?_eq_getElem hi'⟩
  yld := fun {H π M i x H' d} k y hd => by
    obtain ⟨rfl, y⟩ := y
    have e := y vs (k.tp _ _ h)
    obtain ⟨v, e1, e2⟩ := r.get hd
    rw [e] at e1
    cases e1
    exact .inl ⟨rfl, e2.keep k⟩
theorem walk_str (x : Str) : Walk K H π M (Its x) (x.cps.toList.map fun c => .str [c]) where
  stop := fun k => by
    show x.cps.size ≤ _
    simp
  go := fun {H π M i} k hi => by
    show i < x.cps.size
    simpa using hi
  yld := fun {H π M i v H' d} k y hd => by
    obtain ⟨rfl, c, hc, rfl⟩ := y
    rw [List.getElem?_map] at hd
    have : x.cps.toList[i]? = some c := by rw [Array.getElem?_toList]; exact hc
    rw [this] at hd
    cases hd
    exact .inl ⟨rfl, .str ⟨#[c]⟩⟩
theorem walk_rng {lo : Int} {n : Nat} : Walk K H π M (Itr lo n) ((List.range n).map fun (k : Nat) => .int (lo + k)) where
  stop := fun k => by
    show n ≤ _
    simp
  go := fun {H π M i} k hi => by
    show i < n
    simpa using hi
  yld := fun {H π M i v H' d} k y hd => by
    obtain ⟨rfl, rfl⟩ := y
    rw [List.getElem?_map] at hd
    cases hr : (List.range n)[i]? with
    | none => rw [hr] at hd; cases hd
    | some j =>
      rw [hr] at hd
      have : j = i := by
        rw [List.getElem?_range (by simpa using (List.getElem?_eq_some_iff.mp hr).1)] at hr
        cases hr
        rfl
      subst this
      cases hd
      exact .inl ⟨rfl, .int _⟩
theorem walk_rev {a : Int} {n : Nat} : Walk K H π M (Itc (a + ((n : Nat) : Int) - 1) (-1) n) (((List.range n).map fun (k : Nat) => D.int (a + k)).reverse) where
  stop := fun k => by
    show n ≤ _
    simp
  go := fun {H π M i} k hi => by
    show i < n
    simpa using hi
  yld := fun {H π M i v H' d} k y hd => by
    obtain ⟨rfl, rfl⟩ := y
    have hi : i < n := by
      have := (List.getElem?_eq_some_iff.mp hd).1
      simpa using this
    rw [List.getElem?_reverse (by simpa using hi)] at hd
    simp only [List.length_map, List.length_range, List.getElem?_map] at hd
    rw [List.getElem?_range (by omega)] at hd
    cases hd
    have : a + ((n : Nat) : Int) - 1 + (i : Nat) * -1 = a + ((n - 1 - i : Nat) : Int) := by omega
    rw [this]
    exact .inl ⟨rfl, .int _⟩
theorem enumL_get : ∀ (ds : List D) (n i : Nat) (d : D), (enumL ds n)[i]? = some d → ∃ e, ds[i]? = some e ∧ d = .tup [.int ((n + i : Nat) : Int), e]
  | [], _, _, _, h => by simp [enumL] at h
  | e :: ds, n, 0, d, h => by
    simp only [enumL, List.getElem?_cons_zero, Option.some.injEq] at h
    exact ⟨e, rfl, by rw [← h]; simp⟩
  | e :: ds, n, i + 1, d, h => by
    simp only [enumL, List.getElem?_cons_succ] at h
    obtain ⟨e', h1, h2⟩ := enumL_get ds (n + 1) i d h
    exact ⟨e', by simpa using h1, by rw [h2]; congr 3; omega⟩
theorem enumL_length : ∀ (ds : List D) (n : Nat), (enumL ds n).length = ds.length
  | [], _ => rfl
  | _ :: ds, n => by simp [enumL, enumL_length ds (n + 1)]
theorem walk_enum {a : Addr} {vs : List V} {ds : List D} (h : Rd H a (.lst vs)) (m : ¬ M a) (r : Reps K H π M vs ds) : Walk K H π M (Ite K a) (enumL ds 0) where
  stop := fun k => ⟨vs, Rd.sql (k.rd h m).1, by rw [r.length, enumL_length]; exact Nat.le_refl _⟩
  go := fun {H π M i} k hi => by
    have hi' : i < vs.length := by rw [r.length]; rw [enumL_length] at hi; exact hi
    exact ⟨vs, vs[i], Rd.sql (k.rd h m).1, List.getElem?_eq_getElem hi'⟩
  yld := fun {H π M i x H' d} k y hd => by
    obtain ⟨T, z, rfl, hT, rfl, y⟩ := y
    have e := y vs (Rd.sql (k.rd h m).1)
    obtain ⟨e0, h1, h2⟩ := enumL_get _ _ _ _ hd
    obtain ⟨v, e1, e2⟩ := r.get h1
    rw [e] at e1
    cases e1
    refine .inr ⟨T, _, _, hT, rfl, rfl, h2, .cons ?_ (.cons (e2.keep k) .nil)⟩
    rw [Nat.zero_add]
    exact .int _
end
section
variable {X : Cx} {Γ : Ctx} {e a b tg : Expr} {c ca cb : CE} {p pos : Pos}
theorem sndI_e (ha : SndE X Γ a ca) : SndI X Γ tg a (.e ca) := fun H0 F ρ S σ H π lo lf s ds ρ' S' h R q => by
  simp only [evSrc] at h
  obtain ⟨x, ρ1, S1, h1, g⟩ := bind_ok_inv h
  clear h
  obtain ⟨h2, rfl, rfl⟩ := of_ok_inv g
  unfold walkD at h2
  split at h2
  · cases h2
    rename_i hd
    refine ⟨_, pi_list (mxE X a), ha.sh s h1 fun v H1 π1 lf1 x1 s1 r1 => ?_⟩
    rw [hd] at r1
    obtain ⟨b, vs, rfl, g1, g2, g3⟩ := r1.lst_inv
    exact ⟨b, rfl, ⟨vs, Rd.sql g1⟩, q _ _ _ _ x1 s1 (walk_lst g1 g2 g3)⟩
  · cases h2
    rename_i hd
    refine ⟨_, pi_tup (mxE X a), ha.sh s h1 fun v H1 π1 lf1 x1 s1 r1 => ?_⟩
    rw [hd] at r1
    obtain ⟨b, vs, rfl, g1, g3⟩ := r1.tup_inv
    exact ⟨b, rfl, ⟨vs, g1⟩, q _ _ _ _ x1 s1 (walk_tup g1 g3)⟩
  · cases h2
    rename_i s0 hd
    refine ⟨_, pi_str (mxE X a), ha.sh s h1 fun v H1 π1 lf1 x1 s1 r1 => ?_⟩
    rw [hd] at r1
    obtain ⟨z, rfl, rfl⟩ := r1.str_inv
    exact ⟨z, rfl, q _ _ _ _ x1 s1 (walk_str z)⟩
  · cases h2
theorem rangeD_inv {dx dy : D} {ds : List D} (h : rangeD dx dy = some ds) : ∃ i j : Int, dx = .int i ∧ dy = .int j ∧ (-(2 ^ 62) ≤ i ∧ i < 2 ^ 62 ∧ -(2 ^ 62) ≤ j ∧ j < 2 ^ 62) ∧ (j - i).toNat ≤ 2 ^ 24 ∧ ds = (List.range (j - i).toNat).map fun (k : Nat) => .int (i + k) := by
  unfold rangeD at h
  split at h
  · unfold rangeL at h
    split at h
    · cases h
      rename_i c
      exact ⟨_, _, rfl, rfl, by omega, by omega, rfl⟩
    · cases h
  · cases h
theorem sndI_rng1 (ok : Cok X Γ) (hg : Gl X "range") (hs : isStar a = false) (ha : SndE X Γ a ca) : SndI X Γ tg (.Call (.Name "range" p) [a] [] pos) (.rng1 ca) := fun H0 F ρ S σ H π lo lf s ds ρ' S' h R q => by
  simp only [evSrc] at h
  obtain ⟨x, ρ1, S1, h1, g⟩ := bind_ok_inv h
  clear h
  obtain ⟨h2, rfl, rfl⟩ := of_ok_inv g
  obtain ⟨i, j, e1, e2, ⟨b1, b2, b3, b4⟩, b5, rfl⟩ := rangeD_inv h2
  cases e1
  have hA : SndA X Γ [a] [ca] := sndA_cons hs ha sndA_nil
  refine ⟨_, pi_range1 hg (ok.blt "range" (by decide)) (mxA X [a]) (star_cons hs), ?_⟩
  refine hA _ _ _ _ _ _ _ _ _ s _ _ _ (sndA_one_inv h1) _ fun vs H1 π1 lf1 x1 s1 r1 => ?_
  rw [e2] at r1
  cases r1 with
  | cons r1 r2 =>
    cases r2
    have w := walk_rng (K := X.K) (H := H1) (π := π1) (M := Mt F ρ' S' π1 lo lf1) (lo := 0) (n := j.toNat)
    rw [Int.sub_zero] at q
    exact ⟨j, by rw [r1.int_inv], b3, b4, q _ _ _ _ x1 s1 w⟩
theorem sndI_rng (ok : Cok X Γ) (hg : Gl X "range") (hs : isStar a = false) (hs2 : isStar b = false) (ha : SndE X Γ a ca) (hb : SndE X Γ b cb) : SndI X Γ tg (.Call (.Name "range" p) [a, b] [] pos) (.rng ca cb) := fun H0 F ρ S σ H π lo lf s ds ρ' S' h R q => by
  simp only [evSrc] at h
  obtain ⟨x, ρ1, S1, h1, h'⟩ := bind_ok_inv h
  obtain ⟨y, ρ2, S2, h2, g⟩ := bind_ok_inv h'
  clear h h'
  obtain ⟨h3, rfl, rfl⟩ := of_ok_inv g
  obtain ⟨i, j, e1, e2, b, b5, rfl⟩ := rangeD_inv h3
  have hA : SndA X Γ [a, _] [ca, cb] := sndA_cons hs ha (sndA_cons hs2 hb sndA_nil)
  refine ⟨_, pi_range2 hg (ok.blt "range" (by decide)) (mxA X [a, _]) (by rw [star_cons hs, star_cons hs2]; rfl) (by rw [star_cons hs2]; rfl), ?_⟩
  refine hA _ _ _ _ _ _ _ _ _ s _ _ _ (sndA_two_inv h1 h2) _ fun vs H1 π1 lf1 x1 s1 r1 => ?_
  rw [e1, e2] at r1
  cases r1 with
  | cons r1 r2 =>
    cases r2 with
    | cons r2 r3 =>
      cases r3
      exact ⟨i, j, by rw [r1.int_inv, r2.int_inv], b, q _ _ _ _ x1 s1 walk_rng⟩
theorem sndI_rev {p2 pos2 : Pos} (ok : Cok X Γ) (hg : Gl X "reversed") (hg2 : Gl X "range") (hs : isStar a = false) (hs2 : isStar b = false) (ha : SndE X Γ a ca) (hb : SndE X Γ b cb) : SndI X Γ tg (.Call (.Name "reversed" p) [.Call (.Name "range" p2) [a, b] [] pos2] [] pos) (.rev ca cb) := fun H0 F ρ S σ H π lo lf s ds ρ' S' h R q => by
  simp only [evSrc] at h
  obtain ⟨x, ρ1, S1, h1, h'⟩ := bind_ok_inv h
  obtain ⟨y, ρ2, S2, h2, h''⟩ := bind_ok_inv h'
  obtain ⟨z, ρ3, S3, h3, g⟩ := bind_ok_inv h''
  clear h h' h''
  obtain ⟨h4, rfl, rfl⟩ := of_ok_inv h3
  cases g
  obtain ⟨i, j, e1, e2, ⟨b1, b2, b3, b4⟩, b5, rfl⟩ := rangeD_inv h4
  refine ⟨_, pi_revR hg (ok.blt "reversed" (by decide)) (prg_2 hg2 (ok.blt "range" (by decide)) (mxE X a) (mxE X b) (star_cons hs) (star_cons hs2) (star_any (by simp [hs2]))) rfl, ?_⟩
  refine ha.sh s h1 fun v1 H1 π1 lf1 x1 s1 r1 => hb.sh s1 h2 fun v2 H2 π2 lf2 x2 s2 r2 => ?_
  rw [e1] at r1
  rw [e2] at r2
  exact ⟨i, j, r1.int_inv, r2.int_inv, b1, b2, b3, b4, q _ _ _ _ (x1.trans x2) s2 walk_rev⟩
theorem sndI_enum {elts : List Expr} {kk : Nat} {tpos : Pos} (ok : Cok X Γ) (hg : Gl X "enumerate") (hs : isStar a = false) (ha : SndE X Γ a ca) : SndI X Γ (.Tuple elts kk tpos) (.Call (.Name "enumerate" p) [a] [] pos) (.enum ca) := fun H0 F ρ S σ H π lo lf s ds ρ' S' h R q => by
  simp only [evSrc] at h
  obtain ⟨x, ρ1, S1, h1, g⟩ := bind_ok_inv h
  clear h
  split at g
  · cases g
    rename_i es hd
    have hA : SndA X Γ [a] [ca] := sndA_cons hs ha sndA_nil
    refine ⟨_, pi_enum hg (ok.blt "enumerate" (by decide)) (mxA X [a]) (star_cons hs), ?_⟩
    refine hA _ _ _ _ _ _ _ _ _ s _ _ _ (sndA_one_inv h1) _ fun vs H1 π1 lf1 x1 s1 r1 => ?_
    rw [hd] at r1
    cases r1 with
    | cons r1 r2 =>
      cases r2
      obtain ⟨b, ws, rfl, g1, g2, g3⟩ := r1.lst_inv
      exact ⟨b, ws, rfl, Rd.sql g1, q _ _ _ _ x1 s1 (walk_enum g1 g2 g3)⟩
  · cases g
/-! list(range(..)) -/
theorem reps_range {K : Fg} {H : Hp} {π : List Addr} {M : AS} (i j : Int) : Reps K H π M (rgV i j) ((List.range (j - i).toNat).map fun (k : Nat) => .int (i + k)) := by
  unfold rgV
  induction List.range (j - i).toNat with
  | nil => exact .nil
  | cons k r ih => exact .cons (.int _) ih
theorem snd_range {p2 pos2 : Pos} (ok : Cok X Γ) (hg : Gl X "list") (hg2 : Gl X "range") (hs : isStar a = false) (hs2 : isStar b = false) (ha : SndE X Γ a ca) (hb : SndE X Γ b cb) : SndE X Γ (.Call (.Name "list" p) [.Call (.Name "range" p2) [a, b] [] pos2] [] pos) (.range ca cb) := fun H0 F ρ S σ H π lo lf s r ρ' S' h Q q => by
  simp only [ev] at h
  obtain ⟨x, ρ1, S1, h1, h'⟩ := bind_ok_inv h
  obtain ⟨y, ρ2, S2, h2, h''⟩ := bind_ok_inv h'
  obtain ⟨z, ρ3, S3, h3, g⟩ := bind_ok_inv h''
  clear h h' h''
  obtain ⟨h4, rfl, rfl⟩ := of_ok_inv h3
  cases g
  obtain ⟨i, j, e1, e2, ⟨b1, b2, b3, b4⟩, b5, rfl⟩ := rangeD_inv h4
  refine ⟨_, pe_listRg ok.calm hg (ok.blt "list" (by decide)) (prg_2 hg2 (ok.blt "range" (by decide)) (mxE X a) (mxE X b) (star_cons hs) (star_cons hs2) (star_any (by simp [hs2]))) rfl, ?_⟩
  refine ha.sh s h1 fun v1 H1 π1 lf1 x1 s1 r1 => hb.sh s1 h2 fun v2 H2 π2 lf2 x2 s2 r2 => ?_
  rw [e1] at r1
  rw [e2] at r2
  refine ⟨i, j, r1.int_inv, r2.int_inv, ⟨b1, b2, b3, b4, b5⟩, ?_⟩
  exact val_lst s2 (reps_range i j) (fun Q z => z) (fun v H' => Q v H') fun v H' π' lf' x3 k => q v H' π' lf' ((x1.trans x2).trans x3) (k.of (x1.trans x2).dm)
theorem snd_range1 {p2 pos2 : Pos} (ok : Cok X Γ) (hg : Gl X "list") (hg2 : Gl X "range") (hs2 : isStar b = false) (hb : SndE X Γ b cb) : SndE X Γ (.Call (.Name "list" p) [.Call (.Name "range" p2) [b] [] pos2] [] pos) (.range (.int 0) cb) := fun H0 F ρ S σ H π lo lf s r ρ' S' h Q q => by
  simp only [ev, Out.bind_ok, Out.bindB_ok] at h
  obtain ⟨y, ρ2, S2, h2, h''⟩ := bind_ok_inv h
  obtain ⟨z, ρ3, S3, h3, g⟩ := bind_ok_inv h''
  clear h h''
  obtain ⟨h4, rfl, rfl⟩ := of_ok_inv h3
  cases g
  obtain ⟨i, j, e1, e2, ⟨b1, b2, b3, b4⟩, b5, rfl⟩ := rangeD_inv h4
  cases e1
  refine ⟨_, pe_listRg ok.calm hg (ok.blt "list" (by decide)) (prg_1 hg2 (ok.blt "range" (by decide)) (mxE X b) (star_cons hs2)) rfl, ?_⟩
  refine hb.sh s h2 fun v2 H2 π2 lf2 x2 s2 r2 => ?_
  rw [e2] at r2
  refine ⟨j, r2.int_inv, ⟨b1, b2, b3, b4, b5⟩, ?_⟩
  exact val_lst s2 (reps_range 0 j) (fun Q z => z) (fun v H' => Q v H') fun v H' π' lf' x3 k => q v H' π' lf' (x2.trans x3) (k.of x2.dm)
end
end Ht

set_option Elab.async false
set_option linter.all false
set_option maxRecDepth 100000
set_option maxHeartbeats 1000000
/-! ### soundness: comprehensions -/
namespace Ht
open PySem L2
section
variable {K : Fg} {H0 : Hp} {F F' : AS} {ρ : Env} {S S' : Store} {σ : L2.St} {H H' : Hp} {π π' : List Addr} {lo lo' : Nat → Addr} {lf lf' : Nat → Str → Addr}
/-- a slot takes a value -/
theorem Sim.asgV {i : Nat} {d : D} {x : V} (s : Sim K H0 F ρ S σ H π lo lf) (hr : Rep K H π (Mt F ρ S π lo lf) x d) : Sim K H0 F (st ρ i (.v d)) S (σ.set i (some x)) H π lo lf := by
  have less : ∀ a, Mt F (st ρ i (.v d)) S π lo lf a → Mt F ρ S π lo lf a := fun a => mt_st_v
  refine ⟨fun j e he => ?_, fun j es he => ?_, fun j k es fs e1 e2 => s.inj j k es fs (gt_st_own e1).2 (gt_st_own e2).2, fun j es e => s.nf j es (gt_st_own e).2, s.np, s.nq, by rw [st_length, List.length_set]; exact s.len, s.ok.keep (.less less) (fun _ _ _ q => q) (fun _ _ _ _ _ q => q), s.dm, s.fh⟩
  · by_cases c : i = j
    · subst c
      have hl : i < ρ.length := by
        have := gt_lt (ρ := st ρ i (.v d)) (i := i) (by rw [he]; intro z; cases z)
        rw [st_length] at this
        exact this
      rw [gt_st_same hl] at he
      cases he
      exact ⟨x, by rw [List.getElem?_set_self (by rw [s.len]; exact hl)], hr.less less⟩
    · rw [gt_st_ne c] at he
      obtain ⟨v, q1, q2⟩ := s.sl j e he
      exact ⟨v, by rw [List.getElem?_set_ne c]; exact q1, q2.less less⟩
  · obtain ⟨c, he⟩ := gt_st_own he
    obtain ⟨q1, vs, q2, q3⟩ := s.ow j es he
    exact ⟨by rw [List.getElem?_set_ne (fun z => c z.symm)]; exact q1, vs, q2, q3.less less⟩
/-- a list of others is written over -/
theorem keeps_setF {a : Addr} {vs ws : List V} (hF : F a) (ha : H a = some (.lst vs)) : Keeps K H π (Mt F ρ S π lo lf) (upd H a (.lst ws)) π (Mt F ρ S π lo lf) :=
  ⟨⟨[], by simp⟩, fun b o h _ m => ⟨by rw [upd_ne (show b ≠ a from fun e => m (.inl (e ▸ hF)))]; exact h, m⟩, fun b ws h => sqt_lst ha h, fun b o u h => by rw [upd_ne (ne_of h ha (by intro z; cases z))]; exact h⟩
theorem upd_dm {a : Addr} {o : HO} (b : Addr) (h : upd H a o b = none) : H b = none ∧ b ≠ a := by
  by_cases c : b = a
  · subst c
    rw [upd_same] at h
    cases h
  · rw [upd_ne c] at h
    exact ⟨h, c⟩
theorem Sim.setF {a : Addr} {vs ws : List V} (s : Sim K H0 F ρ S σ H π lo lf) (hF : F a) (ha : H a = some (.lst vs)) : Sim K H0 F ρ S σ (upd H a (.lst ws)) π lo lf := by
  have k := keeps_setF (K := K) (π := π) (ρ := ρ) (S := S) (lo := lo) (lf := lf) (ws := ws) hF ha
  refine ⟨fun i d e => ?_, fun i ds e => ?_, s.inj, s.nf, s.np, s.nq, s.len, s.ok.keep k (fun b o hb q => ?_) (fun n f ds o e q => ?_), fun b h => s.dm b (upd_dm b h).1, fun b h z => s.fh b h (upd_dm b z).1⟩
  · obtain ⟨v, h1, h2⟩ := s.sl i d e
    exact ⟨v, h1, h2.keep k⟩
  · obtain ⟨h1, vs', h2, h3⟩ := s.ow i ds e
    exact ⟨h1, vs', by rw [upd_ne (show lo i ≠ a from fun z => (s.nf i ds e).1 (z ▸ hF))]; exact h2, h3.keep k⟩
  · rw [upd_ne (show b ≠ a from fun z => s.np b hb (z ▸ hF))]
    exact q
  · rw [upd_ne (show lf n f ≠ a from fun z => s.nq n f ds e (z ▸ hF))]
    exact q
/-- no own slots -/
def NoOwn (ρ : Env) : Prop := ∀ i ds, gt ρ i ≠ .own ds
theorem mt_noOwn {ρ' : Env} (h : NoOwn ρ) {a : Addr} (m : Mt F ρ S π lo lf a) : Mt F ρ' S π lo' lf a := by
  rcases m with m | ⟨i, ds, m, _⟩ | m
  · exact .inl m
  · exact absurd m (h i ds)
  · exact .inr (.inr m)
/-- the slots as they were at a turn's start -/
theorem Sim.reset {ρ1 : Env} {σ1 : L2.St} {H1 : Hp} {π1 : List Addr} {S1 : Store} {lf1 : Nat → Str → Addr} {M1 : AS} (n : NoOwn ρ) (s : Sim K H0 F ρ S σ H π lo lf) (x : Keeps K H π (Mt F ρ S π lo lf) H1 π1 M1) (hM : ∀ a, Mt F ρ S1 π1 lo lf1 a → M1 a) (s1 : Sim K H0 F ρ1 S1 σ1 H1 π1 lo lf1) : Sim K H0 F ρ S1 σ H1 π1 lo lf1 where
  sl := fun i d e => let ⟨v, h1, h2⟩ := s.sl i d e; ⟨v, h1, (h2.keep x).less hM⟩
  ow := fun i ds e => absurd e (n i ds)
  inj := s.inj
  nf := fun i ds e => absurd e (n i ds)
  np := s1.np
  nq := s1.nq
  len := s.len
  ok := s1.ok.keep (.less fun a h => mt_noOwn n h) (fun _ _ _ q => q) fun _ _ _ _ _ q => q
  dm := s1.dm
  fh := s1.fh
theorem Sim.dropEnv (n : NoOwn ρ) (s : Sim K H0 F ρ S σ H π lo lf) : Sim K H0 F [] S [] H π (fun _ => 0) lf where
  sl := fun i d e => by cases e
  ow := fun i d e => by cases e
  inj := fun i j ds es e => by cases e
  nf := fun i ds e => by cases e
  np := s.np
  nq := s.nq
  len := rfl
  ok := s.ok.keep (.less fun a h => mt_noOwn (fun _ _ z => by cases z) h) (fun _ _ _ q => q) fun _ _ _ _ _ q => q
  dm := s.dm
  fh := s.fh
theorem st_st : ∀ (ρ : Env) (i : Nat) (x y : Sl), st (st ρ i x) i y = st ρ i y
  | [], _, _, _ => rfl
  | _ :: _, 0, _, _ => rfl
  | z :: r, i + 1, x, y => by simp [st, st_st r i x y]
theorem mask_v {x : Sl} {d : D} (h : x.mask = .v d) : x = .v d := by cases x <;> first | exact h | (cases h)
theorem mask_own {x : Sl} {ds : List D} (h : x.mask = .own ds) : False := by cases x <;> cases h
theorem noOwn_mask (ρ : Env) (i : Nat) : NoOwn (st (ρ.map Sl.mask) i .no) := fun j ds h => by
  by_cases c : i = j
  · subst c
    by_cases hl : i < (ρ.map Sl.mask).length
    · rw [gt_st_same hl] at h
      cases h
    · rw [gt_ge (by rw [st_length]; omega)] at h
      cases h
  · rw [gt_st_ne c, gt_mask] at h
    exact mask_own h
/-- into a comprehension's block: own lists are things of others, and so is the new list -/
theorem Sim.block {i : Nat} {p : Addr} (hp : H p = none) (s : Sim K H0 F ρ S σ H π lo lf) : Sim K H0 (fun a => ownF F ρ lo a ∨ a = p) (st (ρ.map Sl.mask) i .no) S (wipe σ [i]) (upd H p (.lst [])) π lo lf := by
  have no := noOwn_mask ρ i
  have hM : ∀ a, Mt (fun a => ownF F ρ lo a ∨ a = p) (st (ρ.map Sl.mask) i .no) S π lo lf a → Mt F ρ S π lo lf a ∨ a = p := fun a h => by
    rcases h with ((h | h) | h) | ⟨j, ds, h, _⟩ | h
    · exact .inl (.inl h)
    · exact .inl (.inr (.inl h))
    · exact .inr h
    · exact absurd h (no j ds)
    · exact .inl (.inr (.inr h))
  have k : Keeps K H π (Mt F ρ S π lo lf) (upd H p (.lst [])) π (Mt (fun a => ownF F ρ lo a ∨ a = p) (st (ρ.map Sl.mask) i .no) S π lo lf) := keeps_new hp hM
  have ne : ∀ a, H a ≠ none → a ≠ p := fun a h e => h (e ▸ hp)
  refine ⟨fun j d e => ?_, fun j ds e => absurd e (no j ds), fun j k' ds es e => absurd e (no j ds), fun j ds e => absurd e (no j ds), fun a ha h => ?_, fun n f ds e h => ?_, by rw [wipe_length, st_length, List.length_map]; exact s.len, s.ok.keep k (fun a o ha q => ?_) (fun n f ds o e q => ?_), fun a h => s.dm a (upd_dm a h).1, fun a h => ?_⟩
  · have c : i ≠ j := fun c => by
      subst c
      have hl := gt_lt (ρ := st (ρ.map Sl.mask) i .no) (i := i) (by rw [e]; intro z; cases z)
      rw [st_length] at hl
      rw [gt_st_same hl] at e
      cases e
    rw [gt_st_ne c, gt_mask] at e
    obtain ⟨v, h1, h2⟩ := s.sl j d (mask_v e)
    refine ⟨v, ?_, h2.keep k⟩
    show (σ.set i none)[j]? = _
    rw [List.getElem?_set_ne c]
    exact h1
  · rcases h with (h | ⟨j, ds, h, e⟩) | h
    · exact s.np a ha h
    · exact (s.nf j ds h).2.1 (e ▸ ha)
    · exact ne a (s.ok.dom.1 a ha) h
  · rcases h with (h | ⟨j, es, h, e'⟩) | h
    · exact s.nq n f ds e h
    · exact (s.nf j es h).2.2.2 n f ds e e'.symm
    · exact ne _ (s.ok.dom.2 n f ds e) h
  · rw [upd_ne (ne_of_none q hp)]
    exact q
  · rw [upd_ne (ne_of_none q hp)]
    exact q
  · intro z
    obtain ⟨z1, z2⟩ := upd_dm a z
    rcases h with h | h
    · exact s.own_there a h z1
    · exact z2 h
end
theorem compL_cons_inv {f : D → Store → Out (Option D)} {d : D} {ds acc res : List D} {S S' : Store} {ρ : Env} (h : compL f (d :: ds) S acc = .ok res ρ S') :
    (∃ ρ1 S1, f d S = .ok none ρ1 S1 ∧ compL f ds S1 acc = .ok res ρ S') ∨ ∃ y ρ1 S1, f d S = .ok (some y) ρ1 S1 ∧ acc.length < big ∧ compL f ds S1 (acc ++ [y]) = .ok res ρ S' := by
  unfold compL at h
  split at h
  · exact .inl ⟨_, _, by assumption, h⟩
  · split at h
    · exact .inr ⟨_, _, _, by assumption, by assumption, h⟩
    · cases h
  · cases h
  · cases h
theorem evc_inv {Γ : Ctx} {cond : Option CT} {elt : CE} {ρ ρ1 : Env} {S S1 : Store} {r : Option D} (h : ((evc Γ cond ρ S).bind fun c ρ S => if c = true then (ev Γ elt ρ S).bind fun y ρ S => .ok (some y.d) ρ S else .ok none ρ S) = .ok r ρ1 S1) :
    ∃ c ρ2 S2, evc Γ cond ρ S = .ok c ρ2 S2 ∧ ((c = false ∧ r = none ∧ ρ1 = ρ2 ∧ S1 = S2) ∨ (c = true ∧ ∃ y, ev Γ elt ρ2 S2 = .ok y ρ1 S1 ∧ r = some y.d)) := by
  obtain ⟨c, ρ2, S2, h1, h2⟩ := bind_ok_inv h
  refine ⟨c, ρ2, S2, h1, ?_⟩
  cases c with
  | false =>
    simp only [Bool.false_eq_true, if_false] at h2
    cases h2
    exact .inl ⟨rfl, rfl, rfl, rfl⟩
  | true =>
    simp only [if_true] at h2
    obtain ⟨y, ρ3, S3, h3, h4⟩ := bind_ok_inv h2
    cases h4
    exact .inr ⟨rfl, y, h3, rfl⟩
section
variable {X : Cx} {Γ : Ctx}
abbrev Blk (X : Cx) (scope : Scope) (s : Shared) (H : Hp) (C : Addr) (cl : List (Str × Addr)) (fp : List Addr) : Cx := X.blk s H scope (compEnvC scope cl C X.env) fp
/-- the greatest readings over all blocks -/
def BxE (X : Cx) (scope : Scope) (e : Expr) : TE := fun σ H Q => ∀ s H1 C cl fp, MxE (Blk X scope s H1 C cl fp) e σ H Q
def BxT (X : Cx) (scope : Scope) (e : Expr) : TT := fun σ H Q => ∀ s H1 C cl fp, MxT (Blk X scope s H1 C cl fp) e σ H Q
def BxTs (X : Cx) (scope : Scope) : List Expr → TT
  | [] => tYes
  | [c] => BxT X scope c
  | _ => fun _ _ _ => False
/-- what is asked of a comprehension's tests -/
def SndC (X : Cx) (Γ : Ctx) (scope : Scope) : List Expr → Option CT → Prop
  | [], none => True
  | [c], some k => ∀ s H1 C cl fp, SndT (Blk X scope s H1 C cl fp) Γ c k
  | _, _ => False
theorem bxTs {scope : Scope} {ifs : List Expr} {cond : Option CT} (h : SndC X Γ scope ifs cond) (s : Shared) (H : Hp) (C : Addr) (cl : List (Str × Addr)) (fp : List Addr) : PTs (Blk X scope s H C cl fp) ifs (BxTs X scope ifs) := by
  unfold SndC at h
  split at h
  · exact pts_nil
  · exact pts_one ⟨fun pins s' σ H' Q I hq => (mxT _ _).run pins s' σ H' Q I (hq _ _ _ _ _)⟩
  · exact h.elim
theorem sndC_use {scope : Scope} {ifs : List Expr} {cond : Option CT} (h : SndC X Γ scope ifs cond) {H0 : Hp} {F : AS} {ρ ρ' : Env} {S S' : Store} {σ : L2.St} {H : Hp} {π : List Addr} {lo : Nat → Addr} {lf : Nat → Str → Addr} (s : Sim X.K H0 F ρ S σ H π lo lf) {b : Bool} (he : evc Γ cond ρ S = .ok b ρ' S') {Q : Bool → Hp → Prop}
    (q : ∀ H' π' lf', Ext X.K F H π (Mt F ρ S π lo lf) H' π' (Mt F ρ' S' π' lo lf') → Sim X.K H0 F ρ' S' σ H' π' lo lf' → Q b H') : BxTs X scope ifs σ H Q := by
  unfold SndC at h
  split at h
  · simp only [evc] at he
    cases he
    exact q H π lf .refl s
  · simp only [evc] at he
    exact fun s' H1 C cl fp => h s' H1 C cl fp _ _ _ _ _ _ _ _ _ s _ _ _ he Q q
  · exact h.elim
theorem comp_pg {x : Str} {tp : Pos} {scope : Scope} {i : Nat} (ok : Cok X Γ) (hxi : X.N[i]? = some x) (hx : scope.names.lookup x = some .local ∨ scope.names.lookup x = some .cell) : ∀ s H1 C cl fp, PG (Blk X scope s H1 C cl fp) (.Name x tp) (gName i) := fun s H1 C cl fp => by
  have hl : Loc (Blk X scope s H1 C cl fp).env.scope x := by
    rcases hx with hx | hx
    · exact .inl (lookup_relS_keep (by decide) hx)
    · exact .inr (lookup_relS_keep (by decide) hx)
  refine pg_name (X := Blk X scope s H1 C cl fp) ok.nd hxi hl ?_
  rcases hx with hx | hx
  · exact .inr (lookup_relS_keep (by decide) hx)
  · refine .inl ?_
    show (scope.names.lookup x == some .cell) = true
    rw [hx]
    rfl
theorem bxE {scope : Scope} {elt : Expr} (s : Shared) (H1 : Hp) (C : Addr) (cl : List (Str × Addr)) (fp : List Addr) : PE (Blk X scope s H1 C cl fp) elt (BxE X scope elt) := ⟨fun pins s' σ H' Q I hq => (mxE _ _).run pins s' σ H' Q I (hq _ _ _ _ _)⟩
theorem comp_read {elt iter : Expr} {ifs : List Expr} {x : Str} {tp : Pos} {scope : Scope} {i : Nat} {sh : List Nat} {ce : CE} {src : Src} {cond : Option CT} (ok : Cok X Γ) (hi : SndI X Γ (.Name x tp) iter src)
    (he : ∀ s H1 C cl fp, SndE (Blk X scope s H1 C cl fp) Γ elt ce) (hc : SndC X Γ scope ifs cond) {H0 : Hp} {F : AS} {ρ ρ' : Env} {S S' : Store} {σ : L2.St} {H : Hp} {π : List Addr} {lo : Nat → Addr} {lf : Nat → Str → Addr} (s : Sim X.K H0 F ρ S σ H π lo lf) {r : Rv} (h : ev Γ (.comp sh ce i src cond) ρ S = .ok r ρ' S') (Q : VK)
    (q : ∀ v H' π' lf', Ext X.K F H π (Mt F ρ S π lo lf) H' π' (Mt F ρ' S' π' lo lf') → RvOk X.K H0 H F ρ' S' σ H' π' lo lf' v r → Q v H') : tLc (MxI X (.Name x tp) iter) (gName i) (BxTs X scope ifs) (BxE X scope elt) [i] σ H Q := by
  simp only [ev] at h
  obtain ⟨ds, ρ1, S1, h1, h2⟩ := bind_ok_inv h
  clear h
  refine hi _ _ _ _ _ _ _ _ _ s _ _ _ h1 _ fun J H1 π1 lf1 x1 s1 w1 => ?_
  obtain ⟨s2, l2⟩ := s1.shareAt sh
  generalize hρ2 : shareAt ρ1 sh = ρ2 at h2 s2 l2
  intro Da hD
  split at h2
  case h_2 => cases h2
  case h_1 res ρz Sz hcomp =>
  cases h2
  have nD : ∀ a, ownF F ρ' lo a → a ≠ Da := fun a ha e => s2.own_there a ha (e ▸ hD)
  have no := noOwn_mask ρ' i
  refine ⟨fun j m H2 => ∃ S2 π2 lf2 acc vs, j ≤ ds.length ∧ m = ds.length - j ∧ Sim X.K H0 (fun a => ownF F ρ' lo a ∨ a = Da) (st (ρ'.map Sl.mask) i .no) S2 (wipe σ [i]) H2 π2 lo lf2 ∧ H2 Da = some (.lst vs) ∧
      Reps X.K H2 π2 (Mt (fun a => ownF F ρ' lo a ∨ a = Da) (st (ρ'.map Sl.mask) i .no) S2 π2 lo lf2) vs acc ∧
      compL (fun d S => (evc Γ cond (st (ρ'.map Sl.mask) i (.v d)) S).bind fun c ρ S => if c = true then (ev Γ ce ρ S).bind fun y ρ S => .ok (some y.d) ρ S else .ok none ρ S) (ds.drop j) S2 acc = .ok res ρz S' ∧
      Ext X.K (ownF F ρ' lo) H1 π1 (Mt F ρ' S1 π1 lo lf1) H2 π2 (Mt (fun a => ownF F ρ' lo a ∨ a = Da) (st (ρ'.map Sl.mask) i .no) S2 π2 lo lf2), ?_, ?_⟩
  · refine ⟨ds.length, S1, π1, lf1, [], [], Nat.zero_le _, rfl, s2.block hD, upd_same, .nil, hcomp, ?_⟩
    have k : Keeps X.K H1 π1 (Mt F ρ' S1 π1 lo lf1) (upd H1 Da (.lst [])) π1 (Mt (fun a => ownF F ρ' lo a ∨ a = Da) (st (ρ'.map Sl.mask) i .no) S1 π1 lo lf1) := keeps_new hD fun a h => by
      rcases h with ((h | h) | h) | ⟨j, ds, h, _⟩ | h
      · exact .inl (.inl h)
      · exact .inl (.inr (.inl h))
      · exact .inr h
      · exact absurd h (no j ds)
      · exact .inl (.inr (.inr h))
    exact ⟨k, fun a o ha q => by rw [upd_ne (nD a ha)]; exact q, fun a h => (upd_dm a h).1⟩
  · rintro j m H2 ⟨S2, π2, lf2, acc, vs, hj, hm, t2, e2, r2, c2, xx⟩
    have kw : Keeps X.K H1 π1 (Mt F ρ1 S1 π1 lo lf1) H2 π2 (Mt (fun a => ownF F ρ' lo a ∨ a = Da) (st (ρ'.map Sl.mask) i .no) S2 π2 lo lf2) := (Keeps.less fun a h => l2 a h).trans xx.toKeeps
    by_cases hlt : j < ds.length
    · refine .inr ⟨w1.go kw hlt, fun H' => ∃ S2 π2 lf2 acc vs, Sim X.K H0 (fun a => ownF F ρ' lo a ∨ a = Da) (st (ρ'.map Sl.mask) i .no) S2 (wipe σ [i]) H' π2 lo lf2 ∧ H' Da = some (.lst vs) ∧
        Reps X.K H' π2 (Mt (fun a => ownF F ρ' lo a ∨ a = Da) (st (ρ'.map Sl.mask) i .no) S2 π2 lo lf2) vs acc ∧
        compL (fun d S => (evc Γ cond (st (ρ'.map Sl.mask) i (.v d)) S).bind fun c ρ S => if c = true then (ev Γ ce ρ S).bind fun y ρ S => .ok (some y.d) ρ S else .ok none ρ S) (ds.drop (j + 1)) S2 acc = .ok res ρz S' ∧
        Ext X.K (ownF F ρ' lo) H1 π1 (Mt F ρ' S1 π1 lo lf1) H' π2 (Mt (fun a => ownF F ρ' lo a ∨ a = Da) (st (ρ'.map Sl.mask) i .no) S2 π2 lo lf2), fun H' hN => ?_, fun v H' hy => ?_⟩
      · obtain ⟨S2, π2, lf2, acc, vs, g1, g2, g3, g4, g5⟩ := hN
        exact ⟨ds.length - (j + 1), by omega, S2, π2, lf2, acc, vs, by omega, rfl, g1, g2, g3, g4, g5⟩
      · have hd : ds[j]? = some ds[j] := List.getElem?_eq_getElem hlt
        rw [List.drop_eq_getElem_cons hlt] at c2
        -- the item as it comes
        obtain ⟨t3, e3, r3, y3⟩ : Sim X.K H0 (fun a => ownF F ρ' lo a ∨ a = Da) (st (ρ'.map Sl.mask) i .no) S2 (wipe σ [i]) H' π2 lo lf2 ∧ H' Da = some (.lst vs) ∧ Rep X.K H' π2 (Mt (fun a => ownF F ρ' lo a ∨ a = Da) (st (ρ'.map Sl.mask) i .no) S2 π2 lo lf2) v ds[j] ∧
            Ext X.K (fun a => ownF F ρ' lo a ∨ a = Da) H2 π2 (Mt (fun a => ownF F ρ' lo a ∨ a = Da) (st (ρ'.map Sl.mask) i .no) S2 π2 lo lf2) H' π2 (Mt (fun a => ownF F ρ' lo a ∨ a = Da) (st (ρ'.map Sl.mask) i .no) S2 π2 lo lf2) := by
          rcases w1.yld kw hy hd with ⟨rfl, g⟩ | ⟨p, ws, es, g1, rfl, rfl, g2, g3⟩
          · exact ⟨t2, e2, g, .refl⟩
          · refine ⟨t2.new g1, by rw [upd_ne (ne_of_none e2 g1)]; exact e2, ?_, .new g1 t2⟩
            rw [g2]
            exact .tup (SqT.of upd_same) (g3.keep (keeps_new g1 fun _ z => .inl z))
        show wipe ((wipe σ [i]).set i (some v)) [i] = wipe σ [i] ∧ BxTs X scope ifs ((wipe σ [i]).set i (some v)) H' _
        refine ⟨?_, ?_⟩
        · show ((σ.set i none).set i (some v)).set i none = σ.set i none
          rw [List.set_set, List.set_set]
        · have t4 := t3.asgV (i := i) r3
          rw [st_st] at t4
          -- the end of a turn, with the store and heap as they stand
          have fin : ∀ {ρ5 : Env} {S5 : Store} {H5 : Hp} {π5 : List Addr} {lf5 : Nat → Str → Addr} (acc5 : List D) (vs5 : List V), Ext X.K (fun a => ownF F ρ' lo a ∨ a = Da) H' π2 (Mt (fun a => ownF F ρ' lo a ∨ a = Da) (st (ρ'.map Sl.mask) i (.v ds[j])) S2 π2 lo lf2) H5 π5 (Mt (fun a => ownF F ρ' lo a ∨ a = Da) ρ5 S5 π5 lo lf5) →
              Sim X.K H0 (fun a => ownF F ρ' lo a ∨ a = Da) ρ5 S5 ((wipe σ [i]).set i (some v)) H5 π5 lo lf5 → Sim X.K H0 (fun a => ownF F ρ' lo a ∨ a = Da) (st (ρ'.map Sl.mask) i .no) S5 (wipe σ [i]) H5 π5 lo lf5 ∧
              Ext X.K (fun a => ownF F ρ' lo a ∨ a = Da) H' π2 (Mt (fun a => ownF F ρ' lo a ∨ a = Da) (st (ρ'.map Sl.mask) i .no) S2 π2 lo lf2) H5 π5 (Mt (fun a => ownF F ρ' lo a ∨ a = Da) (st (ρ'.map Sl.mask) i .no) S5 π5 lo lf5) := fun {ρ5 S5 H5 π5 lf5} acc5 vs5 x5 t5 => by
            have x6 : Ext X.K (fun a => ownF F ρ' lo a ∨ a = Da) H' π2 (Mt (fun a => ownF F ρ' lo a ∨ a = Da) (st (ρ'.map Sl.mask) i .no) S2 π2 lo lf2) H5 π5 (Mt (fun a => ownF F ρ' lo a ∨ a = Da) (st (ρ'.map Sl.mask) i .no) S5 π5 lo lf5) := x5.ofCall (fun _ z => z) (fun a z => by
              rcases z with z | ⟨k, ds, z, z2⟩ | z
              · exact .inl z
              · obtain ⟨z3, z4⟩ := gt_st_own z
                rw [gt_mask] at z4
                exact (mask_own z4).elim
              · exact .inr (.inr z)) fun a z => mt_noOwn no z
            exact ⟨t3.reset no x6.toKeeps (fun a z => z) t5, x6⟩
          rcases compL_cons_inv c2 with ⟨ρ5, S5, f1, f2⟩ | ⟨y, ρ5, S5, f1, f2, f3⟩
          · obtain ⟨c, ρ6, S6, g1, g2⟩ := evc_inv f1
            rcases g2 with ⟨rfl, _, rfl, rfl⟩ | ⟨_, y, _, g3⟩
            · refine sndC_use hc t4 g1 fun H5 π5 lf5 x5 t5 => ?_
              obtain ⟨t6, x6⟩ := fin acc vs x5 t5
              rw [if_neg Bool.false_ne_true]
              refine ⟨_, π5, lf5, acc, vs, t6, x6.fo _ _ (.inr rfl) e3, (r2.keep y3.toKeeps).keep x6.toKeeps, f2, ?_⟩
              exact xx.trans ((y3.trans x6).ofCall (fun _ z => .inl z) (fun _ z => z) fun _ z => z)
            · cases g3
          · obtain ⟨c, ρ6, S6, g1, g2⟩ := evc_inv f1
            rcases g2 with ⟨_, g3, _⟩ | ⟨rfl, y', g3, g4⟩
            · cases g3
            · cases g4
              refine sndC_use hc t4 g1 fun H5 π5 lf5 x5 t5 => ?_
              rw [if_pos rfl]
              intro s0 H00 C0 cl0 fp0
              refine (he s0 H00 C0 cl0 fp0).sh t5 g3 fun v7 H7 π7 lf7 x7 t7 r7 => ?_
              obtain ⟨t8, x8⟩ := fin acc vs (x5.trans x7) t7
              have hv := (r2.keep y3.toKeeps).keep x8.toKeeps
              have e8 : H7 Da = some (.lst vs) := x8.fo _ _ (.inr rfl) e3
              have r8 : Rep X.K H7 π7 (Mt (fun a => ownF F ρ' lo a ∨ a = Da) (st (ρ'.map Sl.mask) i .no) S5 π7 lo lf7) v7 y'.d := r7.less fun a z => mt_noOwn no z
              have k9 := keeps_setF (K := X.K) (F := fun a => ownF F ρ' lo a ∨ a = Da) (π := π7) (ρ := st (ρ'.map Sl.mask) i .no) (S := S5) (lo := lo) (lf := lf7) (ws := vs ++ [v7]) (.inr rfl) e8
              refine ⟨vs, e8, by rw [hv.length]; exact f2, S5, π7, lf7, acc ++ [y'.d], vs ++ [v7], t8.setF (.inr rfl) e8, upd_same, (hv.append (.cons r8 .nil)).keep k9, f3, ?_⟩
              have x9 : Ext X.K (ownF F ρ' lo) H2 π2 (Mt (fun a => ownF F ρ' lo a ∨ a = Da) (st (ρ'.map Sl.mask) i .no) S2 π2 lo lf2) H7 π7 (Mt (fun a => ownF F ρ' lo a ∨ a = Da) (st (ρ'.map Sl.mask) i .no) S5 π7 lo lf7) := (y3.trans x8).ofCall (fun _ z => .inl z) (fun _ z => z) fun _ z => z
              exact (xx.trans x9).trans ⟨k9, fun a o ha z => by rw [upd_ne (nD a ha)]; exact z, fun a z => (upd_dm a z).1⟩
    · have ej : j = ds.length := by omega
      subst ej
      refine .inl ⟨w1.stop kw, ?_⟩
      rw [List.drop_length] at c2
      simp only [compL] at c2
      cases c2
      have x3 : Ext X.K F H1 π1 (Mt F ρ1 S1 π1 lo lf1) H2 π2 (Mt F ρ' S' π2 lo lf2) := xx.ofCall (fun _ z => .inl z) (fun a z => l2 a z) fun a z => by
        rcases z with z | z | z
        · exact .inl (.inl (.inl z))
        · exact .inl (.inl (.inr z))
        · exact .inr (.inr z)
      refine q (.ref Da) H2 π2 lf2 (x1.trans x3) ⟨Da, vs, rfl, e2, x1.dm Da hD, fun z => ?_, ?_, r2.less fun a z => ?_⟩
      · rcases z with z | ⟨k, es, z, z2⟩ | z | ⟨n, f, es, z, z2⟩
        · exact nD Da (.inl z) rfl
        · exact nD Da (.inr ⟨k, es, z, z2⟩) rfl
        · exact t2.np Da z (.inr rfl)
        · exact t2.nq n f es z (.inr z2.symm)
      · refine Sim.back (G := fun a => a = Da) s2 xx (fun a z => .inl ?_) (fun a z => z ▸ hD) (fun a z w => ?_) (t2.dropEnv no)
        · rcases z with z | ⟨k, es, z, _⟩ | z
          · exact .inl z
          · cases z
          · exact .inr (.inr z)
        · subst z
          rw [e2] at w
          cases w
      · rcases z with (z | z) | z | z
        · exact .inl (.inl (.inl z))
        · exact .inl (.inr z)
        · exact .inl (.inl (.inr z))
        · exact .inr (.inr z)
theorem snd_comp {elt iter : Expr} {ifs : List Expr} {x : Str} {tp pos : Pos} {scope : Scope} {i : Nat} {sh : List Nat} {ce : CE} {src : Src} {cond : Option CT} (ok : Cok X Γ) (hi : SndI X Γ (.Name x tp) iter src) (okB : BlkOk X.N X.env.scope scope [(x, i)])
    (hxi : X.N[i]? = some x) (hx : scope.names.lookup x = some .local ∨ scope.names.lookup x = some .cell) (he : ∀ s H1 C cl fp, SndE (Blk X scope s H1 C cl fp) Γ elt ce) (hc : SndC X Γ scope ifs cond) (hfs : ∀ v, foldedSetIterable iter X.env v = pure v) :
    SndE X Γ (.ListComp elt [⟨.Name x tp, iter, ifs, 0⟩] scope pos) (.comp sh ce i src cond) := fun H0 F ρ S σ H π lo lf s r ρ' S' h Q q =>
  ⟨_, pe_lc ok.calm ok.nd (mxI X (.Name x tp) iter) okB (comp_pg ok hxi hx) (fun s H1 C cl fp => bxTs hc s H1 C cl fp) (fun s H1 C cl fp => bxE s H1 C cl fp) hfs, comp_read ok hi he hc s h Q q⟩
end
end Ht

set_option Elab.async false
set_option linter.all false
set_option maxRecDepth 100000
set_option maxHeartbeats 1000000
/-! ### soundness: fields, methods, new objects -/
namespace Ht
open PySem L2
theorem recvM_base {v : Expr} {m : Str} {env : PySem.Env} {w : Sem Value} (h : isRecvM v = true) : attributeBase v m env w = w := by
  unfold attributeBase
  split
  · cases h
  · rfl
theorem meth_tree {o : Expr} {m : Str} {apos pos : Pos} {args : List Expr} {env : PySem.Env} (hb : isRecvM o = true) (hs : args.any isStar = false) (hn : args.length < 29) (hl : (apos.endLine == pos.line) = true) :
    eval (.Call (.Attribute o m apos) args [] pos) env = (do
      let ov ← eval o env
      standAt apos.atName
      let (f, first) ← holding [ov] (getMethod ov m (do return (← importBound o env).getD true))
      callWith pos f first (backTo pos (starEach args env)) (backToKw pos (keywordEach [] env))) := by
  have hall : ∀ {es : List Expr}, es.any isStar = false → (backTo pos (starEach es env)).all (fun x => !x.1) = true := by
    intro es
    induction es with
    | nil => intro _; rfl
    | cons e es ih =>
      intro h
      simp only [List.any_cons, Bool.or_eq_false_iff] at h
      rw [star_cons h.1]
      have := ih h.2
      simp only [backTo, List.map_cons, List.all_cons, Bool.and_eq_true] at this ⊢
      exact ⟨rfl, this⟩
  have hform : methodCallForm (args.length + ([] : List Keyword).length) (backTo pos (starEach args env)) (backToKw pos (keywordEach [] env)) = true := by
    unfold methodCallForm
    rw [hall hs]
    show ((true && true) && decide (args.length + 0 + 0 < 30)) = true
    simp
    omega
  have hpos : methodCallPos true o env apos pos = pure pos := by unfold methodCallPos; simp [hl]
  rw [arm_eval_Call, recvM_base hb]
  unfold methodCall
  rw [hform, hpos]
  rfl
section
variable {K : Fg} {H0 : Hp} {F F' : AS} {ρ : Env} {S S' : Store} {σ : L2.St} {H H' : Hp} {π π' : List Addr} {M : AS} {lo : Nat → Addr} {lf lf' : Nat → Str → Addr}
theorem Rep.ref_inv {v : V} {n : Nat} (h : Rep K H π M v (.ref n)) : ∃ a, v = .ref a ∧ π[n]? = some a := by cases h with | ref h => exact ⟨_, rfl, h⟩
theorem StoreOk.val (h : StoreOk K S H π M lf) {n : Nat} {f : Str} {d : D} (e : fldAt S n f = .v d) :
    ∃ c fs a C dx vfs v, S[n]? = some (.obj c fs) ∧ π[n]? = some a ∧ H a = some (.ins C dx vfs) ∧ ClsAt K c C ∧ vfs.lookup f = some v ∧ Rep K H π M v d := by
  cases hn : S[n]? with
  | none => simp [fldAt, hn] at e
  | some cl =>
    obtain ⟨c, fs, rfl, a, C, dx, vfs, h1, h2, h3, h4, h5⟩ := h.cell n cl hn
    rw [fldAt_obj hn] at e
    have := h5 f
    rw [e] at this
    obtain ⟨v, k1, k2⟩ := this
    exact ⟨c, fs, a, C, dx, vfs, v, rfl, h1, h2, h3, k1, k2⟩
end
section
variable {X : Cx} {Γ : Ctx} {e a b : Expr} {c ca cb : CE} {k : CT} {p pos : Pos}
theorem snd_fld {f : Str} (hb : isRecvM a = true) (hf : f ∈ fldNames) (ha : SndE X Γ a ca) : SndE X Γ (.Attribute a f pos) (.fld ca f) := fun H0 F ρ S σ H π lo lf s r ρ' S' h Q q => by
  simp only [ev] at h
  obtain ⟨x, ρ1, S1, h1, g⟩ := bind_ok_inv h
  clear h
  split at g
  · rename_i n
    split at g
    · rename_i d hd
      cases g
      refine ⟨_, pe_fld (mxE X a) (recvM_base hb), ha.sh s h1 fun v H1 π1 lf1 x1 s1 r1 => ?_⟩
      obtain ⟨p, rfl, hp⟩ := r1.ref_inv
      obtain ⟨c, fs, a', C, dx, vfs, w, hS, ha', hH, hC, hl, hr⟩ := s1.ok.val hd
      rw [hp] at ha'
      cases ha'
      exact ⟨p, C, dx, vfs, w, rfl, hH, hC.2.1, hC.2.2 f hf, hl, q w H1 π1 lf1 x1 ⟨s1, hr⟩⟩
    · cases g
  · cases g
/-- an own field is read -/
theorem own_read {f : Str} (hb : isRecvM a = true) (hf : f ∈ fldNames) (ha : SndE X Γ a ca) {H0 : Hp} {F : AS} {ρ ρ1 : Env} {S S1 : Store} {σ : L2.St} {H : Hp} {π : List Addr} {lo : Nat → Addr} {lf : Nat → Str → Addr} (s : Sim X.K H0 F ρ S σ H π lo lf) {n : Nat} {ds : List D} (h1 : ev Γ ca ρ S = .ok (.sh (.ref n)) ρ1 S1) (hd : fldAt S1 n f = .own ds) (Q : VK)
    (q : ∀ (vs : List V) H1 π1 lf1, Ext X.K F H π (Mt F ρ S π lo lf) H1 π1 (Mt F ρ1 S1 π1 lo lf1) → Sim X.K H0 F ρ1 S1 σ H1 π1 lo lf1 → H1 (lf1 n f) = some (.lst vs) → Reps X.K H1 π1 (Mt F ρ1 S1 π1 lo lf1) vs ds → Q (.ref (lf1 n f)) H1) : tFld X.K (MxE X a) f σ H Q := by
  refine ha.sh s h1 fun v H1 π1 lf1 x1 s1 r1 => ?_
  obtain ⟨p, rfl, hp⟩ := r1.ref_inv
  obtain ⟨c, fs, a', C, dx, vfs, vs, hS, ha', hH, hC, hk, hv, e1, e2, e3, e4⟩ := s1.ok.own hd
  have hp' : π1[n]? = some p := hp
  rw [hp'] at ha'
  cases ha'
  exact ⟨p, C, dx, vfs, _, rfl, hH, hC.2.1, hC.2.2 f hf, e2, q vs H1 π1 lf1 x1 s1 e3 e4⟩
theorem snd_flist {f : Str} {p2 : Pos} (ok : Cok X Γ) (hg : Gl X "list") (hb : isRecvM a = true) (hf : f ∈ fldNames) (ha : SndE X Γ a ca) : SndE X Γ (.Call (.Name "list" p) [.Attribute a f p2] [] pos) (.flist ca f) := fun H0 F ρ S σ H π lo lf s r ρ' S' h Q q => by
  simp only [ev] at h
  obtain ⟨x, ρ1, S1, h1, g⟩ := bind_ok_inv h
  clear h
  split at g
  · rename_i n
    split at g
    · rename_i ds hd
      cases g
      refine ⟨_, pe_callTy call_list_of hg (ok.blt "list" (by decide)) PyProof.Rows.boot_list (pa_cons (pe_fld (mxE X a) (recvM_base hb)) pa_nil (star_cons rfl)) (by decide) (by decide) (star_cons rfl) rfl, ?_⟩
      refine own_read hb hf ha s h1 hd _ fun vs H1 π1 lf1 x1 s1 e3 e4 => ?_
      refine ⟨_, vs, rfl, .inl (SqL.of e3), ?_⟩
      exact val_lst s1 e4 (fun Q z => z) (fun v H' => Q v H') fun v H' π' lf' x3 k => q v H' π' lf' (x1.trans x3) (k.of x1.dm)
    · cases g
  · cases g
theorem fnil_use {f : Str} {p2 p3 : Pos} (ok : Cok X Γ) (hb : isRecvM a = true) (hf : f ∈ fldNames) (ha : SndE X Γ a ca) {H0 : Hp} {F : AS} {ρ ρ' : Env} {S S' : Store} {σ : L2.St} {H : Hp} {π : List Addr} {lo : Nat → Addr} {lf : Nat → Str → Addr} (s : Sim X.K H0 F ρ S σ H π lo lf) {r : Rv} (h : ev Γ (.fnil ca f) ρ S = .ok r ρ' S') :
    ∃ (w : Bool) (rl : R2), r = .sh (.bl w) ∧ OpR X (compareOp .Eq) rl ∧ ∀ Q : VK, (∀ H' π' lf', Ext X.K F H π (Mt F ρ S π lo lf) H' π' (Mt F ρ' S' π' lo lf') → Sim X.K H0 F ρ' S' σ H' π' lo lf' → Q (.bl w) H') →
      tFld X.K (MxE X a) f σ H fun x1 H1 => tLst tNil σ H1 fun y1 H2 => rl x1 y1 H2 Q := by
  simp only [ev] at h
  obtain ⟨x, ρ1, S1, h1, g⟩ := bind_ok_inv h
  clear h
  split at g
  · rename_i n
    split at g
    · rename_i ds hd
      split at g
      · rename_i hfl
        cases g
        refine ⟨_, _, rfl, op_eqD ok.hu, fun Q q => own_read hb hf ha s h1 hd _ fun vs H1 π1 lf1 x1 s1 e3 e4 => ⟨by decide, fun p0 hp0 => ?_⟩⟩
        have s2 : Sim X.K H0 F ρ' S' σ (upd H1 p0 (.lst [])) π1 lo lf1 := s1.new hp0
        have x2 := Ext.new (o := .lst []) hp0 s1
        have h3 : (upd H1 p0 (.lst [])) (lf1 n f) = some (.lst vs) := by rw [upd_ne (ne_of_none e3 hp0)]; exact e3
        have e5 := e4.keep x2.toKeeps
        have hA : (D.lst ds).flatTo 62 = true := by simpa [D.flatTo] using hfl
        refine ⟨toPy (.lst ds), toPy (.lst []), .lst (SqL.of h3) (reps_dp e5 hfl), .lst (SqL.of upd_same) .nil, toPy_shaped hA, toPy_shaped (a := .lst []) rfl, ?_⟩
        rw [toPy_eqv (.lst ds) (.lst []) 62 62 hA rfl]
        have : D.eqv (.lst ds) (.lst []) = ds.isEmpty := by cases ds <;> rfl
        rw [this]
        exact q _ _ _ (x1.trans x2) s2
      · cases g
    · cases g
  · cases g
theorem snd_fnil {f : Str} {p2 p3 : Pos} (ok : Cok X Γ) (hm : behindInMarks .Eq (.List [] p3) = false) (hb : isRecvM a = true) (hf : f ∈ fldNames) (ha : SndE X Γ a ca) : SndE X Γ (.Compare (.Attribute a f p2) [.Eq] [.List [] p3] pos) (.fnil ca f) := fun H0 F ρ S σ H π lo lf s r ρ' S' h Q q => by
  obtain ⟨w, rl, rfl, ho, k⟩ := fnil_use (p2 := p2) (p3 := p3) ok hb hf ha s h
  exact ⟨_, pe_cmpR ho (pe_fld (mxE X a) (recvM_base hb)) (pe_lst pa_nil) hm, k Q fun H' π' lf' x1 s1 => q _ _ _ _ x1 ⟨s1, .bl _⟩⟩
theorem sndT_fnil {f : Str} {p2 p3 : Pos} (ok : Cok X Γ) (hm : behindInMarks .Eq (.List [] p3) = false) (hb : isRecvM a = true) (hf : f ∈ fldNames) (ha : SndE X Γ a ca) : SndT X Γ (.Compare (.Attribute a f p2) [.Eq] [.List [] p3] pos) (.e (.fnil ca f)) := fun H0 F ρ S σ H π lo lf s r ρ' S' h Q q => by
  simp only [evT] at h
  obtain ⟨y, ρ1, S1, h1, g⟩ := bind_ok_inv h
  clear h
  obtain ⟨h2, rfl, rfl⟩ := of_ok_inv g
  obtain ⟨w, rl, rfl, ho, k⟩ := fnil_use (p2 := p2) (p3 := p3) ok hb hf ha s h1
  cases h2
  exact ⟨_, pt_cmpR ho (pe_fld (mxE X a) (recvM_base hb)) (pe_lst pa_nil) hm, k _ fun H' π' lf' x1 s1 => ⟨_, rfl, q _ _ _ x1 s1⟩⟩
theorem snd_fpop {f : Str} {p2 ap cp : Pos} (hb : isRecvM a = true) (hf : f ∈ fldNames) (hl : (ap.endLine == cp.line) = true) (ha : SndE X Γ a ca) : SndE X Γ (.Call (.Attribute (.Attribute a f p2) "pop" ap) [] [] cp) (.fpop ca f) := fun H0 F ρ S σ H π lo lf s r ρ' S' h Q q => by
  simp only [ev] at h
  obtain ⟨x, ρ1, S1, h1, g⟩ := bind_ok_inv h
  clear h
  split at g
  · rename_i n
    split at g
    · rename_i ds hd
      split at g
      · rename_i d hz
        cases g
        refine ⟨_, pe_bm0 PySem.F.plainAttrs_list PySem.F.slot_list_pop PySem.F.type_list_pop mt_pop (pe_fld (mxE X a) (recvM_base hb)) rfl hl, ?_⟩
        refine own_read hb hf ha s h1 hd _ fun vs H1 π1 lf1 x1 s1 e3 e4 => ?_
        rw [List.getLast?_eq_getElem?] at hz
        obtain ⟨v, hv1, hv2⟩ := e4.get hz
        obtain ⟨s2, x2⟩ := s1.setOwnF hd e4.dropLast
        refine ⟨.inl ⟨rfl, _, SqL.of e3⟩, _, vs, v, rfl, rfl, e3, by rw [e4.length]; exact hv1, ?_⟩
        exact q v _ _ _ (x1.trans x2) ⟨s2, hv2.keep x2.toKeeps⟩
      · cases g
    · cases g
  · cases g
theorem snd_meth {m : Str} {ap : Pos} {es : List Expr} {cs : List CE} (ok : Cok X Γ) (hb : isRecvM a = true) (hs : es.any isStar = false) (hlen : es.length < 29) (hl : (ap.endLine == pos.line) = true) (hn : es = [] → cs = []) (ha : SndE X Γ a ca) (hA : SndA X Γ es cs) :
    SndE X Γ (.Call (.Attribute a m ap) es [] pos) (.meth ca m cs) := fun H0 F ρ S σ H π lo lf s r ρ' S' h Q q => by
  simp only [ev] at h
  obtain ⟨x, ρ1, S1, h1, g⟩ := bind_ok_inv h
  clear h
  split at g
  · rename_i n
    split at g
    · rename_i c fs hS
      split at g
      · cases g
      · rename_i hf
        obtain ⟨ds, ρ2, S2, h2, g2⟩ := bind_ok_inv g
        clear g
        have h2 := chk_ok_inv h2
        split at g2
        · rename_i r2 S3 hc
          cases g2
          obtain ⟨k, fa, fd, ps, C, hF, hr, hC0, hM, hB⟩ := ok.cm c m (D.ref n :: ds) S2 (by rw [hc]; intro z; cases z)
          have fin : ∀ {vs : List V} {H1 H2 : Hp} {π1 π2 : List Addr} {lf1 lf2 : Nat → Str → Addr} {v : V}, Ext X.K F H π (Mt F ρ S π lo lf) H1 π1 (Mt F ρ1 S1 π1 lo lf1) → Rep X.K H1 π1 (Mt F ρ1 S1 π1 lo lf1) v (.ref n) → Ext X.K F H1 π1 (Mt F ρ1 S1 π1 lo lf1) H2 π2 (Mt F ρ' S2 π2 lo lf2) → Sim X.K H0 F ρ' S2 σ H2 π2 lo lf2 →
              Reps X.K H2 π2 (Mt F ρ' S2 π2 lo lf2) vs ds → spG X.K Γ.xc (Γ.cm c m) (D.ref n :: ds).length (v :: vs) H2 Q (fun _ _ _ => False) := fun x1 r1 x2 s2 r2 =>
            call_fin (by rw [hc]; intro z; cases z) s2 (.cons (r1.keep x2.toKeeps) r2) (fun r3 S3 e3 v H' π' lf' x3 k3 => by
              rw [hc] at e3
              cases e3
              exact q v H' π' lf' (x1.trans (x2.trans x3)) (k3.of (x1.trans x2).dm)) fun _ _ e3 => by rw [hc] at e3; cases e3
          have obj : ∀ {H1 : Hp} {π1 : List Addr} {lf1 : Nat → Str → Addr} {v : V}, Sim X.K H0 F ρ1 S1 σ H1 π1 lo lf1 → Rep X.K H1 π1 (Mt F ρ1 S1 π1 lo lf1) v (.ref n) → ∃ p dx vfs, v = .ref p ∧ H1 p = some (.ins C dx vfs) ∧ vfs.lookup m = none ∧ Cls X.K C := fun s1 r1 => by
            obtain ⟨p, rfl, hp⟩ := r1.ref_inv
            obtain ⟨c', fs', e, a', C', dx, vfs, k1, k2, k3, k4, k5⟩ := s1.ok.cell n _ hS
            cases e
            rw [hp] at k1
            cases k1
            have := k3.1.symm.trans hC0.1
            cases this
            exact ⟨p, dx, vfs, rfl, k2, hasF_none vfs fs k4 (by simpa using hf), k3.2.1⟩
          have hcl := hC0.2.1
          cases es with
          | nil =>
            have hcs := hn rfl
            subst hcs
            simp only [evs] at h2
            cases h2
            refine ⟨_, HtX.meth0 (mxE X a) hcl hM hF hr hB (fun σ => HtX.passNone rfl rfl σ) (meth_tree hb hs hlen hl), ?_⟩
            refine ha.sh s h1 fun v H1 π1 lf1 x1 s1 r1 => ?_
            obtain ⟨p, dx, vfs, rfl, k2, k3, _⟩ := obj s1 r1
            exact ⟨p, dx, vfs, rfl, k2, k3, fin x1 r1 .refl s1 .nil⟩
          | cons e es =>
            simp only [List.any_cons, Bool.or_eq_false_iff] at hs
            refine ⟨_, HtX.meth (mxE X a) hcl hM hF hr hB (fun σ => HtX.passNone rfl rfl σ) (mxA X (e :: es)) (star_cons hs.1) (star_any hs.2) (meth_tree hb (by simp only [List.any_cons, Bool.or_eq_false_iff]; exact hs) hlen hl), ?_⟩
            refine ha.sh s h1 fun v H1 π1 lf1 x1 s1 r1 => ?_
            obtain ⟨p, dx, vfs, rfl, k2, k3, _⟩ := obj s1 r1
            refine ⟨p, dx, vfs, rfl, k2, k3, hA _ _ _ _ _ _ _ _ _ s1 _ _ _ h2 _ fun vs H2 π2 lf2 x2 s2 r2 => ?_⟩
            exact fin x1 r1 x2 s2 r2
        · cases g2
        · cases g2
    · cases g
  · cases g
theorem snd_make {x : Str} {es : List Expr} {cs : List CE} (ok : Cok X Γ) (hg : Gl X x) (hdb : (x == ("__debug__" : Str)) = false) (hs : es.any isStar = false) (hn : es = [] → cs = []) (hA : SndA X Γ es cs) : SndE X Γ (.Call (.Name x p) es [] pos) (.make x cs) := fun H0 F ρ S σ H π lo lf s r ρ' S' h Q q => by
  simp only [ev] at h
  obtain ⟨ds, ρ1, S1, h1, g⟩ := bind_ok_inv h
  clear h
  have h1 := chk_ok_inv h1
  split at g
  · rename_i S2 hc
    cases g
    obtain ⟨k, fa, fd, ps, C, hF, hr, hC, hm, hM, hB⟩ := ok.ci x (D.ref S1.length :: ds) (S1 ++ [.obj x []]) (by rw [hc]; intro z; cases z)
    have fin : ∀ (vs : List V) (H1 : Hp) (π1 : List Addr) (lf1 : Nat → Str → Addr), Ext X.K F H π (Mt F ρ S π lo lf) H1 π1 (Mt F ρ' S1 π1 lo lf1) → Sim X.K H0 F ρ' S1 σ H1 π1 lo lf1 → Reps X.K H1 π1 (Mt F ρ' S1 π1 lo lf1) vs ds → ∀ y dx, H1 y = none → H1 dx = none → dx ≠ y →
        spG X.K Γ.xc (Γ.ci x) (D.ref S1.length :: ds).length (.ref y :: vs) (upd (upd H1 dx (.own y)) y (.ins C dx [])) (fun v H2 => v = .non ∧ Q (.ref y) H2) (fun _ _ _ => False) := fun vs H1 π1 lf1 x1 s1 r1 y dx hy hdx hne => by
      have hy2 : (upd H1 dx (.own y)) y = none := by rw [upd_ne (Ne.symm hne)]; exact hy
      have s2 := s1.new (o := .own y) hdx
      have x2 := Ext.new (o := .own y) hdx s1
      have s3 := s2.new (o := .ins C dx []) hy2
      have x3 := Ext.new (o := .ins C dx []) hy2 s2
      obtain ⟨s4, x4⟩ := s3.addCell (x := y) upd_same (fun m => s1.ok.dom.1 y m hy) (fun m => s1.fh y m hy) hC
      have x5 := x2.trans (x3.trans x4)
      have hl : π1.length = S1.length := s1.ok.len
      have hix : (π1 ++ [y])[S1.length]? = some y := by rw [← hl]; simp
      refine call_fin (by rw [hc]; intro z; cases z) s4 (.cons (.ref hix) (r1.keep x5.toKeeps)) (fun r6 S6 e6 v H' π' lf' x6 k6 => ?_) fun _ _ e6 => by rw [hc] at e6; cases e6
      rw [hc] at e6
      cases e6
      obtain ⟨k7, k8⟩ := k6
      exact ⟨k8.non_inv, q (.ref y) H' π' lf' (x1.trans (x5.trans x6)) ⟨k7, .ref (x6.pix hix)⟩⟩
    cases es with
    | nil =>
      refine ⟨_, HtX.make0 hM hF hr hg hm hB (fun σ => HtX.passNone rfl rfl σ) hdb, ?_⟩
      have hcs := hn rfl
      subst hcs
      simp only [evs] at h1
      cases h1
      exact fin [] H π lf .refl s .nil
    | cons e es =>
      simp only [List.any_cons, Bool.or_eq_false_iff] at hs
      refine ⟨_, HtX.make hM hF hr hg hm hB (fun σ => HtX.passNone rfl rfl σ) (mxA X (e :: es)) hdb (star_cons hs.1) (star_any hs.2), ?_⟩
      exact hA _ _ _ _ _ _ _ _ _ s _ _ _ h1 _ fun vs H1 π1 lf1 x1 s1 r1 => fin vs H1 π1 lf1 x1 s1 r1
  · cases g
  · cases g
/-! ### guarded calls -/
theorem gt_shareAt : ∀ (is : List Nat) (ρ : Env) (i : Nat), gt (shareAt ρ is) i = (if i ∈ is then (gt ρ i).share else gt ρ i)
  | [], ρ, i => by simp [shareAt]
  | j :: is, ρ, i => by
    unfold shareAt
    rw [gt_shareAt is]
    have sh : ∀ x : Sl, x.share.share = x.share := fun x => by cases x <;> rfl
    by_cases e : j = i
    · subst e
      by_cases hl : j < ρ.length
      · rw [gt_st_same hl]
        simp [sh]
      · rw [st_ge (by omega)]
        rw [gt_ge (by omega)]
        simp [Sl.share]
    · rw [gt_st_ne e]
      have : (i ∈ j :: is) = (i ∈ is) := by simp [Ne.symm e]
      simp only [this]
def peeks : List CE → List Nat
  | [] => []
  | .peek i :: es => i :: peeks es
  | _ :: es => peeks es
/-- the arguments of a guarded call -/
inductive PReps (K : Fg) (H : Hp) (π : List Addr) (M : AS) (ρ : Env) (σ : L2.St) : List CE → List V → List D → Prop
  | nil : PReps K H π M ρ σ [] [] []
  | sh {c : CE} {cs : List CE} {v : V} {vs : List V} {d : D} {ds : List D} : Rep K H π M v d → PReps K H π M ρ σ cs vs ds → PReps K H π M ρ σ (c :: cs) (v :: vs) (d :: ds)
  | pk {i : Nat} {cs : List CE} {v : V} {vs : List V} {d : D} {ds : List D} : σ[i]? = some (some v) → (gt ρ i).share = .v d → PReps K H π M ρ σ cs vs ds → PReps K H π M ρ σ (.peek i :: cs) (v :: vs) (d :: ds)
theorem PReps.length {K : Fg} {H : Hp} {π : List Addr} {M : AS} {ρ : Env} {σ : L2.St} : ∀ {cs : List CE} {vs : List V} {ds : List D}, PReps K H π M ρ σ cs vs ds → vs.length = ds.length
  | _, _, _, .nil => rfl
  | _, _, _, .sh _ h => by simp [PReps.length h]
  | _, _, _, .pk _ _ h => by simp [PReps.length h]
/-- the names among them -/
inductive PArg (X : Cx) (Γ : Ctx) : List Expr → List CE → Prop
  | nil : PArg X Γ [] []
  | e {e : Expr} {c : CE} {es : List Expr} {cs : List CE} : isStar e = false → isPeek c = none → SndE X Γ e c → PArg X Γ es cs → PArg X Γ (e :: es) (c :: cs)
  | p {x : Str} {p : Pos} {i : Nat} {es : List Expr} {cs : List CE} : X.N[i]? = some x → Vis X.env.scope x → (x == ("__debug__" : Str)) = false → (x == ("__classdict__" : Str)) = false → PArg X Γ es cs → PArg X Γ (.Name x p :: es) (.peek i :: cs)
theorem PArg.stars {es : List Expr} {cs : List CE} (h : PArg X Γ es cs) : es.any isStar = false := by
  induction h with
  | nil => rfl
  | e h _ _ _ ih => simp [h, ih]
  | p _ _ _ _ _ ih => simp [ih, isStar]
theorem sndP {es : List Expr} {cs : List CE} (h : PArg X Γ es cs) : ∀ {H0 : Hp} {F : AS} {ρ ρ' : Env} {S S' : Store} {σ : L2.St} {H : Hp} {π : List Addr} {lo : Nat → Addr} {lf : Nat → Str → Addr} {ds : List D}, Sim X.K H0 F ρ S σ H π lo lf → evsP Γ cs ρ S = .ok ds ρ' S' → ∀ {Q : List V → Hp → Prop},
    (∀ vs H' π' lf', Ext X.K F H π (Mt F ρ S π lo lf) H' π' (Mt F ρ' S' π' lo lf') → Sim X.K H0 F ρ' S' σ H' π' lo lf' → PReps X.K H' π' (Mt F ρ' S' π' lo lf') ρ' σ cs vs ds → Q vs H') → MxA X es σ H Q := by
  induction h with
  | nil =>
    intro H0 F ρ ρ' S S' σ H π lo lf ds s h Q q
    simp only [evsP] at h
    cases h
    exact ⟨_, pa_nil, q [] H π lf .refl s .nil⟩
  | @e e c es cs hs hne he hr ih =>
    intro H0 F ρ ρ' S S' σ H π lo lf ds s h Q q
    have h' : ((ev Γ c ρ S).bindB fun x ρ S => (evsP Γ cs ρ S).bindB fun ds ρ S => .ok (x.d :: ds) ρ S) = .ok ds ρ' S' := by
      simp only [evsP, hne] at h
      exact h
    obtain ⟨x, ρ1, S1, h1, g⟩ := bind_ok_inv h'
    obtain ⟨y, ρ2, S2, h2, g2⟩ := bind_ok_inv g
    cases g2
    refine ⟨_, pa_cons (mxE X e) (mxA X es) (star_cons hs), he.sh s h1 fun v1 H1 π1 lf1 x1 s1 r1 => ih s1 h2 fun vs H2 π2 lf2 x2 s2 r2 => ?_⟩
    exact q _ _ _ _ (x1.trans x2) s2 (.sh (r1.keep x2.toKeeps) r2)
  | @p x p i es cs h1 h2 h3 h4 hr ih =>
    intro H0 F ρ ρ' S S' σ H π lo lf ds s h Q q
    simp only [evsP, isPeek] at h
    have hv : ∃ v, σ[i]? = some (some v) := by
      cases hg : gt ρ i with
      | no => rw [hg] at h; simp [isNo] at h
      | v d => obtain ⟨v, k1, _⟩ := s.sl i d hg; exact ⟨v, k1⟩
      | own xs => exact ⟨_, (s.ow i xs hg).1⟩
    have h' : ((evsP Γ cs ρ S).bindB fun ds ρ S => (Out.of (slD (gt ρ i)) ρ S).bindB fun d ρ S => .ok (d :: ds) ρ S) = .ok ds ρ' S' := by
      split at h
      · cases h
      · exact h
    obtain ⟨v, hv⟩ := hv
    obtain ⟨y, ρ1, S1, g1, g2⟩ := bind_ok_inv h'
    refine ⟨_, pa_cons (pe_var h1 h2 h3 h4) (mxA X es) (star_cons rfl), v, hv, ih s g1 fun vs H2 π2 lf2 x2 s2 r2 => ?_⟩
    obtain ⟨d, ρ2, S2, g3, g4⟩ := bind_ok_inv g2
    obtain ⟨g5, rfl, rfl⟩ := of_ok_inv g3
    cases g4
    refine q _ _ _ _ x2 s2 (.pk hv ?_ r2)
    unfold slD at g5
    split at g5 <;> first | (rename_i hg; cases g5; rw [hg]; rfl) | cases g5
theorem preps_read {H0 : Hp} {F : AS} {ρ : Env} {S : Store} {σ : L2.St} {H : Hp} {π : List Addr} {lo : Nat → Addr} {lf : Nat → Str → Addr} {is : List Nat} {K : Fg} (s : Sim K H0 F ρ S σ H π lo lf) : ∀ {cs : List CE} {vs : List V} {ds : List D}, (∀ i ∈ peeks cs, i ∈ is) → D.rfrees ds = true → PReps K H π (Mt F ρ S π lo lf) ρ σ cs vs ds →
    Reps K H [] (Mt (Mt F (shareAt ρ is) S π lo lf) ((shareAt ρ is).map Sl.pure) [] [] lo lf) vs ds
  | [], [], [], _, _, .nil => .nil
  | c :: cs, v :: vs, d :: ds, hp, hr, .sh h hs => by
    simp only [D.rfrees, Bool.and_eq_true] at hr
    refine .cons ((h.noref hr.1).less fun a m => ?_) (preps_read s (fun i hi => hp i ?_) hr.2 hs)
    · have l1 := (s.shareAt is).2
      rcases m with m | ⟨i, ds, m, _⟩ | m | ⟨n, f, ds, m, _⟩
      · exact l1 a m
      · rw [gt_pure] at m
        exact (pure_own m).elim
      · cases m
      · simp [fldAt] at m
    · cases c <;> first | exact hi | exact List.mem_cons_of_mem _ hi
  | .peek i :: cs, v :: vs, d :: ds, hp, hr, .pk h1 h2 hs => by
    simp only [D.rfrees, Bool.and_eq_true] at hr
    have sr := s.reader is
    have hi : i ∈ is := hp i (by simp [peeks])
    have hg : gt ((shareAt ρ is).map Sl.pure) i = .v d := by
      rw [gt_pure, gt_shareAt, if_pos hi, h2]
      simp only [Sl.pure, hr.1, if_true]
    obtain ⟨v', k1, k2⟩ := sr.sl i d hg
    rw [h1] at k1
    cases k1
    exact .cons k2 (preps_read s (fun j hj => hp j (by simp [peeks, hj])) hr.2 hs)
theorem snd_gcall {x : Str} {es : List Expr} {cs : List CE} (ok : Cok X Γ) (hg : Gl X x) (hdb : (x == ("__debug__" : Str)) = false) (hn : es ≠ []) (hA : PArg X Γ es cs) : SndE X Γ (.Call (.Name x p) es [] pos) (.gcall x cs) := fun H0 F ρ S σ H π lo lf s r ρ' S' h Q q => by
  simp only [ev] at h
  obtain ⟨ds, ρ1, S1, h1, g⟩ := bind_ok_inv h
  clear h
  split at g
  · rename_i hrf
    split at g
    · rename_i d hc
      split at g
      · rename_i hlf
        cases g
        obtain ⟨k, fa, fd, ps, hF, hr, hm, hk, hb⟩ := ok.cf x ds [] (by rw [hc]; intro z; cases z)
        cases es with
        | nil => exact absurd rfl hn
        | cons e es =>
          have hs := hA.stars
          simp only [List.any_cons, Bool.or_eq_false_iff] at hs
          refine ⟨_, pe_callS hF hr hg hm hk hb (fun σ => HtX.passNone rfl rfl σ) (mxA X (e :: es)) hdb (star_cons hs.1) (star_any hs.2), ?_⟩
          refine sndP hA s h1 fun vs H1 π1 lf1 x1 s1 r1 => ?_
          show spG X.K Γ.xc (Γ.cf x) ds.length vs H1 Q (fun _ _ _ => False)
          refine call_fin (by rw [hc]; intro z; cases z) (s1.reader (peeks cs)) (preps_read s1 (fun _ hi => hi) hrf r1) (fun r2 S2 e2 v H2 π2 lf2 x2 k2 => ?_) fun _ _ e2 => by rw [hc] at e2; cases e2
          rw [hc] at e2
          cases e2
          obtain ⟨s3, r3⟩ := k2
          obtain ⟨s4, x4⟩ := s1.unread (peeks cs) x2
          have hp := s3.ok.of_nil
          subst hp
          exact q v H2 π1 lf1 (x1.trans x4) ⟨s4, r3.lfree hlf⟩
      · cases g
    · cases g
  · cases g
end
end Ht

set_option Elab.async false
set_option linter.all false
set_option maxRecDepth 100000
set_option maxHeartbeats 1000000
/-! ### soundness: the translation of expressions -/
namespace Ht
open PySem L2
section
variable {X : Cx} {Γ : Ctx} {e a b d : Expr} {c ca cb cc : CE} {pos : Pos}
theorem chain_inv {o1 o2 : CmpOp} {ρ ρ' : Env} {S S' : Store} {r : Rv} (h : ev Γ (.chain o1 o2 ca cb cc) ρ S = .ok r ρ' S') : ∃ x ρ1 S1 y ρ2 S2 k, ev Γ ca ρ S = .ok x ρ1 S1 ∧ ev Γ cb ρ1 S1 = .ok y ρ2 S2 ∧ cmpD o1 x.d y.d = some k ∧
    ((k = false ∧ r = .sh (.bl false) ∧ ρ' = ρ2 ∧ S' = S2) ∨ (k = true ∧ ∃ z w, ev Γ cc ρ2 S2 = .ok z ρ' S' ∧ cmpD o2 y.d z.d = some w ∧ r = .sh (.bl w))) := by
  simp only [ev] at h
  obtain ⟨x, ρ1, S1, h1, h'⟩ := bind_ok_inv h
  obtain ⟨y, ρ2, S2, h2, h''⟩ := bind_ok_inv h'
  obtain ⟨k, ρ3, S3, h3, g⟩ := bind_ok_inv h''
  clear h h' h''
  obtain ⟨h4, rfl, rfl⟩ := of_ok_inv h3
  refine ⟨x, ρ1, S1, y, _, _, k, h1, h2, h4, ?_⟩
  cases k with
  | false =>
    simp only [Bool.false_eq_true, if_false] at g
    cases g
    exact .inl ⟨rfl, rfl, rfl, rfl⟩
  | true =>
    simp only [if_true] at g
    obtain ⟨z, ρ4, S4, h5, g'⟩ := bind_ok_inv g
    obtain ⟨w, ρ5, S5, h6, g''⟩ := bind_ok_inv g'
    clear g g'
    obtain ⟨h7, rfl, rfl⟩ := of_ok_inv h6
    cases g''
    exact .inr ⟨rfl, z, w, h5, h7, rfl⟩
theorem opr_never {f : Value → Value → Sem Value} : OpR X f (fun _ _ _ _ => False) := fun _ _ _ _ _ _ _ _ _ _ _ _ h => h.elim
theorem chain_use {o1 o2 : CmpOp} (ok : Cok X Γ) (ha : SndE X Γ a ca) (hb : SndE X Γ b cb) (hc : SndE X Γ d cc) {H0 : Hp} {F : AS} {ρ ρ' : Env} {S S' : Store} {σ : L2.St} {H : Hp} {π : List Addr} {lo : Nat → Addr} {lf : Nat → Str → Addr} (s : Sim X.K H0 F ρ S σ H π lo lf) {r : Rv} (h : ev Γ (.chain o1 o2 ca cb cc) ρ S = .ok r ρ' S') :
    ∃ r1 r2 w, OpR X (compareOp o1) r1 ∧ OpR X (compareOp o2) r2 ∧ r = .sh (.bl w) ∧ ∀ Q : VK, (∀ H' π' lf', Ext X.K F H π (Mt F ρ S π lo lf) H' π' (Mt F ρ' S' π' lo lf') → Sim X.K H0 F ρ' S' σ H' π' lo lf' → Q (.bl w) H') → tChain r1 r2 (MxE X a) (MxE X b) (MxE X d) σ H Q := by
  obtain ⟨x, ρ1, S1, y, ρ2, S2, k, h1, h2, h3, h4⟩ := chain_inv h
  obtain ⟨r1, ho1, hv1⟩ := cmp_val (X := X) ok.hu2 h3
  rcases h4 with ⟨rfl, rfl, rfl, rfl⟩ | ⟨rfl, z, w, h5, h6, rfl⟩
  · refine ⟨r1, _, false, ho1, opr_never, rfl, fun Q q => ha.sh s h1 fun v1 H1 π1 lf1 x1 s1 g1 => hb.sh s1 h2 fun v2 H2 π2 lf2 x2 s2 g2 => ?_⟩
    exact hv1 _ _ _ _ _ (g1.keep x2.toKeeps) g2 _ ⟨false, rfl, iteF (q _ _ _ (x1.trans x2) s2)⟩
  · obtain ⟨r2, ho2, hv2⟩ := cmp_val (X := X) ok.hu2 h6
    refine ⟨r1, r2, w, ho1, ho2, rfl, fun Q q => ha.sh s h1 fun v1 H1 π1 lf1 x1 s1 g1 => hb.sh s1 h2 fun v2 H2 π2 lf2 x2 s2 g2 => ?_⟩
    refine hv1 _ _ _ _ _ (g1.keep x2.toKeeps) g2 _ ⟨true, rfl, iteT ?_⟩
    exact hc.sh s2 h5 fun v3 H3 π3 lf3 x3 s3 g3 => hv2 _ _ _ _ _ (g2.keep x3.toKeeps) g3 _ (q _ _ _ (x1.trans (x2.trans x3)) s3)
theorem snd_chain {o1 o2 : CmpOp} (ok : Cok X Γ) (hm : lastMarks [o1, o2] [b, d] = false) (ha : SndE X Γ a ca) (hb : SndE X Γ b cb) (hc : SndE X Γ d cc) : SndE X Γ (.Compare a [o1, o2] [b, d] pos) (.chain o1 o2 ca cb cc) := fun H0 F ρ S σ H π lo lf s r ρ' S' h Q q => by
  obtain ⟨r1, r2, w, k1, k2, rfl, k3⟩ := chain_use ok ha hb hc s h
  exact ⟨_, pe_chain k1 k2 (mxE X a) (mxE X b) (mxE X d) hm, k3 Q fun H' π' lf' x t => q _ _ _ _ x ⟨t, .bl _⟩⟩
theorem sndT_chain {o1 o2 : CmpOp} (ok : Cok X Γ) (hm : lastMarks [o1, o2] [b, d] = false) (ha : SndE X Γ a ca) (hb : SndE X Γ b cb) (hc : SndE X Γ d cc) : SndT X Γ (.Compare a [o1, o2] [b, d] pos) (.e (.chain o1 o2 ca cb cc)) := fun H0 F ρ S σ H π lo lf s r ρ' S' h Q q => by
  simp only [evT] at h
  obtain ⟨x, ρ1, S1, h1, g⟩ := bind_ok_inv h
  clear h
  obtain ⟨h2, rfl, rfl⟩ := of_ok_inv g
  obtain ⟨r1, r2, w, k1, k2, rfl, k3⟩ := chain_use ok ha hb hc s h1
  cases h2
  exact ⟨_, pt_chain k1 k2 (mxE X a) (mxE X b) (mxE X d) hm, k3 _ fun H' π' lf' x t => ⟨_, rfl, q _ _ _ x t⟩⟩

/-! ### names -/
theorem slotOf_inv : ∀ {N : List Str} {x : Str} {i : Nat}, slotOf N x = some i → N[i]? = some x
  | [], _, _, h => by cases h
  | y :: r, x, i, h => by
    unfold slotOf at h
    split at h
    · cases h
      rename_i e
      rw [e]
      rfl
    · cases hr : slotOf r x with
      | none => rw [hr] at h; cases h
      | some j =>
        rw [hr] at h
        cases h
        rw [List.getElem?_cons_succ]
        exact slotOf_inv hr
theorem visB_inv {sc : Scope} {x : Str} (h : visB sc x = true) : Vis sc x := by
  unfold visB at h
  split at h
  · exact .inl (by assumption)
  · exact .inr (.inl (by assumption))
  · exact .inr (.inr (by assumption))
  · cases h
theorem locB_inv {sc : Scope} {x : Str} (h : locB sc x = true) : sc.names.lookup x = some .local ∨ sc.names.lookup x = some .cell := by
  unfold locB at h
  split at h
  · exact .inl (by assumption)
  · exact .inr (by assumption)
  · cases h
theorem glbB_inv {x : Str} (h : glbB X.env.scope x = true) : Gl X x := by
  unfold glbB at h
  split at h
  · show X.env.scope.names.lookup x = _
    assumption
  · cases h
theorem okName_inv {x : Str} (h : okName x = true) : (x == ("__debug__" : Str)) = false ∧ (x == ("__classdict__" : Str)) = false ∧ x ≠ "__name__" := by
  simp only [okName, Bool.and_eq_true, Bool.not_eq_true'] at h
  exact ⟨h.1.1, h.1.2, fun e => by rw [e] at h; simp at h⟩
theorem locOf_inv {sc : Scope} {N : List Str} {x : Str} {i : Nat} (h : locOf sc N x = some i) : Vis sc x ∧ N[i]? = some x ∧ (x == ("__debug__" : Str)) = false ∧ (x == ("__classdict__" : Str)) = false := by
  unfold locOf at h
  split at h
  · rename_i c
    rw [Bool.and_eq_true] at c
    exact ⟨visB_inv c.1, slotOf_inv h, (okName_inv c.2).1, (okName_inv c.2).2.1⟩
  · cases h
theorem blk_ok {scope : Scope} (ok : Cok X Γ) (s : Shared) (H1 : Hp) (C : Addr) (cl : List (Str × Addr)) (fp : List Addr) : Cok (Blk X scope s H1 C cl fp) Γ := ⟨⟨ok.nd, ok.hu, ok.blt, ok.unk, ok.hu2, ok.dc, ok.gl, ok.xc, ok.xp, ok.xv, ok.hf, ok.hm⟩, ok.calm, ok.cf, ok.cm, ok.ci⟩
theorem plain_ix (h : ∀ lo hi p, b ≠ .Slice lo hi none p) : PlainIx b := by
  intro o i
  unfold subscripted
  split
  · exact absurd rfl (h _ _ _)
  · rename_i hh
    cases hh
  · rfl

/-! ### tests -/
theorem convT_snd (ok : Cok X Γ) {cv : Expr → CE} (hcv : ∀ e, SndE X Γ e (cv e)) (hcm : ∀ a ops bs p, SndT X Γ (.Compare a ops bs p) (.e (cv (.Compare a ops bs p)))) : ∀ (f : Nat) (e : Expr), SndT X Γ e (convT cv f e) ∧ ∀ op v vs p, e = .BoolOp op (v :: vs) p → SndW X Γ e (convT cv f e)
  | 0, e => ⟨sndT_unk ok, fun op v vs p he H0 F ρ S σ H π lo lf s r ρ' S' h => by
    rw [show convT cv 0 e = .e CE.unk from rfl, evT_unk ok.toCokB] at h
    cases h⟩
  | f + 1, e => by
    have ih := convT_snd ok hcv hcm f
    have hW : ∀ op v vs p, SndW X Γ (.BoolOp op (v :: vs) p) (convT cv (f + 1) (.BoolOp op (v :: vs) p)) := fun op v vs p => by
      cases vs with
      | nil => exact sndW_one (ih v).1
      | cons w ws =>
        cases op with
        | And => exact sndW_and (ih v).1 ((ih (.BoolOp .And (w :: ws) p)).2 _ _ _ _ rfl)
        | Or => exact sndW_or (ih v).1 ((ih (.BoolOp .Or (w :: ws) p)).2 _ _ _ _ rfl)
    refine ⟨?_, fun op v vs p he => by subst he; exact hW op v vs p⟩
    cases e with
    | IfExp t a b p => exact sndT_unk ok
    | UnaryOp op a p =>
      cases op with
      | Not => exact sndT_nt (ih a).1
      | _ => exact sndT_of (fun _ => rfl) (hcv _)
    | BoolOp op vs p =>
      cases vs with
      | nil => exact sndT_unk ok
      | cons v vs => exact (hW op v vs p).t
    | Compare a ops bs p => exact hcm a ops bs p
    | _ => exact sndT_of (fun _ => rfl) (hcv _)

/-! ### what loops walk -/
theorem folded_ok {it : Expr} {env : PySem.Env} (h : ∀ es k p, it ≠ .Set es k p) (v : Value) : foldedSetIterable it env v = pure v := by
  cases it <;> first | rfl | (exact absurd rfl (h _ _ _))
theorem notStar1 {a : Expr} (h : [a].any isStar = false) : isStar a = false := by simpa using h
theorem notStar2 {a b : Expr} (h : [a, b].any isStar = false) : isStar a = false ∧ isStar b = false := by simpa using h
theorem convSrc_snd (ok : Cok X Γ) {cv : Expr → CE} (hcv : ∀ e, SndE X Γ e (cv e)) {tg it : Expr} {tup : Bool} (ht : tup = true → ∃ es k p, tg = .Tuple es k p) : SndI X Γ tg it (convSrc cv X.env.scope tup it) := by
  have unk : SndI X Γ tg it (.e CE.unk) := sndI_e (snd_unk ok)
  unfold convSrc
  split
  · rename_i x p as cp
    split
    · rename_i hc
      rw [Bool.and_eq_true, Bool.and_eq_true, Bool.not_eq_true'] at hc
      have hg := glbB_inv (X := X) hc.1.1
      split
      · rename_i hx
        subst hx
        split
        · exact sndI_rng1 ok hg (notStar1 hc.2) (hcv _)
        · exact sndI_rng ok hg (notStar2 hc.2).1 (notStar2 hc.2).2 (hcv _) (hcv _)
        · exact unk
      · split
        · rename_i hx
          subst hx
          split
          · split
            · rename_i ht'
              obtain ⟨es, k, p, rfl⟩ := ht ht'
              exact sndI_enum ok hg (notStar1 hc.2) (hcv _)
            · exact unk
          · exact unk
        · split
          · rename_i hx
            subst hx
            split
            · split
              · rename_i hc2
                simp only [Bool.and_eq_true, Bool.not_eq_true', decide_eq_true_eq] at hc2
                obtain ⟨⟨⟨h1, h2⟩, h3⟩, h4⟩ := hc2
                subst h1
                exact sndI_rev ok hg (glbB_inv h2) h3 h4 (hcv _) (hcv _)
              · exact unk
            · exact unk
          · exact sndI_e (hcv _)
    · exact sndI_e (hcv _)
  · exact sndI_e (hcv _)

/-! ### calls of global names -/
theorem own_fld {f : Str} (h : ownFields.contains f = true) : f ∈ fldNames := by
  simp only [ownFields, List.contains_cons, List.contains_nil, Bool.or_false, Bool.or_eq_true, beq_iff_eq] at h
  rcases h with h | h | h <;> (subst h; decide)
theorem ownFld_inv {a o : Expr} {f : Str} (h : ownFld a = some (o, f)) : ∃ p, a = .Attribute o f p ∧ f ∈ fldNames ∧ isRecvM o = true := by
  unfold ownFld at h
  split at h
  · split at h
    · rename_i hc
      cases h
      rw [Bool.and_eq_true] at hc
      exact ⟨_, rfl, own_fld hc.1, hc.2⟩
    · cases h
  · cases h
theorem isNil_inv {b : Expr} (h : isNil b = true) : ∃ p, b = .List [] p := by
  unfold isNil at h
  split at h
  · exact ⟨_, rfl⟩
  · cases h
theorem parg_all {N : List Str} {mu : List Nat} (hN : X.N = N) (ok : Cok X Γ) {cv : Expr → CE} (hcv : ∀ e, SndE X Γ e (cv e)) (hpk : ∀ e, isPeek (cv e) = none) : ∀ {as : List Expr}, as.any isStar = false → PArg X Γ as (as.map (convP cv X.env.scope N mu))
  | [], _ => .nil
  | a :: as, hs => by
    simp only [List.any_cons, Bool.or_eq_false_iff] at hs
    have ih := parg_all hN ok hcv hpk (mu := mu) hs.2
    rw [List.map_cons]
    unfold convP
    split
    · split
      · rename_i hl
        obtain ⟨k1, k2, k3, k4⟩ := locOf_inv hl
        split
        · exact .p (by rw [hN]; exact k2) k1 k3 k4 ih
        · exact .e hs.1 (hpk _) (hcv _) ih
      · exact .e hs.1 (hpk _) (hcv _) ih
    · exact .e hs.1 (hpk _) (hcv _) ih
theorem convCall_snd (ok : Cok X Γ) {cv : Expr → CE} (hcv : ∀ e, SndE X Γ e (cv e)) {N : List Str} {mu : List Nat} (hN : X.N = N) (hpk : ∀ e, isPeek (cv e) = none) {x : Str} {as : List Expr} {p pos : Pos} (hg : Gl X x) (hdb : (x == ("__debug__" : Str)) = false) (hs : as.any isStar = false) : SndE X Γ (.Call (.Name x p) as [] pos) (convCall cv X.env.scope N mu x as) := by
  have unk : SndE X Γ (.Call (.Name x p) as [] pos) CE.unk := snd_unk ok
  unfold convCall
  by_cases h : x = "len"
  · subst h
    rw [if_pos rfl]
    split
    · exact snd_grd (snd_len ok hg (notStar1 hs) (hcv _))
    · exact unk
  rw [if_neg h]
  by_cases h : x = "abs"
  · subst h
    rw [if_pos rfl]
    split
    · exact snd_abs ok hg (notStar1 hs) (hcv _)
    · exact unk
  rw [if_neg h]
  by_cases h : x = "max"
  · subst h
    rw [if_pos rfl]
    split
    · exact snd_maxl ok hg (notStar1 hs) (hcv _)
    · exact snd_max2 ok hg (notStar2 hs).1 (notStar2 hs).2 (hcv _) (hcv _)
    · exact unk
  rw [if_neg h]
  by_cases h : x = "min"
  · subst h
    rw [if_pos rfl]
    split
    · exact snd_min2 ok hg (notStar2 hs).1 (notStar2 hs).2 (hcv _) (hcv _)
    · exact unk
  rw [if_neg h]
  by_cases h : x = "any"
  · subst h
    rw [if_pos rfl]
    split
    · exact snd_any ok hg (notStar1 hs) (hcv _)
    · exact unk
  rw [if_neg h]
  by_cases h : x = "all"
  · subst h
    rw [if_pos rfl]
    split
    · exact snd_all ok hg (notStar1 hs) (hcv _)
    · exact unk
  rw [if_neg h]
  by_cases h : x = "sorted"
  · subst h
    rw [if_pos rfl]
    split
    · exact snd_sorted ok hg (notStar1 hs) (hcv _)
    · exact unk
  rw [if_neg h]
  by_cases h : x = "str"
  · subst h
    rw [if_pos rfl]
    split
    · exact snd_strI ok hg (notStar1 hs) (hcv _)
    · exact unk
  rw [if_neg h]
  by_cases h : x = "isinstance"
  · subst h
    rw [if_pos rfl]
    split
    · split
      · split
        · rename_i hc
          rw [Bool.and_eq_true] at hc
          exact snd_grd (snd_isin ok hg (glbB_inv hc.1) (by assumption) (notStar2 hs).1 (hcv _))
        · exact unk
      · exact unk
    · exact unk
  rw [if_neg h]
  by_cases h : x = "list"
  · subst h
    rw [if_pos rfl]
    split
    · split
      · split
        · rename_i h2
          subst h2
          split
          · rename_i h3
            split
            · split
              · exact unk
              · rename_i h4
                exact snd_range1 ok hg (glbB_inv h3) (by simpa using h4) (hcv _)
            · split
              · exact unk
              · rename_i h4
                simp only [Bool.or_eq_true, not_or, Bool.not_eq_true] at h4
                exact snd_range ok hg (glbB_inv h3) h4.1 h4.2 (hcv _) (hcv _)
            · exact unk
          · exact unk
        · exact snd_list ok hg (notStar1 hs) (hcv _)
      · split
        · rename_i o f ho
          obtain ⟨pp, rfl, h1, h2⟩ := ownFld_inv ho
          exact snd_flist ok hg h2 h1 (hcv _)
        · exact snd_list ok hg (notStar1 hs) (hcv _)
    · exact unk
  rw [if_neg h]
  by_cases h' : (x = "range" || x = "enumerate" || x = "reversed" || x = "dict" || x = "int") = true
  · rw [if_pos h']
    exact unk
  · rw [if_neg h']
    by_cases h2 : clsNames.contains x = true
    · rw [if_pos h2]
      exact snd_make ok hg hdb hs (fun h => by rw [h]; rfl) (sndA_all hs fun e _ => hcv e)
    rw [if_neg h2]
    by_cases h3 : (as.any isObjE && !(muAll X.env.scope N mu as).isEmpty) = true
    · rw [if_pos h3]
      refine snd_gcall ok hg hdb (fun e => by subst e; simp at h3) (parg_all hN ok hcv hpk hs)
    rw [if_neg h3]
    exact snd_grd (snd_call ok hg hdb hs (fun h => by rw [h]; rfl) (sndA_all hs fun e _ => hcv e))

/-! ### expressions -/
theorem grd_npk {is : List Nat} {c : CE} (h : isPeek c = none) : isPeek (grd is c) = none := by
  unfold grd
  split
  · exact h
  · rfl
theorem ite_npk {p : Prop} [Decidable p] {a b : CE} (ha : isPeek a = none) (hb : isPeek b = none) : isPeek (if p then a else b) = none := by
  split
  · exact ha
  · exact hb
theorem convCall_npk {cv : Expr → CE} {sc : Scope} {N : List Str} {mu : List Nat} {x : Str} {as : List Expr} : isPeek (convCall cv sc N mu x as) = none := by
  unfold convCall
  repeat' (first | refine ite_npk ?_ ?_ | split)
  all_goals first | rfl | (refine grd_npk ?_; rfl)
theorem convE_npk : ∀ (f : Nat) (N : List Str) (mu : List Nat) (sc : Scope) (e : Expr), isPeek (convE f N mu sc e) = none
  | 0, _, _, _, _ => rfl
  | f + 1, N, mu, sc, e => by
    have ih := convE_npk f N mu sc
    unfold convE
    repeat' split
    all_goals first | rfl | exact ih _ | exact convCall_npk | exact grd_npk rfl
theorem recv_base {v : Expr} {m : Str} {env : PySem.Env} (h : isRecv v = true) : attributeBase v m env (eval v env) = eval v env := by
  unfold isRecv at h
  split at h
  · rfl
  · rfl
  · rfl
  · cases h
theorem convE_snd (N : List Str) (mu : List Nat) : ∀ (f : Nat) (X : Cx), X.N = N → Cok X Γ → (∀ e, SndE X Γ e (convE f N mu X.env.scope e)) ∧ ∀ a ops bs p, SndT X Γ (.Compare a ops bs p) (.e (convE f N mu X.env.scope (.Compare a ops bs p)))
  | 0, X, _, ok => ⟨fun e => snd_unk ok, fun a ops bs p => sndT_unk ok⟩
  | f + 1, X, hN, ok => by
    have ih := (convE_snd N mu f X hN ok).1
    have ihT := (convE_snd N mu f X hN ok).2
    refine ⟨fun e => ?_, fun a ops bs p => ?_⟩
    · unfold convE
      split
      · split
        · rename_i h
          obtain ⟨h1, h2, h3, h4⟩ := locOf_inv h
          exact snd_slot (by rw [hN]; exact h2) h1 h3 h4
        · split
          · rename_i h
            rw [Bool.and_eq_true] at h
            exact snd_glob ok (glbB_inv h.1) (okName_inv h.2).1
          · exact snd_unk ok
      · exact snd_int
      · exact snd_bl
      · exact snd_non
      · exact snd_str
      · exact snd_bin (ih _) (ih _)
      · exact snd_neg (ih _)
      · exact snd_nt (ih _)
      · split
        · exact snd_one (ih _)
        · split
          · exact snd_band (ih _) (ih _)
          · exact snd_bor (ih _) (ih _)
        · exact snd_unk ok
      · split
        · split
          · exact snd_unk ok
          · rename_i h
            split
            · rename_i o fl ho
              obtain ⟨pp, rfl, h1, h2⟩ := ownFld_inv ho
              split
              · rename_i hc
                rw [Bool.and_eq_true, beq_iff_eq] at hc
                obtain ⟨rfl, hc2⟩ := hc
                obtain ⟨p3, rfl⟩ := isNil_inv hc2
                exact snd_fnil ok (by simpa using h) h2 h1 (ih _)
              · exact snd_unk ok
            · split
              · rename_i x hx
                unfold dicOf at hx
                split at hx
                · split at hx
                  · rename_i hc
                    cases hx
                    rw [Bool.and_eq_true, Bool.and_eq_true] at hc
                    obtain ⟨k1, _, k3⟩ := okName_inv hc.2
                    split
                    · exact snd_din ok rfl (by simpa using h) (glbB_inv hc.1.2) k1 (ih _)
                    · exact snd_din ok rfl (by simpa using h) (glbB_inv hc.1.2) k1 (ih _)
                    · exact snd_unk ok
                  · cases hx
                · cases hx
              · exact snd_grd (snd_cmp ok (by simpa using h) (ih _) (ih _))
        · split
          · exact snd_unk ok
          · rename_i h
            exact snd_chain ok (by simpa using h) (ih _) (ih _) (ih _)
        · exact snd_unk ok
      · exact snd_ite (convT_snd ok ih ihT f _).1 (ih _) (ih _)
      · split
        · rename_i lo hi p2
          refine snd_slc (ih _) ?_ ?_
          · cases lo with
            | none => exact sndO_none
            | some l => exact sndO_some (ih _)
          · cases hi with
            | none => exact sndO_none
            | some l => exact sndO_some (ih _)
        · rename_i b' h
          split
          · rename_i x hx
            unfold dicOf at hx
            split at hx
            · split at hx
              · rename_i hc
                cases hx
                rw [Bool.and_eq_true, Bool.and_eq_true] at hc
                obtain ⟨k1, _, k3⟩ := okName_inv hc.2
                exact snd_dget ok (glbB_inv hc.1.2) k3 k1 (plain_ix fun lo hi p e => h lo hi p e) (ih _)
              · cases hx
            · cases hx
          · exact snd_grd (snd_idx (plain_ix fun lo hi p e => h lo hi p e) (ih _) (ih _))
      · split
        · exact snd_unk ok
        · rename_i h
          exact snd_lst (sndA_all (by simpa using h) fun e _ => ih e)
      · split
        · exact snd_unk ok
        · rename_i h
          exact snd_tup (sndA_all (by simpa using h) fun e _ => ih e)
      · rename_i elt x tp iter ifs scope cpos
        split
        · exact snd_unk ok
        · rename_i i hi
          split
          · rename_i hc
            rw [Bool.and_eq_true, Bool.and_eq_true] at hc
            obtain ⟨⟨h1, h2⟩, h3⟩ := hc
            have okB : BlkOk X.N X.env.scope scope [(x, i)] := by rw [hN]; exact blkOk_by h1
            have hxi : X.N[i]? = some x := by rw [hN]; exact slotOf_inv hi
            have hset : ∀ es k p, iter = .Set es k p → convSrc (convE f N mu X.env.scope) X.env.scope false iter = .e CE.unk := fun es k p e => by
              subst e
              cases f with
              | zero => rfl
              | succ f => rfl
            have main : ∀ (sh : List Nat) (cond : Option CT), SndC X Γ scope ifs cond → SndE X Γ (.ListComp elt [⟨.Name x tp, iter, ifs, 0⟩] scope cpos) (.comp sh (convE f N mu (relS scope X.env.scope) elt) i (convSrc (convE f N mu X.env.scope) X.env.scope false iter) cond) := fun sh cond hcond => by
              by_cases hst : ∃ es k p, iter = .Set es k p
              · obtain ⟨es, k, p, hst⟩ := hst
                rw [hset es k p hst]
                refine snd_bad fun ρ S => ?_
                simp only [ev, evSrc, ev_unk ok.toCokB, Out.bind_bad, Out.bindB_bad]
              · exact snd_comp ok (convSrc_snd ok ih (by intro z; cases z)) okB hxi (locB_inv h2) (fun s H1 C cl fp => (convE_snd N mu f (Blk X scope s H1 C cl fp) hN (blk_ok ok s H1 C cl fp)).1 elt) hcond (folded_ok fun es k p e => hst ⟨es, k, p, e⟩)
            split
            · exact main _ _ trivial
            · refine main _ _ ?_
              show ∀ s H1 C cl fp, SndT _ _ _ _
              intro s H1 C cl fp
              have ok' := blk_ok (scope := scope) ok s H1 C cl fp
              have ih' := convE_snd N mu f (Blk X scope s H1 C cl fp) hN ok'
              exact (convT_snd ok' ih'.1 ih'.2 f _).1
            · exact snd_unk ok
          · exact snd_unk ok
      · rename_i g as cp
        split
        · rename_i x xp
          split
          · rename_i h
            rw [Bool.and_eq_true, Bool.and_eq_true, Bool.not_eq_true'] at h
            exact convCall_snd ok ih hN (convE_npk f N mu X.env.scope) (glbB_inv h.1.1) (okName_inv h.1.2).1 h.2
          · exact snd_unk ok
        · rename_i v m ap
          split
          · rename_i hm
            subst hm
            split
            · split
              · rename_i h
                simp only [Bool.and_eq_true, Bool.not_eq_true'] at h
                obtain ⟨⟨h1, h2⟩, h3⟩ := h
                exact snd_index ok (recv_base h1) h2 h3 (ih _) (ih _)
              · exact snd_unk ok
            · exact snd_unk ok
          · split
            · rename_i hm2
              subst hm2
              split
              · rename_i x xp
                split
                · rename_i h
                  simp only [Bool.and_eq_true] at h
                  have : as = [] := by simpa using h.1
                  subst this
                  split
                  · rename_i hl
                    obtain ⟨k1, k2, k3, k4⟩ := locOf_inv hl
                    exact snd_pop (by rw [hN]; exact k2) k1 k3 k4 h.2
                  · exact snd_unk ok
                · exact snd_unk ok
              · split
                · rename_i o fl ho
                  obtain ⟨pp, rfl, h1, h2⟩ := ownFld_inv ho
                  split
                  · rename_i h
                    simp only [Bool.and_eq_true] at h
                    have : as = [] := by simpa using h.1
                    subst this
                    exact snd_fpop h2 h1 h.2 (ih _)
                  · exact snd_unk ok
                · exact snd_unk ok
            · split
              · rename_i h
                simp only [Bool.and_eq_true, Bool.not_eq_true', decide_eq_true_eq] at h
                obtain ⟨⟨⟨⟨h1, h2⟩, h3⟩, h4⟩, h5⟩ := h
                exact snd_meth ok h2 h4 h5 h3 (fun h => by rw [h]; rfl) (ih _) (sndA_all h4 fun e _ => ih e)
              · exact snd_unk ok
        · exact snd_unk ok
      · split
        · rename_i h
          simp only [Bool.and_eq_true, Bool.not_eq_true'] at h
          exact snd_fld h.2 (by simpa using h.1.1) (ih _)
        · exact snd_unk ok
      · exact snd_unk ok
    · unfold convE
      simp only
      split
      · split
        · exact sndT_unk ok
        · rename_i h
          split
          · rename_i o fl ho
            obtain ⟨pp, rfl, h1, h2⟩ := ownFld_inv ho
            split
            · rename_i hc
              rw [Bool.and_eq_true, beq_iff_eq] at hc
              obtain ⟨rfl, hc2⟩ := hc
              obtain ⟨p3, rfl⟩ := isNil_inv hc2
              exact sndT_fnil ok (by simpa using h) h2 h1 (ih _)
            · exact sndT_unk ok
          · split
            · rename_i x hx
              unfold dicOf at hx
              split at hx
              · split at hx
                · rename_i hc
                  cases hx
                  rw [Bool.and_eq_true, Bool.and_eq_true] at hc
                  obtain ⟨k1, _, k3⟩ := okName_inv hc.2
                  split
                  · exact sndT_din ok rfl (by simpa using h) (glbB_inv hc.1.2) k1 (ih _)
                  · exact sndT_din ok rfl (by simpa using h) (glbB_inv hc.1.2) k1 (ih _)
                  · exact sndT_unk ok
                · cases hx
              · cases hx
            · exact sndT_grd (sndT_cmp ok (by simpa using h) (ih _) (ih _))
      · split
        · exact sndT_unk ok
        · rename_i h
          exact sndT_chain ok (by simpa using h) (ih _) (ih _) (ih _)
      · exact sndT_unk ok
end
end Ht

set_option Elab.async false
set_option linter.all false
set_option maxRecDepth 100000
set_option maxHeartbeats 1000000
/-! ### soundness: statements -/
namespace Ht
open PySem L2
def MxS (X : Cx) (s : Stmt) : TS := fun D σ H => ∃ t, PS X s t ∧ t D σ H
def MxSs (X : Cx) (s : List Stmt) : TS := fun D σ H => ∃ t, PSs X s t ∧ t D σ H
theorem mxS (X : Cx) (s : Stmt) : PS X s (MxS X s) := ⟨fun pins st σ H D I ⟨t, h, q⟩ => h.run pins st σ H D I q⟩
theorem mxSs (X : Cx) (s : List Stmt) : PSs X s (MxSs X s) := ⟨fun pins st σ H D I ⟨t, h, q⟩ => h.run pins st σ H D I q⟩
/-- where a statement's flow leads -/
def FlTo (D : Ends) : Fl → L2.St → Hp → Prop
  | .nx, σ, H => D.nx σ H
  | .bk, σ, H => D.bk σ H
  | .ct, σ, H => D.ct σ H
  | .rt _, _, _ => True
/-- the wish behind a statement -/
structure Wish (K : Fg) (H0 : Hp) (F : AS) (ρ : Env) (S : Store) (H : Hp) (π : List Addr) (lo : Nat → Addr) (lf : Nat → Str → Addr) (D : Ends) (fl : Fl) (ρ' : Env) (S' : Store) : Prop where
  go : ∀ σ' H' π' lo' lf', Ext K F H π (Mt F ρ S π lo lf) H' π' (Mt F ρ' S' π' lo' lf') → Sim K H0 F ρ' S' σ' H' π' lo' lf' → FlTo D fl σ' H'
  rt : ∀ r, fl = .rt r → ∀ v H' π' lf', Ext K F H π (Mt F ρ S π lo lf) H' π' (Mt F [] S' π' (fun _ => 0) lf') → RvOk K H0 H0 F [] S' [] H' π' (fun _ => 0) lf' v r → D.rt v H'
def SndS (X : Cx) (Γ : Ctx) (s : Stmt) (c : CS) : Prop := ∀ H0 F ρ S σ H π lo lf, Sim X.K H0 F ρ S σ H π lo lf → ∀ fl ρ' S', evS Γ c ρ S = .ok fl ρ' S' → ∀ D : Ends, Wish X.K H0 F ρ S H π lo lf D fl ρ' S' → MxS X s D σ H
def SndSs (X : Cx) (Γ : Ctx) (s : List Stmt) (c : List CS) : Prop := ∀ H0 F ρ S σ H π lo lf, Sim X.K H0 F ρ S σ H π lo lf → ∀ fl ρ' S', evSs Γ c ρ S = .ok fl ρ' S' → ∀ D : Ends, Wish X.K H0 F ρ S H π lo lf D fl ρ' S' → MxSs X s D σ H
section
variable {K : Fg} {H0 : Hp} {F F' : AS} {ρ ρ' ρ'' : Env} {S S' S'' : Store} {σ : L2.St} {H H' : Hp} {π π' : List Addr} {lo lo' : Nat → Addr} {lf lf' : Nat → Str → Addr}
theorem mt_drop {a : Addr} (h : Mt F [] S π lo' lf a) : Mt F ρ S π lo lf a := by
  rcases h with h | ⟨i, ds, h, _⟩ | h
  · exact .inl h
  · cases h
  · exact .inr (.inr h)
theorem Sim.drop (s : Sim K H0 F ρ S σ H π lo lf) : Sim K H0 F [] S [] H π (fun _ => 0) lf where
  sl := fun i d e => by cases e
  ow := fun i d e => by cases e
  inj := fun i j ds es e => by cases e
  nf := fun i ds e => by cases e
  np := s.np
  nq := s.nq
  len := rfl
  ok := s.ok.keep (.less fun a h => mt_drop h) (fun _ _ _ q => q) fun _ _ _ _ _ q => q
  dm := s.dm
  fh := s.fh
theorem RvOk.drop {Hs : Hp} {v : V} : ∀ {r : Rv}, RvOk K H0 Hs F ρ S σ H π lo lf v r → RvOk K H0 Hs F [] S [] H π (fun _ => 0) lf v r
  | .sh _, ⟨s, h⟩ => ⟨s.drop, h.less fun a h => mt_drop h⟩
  | .fr ds, ⟨a, vs, e, h1, h2, h3, h4, h5⟩ => ⟨a, vs, e, h1, h2, fun m => h3 (mt_drop m), h4.drop, h5.less fun a h => mt_drop h⟩
theorem Ext.drop {M : AS} (x : Ext K F H π M H' π' (Mt F ρ S π' lo lf)) : Ext K F H π M H' π' (Mt F [] S π' (fun _ => 0) lf) := x.ofCall (fun _ h => h) (fun _ h => h) fun _ h => mt_drop h
/-- the wish carried over a part that was done -/
theorem Wish.after {D : Ends} {fl : Fl} (w : Wish K H0 F ρ S H π lo lf D fl ρ'' S'') {H1 : Hp} {π1 : List Addr} {lo1 : Nat → Addr} {lf1 : Nat → Str → Addr} (x : Ext K F H π (Mt F ρ S π lo lf) H1 π1 (Mt F ρ' S' π1 lo1 lf1)) : Wish K H0 F ρ' S' H1 π1 lo1 lf1 D fl ρ'' S'' :=
  ⟨fun σ' H' π' lo' lf' y s => w.go σ' H' π' lo' lf' (x.trans y) s, fun r e v H' π' lf' y k => w.rt r e v H' π' lf' (x.trans y) k⟩
/-- a new own list in a slot -/
theorem Sim.asgOwn {i : Nat} {ds : List D} {a : Addr} {vs : List V} (hl : i < ρ.length) (s : Sim K H0 (F.add a) ρ S σ H π lo lf) (h1 : H a = some (.lst vs)) (h2 : H0 a = none) (h3 : ¬ Mt F ρ S π lo lf a) (h5 : Reps K H π (Mt (F.add a) ρ S π lo lf) vs ds) :
    Sim K H0 F (st ρ i (.own ds)) S (σ.set i (some (.ref a))) H π (fun j => if j = i then a else lo j) lf ∧ ∀ b, Mt F (st ρ i (.own ds)) S π (fun j => if j = i then a else lo j) lf b → Mt (F.add a) ρ S π lo lf b := by
  have less : ∀ b, Mt F (st ρ i (.own ds)) S π (fun j => if j = i then a else lo j) lf b → Mt (F.add a) ρ S π lo lf b := fun b m => by
    rcases m with m | ⟨j, es, m, e⟩ | m
    · exact .inl (.inl m)
    · dsimp only at e
      by_cases c : j = i
      · subst c
        rw [if_pos rfl] at e
        exact .inl (.inr e)
      · rw [if_neg c] at e
        rw [gt_st_ne (fun z => c z.symm)] at m
        exact .inr (.inl ⟨j, es, m, e⟩)
    · exact .inr (.inr m)
  have na : ∀ j es, gt ρ j = .own es → lo j ≠ a := fun j es e z => (s.nf j es e).1 (.inr z)
  refine ⟨⟨fun j d e => ?_, fun j es e => ?_, fun j k es fs e1 e2 e3 => ?_, fun j es e => ?_, fun b hb m => s.np b hb (.inl m), fun n f es e m => s.nq n f es e (.inl m), by rw [st_length, List.length_set]; exact s.len, s.ok.keep (.less less) (fun _ _ _ q => q) (fun _ _ _ _ _ q => q), s.dm, fun b m => s.fh b (.inl m)⟩, less⟩
  · by_cases c : i = j
    · subst c
      rw [gt_st_same hl] at e
      cases e
    · rw [gt_st_ne c] at e
      obtain ⟨v, q1, q2⟩ := s.sl j d e
      exact ⟨v, by rw [List.getElem?_set_ne c]; exact q1, q2.less less⟩
  · by_cases c : i = j
    · subst c
      rw [gt_st_same hl] at e
      cases e
      refine ⟨?_, vs, ?_, h5.less less⟩
      · rw [List.getElem?_set_self (by rw [s.len]; exact hl), if_pos rfl]
      · rw [if_pos rfl]
        exact h1
    · rw [gt_st_ne c] at e
      obtain ⟨q1, ws, q2, q3⟩ := s.ow j es e
      refine ⟨?_, ws, ?_, q3.less less⟩
      · rw [List.getElem?_set_ne c, if_neg fun z => c z.symm]
        exact q1
      · rw [if_neg fun z => c z.symm]
        exact q2
  · by_cases c1 : j = i
    · by_cases c2 : k = i
      · rw [c1, c2]
      · rw [if_pos c1, if_neg c2] at e3
        rw [gt_st_ne (fun z => c2 z.symm)] at e2
        exact absurd e3.symm (na k fs e2)
    · rw [gt_st_ne (fun z => c1 z.symm)] at e1
      by_cases c2 : k = i
      · rw [if_neg c1, if_pos c2] at e3
        exact absurd e3 (na j es e1)
      · rw [if_neg c1, if_neg c2] at e3
        rw [gt_st_ne (fun z => c2 z.symm)] at e2
        exact s.inj j k es fs e1 e2 e3
  · by_cases c : j = i
    · rw [if_pos c]
      exact ⟨fun m => h3 (.inl m), fun m => h3 (.inr (.inr (.inl m))), h2, fun n f fs m z => h3 (.inr (.inr (.inr ⟨n, f, fs, m, z⟩)))⟩
    · rw [gt_st_ne (fun z => c z.symm)] at e
      rw [if_neg c]
      obtain ⟨n1, n2, n3, n4⟩ := s.nf j es e
      exact ⟨fun m => n1 (.inl m), n2, n3, n4⟩
/-- an own slot is handed out -/
theorem Sim.giveOwn {i : Nat} {ds : List D} (s : Sim K H0 F ρ S σ H π lo lf) (h : gt ρ i = .own ds) : RvOk K H0 H0 F [] S [] H π (fun _ => 0) lf (.ref (lo i)) (.fr ds) := by
  obtain ⟨h1, vs, h2, h3⟩ := s.ow i ds h
  obtain ⟨n1, n2, n3, n4⟩ := s.nf i ds h
  have less : ∀ b, Mt (F.add (lo i)) [] S π (fun _ => 0) lf b → Mt F ρ S π lo lf b := fun b m => by
    rcases m with (m | m) | ⟨j, es, m, _⟩ | m
    · exact .inl m
    · exact .inr (.inl ⟨i, ds, h, m⟩)
    · cases m
    · exact .inr (.inr m)
  refine ⟨lo i, vs, rfl, h2, n3, fun m => ?_, ⟨fun i d e => (by cases e), fun i d e => (by cases e), fun i j ds es e => (by cases e), fun i ds e => (by cases e), fun b hb m => ?_, fun n f es e m => ?_, rfl, s.ok.keep (.less less) (fun _ _ _ q => q) (fun _ _ _ _ _ q => q), s.dm, fun b m => s.there ?_⟩, h3.less less⟩
  · rcases m with m | ⟨j, es, m, _⟩ | m | ⟨n, f, es, m, e⟩
    · exact n1 m
    · cases m
    · exact n2 m
    · exact n4 n f es m e
  · rcases m with m | m
    · exact s.np b hb m
    · exact n2 (m ▸ hb)
  · rcases m with m | m
    · exact s.nq n f es e m
    · exact n4 n f es e m.symm
  · rcases m with m | m
    · exact .inl m
    · exact .inr (.inl ⟨i, ds, h, m⟩)
end
/-- a def's body: all cells are its own, nothing is let out -/
structure Dok (X : Cx) (Γ : Ctx) : Prop extends Cok X Γ where
  rm : Room 0 X.A
  fn : ∀ x, X.fn x = true
  kd : X.env.scope.kind = .function
  ps : PassesOwn (model X.prog X.w) X.A X.env X.xe
  sk : X.stack = X.env :: X.outer
  fr : X.env.frame = some X.env.locals
section
variable {X : Cx} {Γ : Ctx} {e a b : Expr} {c ca cb : CE} {k : CT} {p pos : Pos}
theorem sndS_bad {s : Stmt} {c : CS} (h : ∀ ρ S, evS Γ c ρ S = .bad) : SndS X Γ s c := fun H0 F ρ S σ H π lo lf sm fl ρ' S' he => by rw [h] at he; cases he
theorem sndS_unk {s : Stmt} : SndS X Γ s .unk := sndS_bad fun _ _ => rfl
theorem sndSs_nil : SndSs X Γ [] [] := fun H0 F ρ S σ H π lo lf s fl ρ' S' h D w => by
  simp only [evSs] at h
  cases h
  exact ⟨_, pss_nil, w.go σ H π lo lf .refl s⟩
theorem sndSs_cons {s : Stmt} {r : List Stmt} {cs : CS} {cr : List CS} (h1 : SndS X Γ s cs) (h2 : SndSs X Γ r cr) : SndSs X Γ (s :: r) (cs :: cr) := fun H0 F ρ S σ H π lo lf sm fl ρ' S' h D w => by
  simp only [evSs] at h
  obtain ⟨f1, ρ1, S1, g1, g2⟩ := bind_ok_inv h
  clear h
  refine ⟨_, pss_cons (mxS X s) (mxSs X r), ?_⟩
  cases f1 with
  | nx => exact h1 _ _ _ _ _ _ _ _ _ sm _ _ _ g1 _ ⟨fun σ' H' π' lo' lf' x t => h2 _ _ _ _ _ _ _ _ _ t _ _ _ g2 D (w.after x), fun r e => by cases e⟩
  | bk =>
    cases g2
    exact h1 _ _ _ _ _ _ _ _ _ sm _ _ _ g1 _ ⟨fun σ' H' π' lo' lf' x t => w.go _ _ _ _ _ x t, fun r e => by cases e⟩
  | ct =>
    cases g2
    exact h1 _ _ _ _ _ _ _ _ _ sm _ _ _ g1 _ ⟨fun σ' H' π' lo' lf' x t => w.go _ _ _ _ _ x t, fun r e => by cases e⟩
  | rt r =>
    cases g2
    exact h1 _ _ _ _ _ _ _ _ _ sm _ _ _ g1 _ ⟨fun σ' H' π' lo' lf' x t => trivial, fun r e v H' π' lf' x k => w.rt r e v H' π' lf' x k⟩
theorem sndSs_all {ss : List Stmt} {cv : Stmt → CS} (h : ∀ s ∈ ss, SndS X Γ s (cv s)) : SndSs X Γ ss (ss.map cv) := by
  induction ss with
  | nil => exact sndSs_nil
  | cons s r ih => exact sndSs_cons (h s (by simp)) (ih fun x hx => h x (by simp [hx]))
theorem sndS_pas : SndS X Γ (.Pass pos) .pas := fun H0 F ρ S σ H π lo lf s fl ρ' S' h D w => by
  cases h
  exact ⟨_, ps_pass, w.go σ H π lo lf .refl s⟩
theorem sndS_brk : SndS X Γ (.Break pos) .brk := fun H0 F ρ S σ H π lo lf s fl ρ' S' h D w => by
  cases h
  exact ⟨_, ps_break, w.go σ H π lo lf .refl s⟩
theorem sndS_cnt : SndS X Γ (.Continue pos) .cnt := fun H0 F ρ S σ H π lo lf s fl ρ' S' h D w => by
  cases h
  exact ⟨_, ps_continue, w.go σ H π lo lf .refl s⟩
theorem sndS_ret (ha : SndE X Γ a ca) : SndS X Γ (.Return (some a) pos) (.ret ca) := fun H0 F ρ S σ H π lo lf s fl ρ' S' h D w => by
  simp only [evS] at h
  obtain ⟨x, ρ1, S1, h1, g⟩ := bind_ok_inv h
  clear h
  cases g
  exact ⟨_, ps_ret (mxE X a), ha _ _ _ _ _ _ _ _ _ s _ _ _ h1 _ fun v H' π' lf' y k => w.rt _ rfl v H' π' lf' y.drop (k.drop.of s.dm)⟩
theorem sndS_retN : SndS X Γ (.Return none pos) .retN := fun H0 F ρ S σ H π lo lf s fl ρ' S' h D w => by
  simp only [evS] at h
  cases h
  exact ⟨_, ps_retN, w.rt _ rfl .non H π lf (Ext.refl.drop) ⟨s.drop, .non⟩⟩
theorem sndS_retS {i : Nat} {x : Str} (hN : X.N[i]? = some x) (hv : Vis X.env.scope x) (hd : (x == ("__debug__" : Str)) = false) (hcd : (x == ("__classdict__" : Str)) = false) : SndS X Γ (.Return (some (.Name x p)) pos) (.retS i) := fun H0 F ρ S σ H π lo lf s fl ρ' S' h D w => by
  simp only [evS] at h
  refine ⟨_, ps_ret (pe_var hN hv hd hcd), ?_⟩
  cases hg : gt ρ i with
  | no => rw [hg] at h; cases h
  | v d =>
    rw [hg] at h
    cases h
    obtain ⟨v, h1, h2⟩ := s.sl i d hg
    exact ⟨v, h1, w.rt _ rfl v H π lf (Ext.refl.drop) (RvOk.drop (r := .sh d) ⟨s, h2⟩)⟩
  | own ds =>
    rw [hg] at h
    cases h
    exact ⟨_, (s.ow i ds hg).1, w.rt _ rfl _ H π lf (Ext.refl.drop) (s.giveOwn hg)⟩
theorem sndS_exp (hs : swapsWith a none pos.line X.env = pure false) (ha : SndE X Γ a ca) : SndS X Γ (.Expr a pos) (.exp ca) := fun H0 F ρ S σ H π lo lf s fl ρ' S' h D w => by
  simp only [evS] at h
  obtain ⟨x, ρ1, S1, h1, g⟩ := bind_ok_inv h
  clear h
  cases g
  exact ⟨_, ps_expr (mxE X a) hs, ha.sh s h1 fun v H' π' lf' y k _ => w.go σ H' π' lo lf' y k⟩
theorem sndS_app {i : Nat} {x : Str} {ap cp : Pos} (hN : X.N[i]? = some x) (hv : Vis X.env.scope x) (hd : (x == ("__debug__" : Str)) = false) (hcd : (x == ("__classdict__" : Str)) = false) (hl : (ap.endLine == cp.line) = true) (hs : isStar a = false) (ha : SndE X Γ a ca) : SndS X Γ (.Expr (.Call (.Attribute (.Name x p) "append" ap) [a] [] cp) pos) (.app i ca) := fun H0 F ρ S σ H π lo lf s fl ρ' S' h D w => by
  simp only [evS] at h
  cases hg : gt ρ i with
  | no => rw [hg] at h; cases h
  | v d => rw [hg] at h; cases h
  | own ds =>
    rw [hg] at h
    simp only at h
    obtain ⟨y, ρ1, S1, h1, g⟩ := bind_ok_inv h
    clear h
    obtain ⟨q1, vs, q2, q3⟩ := s.ow i ds hg
    cases hg1 : gt ρ1 i with
    | no => rw [hg1] at g; cases g
    | v d => rw [hg1] at g; cases g
    | own es =>
      rw [hg1] at g
      simp only at g
      split at g
      · rename_i hz
        cases g
        refine ⟨_, ps_expr (pe_bm PySem.F.plainAttrs_list PySem.F.slot_list_append PySem.F.type_list_append mt_append (pe_var hN hv hd hcd) (pa_cons (mxE X a) pa_nil (star_cons hs)) rfl (by rw [star_cons hs]; rfl) hl (star_cons hs) rfl) rfl, ?_⟩
        refine ⟨_, q1, .inl ⟨rfl, _, SqL.of q2⟩, ha.sh s h1 fun v H1 π1 lf1 x1 s1 r1 => ?_⟩
        obtain ⟨g1, ws, g2, g3⟩ := s1.ow i es hg1
        obtain ⟨s2, x2⟩ := s1.setOwn hg1 (g3.append (.cons r1 .nil))
        exact ⟨lo i, ws, v, rfl, rfl, g2, by rw [g3.length]; exact hz, w.go σ _ _ lo _ (x1.trans x2) s2⟩
      · cases g
theorem sndS_seti {i : Nat} {x : Str} {k : Expr} {ck : CE} {p2 : Pos} (hN : X.N[i]? = some x) (hv : Vis X.env.scope x) (hd : (x == ("__debug__" : Str)) = false) (hcd : (x == ("__classdict__" : Str)) = false) (hix : plainIx k = true) (hnc : noComp a = true) (hk : SndE X Γ k ck) (ha : SndE X Γ a ca) : SndS X Γ (.Assign [.Subscript (.Name x p) k p2] a pos) (.seti i ck ca) := fun H0 F ρ S σ H π lo lf s fl ρ' S' h D w => by
  simp only [evS] at h
  obtain ⟨y, ρ1, S1, h1, g⟩ := bind_ok_inv h
  clear h
  cases hg : gt ρ1 i with
  | no => rw [hg] at g; cases g
  | v d => rw [hg] at g; cases g
  | own ds =>
    rw [hg] at g
    simp only at g
    obtain ⟨z, ρ2, S2, h2, g2⟩ := bind_ok_inv g
    clear g
    split at g2
    · rename_i es j hg2
      split at g2
      · rename_i q hq
        cases g2
        refine ⟨_, ps_asg (mxE X a) (pg_sub (pe_var hN hv hd hcd) (mxE X k) set_list (by intro v; cases k <;> first | rfl | (simp [plainIx] at hix))) (by cases a <;> first | rfl | (simp [noComp] at hnc)) (by cases a <;> first | rfl | (simp [noComp] at hnc)) rfl, ?_⟩
        refine ha.sh s h1 fun v1 H1 π1 lf1 x1 s1 r1 => ?_
        obtain ⟨q1, vs, q2, q3⟩ := s1.ow i ds hg
        refine ⟨_, q1, hk.sh s1 h2 fun v2 H2 π2 lf2 x2 s2 r2 => ?_⟩
        obtain ⟨g1, ws, g2, g3⟩ := s2.ow i es hg2
        have r1' := r1.keep x2.toKeeps
        obtain ⟨s3, x3⟩ := s2.setOwn hg2 (g3.set q r1')
        exact ⟨lo i, ws, j, q, rfl, r2.int_inv, g2, by rw [g3.length]; exact hq, w.go σ _ _ lo _ (x1.trans (x2.trans x3)) s3⟩
      · cases g2
    · cases g2
theorem sndS_ext {i : Nat} {x : Str} {ap cp : Pos} (hN : X.N[i]? = some x) (hv : Vis X.env.scope x) (hd : (x == ("__debug__" : Str)) = false) (hcd : (x == ("__classdict__" : Str)) = false) (hl : (ap.endLine == cp.line) = true) (hs : isStar a = false) (ha : SndE X Γ a ca) : SndS X Γ (.Expr (.Call (.Attribute (.Name x p) "extend" ap) [a] [] cp) pos) (.ext i ca) := fun H0 F ρ S σ H π lo lf s fl ρ' S' h D w => by
  simp only [evS] at h
  cases hg : gt ρ i with
  | no => rw [hg] at h; cases h
  | v d => rw [hg] at h; cases h
  | own ds =>
    rw [hg] at h
    simp only at h
    obtain ⟨y, ρ1, S1, h1, g⟩ := bind_ok_inv h
    clear h
    obtain ⟨q1, vs, q2, q3⟩ := s.ow i ds hg
    split at g
    · rename_i fs es hg1
      split at g
      · rename_i hz
        cases g
        refine ⟨_, ps_expr (pe_bm PySem.F.plainAttrs_list PySem.F.slot_list_extend PySem.F.type_list_extend mt_extend (pe_var hN hv hd hcd) (pa_cons (mxE X a) pa_nil (star_cons hs)) rfl (by rw [star_cons hs]; rfl) hl (star_cons hs) rfl) rfl, ?_⟩
        refine ⟨_, q1, .inl ⟨rfl, _, SqL.of q2⟩, ha _ _ _ _ _ _ _ _ _ s _ _ _ h1 _ fun v H1 π1 lf1 x1 k => ?_⟩
        obtain ⟨s1, r1⟩ := k.sh
        obtain ⟨b, us, e, k1, k2, _⟩ := k
        subst e
        obtain ⟨b', us', e', g1, _, g3⟩ := r1.lst_inv
        cases e'
        have : us' = us := by
          rcases g1 with g1 | ⟨o, g1⟩
          · rw [k1] at g1
            cases g1
            rfl
          · rw [k1] at g1
            cases g1
        subst this
        obtain ⟨f1, ws, f2, f3⟩ := s1.ow i es hg1
        obtain ⟨s2, x2⟩ := s1.setOwn hg1 (f3.append g3)
        exact ⟨lo i, b, ws, _, rfl, rfl, f2, k1, by rw [f3.length, g3.length]; exact hz, w.go σ _ _ lo _ (x1.trans x2) s2⟩
      · cases g
    · cases g
theorem asg_fin {own : Bool} {i : Nat} {H0 : Hp} {F : AS} {ρ ρ1 : Env} {S S1 : Store} {σ : L2.St} {H H1 : Hp} {π π1 : List Addr} {lo : Nat → Addr} {lf lf1 : Nat → Str → Addr} {D : Ends} {x : Rv} {v : V} (w : Wish X.K H0 F ρ S H π lo lf D .nx (st ρ1 i (match own, x with | true, .fr ds => .own ds | _, x => .v x.d)) S1)
    (x1 : Ext X.K F H π (Mt F ρ S π lo lf) H1 π1 (Mt F ρ1 S1 π1 lo lf1)) (s : Sim X.K H0 F ρ S σ H π lo lf) (k : RvOk X.K H0 H F ρ1 S1 σ H1 π1 lo lf1 v x) : D.nx (σ.set i (some v)) H1 := by
  have shr : (match own, x with | true, .fr ds => Sl.own ds | _, x => .v x.d) = .v x.d → D.nx (σ.set i (some v)) H1 := fun e => by
    rw [e] at w
    obtain ⟨s1, r1⟩ := k.sh
    exact w.go _ H1 π1 lo lf1 (x1.ofCall (fun _ h => h) (fun _ h => h) fun b m => mt_st_v m) (s1.asgV r1)
  cases own with
  | false => exact shr (by cases x <;> rfl)
  | true =>
    cases x with
    | sh d => exact shr rfl
    | fr ds =>
      by_cases hl : i < ρ1.length
      case neg =>
        have s1 := k.sh.1
        rw [st_ge (by omega)] at w
        rw [List.set_eq_of_length_le (by rw [s1.len]; omega)]
        exact w.go _ H1 π1 lo lf1 x1 s1
      obtain ⟨a, vs, e, h1, h2, h3, h4, h5⟩ := k
      subst e
      obtain ⟨s2, l2⟩ := h4.asgOwn hl h1 (s.dm a h2) h3 h5
      refine w.go _ H1 π1 _ lf1 ⟨⟨x1.pi, fun b o hb lb m => ⟨(x1.ls b o hb lb m).1, fun m' => ?_⟩, x1.tp, x1.fz⟩, x1.fo, x1.dm⟩ s2
      rcases l2 b m' with (m' | m') | m'
      · exact (x1.ls b o hb lb m).2 (.inl m')
      · subst m'
        rw [h2] at hb
        cases hb
      · exact (x1.ls b o hb lb m).2 (.inr m')
end
end Ht

set_option Elab.async false
set_option linter.all false
set_option maxRecDepth 100000
set_option maxHeartbeats 1000000
/-! ### soundness: statements, loops -/
namespace Ht
open PySem L2
section
variable {X : Cx} {Γ : Ctx} {e a b : Expr} {c ca cb : CE} {k : CT} {p pos : Pos}
theorem sndS_asg {own : Bool} {i : Nat} {x : Str} (ok : Dok X Γ) (hN : X.N[i]? = some x) (hx : Loc X.env.scope x) (hs : swapsWith a (some (.Name x p)) pos.line X.env = pure false) (ha : SndE X Γ a ca) : SndS X Γ (.Assign [.Name x p] a pos) (.asg own i ca) := fun H0 F ρ S σ H π lo lf s fl ρ' S' h D w => by
  simp only [evS] at h
  obtain ⟨y, ρ1, S1, h1, g⟩ := bind_ok_inv h
  clear h
  cases g
  exact ⟨_, ps_set ok.nd hN hx (mxE X a) hs (.inl (ok.fn x)), ha _ _ _ _ _ _ _ _ _ s _ _ _ h1 _ fun v H1 π1 lf1 x1 k1 => asg_fin w x1 s k1⟩
theorem sndS_asgLc {own : Bool} {j : Nat} {y : Str} {py : Pos} {elt iter : Expr} {ifs : List Expr} {x : Str} {tp cpos : Pos} {scope : Scope} {i : Nat} {sh : List Nat} {ce : CE} {src : Src} {cond : Option CT} (ok : Dok X Γ) (hy : X.N[j]? = some y) (hyl : X.env.scope.names.lookup y = some .local)
    (hsw : swapsWith (.ListComp elt [⟨.Name x tp, iter, ifs, 0⟩] scope cpos) (some (.Name y py)) pos.line X.env = pure true) (hi : SndI X Γ (.Name x tp) iter src) (okB : BlkOk X.N X.env.scope scope [(x, i)])
    (hxi : X.N[i]? = some x) (hx : scope.names.lookup x = some .local ∨ scope.names.lookup x = some .cell) (he : ∀ s H1 C cl fp, SndE (Blk X scope s H1 C cl fp) Γ elt ce) (hc : SndC X Γ scope ifs cond) (hfs : ∀ v, foldedSetIterable iter X.env v = pure v) :
    SndS X Γ (.Assign [.Name y py] (.ListComp elt [⟨.Name x tp, iter, ifs, 0⟩] scope cpos) pos) (.asg own j (.comp sh ce i src cond)) := fun H0 F ρ S σ H π lo lf s fl ρ' S' h D w => by
  simp only [evS] at h
  obtain ⟨y, ρ1, S1, h1, g⟩ := bind_ok_inv h
  clear h
  cases g
  refine ⟨_, ps_setLc ok.calm ok.nd hy hyl hsw (mxI X (.Name x tp) iter) okB (comp_pg ok.toCok hxi hx) (fun s H1 C cl fp => bxTs hc s H1 C cl fp) (fun s H1 C cl fp => bxE s H1 C cl fp) hfs, ?_⟩
  exact comp_read ok.toCok hi he hc s h1 _ fun v H1 π1 lf1 x1 k1 => asg_fin w x1 s k1
theorem sndS_aug {i : Nat} {x : Str} {op : Operator} (ok : Dok X Γ) (hN : X.N[i]? = some x) (hx : Loc X.env.scope x) (ha : SndE X Γ a ca) : SndS X Γ (.AugAssign (.Name x p) op a pos) (.aug i op ca) := fun H0 F ρ S σ H π lo lf s fl ρ' S' h D w => by
  simp only [evS] at h
  split at h
  · rename_i n hg
    obtain ⟨y, ρ1, S1, h1, g⟩ := bind_ok_inv h
    clear h
    split at g
    · cases g
      obtain ⟨v, q1, q2⟩ := s.sl i _ hg
      have := q2.int_inv
      subst this
      refine ⟨_, ps_aug ok.nd hN hx (mxE X a) ip_add (.inl (ok.fn x)), _, q1, ha.sh s h1 fun v H1 π1 lf1 x1 s1 r1 => ?_⟩
      refine ⟨_, _, rfl, r1.int_inv, w.go _ _ _ _ _ (x1.ofCall (fun _ h => h) (fun _ h => h) fun b m => mt_st_v m) (s1.asgV (.int _))⟩
    · cases g
  · cases h
theorem sndS_ite {t : Expr} {sa sb : List Stmt} {ka kb : List CS} (ht : SndT X Γ t k) (ha : SndSs X Γ sa ka) (hb : SndSs X Γ sb kb) : SndS X Γ (.If t sa sb pos) (.ite k ka kb) := fun H0 F ρ S σ H π lo lf s fl ρ' S' h D w => by
  simp only [evS] at h
  obtain ⟨y, ρ1, S1, h1, g⟩ := bind_ok_inv h
  clear h
  refine ⟨_, ps_if (mxT X t) (mxSs X sa) (mxSs X sb), ht _ _ _ _ _ _ _ _ _ s _ _ _ h1 _ fun H1 π1 lf1 x1 s1 => ?_⟩
  cases y with
  | true => exact iteT (ha _ _ _ _ _ _ _ _ _ s1 _ _ _ g D (w.after x1))
  | false => exact iteF (hb _ _ _ _ _ _ _ _ _ s1 _ _ _ g D (w.after x1))
/-! ### while -/
theorem whileS_inv {t : Env → Store → Out Bool} {b : Env → Store → Out Fl} {n : Nat} {ρ ρ' : Env} {S S' : Store} {fl : Fl} (h : whileS t b n ρ S = .ok fl ρ' S') : ∃ m c ρ1 S1, n = m + 1 ∧ t ρ S = .ok c ρ1 S1 ∧ ((c = false ∧ fl = .nx ∧ ρ' = ρ1 ∧ S' = S1) ∨ (c = true ∧ ∃ f2 ρ2 S2, b ρ1 S1 = .ok f2 ρ2 S2 ∧
    ((f2 = .nx ∧ whileS t b m ρ2 S2 = .ok fl ρ' S') ∨ (f2 = .ct ∧ whileS t b m ρ2 S2 = .ok fl ρ' S') ∨ (f2 = .bk ∧ fl = .nx ∧ ρ' = ρ2 ∧ S' = S2) ∨ ∃ r, f2 = .rt r ∧ fl = .rt r ∧ ρ' = ρ2 ∧ S' = S2))) := by
  cases n with
  | zero => cases h
  | succ m =>
    unfold whileS at h
    obtain ⟨c, ρ1, S1, h1, h2⟩ := bind_ok_inv h
    refine ⟨m, c, ρ1, S1, rfl, h1, ?_⟩
    cases c with
    | false =>
      simp only [Bool.false_eq_true, if_false] at h2
      cases h2
      exact .inl ⟨rfl, rfl, rfl, rfl⟩
    | true =>
      simp only [if_true] at h2
      refine .inr ⟨rfl, ?_⟩
      split at h2
      · exact ⟨_, _, _, by assumption, .inl ⟨rfl, h2⟩⟩
      · exact ⟨_, _, _, by assumption, .inr (.inl ⟨rfl, h2⟩)⟩
      · cases h2
        exact ⟨_, _, _, by assumption, .inr (.inr (.inl ⟨rfl, rfl, rfl, rfl⟩))⟩
      · cases h2
        exact ⟨_, _, _, by assumption, .inr (.inr (.inr ⟨_, rfl, rfl, rfl, rfl⟩))⟩
      · cases h2
      · cases h2
theorem sndS_whl {t : Expr} {sb : List Stmt} {kb : List CS} (ok : Dok X Γ) (ht : SndT X Γ t k) (hb : SndSs X Γ sb kb) : SndS X Γ (.While t sb [] pos) (.whl k kb) := fun H0 F ρ S σ H π lo lf s fl ρ' S' h D w => by
  simp only [evS] at h
  refine ⟨_, ps_while ok.ps (mxT X t) (mxSs X sb), ?_⟩
  refine ⟨fun m σ1 H1 => ∃ ρ1 S1 π1 lo1 lf1, Sim X.K H0 F ρ1 S1 σ1 H1 π1 lo1 lf1 ∧ whileS (evT Γ k) (evSs Γ kb) m ρ1 S1 = .ok fl ρ' S' ∧ Ext X.K F H π (Mt F ρ S π lo lf) H1 π1 (Mt F ρ1 S1 π1 lo1 lf1), ⟨turns, ρ, S, π, lo, lf, s, h, .refl⟩, ?_⟩
  rintro m σ1 H1 ⟨ρ1, S1, π1, lo1, lf1, s1, h1, x1⟩
  obtain ⟨m', c, ρ2, S2, rfl, g1, g2⟩ := whileS_inv h1
  refine ht _ _ _ _ _ _ _ _ _ s1 _ _ _ g1 _ fun H2 π2 lf2 x2 s2 => ?_
  rcases g2 with ⟨rfl, rfl, rfl, rfl⟩ | ⟨rfl, f2, ρ3, S3, g3, g4⟩
  · exact iteF (w.go _ _ _ _ _ (x1.trans x2) s2)
  · refine iteT ⟨fun σ3 H3 => ∃ ρ1 S1 π1 lo1 lf1, Sim X.K H0 F ρ1 S1 σ3 H3 π1 lo1 lf1 ∧ whileS (evT Γ k) (evSs Γ kb) m' ρ1 S1 = .ok fl ρ' S' ∧ Ext X.K F H π (Mt F ρ S π lo lf) H3 π1 (Mt F ρ1 S1 π1 lo1 lf1), fun σ3 H3 n3 => ⟨m', by omega, n3⟩, ?_⟩
    refine hb _ _ _ _ _ _ _ _ _ s2 _ _ _ g3 _ ⟨fun σ3 H3 π3 lo3 lf3 x3 s3 => ?_, fun r e v H3 π3 lf3 x3 k3 => ?_⟩
    · rcases g4 with ⟨rfl, g5⟩ | ⟨rfl, g5⟩ | ⟨rfl, rfl, rfl, rfl⟩ | ⟨r, rfl, rfl, rfl, rfl⟩
      · exact ⟨ρ3, S3, π3, lo3, lf3, s3, g5, x1.trans (x2.trans x3)⟩
      · exact ⟨ρ3, S3, π3, lo3, lf3, s3, g5, x1.trans (x2.trans x3)⟩
      · exact w.go _ _ _ _ _ (x1.trans (x2.trans x3)) s3
      · trivial
    · rcases g4 with ⟨rfl, g5⟩ | ⟨rfl, g5⟩ | ⟨rfl, rfl, rfl, rfl⟩ | ⟨r', rfl, rfl, rfl, rfl⟩
      · cases e
      · cases e
      · cases e
      · cases e
        exact w.rt _ rfl v H3 π3 lf3 (x1.trans (x2.trans x3)) k3
/-! ### for -/
theorem loopS_inv {f : D → Env → Store → Out Fl} {d : D} {ds : List D} {ρ ρ' : Env} {S S' : Store} {fl : Fl} (h : loopS f (d :: ds) ρ S = .ok fl ρ' S') : ∃ f2 ρ2 S2, f d ρ S = .ok f2 ρ2 S2 ∧
    ((f2 = .nx ∧ loopS f ds ρ2 S2 = .ok fl ρ' S') ∨ (f2 = .ct ∧ loopS f ds ρ2 S2 = .ok fl ρ' S') ∨ (f2 = .bk ∧ fl = .nx ∧ ρ' = ρ2 ∧ S' = S2) ∨ ∃ r, f2 = .rt r ∧ fl = .rt r ∧ ρ' = ρ2 ∧ S' = S2) := by
  unfold loopS at h
  split at h
  · exact ⟨_, _, _, by assumption, .inl ⟨rfl, h⟩⟩
  · exact ⟨_, _, _, by assumption, .inr (.inl ⟨rfl, h⟩)⟩
  · cases h
    exact ⟨_, _, _, by assumption, .inr (.inr (.inl ⟨rfl, rfl, rfl, rfl⟩))⟩
  · cases h
    exact ⟨_, _, _, by assumption, .inr (.inr (.inr ⟨_, rfl, rfl, rfl, rfl⟩))⟩
  · cases h
  · cases h
/-- a target takes an item -/
def TgOk (X : Cx) (tg : Expr) (asg : D → Env → Store → Out Fl) : Prop := ∃ g, PG X tg g ∧ ∀ H0 F ρ S σ H π lo lf d x ρ1 S1 fl, Sim X.K H0 F ρ S σ H π lo lf → Rep X.K H π (Mt F ρ S π lo lf) x d → asg d ρ S = .ok fl ρ1 S1 → ∀ R : L2.St → Hp → Prop, (∀ σ1, fl = .nx → Ext X.K F H π (Mt F ρ S π lo lf) H π (Mt F ρ1 S1 π lo lf) → Sim X.K H0 F ρ1 S1 σ1 H π lo lf → R σ1 H) → g x σ H R
theorem for_gen {tg it : Expr} {sb : List Stmt} {kb : List CS} {src : Src} {asg : D → Env → Store → Out Fl} (ok : Dok X Γ) (hi : SndI X Γ tg it src) (hg : TgOk X tg asg) (hb : SndSs X Γ sb kb) (hfs : ∀ v, foldedSetIterable it X.env v = pure v) {H0 : Hp} {F : AS} {ρ ρ' : Env} {S S' : Store} {σ : L2.St} {H : Hp} {π : List Addr} {lo : Nat → Addr} {lf : Nat → Str → Addr} {fl : Fl}
    (s : Sim X.K H0 F ρ S σ H π lo lf) (h : ((evSrc Γ src ρ S).bindB fun ds ρ S => loopS (fun d ρ S => (asg d ρ S).bind fun _ ρ S => evSs Γ kb ρ S) ds ρ S) = .ok fl ρ' S') {D : Ends} (w : Wish X.K H0 F ρ S H π lo lf D fl ρ' S') : MxS X (.For tg it sb [] pos) D σ H := by
  obtain ⟨ds, ρ1, S1, h1, g⟩ := bind_ok_inv h
  clear h
  obtain ⟨gg, hpg, hgg⟩ := hg
  refine ⟨_, ps_for ok.ps ok.calm (mxI X tg it) hpg (mxSs X sb) hfs, hi _ _ _ _ _ _ _ _ _ s _ _ _ h1 _ fun J H1 π1 lf1 x1 s1 w1 => ?_⟩
  refine ⟨fun j m σ2 H2 => ∃ ρ2 S2 π2 lo2 lf2, j ≤ ds.length ∧ m = ds.length - j ∧ Sim X.K H0 F ρ2 S2 σ2 H2 π2 lo2 lf2 ∧ loopS (fun d ρ S => (asg d ρ S).bind fun _ ρ S => evSs Γ kb ρ S) (ds.drop j) ρ2 S2 = .ok fl ρ' S' ∧ Ext X.K F H1 π1 (Mt F ρ1 S1 π1 lo lf1) H2 π2 (Mt F ρ2 S2 π2 lo2 lf2),
    ⟨ds.length, ρ1, S1, π1, lo, lf1, Nat.zero_le _, rfl, s1, g, .refl⟩, ?_⟩
  rintro j m σ2 H2 ⟨ρ2, S2, π2, lo2, lf2, hj, hm, s2, g2, x2⟩
  by_cases hlt : j < ds.length
  · refine .inr ⟨w1.go x2.toKeeps hlt, fun σ3 H3 => ∃ ρ2 S2 π2 lo2 lf2, Sim X.K H0 F ρ2 S2 σ3 H3 π2 lo2 lf2 ∧ loopS (fun d ρ S => (asg d ρ S).bind fun _ ρ S => evSs Γ kb ρ S) (ds.drop (j + 1)) ρ2 S2 = .ok fl ρ' S' ∧ Ext X.K F H1 π1 (Mt F ρ1 S1 π1 lo lf1) H3 π2 (Mt F ρ2 S2 π2 lo2 lf2), fun σ3 H3 n3 => ?_, fun v H' hy => ?_⟩
    · obtain ⟨ρ2, S2, π2, lo2, lf2, n1, n2, n3⟩ := n3
      exact ⟨ds.length - (j + 1), by omega, ρ2, S2, π2, lo2, lf2, by omega, rfl, n1, n2, n3⟩
    · have hd : ds[j]? = some ds[j] := List.getElem?_eq_getElem hlt
      rw [List.drop_eq_getElem_cons hlt] at g2
      obtain ⟨f2, ρ3, S3, g3, g4⟩ := loopS_inv g2
      obtain ⟨fa, ρ4, S4, g5, g6⟩ := bind_ok_inv g3
      obtain ⟨t3, r3, y3⟩ : Sim X.K H0 F ρ2 S2 σ2 H' π2 lo2 lf2 ∧ Rep X.K H' π2 (Mt F ρ2 S2 π2 lo2 lf2) v ds[j] ∧ Ext X.K F H2 π2 (Mt F ρ2 S2 π2 lo2 lf2) H' π2 (Mt F ρ2 S2 π2 lo2 lf2) := by
        rcases w1.yld x2.toKeeps hy hd with ⟨rfl, q⟩ | ⟨p, ws, es, q1, rfl, rfl, q2, q3⟩
        · exact ⟨s2, q, .refl⟩
        · refine ⟨s2.new q1, ?_, .new q1 s2⟩
          rw [q2]
          exact .tup (SqT.of upd_same) (q3.keep (keeps_new q1 fun _ z => .inl z))
      refine hgg _ _ _ _ _ _ _ _ _ _ _ _ _ _ t3 r3 g5 _ fun σ4 _ x4 s4 => ?_
      refine hb _ _ _ _ _ _ _ _ _ s4 _ _ _ g6 _ ⟨fun σ5 H5 π5 lo5 lf5 x5 s5 => ?_, fun r e v H5 π5 lf5 x5 k5 => ?_⟩
      · rcases g4 with ⟨rfl, g7⟩ | ⟨rfl, g7⟩ | ⟨rfl, rfl, rfl, rfl⟩ | ⟨r, rfl, rfl, rfl, rfl⟩
        · exact ⟨ρ3, S3, π5, lo5, lf5, s5, g7, x2.trans (y3.trans (x4.trans x5))⟩
        · exact ⟨ρ3, S3, π5, lo5, lf5, s5, g7, x2.trans (y3.trans (x4.trans x5))⟩
        · exact w.go _ _ _ _ _ (x1.trans (x2.trans (y3.trans (x4.trans x5)))) s5
        · trivial
      · rcases g4 with ⟨rfl, g7⟩ | ⟨rfl, g7⟩ | ⟨rfl, rfl, rfl, rfl⟩ | ⟨r', rfl, rfl, rfl, rfl⟩
        · cases e
        · cases e
        · cases e
        · cases e
          exact w.rt _ rfl v H5 π5 lf5 (x1.trans (x2.trans (y3.trans (x4.trans x5)))) k5
  · have ej : j = ds.length := by omega
    subst ej
    refine .inl ⟨w1.stop x2.toKeeps, ?_⟩
    rw [List.drop_length] at g2
    simp only [loopS] at g2
    cases g2
    exact w.go _ _ _ _ _ (x1.trans x2) s2
theorem tg_name {i : Nat} {x : Str} (ok : Dok X Γ) (hN : X.N[i]? = some x) (hx : Loc X.env.scope x) : TgOk X (.Name x p) (fun d ρ S => .ok .nx (st ρ i (.v d)) S) :=
  ⟨gName i, pg_name ok.nd hN hx (.inl (ok.fn x)), fun H0 F ρ S σ H π lo lf d v ρ1 S1 fl s r e R q => by
    cases e
    exact q _ rfl (Ext.refl.ofCall (fun _ h => h) (fun _ h => h) fun b m => mt_st_v m) (s.asgV r)⟩
theorem sndS_for1 {it : Expr} {sb : List Stmt} {kb : List CS} {src : Src} {i : Nat} {x : Str} (ok : Dok X Γ) (hN : X.N[i]? = some x) (hx : Loc X.env.scope x) (hi : SndI X Γ (.Name x p) it src) (hb : SndSs X Γ sb kb) (hfs : ∀ v, foldedSetIterable it X.env v = pure v) : SndS X Γ (.For (.Name x p) it sb [] pos) (.for1 i src kb) := fun H0 F ρ S σ H π lo lf s fl ρ' S' h D w => by
  simp only [evS] at h
  exact for_gen ok hi (tg_name ok hN hx) hb hfs s h w
/-! ### several names at once -/
theorem slotsOf_cons {N : List Str} {sc : Scope} {t : Expr} {ts : List Expr} {is : List Nat} (h : slotsOf sc N (t :: ts) = some is) : ∃ x p i r, t = .Name x p ∧ is = i :: r ∧ locB sc x = true ∧ N[i]? = some x ∧ slotsOf sc N ts = some r := by
  cases t with
  | Name x p =>
    simp only [slotsOf] at h
    split at h
    · rename_i hc
      rw [Bool.and_eq_true] at hc
      cases hs : slotOf N x with
      | none => rw [hs] at h; cases h
      | some i =>
        rw [hs] at h
        cases hr : slotsOf sc N ts with
        | none => rw [hr] at h; cases h
        | some r =>
          rw [hr] at h
          cases h
          exact ⟨x, p, i, r, rfl, rfl, hc.1, slotOf_inv hs, rfl⟩
    · cases h
  | _ => cases h
def gAll : List Nat → TGs
  | [] => gNil
  | i :: r => gCons (gName i) (gAll r)
theorem pgs_all (ok : Dok X Γ) : ∀ {ts : List Expr} {is : List Nat}, slotsOf X.env.scope X.N ts = some is → PGs X ts (gAll is) ∧ (assignEach ts X.env).length = is.length ∧ (assignEach ts X.env).findIdx? (·.1) = none
  | [], is, h => by
    cases h
    exact ⟨pgs_nil, rfl, rfl⟩
  | t :: ts, is, h => by
    obtain ⟨x, p, i, r, rfl, rfl, h1, h2, h3⟩ := slotsOf_cons h
    obtain ⟨g1, g2, g3⟩ := pgs_all ok h3
    refine ⟨pgs_cons (pg_name ok.nd h2 (locB_inv h1) (.inl (ok.fn x))) g1 rfl, ?_, ?_⟩
    · show (assignEach ts X.env).length + 1 = _
      rw [g2]
      rfl
    · show List.findIdx? (·.1) ((false, _) :: assignEach ts X.env) = none
      rw [List.findIdx?_cons, g3]
      rfl
theorem gAll_ok : ∀ {is : List Nat} {ds : List D} {vs : List V} {H0 : Hp} {F : AS} {ρ ρ1 : Env} {S : Store} {σ : L2.St} {H : Hp} {π : List Addr} {lo : Nat → Addr} {lf : Nat → Str → Addr}, Sim X.K H0 F ρ S σ H π lo lf → Reps X.K H π (Mt F ρ S π lo lf) vs ds → setT is ds ρ = some ρ1 → ∀ R : L2.St → Hp → Prop,
    (∀ σ1, Ext X.K F H π (Mt F ρ S π lo lf) H π (Mt F ρ1 S π lo lf) → Sim X.K H0 F ρ1 S σ1 H π lo lf → R σ1 H) → gAll is vs σ H R ∧ vs.length = is.length
  | [], [], vs, H0, F, ρ, ρ1, S, σ, H, π, lo, lf, s, r, e, R, q => by
    cases e
    cases r
    exact ⟨⟨rfl, q σ .refl s⟩, rfl⟩
  | i :: is, d :: ds, vs, H0, F, ρ, ρ1, S, σ, H, π, lo, lf, s, r, e, R, q => by
    cases r with
    | cons r1 r2 =>
      have x1 : Ext X.K F H π (Mt F ρ S π lo lf) H π (Mt F (st ρ i (.v d)) S π lo lf) := Ext.refl.ofCall (fun _ h => h) (fun _ h => h) fun b m => mt_st_v m
      obtain ⟨h1, h2⟩ := gAll_ok (is := is) (s.asgV r1) (r2.keep x1.toKeeps) e R fun σ1 x2 s2 => q σ1 (x1.trans x2) s2
      exact ⟨⟨_, _, rfl, h1⟩, by simp [h2]⟩
  | [], _ :: _, _, _, _, _, _, _, _, _, _, _, _, _, _, e, _, _ => by cases e
  | _ :: _, [], _, _, _, _, _, _, _, _, _, _, _, _, _, e, _, _ => by cases e
theorem tg_tup {ts : List Expr} {is : List Nat} {kk : Nat} (ok : Dok X Γ) (h : slotsOf X.env.scope X.N ts = some is) : TgOk X (.Tuple ts kk p) (asgT is) := by
  obtain ⟨g1, g2, g3⟩ := pgs_all ok h
  refine ⟨gTup X.K is.length (gAll is), pg_tup ok.calm g1 g2 g3, fun H0 F ρ S σ H π lo lf d v ρ1 S1 fl s r e R q => ?_⟩
  unfold asgT at e
  split at e
  · split at e
    · cases e
      rename_i ds _ ρ2 e2
      obtain ⟨a, vs, rfl, h1, h2⟩ := r.tup_inv
      obtain ⟨k1, k2⟩ := gAll_ok s h2 e2 R fun σ1 x1 s1 => q σ1 rfl x1 s1
      exact ⟨a, vs, rfl, h1, k2, k1⟩
    · cases e
  · cases e
theorem sndS_forT {it : Expr} {sb : List Stmt} {kb : List CS} {src : Src} {ts : List Expr} {is : List Nat} {kk : Nat} (ok : Dok X Γ) (h : slotsOf X.env.scope X.N ts = some is) (hi : SndI X Γ (.Tuple ts kk p) it src) (hb : SndSs X Γ sb kb) (hfs : ∀ v, foldedSetIterable it X.env v = pure v) : SndS X Γ (.For (.Tuple ts kk p) it sb [] pos) (.forT is src kb) := fun H0 F ρ S σ H π lo lf s fl ρ' S' h' D w => by
  simp only [evS] at h'
  exact for_gen ok hi (tg_tup ok h) hb hfs s h' w
theorem tg_nest {t : Expr} {us : List Expr} {i : Nat} {is : List Nat} {kk k2 : Nat} {p2 : Pos} (ok : Dok X Γ) (h0 : slotsOf X.env.scope X.N [t] = some [i]) (h : slotsOf X.env.scope X.N us = some is) : TgOk X (.Tuple [t, .Tuple us k2 p2] kk p) (asgN i is) := by
  obtain ⟨x, px, i', r, rfl, e0, h1, h2, h3⟩ := slotsOf_cons h0
  obtain ⟨rfl, rfl⟩ : i' = i ∧ r = [] := by
    cases e0
    exact ⟨rfl, rfl⟩
  obtain ⟨g1, g2, g3⟩ := pgs_all ok h
  refine ⟨gTup X.K 2 (gCons (gName i') (gCons (gTup X.K is.length (gAll is)) gNil)), pg_tup ok.calm (pgs_cons (pg_name ok.nd h2 (locB_inv h1) (.inl (ok.fn x))) (pgs_cons (pg_tup ok.calm g1 g2 g3) pgs_nil rfl) rfl) rfl rfl, fun H0 F ρ S σ H π lo lf d v ρ1 S1 fl s r e R q => ?_⟩
  unfold asgN at e
  split at e
  · rename_i a b
    unfold asgT at e
    split at e
    · split at e
      · cases e
        rename_i ds _ ρ2 e2
        obtain ⟨ad, vs, rfl, y1, y2⟩ := r.tup_inv
        cases y2 with
        | cons r1 y3 =>
          cases y3 with
          | cons r2 y4 =>
            cases y4
            have x1 : Ext X.K F H π (Mt F ρ S π lo lf) H π (Mt F (st ρ i' (.v a)) S π lo lf) := Ext.refl.ofCall (fun _ h => h) (fun _ h => h) fun b m => mt_st_v m
            obtain ⟨a2, vs2, rfl, z1, z2⟩ := (r2.keep x1.toKeeps).tup_inv
            obtain ⟨k1, k2⟩ := gAll_ok (s.asgV r1) z2 e2 (fun σ' H' => gNil [] σ' H' R) fun σ1 x2 s2 => ⟨rfl, q σ1 rfl (x1.trans x2) s2⟩
            exact ⟨ad, _, rfl, y1, rfl, _, _, rfl, _, _, rfl, ⟨a2, vs2, rfl, z1, k2, k1⟩⟩
      · cases e
    · cases e
  · cases e
theorem sndS_forN {it t : Expr} {us : List Expr} {sb : List Stmt} {kb : List CS} {src : Src} {i : Nat} {is : List Nat} {kk k2 : Nat} {p2 : Pos} (ok : Dok X Γ) (h0 : slotsOf X.env.scope X.N [t] = some [i]) (h : slotsOf X.env.scope X.N us = some is) (hi : SndI X Γ (.Tuple [t, .Tuple us k2 p2] kk p) it src) (hb : SndSs X Γ sb kb) (hfs : ∀ v, foldedSetIterable it X.env v = pure v) : SndS X Γ (.For (.Tuple [t, .Tuple us k2 p2] kk p) it sb [] pos) (.forN i is src kb) := fun H0 F ρ S σ H π lo lf s fl ρ' S' h' D w => by
  simp only [evS] at h'
  exact for_gen ok hi (tg_nest ok h0 h) hb hfs s h' w
theorem sndS_asgT {ts : List Expr} {is : List Nat} {kk : Nat} {e : Expr} (he : (∃ g as ks cp, e = .Call g as ks cp) ∨ (∃ a b cp, e = .Subscript a b cp) ∨ ∃ x cp, e = .Name x cp) (ok : Dok X Γ) (h : slotsOf X.env.scope X.N ts = some is) (ha : SndE X Γ e ca) : SndS X Γ (.Assign [.Tuple ts kk p] e pos) (.asgT is ca) := fun H0 F ρ S σ H π lo lf s fl ρ' S' h' D w => by
  simp only [evS] at h'
  obtain ⟨y, ρ1, S1, h1, g1⟩ := bind_ok_inv h'
  clear h'
  obtain ⟨gg, hpg, hgg⟩ := tg_tup (p := p) (kk := kk) ok h
  refine ⟨_, ps_asg (mxE X _) hpg (by rcases he with ⟨_, _, _, _, rfl⟩ | ⟨_, _, _, rfl⟩ | ⟨_, _, rfl⟩ <;> rfl) (by rcases he with ⟨_, _, _, _, rfl⟩ | ⟨_, _, _, rfl⟩ | ⟨_, _, rfl⟩ <;> rfl) rfl, ha.sh s h1 fun v H1 π1 lf1 x1 s1 r1 => ?_⟩
  refine hgg _ _ _ _ _ _ _ _ _ _ _ _ _ _ s1 r1 g1 _ fun σ2 e x2 s2 => ?_
  have := w.go σ2 H1 π1 lo lf1 (x1.trans x2) s2
  rw [e] at this
  exact this
end
end Ht

set_option Elab.async false
set_option linter.all false
set_option maxRecDepth 100000
set_option maxHeartbeats 1000000
/-! ### soundness: stores to fields, told lists spoilt -/
namespace Ht
open PySem L2
theorem swaps_attr {e o : Expr} {f : Str} {p : Pos} {l : Nat} {env : PySem.Env} : swapsWith e (some (.Attribute o f p)) l env = pure false := by
  cases e <;> rfl
section
variable {X : Cx} {Γ : Ctx} {e a b : Expr} {c ca cb : CE} {k : CT} {p pos : Pos}
theorem sndS_fset {own : Bool} {f : Str} {p2 : Pos} (hb : isRecvM a = true) (hf : f ∈ fldNames) (ha : SndE X Γ a ca) (he : SndE X Γ e c) : SndS X Γ (.Assign [.Attribute a f p2] e pos) (.fset own ca f c) := fun H0 F ρ S σ H π lo lf s fl ρ' S' h D w => by
  simp only [evS] at h
  obtain ⟨y, ρ1, S1, h1, g⟩ := bind_ok_inv h
  obtain ⟨x, ρ2, S2, h2, g2⟩ := bind_ok_inv g
  clear h g
  split at g2
  · rename_i n
    split at g2
    · rename_i cc fs hS
      split at g2
      · rename_i hlen
        cases g2
        refine ⟨_, ps_fld (mxE X a) (mxE X e) swaps_attr, he _ _ _ _ _ _ _ _ _ s _ _ _ h1 _ fun v H1 π1 lf1 x1 k1 => ?_⟩
        have shr : ownSl own y = .v y.d → MxE X a σ H1 fun x H2 => ∃ a C dx fs, x = .ref a ∧ H2 a = some (.ins C dx fs) ∧ Cls X.K C ∧ NoAttr X.K C f ∧ fs.length < 1000 ∧ D.nx σ (upd H2 a (.ins C dx (putF f v fs))) := fun eo => by
          rw [eo] at w
          obtain ⟨s1, r1⟩ := k1.sh
          refine ha.sh s1 h2 fun v2 H2 π2 lf2 x2 s2 r2 => ?_
          obtain ⟨q, rfl, hq⟩ := r2.ref_inv
          obtain ⟨c', fs', e', a', C', dx, vfs, k1', k2, k3, k4, k5⟩ := s2.ok.cell n _ hS
          cases e'
          rw [hq] at k1'
          cases k1'
          have r1' := r1.keep x2.toKeeps
          obtain ⟨s3, x3⟩ := s2.putFld (F := F) (f := f) (y := .v y.d) (v := v) (p := 0) (fun _ h => h) hS hq k2 k3 k4 k5 (fun ds z => by cases z) ⟨v, rfl, r1'⟩
          refine ⟨q, C', dx, vfs, rfl, k2, k3.2.1, k3.2.2 f hf, ?_, w.go σ _ _ lo _ (x1.trans (x2.trans x3)) s3⟩
          have := congrArg List.length k4
          simp only [List.length_map] at this
          omega
        cases own with
        | false => exact shr (by cases y <;> rfl)
        | true =>
          cases y with
          | sh d => exact shr rfl
          | fr ds =>
            obtain ⟨b, vs, rfl, e1, e2, e3, s1, e5⟩ := k1
            refine ha.sh s1 h2 fun v2 H2 π2 lf2 x2 s2 r2 => ?_
            obtain ⟨q, rfl, hq⟩ := r2.ref_inv
            obtain ⟨c', fs', e', a', C', dx, vfs, k1', k2, k3, k4, k5⟩ := s2.ok.cell n _ hS
            cases e'
            rw [hq] at k1'
            cases k1'
            have nb : ¬ Mt F ρ' S2 π2 lo lf2 b := fun m => by
              rcases m with m | ⟨i, es, m, z⟩ | m | ⟨n', f', es, m, z⟩
              · exact e3 (.inl m)
              · exact (s2.nf i es m).1 (.inr z.symm)
              · exact s2.np b m (.inr rfl)
              · exact s2.nq n' f' es m (.inr z.symm)
            have hb2 : H2 b = some (.lst vs) := x2.fo b _ (.inr rfl) e1
            obtain ⟨s3, x3⟩ := s2.putFld (F := F) (f := f) (y := .own ds) (v := .ref b) (p := b) (fun _ h => .inl h) hS hq k2 k3 k4 k5 (fun ds z => ⟨.inr rfl, nb⟩) ⟨rfl, vs, hb2, e5.keep x2.toKeeps⟩
            refine ⟨q, C', dx, vfs, rfl, k2, k3.2.1, k3.2.2 f hf, ?_, w.go σ _ _ lo _ ⟨⟨?_, fun z o hz lz m => ?_, fun z ws hz => x3.tp z ws (x2.tp z ws (x1.tp z ws hz)), fun z o u hz => x3.fz z o u (x2.fz z o u (x1.fz z o u hz))⟩, fun z o hf hz => x3.fo z o hf (x2.fo z o (.inl hf) (x1.fo z o hf hz)), fun z hz => x1.dm z (x2.dm z (x3.dm z hz))⟩ s3⟩
            · have := congrArg List.length k4
              simp only [List.length_map] at this
              omega
            · obtain ⟨n1, z1⟩ := x1.pi
              obtain ⟨n2, z2⟩ := x2.pi
              exact ⟨n1 ++ n2, by rw [z2, z1, List.append_assoc]⟩
            · obtain ⟨y1, y2⟩ := x1.ls z o hz lz m
              have zb : z ≠ b := fun zz => by
                rw [zz, e2] at hz
                cases hz
              have y3 : ¬ Mt (F.add b) ρ1 S1 π1 lo lf1 z := fun m => by
                rcases m with (m | m) | m
                · exact y2 (.inl m)
                · exact zb m
                · exact y2 (.inr m)
              obtain ⟨y4, y5⟩ := x2.ls z o y1 lz y3
              exact x3.ls z o y4 lz y5
      · cases g2
    · cases g2
  · cases g2
/-- a guarded part: the store's places stay -/
theorem guard_use (hc : SndE X Γ e c) {H0 : Hp} {F : AS} {ρ ρ' : Env} {S S' : Store} {σ : L2.St} {H : Hp} {π : List Addr} {lo : Nat → Addr} {lf : Nat → Str → Addr} (s : Sim X.K H0 F ρ S σ H π lo lf) {r : Rv} (h : ev Γ (.guard [] c) ρ S = .ok r ρ' S') {Q : VK}
    (q : ∀ v H', Ext X.K F H π (Mt F ρ S π lo lf) H' π (Mt F ρ S π lo lf) → Sim X.K H0 F ρ S σ H' π lo lf → Rep X.K H' π (Mt F ρ S π lo lf) v r.d → Q v H') : ρ' = ρ ∧ S' = S ∧ MxE X e σ H Q := by
  obtain ⟨d, ρ1, h1, h2, rfl, rfl, rfl⟩ := guard_inv0 h
  refine ⟨rfl, rfl, hc _ _ _ _ _ _ _ _ _ (s.reader []) _ _ _ h1 _ fun v H1 π1 lf1 x1 k1 => ?_⟩
  obtain ⟨s1, r1⟩ := k1
  obtain ⟨s2, x2⟩ := s.unread [] x1
  have hp := s1.ok.of_nil
  subst hp
  exact q v H1 x2 s2 (r1.lfree h2)
theorem sndS_fapp {f : Str} {p2 ap cp : Pos} (hb : isRecvM a = true) (hf : f ∈ fldNames) (hl : (ap.endLine == cp.line) = true) (hs : isStar e = false) (ha : SndE X Γ a ca) (he : SndE X Γ e c) : SndS X Γ (.Expr (.Call (.Attribute (.Attribute a f p2) "append" ap) [e] [] cp) pos) (.fapp ca f c) := fun H0 F ρ S σ H π lo lf s fl ρ' S' h D w => by
  simp only [evS] at h
  obtain ⟨x, ρ1, S1, h1, g⟩ := bind_ok_inv h
  clear h
  split at g
  · rename_i n
    split at g
    · rename_i ds hd
      obtain ⟨y, ρ2, S2, h2, g2⟩ := bind_ok_inv g
      clear g
      split at g2
      · rename_i hz
        cases g2
        refine ⟨_, ps_expr (pe_bm PySem.F.plainAttrs_list PySem.F.slot_list_append PySem.F.type_list_append mt_append (pe_fld (mxE X a) (recvM_base hb)) (pa_cons (mxE X e) pa_nil (star_cons hs)) rfl (by rw [star_cons hs]; rfl) hl (star_cons hs) rfl) rfl, ?_⟩
        refine own_read hb hf ha s h1 hd _ fun vs H1 π1 lf1 x1 s1 e3 e4 => ?_
        refine ⟨.inl ⟨rfl, _, SqL.of e3⟩, ?_⟩
        have key := guard_use (Q := fun v H2 => ∃ l xs z, V.ref (lf1 n f) = .ref l ∧ [v] = [z] ∧ H2 l = some (.lst xs) ∧ xs.length < sizeLine ∧ D.nx σ (upd H2 l (.lst (xs ++ [z])))) he s1 h2 fun v H2 x2 s2 r2 => ?_
        · exact key.2.2
        · have hρ : ρ' = ρ1 ∧ S2 = S1 := by
            obtain ⟨d, ρ3, q1, q2, q3, q4, q5⟩ := guard_inv0 h2
            exact ⟨q4, q5⟩
          obtain ⟨rfl, rfl⟩ := hρ
          obtain ⟨_, _, _, _, _, _, ws, _, _, _, _, _, _, _, _, g3, g4⟩ := s2.ok.own hd
          obtain ⟨s3, x3⟩ := s2.setOwnF hd (g4.append (.cons r2 .nil))
          exact ⟨_, ws, v, rfl, rfl, g3, by rw [g4.length]; exact hz, w.go σ _ _ lo _ (x1.trans (x2.trans x3)) s3⟩
      · cases g2
    · cases g
  · cases g
theorem sndS_fappF {f g : Str} {i j : Nat} {x y : Str} {px py p2 p3 ap cp : Pos} (hNx : X.N[i]? = some x) (hvx : Vis X.env.scope x) (hdx : (x == ("__debug__" : Str)) = false) (hcx : (x == ("__classdict__" : Str)) = false) (hNy : X.N[j]? = some y) (hvy : Vis X.env.scope y) (hdy : (y == ("__debug__" : Str)) = false) (hcy : (y == ("__classdict__" : Str)) = false)
    (hf : f ∈ fldNames) (hg : g ∈ fldNames) (hl : (ap.endLine == cp.line) = true) : SndS X Γ (.Expr (.Call (.Attribute (.Attribute (.Name x px) f p2) "append" ap) [.Attribute (.Name y py) g p3] [] cp) pos) (.fappF i f j g) := fun H0 F ρ S σ H π lo lf s fl ρ' S' h D w => by
  simp only [evS] at h
  split at h
  · rename_i n m hi hj
    split at h
    · rename_i ds d hd hd2
      split at h
      · rename_i hz
        cases h
        refine ⟨_, ps_expr (pe_bm PySem.F.plainAttrs_list PySem.F.slot_list_append PySem.F.type_list_append mt_append (pe_fld (pe_var hNx hvx hdx hcx) rfl) (pa_cons (pe_fld (pe_var hNy hvy hdy hcy) rfl) pa_nil (star_cons rfl)) rfl (by rw [star_cons rfl]; rfl) hl (star_cons rfl) rfl) rfl, ?_⟩
        obtain ⟨v1, q1, r1⟩ := s.sl i _ hi
        obtain ⟨v2, q2, r2⟩ := s.sl j _ hj
        obtain ⟨a1, rfl, u1⟩ := r1.ref_inv
        obtain ⟨a2, rfl, u2⟩ := r2.ref_inv
        obtain ⟨c1, fs, a', C, dx, vfs, vs, hS, ha', hH, hC, hk, hv, e1, e2, e3, e4⟩ := s.ok.own hd
        rw [u1] at ha'
        cases ha'
        obtain ⟨c2, fs2, a'', C2, dx2, vfs2, z, hS2, ha2', hH2, hC2, hl2, hr2⟩ := s.ok.val hd2
        rw [u2] at ha2'
        cases ha2'
        refine ⟨_, q1, a1, C, dx, vfs, _, rfl, hH, hC.2.1, hC.2.2 f hf, e2, .inl ⟨rfl, _, SqL.of e3⟩, _, q2, a2, C2, dx2, vfs2, z, rfl, hH2, hC2.2.1, hC2.2.2 g hg, hl2, ?_⟩
        obtain ⟨s3, x3⟩ := s.setOwnF hd (e4.append (.cons hr2 .nil))
        exact ⟨_, vs, z, rfl, rfl, e3, by rw [e4.length]; exact hz, w.go σ _ _ lo _ x3 s3⟩
      · cases h
    · cases h
  · cases h
/-- several new lists at once -/
def frAll (F : AS) (as : List Addr) : AS := fun a => F a ∨ a ∈ as
theorem frAll_use : ∀ {es : List Expr} {cs : List CE}, es.any isStar = false → (∀ e c, (e, c) ∈ es.zip cs → SndE X Γ e c) → es.length = cs.length → ∀ {H0 : Hp} {F : AS} {ρ ρ' : Env} {S S' : Store} {σ : L2.St} {H : Hp} {π : List Addr} {lo : Nat → Addr} {lf : Nat → Str → Addr}, Sim X.K H0 F ρ S σ H π lo lf → evFr Γ cs ρ S = .ok () ρ' S' → ∀ {Q : List V → Hp → Prop},
    (∀ (as : List Addr) H' π' lf', Ext X.K F H π (Mt F ρ S π lo lf) H' π' (Mt F ρ' S' π' lo lf') → Sim X.K H0 (frAll F as) ρ' S' σ H' π' lo lf' → (∀ a ∈ as, ∃ vs, H' a = some (.lst vs) ∧ vs.length + 1000 < big) → (∀ a ∈ as, H a = none) → as.length = es.length → Q (as.map V.ref) H') → MxA X es σ H Q
  | [], [], _, _, _, H0, F, ρ, ρ', S, S', σ, H, π, lo, lf, s, h, Q, q => by
    simp only [evFr] at h
    cases h
    exact ⟨_, pa_nil, q [] H π lf .refl (s.less fun a h => h.elim id (by simp)) (by simp) (by simp) rfl⟩
  | [], _ :: _, _, _, hl, _, _, _, _, _, _, _, _, _, _, _, _, _, _, _ => by simp at hl
  | _ :: _, [], _, _, hl, _, _, _, _, _, _, _, _, _, _, _, _, _, _, _ => by simp at hl
  | e :: es, c :: cs, hs, hse, hl, H0, F, ρ, ρ', S, S', σ, H, π, lo, lf, s, h, Q, q => by
    simp only [List.any_cons, Bool.or_eq_false_iff] at hs
    simp only [evFr] at h
    obtain ⟨x, ρ1, S1, h1, g⟩ := bind_ok_inv h
    clear h
    split at g
    · rename_i ds
      split at g
      · rename_i hz
        refine ⟨_, pa_cons (mxE X e) (mxA X es) (star_cons hs.1), hse e c (by simp) _ _ _ _ _ _ _ _ _ s _ _ _ h1 _ fun v H1 π1 lf1 x1 k1 => ?_⟩
        obtain ⟨b, vs, rfl, e1, e2, e3, s1, e5⟩ := k1
        refine frAll_use (F := F.add b) hs.2 (fun e c hm => hse e c (by simp [hm])) (by simpa using hl) s1 g fun as H2 π2 lf2 x2 s2 e6 e7 e8 => ?_
        refine q (b :: as) H2 π2 lf2 ⟨⟨?_, fun z o hz lz m => ?_, fun z ws hz => x2.tp z ws (x1.tp z ws hz), fun z o u hz => x2.fz z o u (x1.fz z o u hz)⟩, fun z o hf hz => x2.fo z o (.inl hf) (x1.fo z o hf hz), fun z hz => x1.dm z (x2.dm z hz)⟩ (s2.less fun a h => ?_) (fun a ha => ?_) (fun a ha => ?_) (by simp [e8])
        · obtain ⟨n1, z1⟩ := x1.pi
          obtain ⟨n2, z2⟩ := x2.pi
          exact ⟨n1 ++ n2, by rw [z2, z1, List.append_assoc]⟩
        · obtain ⟨y1, y2⟩ := x1.ls z o hz lz m
          have y3 : ¬ Mt (F.add b) ρ1 S1 π1 lo lf1 z := fun m => by
            rcases m with (m | m) | m
            · exact y2 (.inl m)
            · rw [m, e2] at hz
              cases hz
            · exact y2 (.inr m)
          obtain ⟨y4, y5⟩ := x2.ls z o y1 lz y3
          refine ⟨y4, fun m => y5 ?_⟩
          rcases m with m | m
          · exact .inl (.inl m)
          · exact .inr m
        · rcases h with h | h
          · exact .inl (.inl h)
          · rcases List.mem_cons.mp h with h | h
            · exact .inl (.inr h)
            · exact .inr h
        · rcases List.mem_cons.mp ha with h | h
          · subst h
            refine ⟨vs, x2.fo _ _ (.inr rfl) e1, ?_⟩
            rw [e5.length]
            exact hz
          · exact e6 a h
        · rcases List.mem_cons.mp ha with h | h
          · subst h
            exact e2
          · exact x1.dm a (e7 a h)
      · cases g
    · cases g
/-- a slot is forgotten -/
theorem Sim.forget {H0 : Hp} {F : AS} {ρ : Env} {S : Store} {σ σ' : L2.St} {H : Hp} {π : List Addr} {lo : Nat → Addr} {lf : Nat → Str → Addr} {i : Nat} {K : Fg} (s : Sim K H0 F ρ S σ H π lo lf) (hσ : ∀ j, i ≠ j → σ'[j]? = σ[j]?) (hl : σ'.length = σ.length) : Sim K H0 F (st ρ i .no) S σ' H π lo lf ∧ ∀ a, Mt F (st ρ i .no) S π lo lf a → Mt F ρ S π lo lf a := by
  have own : ∀ j ds, gt (st ρ i .no) j = .own ds → i ≠ j ∧ gt ρ j = .own ds := fun j ds h => by
    by_cases e : i = j
    · subst e
      by_cases hl : i < ρ.length
      · rw [gt_st_same hl] at h
        cases h
      · rw [st_ge (by omega), gt_ge (by omega)] at h
        cases h
    · rw [gt_st_ne e] at h
      exact ⟨e, h⟩
  have less : ∀ a, Mt F (st ρ i .no) S π lo lf a → Mt F ρ S π lo lf a := fun a m => by
    rcases m with m | ⟨j, ds, m, e⟩ | m
    · exact .inl m
    · exact .inr (.inl ⟨j, ds, (own j ds m).2, e⟩)
    · exact .inr (.inr m)
  refine ⟨⟨fun j d e => ?_, fun j ds e => ?_, fun j k ds es e1 e2 => s.inj j k ds es (own j ds e1).2 (own k es e2).2, fun j ds e => s.nf j ds (own j ds e).2, s.np, s.nq, by rw [st_length, hl]; exact s.len, s.ok.keep (.less less) (fun _ _ _ q => q) (fun _ _ _ _ _ q => q), s.dm, s.fh⟩, less⟩
  · by_cases c : i = j
    · subst c
      by_cases hl : i < ρ.length
      · rw [gt_st_same hl] at e
        cases e
      · rw [st_ge (by omega), gt_ge (by omega)] at e
        cases e
    · rw [gt_st_ne c] at e
      obtain ⟨v, q1, q2⟩ := s.sl j d e
      exact ⟨v, by rw [hσ j c]; exact q1, q2.less less⟩
  · obtain ⟨c, e'⟩ := own j ds e
    obtain ⟨q1, vs, q2, q3⟩ := s.ow j ds e'
    exact ⟨by rw [hσ j c]; exact q1, vs, q2, q3.less less⟩
/-- a new list is written over -/
theorem Ext.updNew {K : Fg} {F : AS} {H H' : Hp} {π π' : List Addr} {M M' : AS} {a : Addr} {vs ws : List V} (x : Ext K F H π M H' π' M') (ha : H a = none) (hF : ¬ F a) (h : H' a = some (.lst vs)) : Ext K F H π M (upd H' a (.lst ws)) π' M' :=
  ⟨⟨x.pi, fun b o hb l m => ⟨by rw [upd_ne (ne_of_none hb ha)]; exact (x.ls b o hb l m).1, (x.ls b o hb l m).2⟩, fun b us hb => sqt_lst h (x.tp b us hb), fun b o u hb => by rw [upd_ne (ne_of_none hb ha)]; exact x.fz b o u hb⟩,
    fun b o hf hb => by rw [upd_ne (show b ≠ a from fun z => hF (z ▸ hf))]; exact x.fo b o hf hb, fun b hb => x.dm b (upd_none hb)⟩
theorem sndS_spoil {es : List Expr} {cv : Expr → CE} {i : Nat} {x : Str} {tp lp ap cp xp : Pos} {kk : Int} {k0 : Nat} {kp yp : Pos} (ok : Dok X Γ) (hlen : es.length < 1000) (hN : X.N[i]? = some x) (hx : Loc X.env.scope x) (hv : Vis X.env.scope x) (hd : (x == ("__debug__" : Str)) = false) (hcd : (x == ("__classdict__" : Str)) = false) (hs : es.any isStar = false) (hl : (ap.endLine == cp.line) = true) (he : ∀ e ∈ es, SndE X Γ e (cv e)) :
    SndS X Γ (.For (.Name x tp) (.List es lp) [.Expr (.Call (.Attribute (.Name x yp) "append" ap) [.Constant (.int kk) k0 kp] [] cp) xp] [] pos) (.spoil i (es.map cv)) := fun H0 F ρ S σ H π lo lf s fl ρ' S' h D w => by
  simp only [evS] at h
  obtain ⟨u, ρ1, S1, h1, g⟩ := bind_ok_inv h
  clear h
  split at g
  case isFalse => cases g
  rename_i hil
  cases g
  refine ⟨_, ps_for ok.ps ok.calm (pi_list (pe_lst (mxA X es))) (pg_name ok.nd hN hx (.inl (ok.fn x))) (pss_one (ps_expr (pe_bm PySem.F.plainAttrs_list PySem.F.slot_list_append PySem.F.type_list_append mt_append (pe_var hN hv hd hcd) (pa_cons pe_int pa_nil (star_cons rfl)) rfl (by rw [star_cons rfl]; rfl) hl (star_cons rfl) rfl) rfl)) (fun _ => rfl), ?_⟩
  refine frAll_use (cs := es.map cv) hs (fun e c hm => ?_) (by simp) s h1 fun as H1 π1 lf1 x1 s1 e6 e7 e8 => ?_
  · have : ∀ (l : List Expr) (e : Expr) (c : CE), (e, c) ∈ l.zip (l.map cv) → e ∈ l ∧ c = cv e := by
      intro l
      induction l with
      | nil => intro e c h; simp at h
      | cons a r ih =>
        intro e c h
        simp only [List.map_cons, List.zip_cons_cons, List.mem_cons] at h
        rcases h with h | h
        · cases h
          exact ⟨by simp, rfl⟩
        · obtain ⟨q1, q2⟩ := ih e c h
          exact ⟨by simp [q1], q2⟩
    obtain ⟨q1, rfl⟩ := this es e c hm
    exact he e q1
  · have hln : (as.map V.ref).length = as.length := List.length_map ..
    refine ⟨by rw [hln, e8]; show es.length ≤ 2 ^ 24; omega, fun q hq => ⟨q, rfl, ⟨_, SqL.of upd_same⟩, ?_⟩⟩
    have hqH : H q = none := x1.dm q hq
    have hnF : ∀ a, H a = none → ¬ F a := fun a h m => s.fh a m h
    have hqa : ∀ a ∈ as, a ≠ q := fun a ha z => by
      obtain ⟨vs, h1, _⟩ := e6 a ha
      rw [z, hq] at h1
      cases h1
    have s2 : Sim X.K H0 (frAll F (q :: as)) ρ1 S' σ (upd H1 q (.lst (as.map V.ref))) π1 lo lf1 := (s1.newF hq).less fun a h => by
      rcases h with h | h
      · exact .inl (.inl h)
      · rcases List.mem_cons.mp h with h | h
        · exact .inr h
        · exact .inl (.inr h)
    obtain ⟨s3, l3⟩ := s2.forget (i := i) (σ' := σ) (fun _ _ => rfl) rfl
    have x2 : Ext X.K F H π (Mt F ρ S π lo lf) (upd H1 q (.lst (as.map V.ref))) π1 (Mt F (st ρ1 i .no) S' π1 lo lf1) := by
      have sF : Sim X.K H0 F ρ1 S' σ H1 π1 lo lf1 := s1.less fun a h => .inl h
      exact (x1.trans (Ext.new hq sF)).ofCall (fun _ h => h) (fun _ h => h) fun a m => (sF.forget (i := i) (σ' := σ) (fun _ _ => rfl) rfl).2 a m
    refine for_list (K := X.K) (a := q) (xs := as.map V.ref) (fun j σ2 H2 => Sim X.K H0 (frAll F (q :: as)) (st ρ1 i .no) S' σ2 H2 π1 lo lf1 ∧ H2 q = some (.lst (as.map V.ref)) ∧ (∀ a ∈ as, ∃ vs, H2 a = some (.lst vs) ∧ vs.length + 1000 < big + j) ∧ Ext X.K F H π (Mt F ρ S π lo lf) H2 π1 (Mt F (st ρ1 i .no) S' π1 lo lf1))
      ⟨s3, upd_same, fun a ha => ?_, x2⟩ (fun j σ2 H2 _ hp => SqL.of hp.2.1) (fun j x σ2 H2 hx hp => ?_) fun σ2 H2 hp => ?_
    · obtain ⟨vs, h1, h2⟩ := e6 a ha
      exact ⟨vs, by rw [upd_ne (hqa a ha)]; exact h1, by omega⟩
    · obtain ⟨t1, t2, t3, t4⟩ := hp
      rw [List.getElem?_map, Option.map_eq_some_iff] at hx
      obtain ⟨a, ha, rfl⟩ := hx
      have ham : a ∈ as := List.mem_of_getElem? ha
      have hj : j < 1000 := by
        have := (List.getElem?_eq_some_iff.mp ha).1
        omega
      obtain ⟨vs, g1, g2⟩ := t3 a ham
      have hil : i < σ2.length := by
        rw [t1.len, st_length]
        exact hil
      show ∃ v, (σ2.set i (some (.ref a)))[i]? = some (some v) ∧ _
      refine ⟨.ref a, List.getElem?_set_self hil, .inl ⟨rfl, _, SqL.of g1⟩, a, vs, .int kk, rfl, rfl, g1, ?_, ?_⟩
      · show vs.length < big
        omega
      · have t5 := (t1.setF (ws := vs ++ [.int kk]) (.inr (by simp [ham])) g1).forget (i := i) (σ' := σ2.set i (some (.ref a))) (fun k hk => List.getElem?_set_ne hk) (List.length_set ..)
        have hst : st (st ρ1 i .no) i .no = st ρ1 i .no := st_st ..
        rw [hst] at t5
        refine ⟨t5.1, by rw [upd_ne (Ne.symm (hqa a ham))]; exact t2, fun b hb => ?_, t4.updNew (e7 a ham) (hnF a (e7 a ham)) g1⟩
        by_cases z : b = a
        · subst z
          exact ⟨_, upd_same, by simp; omega⟩
        · obtain ⟨us, u1, u2⟩ := t3 b hb
          exact ⟨us, by rw [upd_ne z]; exact u1, by omega⟩
    · obtain ⟨t1, t2, t3, t4⟩ := hp
      exact w.go σ2 H2 π1 lo lf1 t4 (t1.less fun a h => .inl h)
end
end Ht

set_option Elab.async false
set_option linter.all false
set_option maxRecDepth 100000
set_option maxHeartbeats 1000000
/-! ### soundness: what is raised within an expression -/
namespace Ht
open PySem L2
/-- where what is raised leads -/
def XTo (K : Fg) (xc : Str → Option Nat) (H0 : Hp) (F : AS) (ρ : Env) (S : Store) (H : Hp) (π : List Addr) (lo : Nat → Addr) (lf : Nat → Str → Addr) (σ : L2.St) (W : WX) (x : Xn) (ρ' : Env) (S' : Store) : Prop :=
  ∀ cls d H' π' lf', Ext K F H π (Mt F ρ S π lo lf) H' π' (Mt F ρ' S' π' lo lf') → Sim K H0 F ρ' S' σ H' π' lo lf' → ExcOk K xc x cls d H' → W cls d σ H'
theorem XTo.after {K : Fg} {xc : Str → Option Nat} {H0 : Hp} {F : AS} {ρ ρ1 ρ' : Env} {S S1 S' : Store} {H H1 : Hp} {π π1 : List Addr} {lo : Nat → Addr} {lf lf1 : Nat → Str → Addr} {σ : L2.St} {W : WX} {x : Xn} (w : XTo K xc H0 F ρ S H π lo lf σ W x ρ' S') (x1 : Ext K F H π (Mt F ρ S π lo lf) H1 π1 (Mt F ρ1 S1 π1 lo lf1)) : XTo K xc H0 F ρ1 S1 H1 π1 lo lf1 σ W x ρ' S' :=
  fun cls d H' π' lf' y s e => w cls d H' π' lf' (x1.trans y) s e
def XndE (X : Cx) (Γ : Ctx) (e : Expr) (c : CE) : Prop := ∀ W, L2N.Takes X W → ∀ H0 F ρ S σ H π lo lf, Sim X.K H0 F ρ S σ H π lo lf → ∀ x ρ' S', ev Γ c ρ S = .exc x ρ' S' → XTo X.K Γ.xc H0 F ρ S H π lo lf σ W x ρ' S' → ∀ Q : VK, MxE X e σ H Q
def XndT (X : Cx) (Γ : Ctx) (e : Expr) (c : CT) : Prop := ∀ W, L2N.Takes X W → ∀ H0 F ρ S σ H π lo lf, Sim X.K H0 F ρ S σ H π lo lf → ∀ x ρ' S', evT Γ c ρ S = .exc x ρ' S' → XTo X.K Γ.xc H0 F ρ S H π lo lf σ W x ρ' S' → ∀ Q : Bool → Hp → Prop, MxT X e σ H Q
def XndA (X : Cx) (Γ : Ctx) (es : List Expr) (cs : List CE) : Prop := ∀ W, L2N.Takes X W → ∀ H0 F ρ S σ H π lo lf, Sim X.K H0 F ρ S σ H π lo lf → ∀ x ρ' S', evs Γ cs ρ S = .exc x ρ' S' → XTo X.K Γ.xc H0 F ρ S H π lo lf σ W x ρ' S' → ∀ Q : List V → Hp → Prop, MxA X es σ H Q
/-! ### what never raises -/
def NE {α : Type} (o : Out α) : Prop := ∀ x ρ S, o ≠ .exc x ρ S
section
variable {α β : Type} {ρ : Env} {S : Store}
theorem ne_ok {a : α} : NE (.ok a ρ S) := fun _ _ _ z => by cases z
theorem ne_bad : NE (.bad : Out α) := fun _ _ _ z => by cases z
theorem ne_of' {o : Option α} : NE (Out.of o ρ S) := fun _ _ _ z => of_exc_inv z
theorem ne_okOnly {m : Out α} : NE m.okOnly := fun _ _ _ z => Out.okOnly_exc z
theorem ne_bindB {m : Out α} {f : α → Env → Store → Out β} (h : ∀ a ρ S, NE (f a ρ S)) : NE (m.bindB f) := fun x ρ' S' z => by
  obtain ⟨a, ρ1, S1, _, g⟩ := bindB_exc_inv z
  exact h _ _ _ _ _ _ g
end
def CE.calm : CE → Bool
  | .cmp _ _ _ | .band _ _ | .bor _ _ | .ite _ _ _ | .call _ _ | .tup _ | .lst _ | .fld _ _ | .meth _ _ _ | .make _ _ => false
  | _ => true
theorem calm_ne {Γ : Ctx} {c : CE} (h : c.calm = true) (ρ : Env) (S : Store) : NE (ev Γ c ρ S) := by
  cases c <;> first | (exact (Bool.false_ne_true h).elim) | simp only [ev]
  all_goals repeat' (first | exact ne_ok | exact ne_bad | exact ne_of' | exact ne_okOnly | (apply ne_bindB; intro _ _ _) | split)
section
variable {X : Cx} {Γ : Ctx} {e a b : Expr} {c ca cb : CE} {k ka kb : CT} {p pos : Pos}
theorem xnd_calm (h : c.calm = true) : XndE X Γ e c := fun W tk H0 F ρ S σ H π lo lf s x ρ' S' hv w Q => absurd hv (calm_ne h ρ S x ρ' S')
theorem xnd_unk : XndE X Γ e CE.unk := xnd_calm rfl
theorem xnd_grd {is : List Nat} (h : XndE X Γ e c) : XndE X Γ e (grd is c) := by
  unfold grd
  split
  · exact h
  · exact xnd_calm rfl
theorem xndA_nil : XndA X Γ [] [] := fun W tk H0 F ρ S σ H π lo lf s x ρ' S' hv => by simp only [evs] at hv; cases hv
theorem xndA_cons {es : List Expr} {cs : List CE} (hs : isStar e = false) (he : SndE X Γ e c) (hx : XndE X Γ e c) (hr : XndA X Γ es cs) : XndA X Γ (e :: es) (c :: cs) := fun W tk H0 F ρ S σ H π lo lf s x ρ' S' hv w Q => by
  simp only [evs] at hv
  refine ⟨_, pa_cons (mxE X e) (mxA X es) (star_cons hs), ?_⟩
  rcases bind_exc_inv hv with h1 | ⟨y, ρ1, S1, h1, g⟩
  · exact hx W tk _ _ _ _ _ _ _ _ _ s _ _ _ h1 w _
  · rcases bind_exc_inv g with h2 | ⟨z, ρ2, S2, h2, g2⟩
    · exact he.sh s h1 fun v H1 π1 lf1 x1 s1 r1 => hr W tk _ _ _ _ _ _ _ _ _ s1 _ _ _ h2 (w.after x1) _
    · cases g2
theorem xndA_all {es : List Expr} {cv : Expr → CE} (hs : es.any isStar = false) (he : ∀ e, SndE X Γ e (cv e)) (hx : ∀ e, XndE X Γ e (cv e)) : XndA X Γ es (es.map cv) := by
  induction es with
  | nil => exact xndA_nil
  | cons e es ih =>
    simp only [List.any_cons, Bool.or_eq_false_iff] at hs
    exact xndA_cons hs.1 (he e) (hx e) (ih hs.2)
theorem xnd_tup {es : List Expr} {cs : List CE} {kk : Nat} (hA : XndA X Γ es cs) : XndE X Γ (.Tuple es kk pos) (.tup cs) := fun W tk H0 F ρ S σ H π lo lf s x ρ' S' hv w Q => by
  simp only [ev] at hv
  rcases bind_exc_inv hv with h1 | ⟨y, ρ1, S1, h1, g⟩
  · exact ⟨_, pe_tup (mxA X es), hA W tk _ _ _ _ _ _ _ _ _ s _ _ _ h1 w _⟩
  · split at g <;> cases g
theorem xnd_lst {es : List Expr} {cs : List CE} (hA : XndA X Γ es cs) : XndE X Γ (.List es pos) (.lst cs) := fun W tk H0 F ρ S σ H π lo lf s x ρ' S' hv w Q => by
  simp only [ev] at hv
  rcases bind_exc_inv hv with h1 | ⟨y, ρ1, S1, h1, g⟩
  · exact ⟨_, pe_lst (mxA X es), hA W tk _ _ _ _ _ _ _ _ _ s _ _ _ h1 w _⟩
  · split at g <;> cases g
theorem xnd_band {r : List Expr} (ha : SndE X Γ a ca) (hx : XndE X Γ a ca) (hy : XndE X Γ (.BoolOp .And (b :: r) pos) cb) : XndE X Γ (.BoolOp .And (a :: b :: r) pos) (.band ca cb) := fun W tk H0 F ρ S σ H π lo lf s x ρ' S' hv w Q => by
  simp only [ev] at hv
  refine ⟨_, pe_and (mxE X a) (mxE X _), ?_⟩
  rcases bind_exc_inv hv with h1 | ⟨y, ρ1, S1, h1, g⟩
  · exact hx W tk _ _ _ _ _ _ _ _ _ s _ _ _ h1 w _
  · rcases bind_exc_inv g with h2 | ⟨z, ρ2, S2, h2, g2⟩
    · exact (of_exc_inv h2).elim
    · obtain ⟨h3, rfl, rfl⟩ := of_ok_inv h2
      have := isB_inv h3
      subst this
      refine ha.sh s h1 fun v1 H1 π1 lf1 x1 s1 r1 => ⟨z, r1.bl_inv, ?_⟩
      cases z with
      | true => exact iteT (hy W tk _ _ _ _ _ _ _ _ _ s1 _ _ _ g2 (w.after x1) Q)
      | false => cases g2
theorem xnd_bor {r : List Expr} (ha : SndE X Γ a ca) (hx : XndE X Γ a ca) (hy : XndE X Γ (.BoolOp .Or (b :: r) pos) cb) : XndE X Γ (.BoolOp .Or (a :: b :: r) pos) (.bor ca cb) := fun W tk H0 F ρ S σ H π lo lf s x ρ' S' hv w Q => by
  simp only [ev] at hv
  refine ⟨_, pe_or (mxE X a) (mxE X _), ?_⟩
  rcases bind_exc_inv hv with h1 | ⟨y, ρ1, S1, h1, g⟩
  · exact hx W tk _ _ _ _ _ _ _ _ _ s _ _ _ h1 w _
  · rcases bind_exc_inv g with h2 | ⟨z, ρ2, S2, h2, g2⟩
    · exact (of_exc_inv h2).elim
    · obtain ⟨h3, rfl, rfl⟩ := of_ok_inv h2
      have := isB_inv h3
      subst this
      refine ha.sh s h1 fun v1 H1 π1 lf1 x1 s1 r1 => ⟨z, r1.bl_inv, ?_⟩
      cases z with
      | false => exact iteF (hy W tk _ _ _ _ _ _ _ _ _ s1 _ _ _ g2 (w.after x1) Q)
      | true => cases g2
theorem xnd_one {op : BoolOp} (ha : XndE X Γ a ca) : XndE X Γ (.BoolOp op [a] pos) ca := fun W tk H0 F ρ S σ H π lo lf s x ρ' S' hv w Q => ⟨_, pe_one (mxE X a), ha W tk _ _ _ _ _ _ _ _ _ s _ _ _ hv w Q⟩
theorem xnd_ite {t : Expr} {ct : CT} (ht : SndT X Γ t ct) (hx : XndT X Γ t ct) (ha : XndE X Γ a ca) (hb : XndE X Γ b cb) : XndE X Γ (.IfExp t a b pos) (.ite ct ca cb) := fun W tk H0 F ρ S σ H π lo lf s x ρ' S' hv w Q => by
  simp only [ev] at hv
  refine ⟨_, pe_ifExp (mxT X t) (mxE X a) (mxE X b), ?_⟩
  rcases bind_exc_inv hv with h1 | ⟨y, ρ1, S1, h1, g⟩
  · exact hx W tk _ _ _ _ _ _ _ _ _ s _ _ _ h1 w _
  · refine ht _ _ _ _ _ _ _ _ _ s _ _ _ h1 _ fun H1 π1 lf1 x1 s1 => ?_
    cases y with
    | true => exact iteT (ha W tk _ _ _ _ _ _ _ _ _ s1 _ _ _ g (w.after x1) Q)
    | false => exact iteF (hb W tk _ _ _ _ _ _ _ _ _ s1 _ _ _ g (w.after x1) Q)
theorem cmp_exc {op : CmpOp} {ρ ρ' : Env} {S S' : Store} {x : Xn} (hv : ev Γ (.cmp op ca cb) ρ S = .exc x ρ' S') : ev Γ ca ρ S = .exc x ρ' S' ∨ ∃ y ρ1 S1, ev Γ ca ρ S = .ok y ρ1 S1 ∧ ev Γ cb ρ1 S1 = .exc x ρ' S' := by
  simp only [ev] at hv
  rcases bind_exc_inv hv with h1 | ⟨y, ρ1, S1, h1, g⟩
  · exact .inl h1
  · rcases bind_exc_inv g with h2 | ⟨z, ρ2, S2, h2, g2⟩
    · exact .inr ⟨y, ρ1, S1, h1, h2⟩
    · rcases bind_exc_inv g2 with h3 | ⟨z3, ρ3, S3, h3, g3⟩
      · exact (of_exc_inv h3).elim
      · cases g3
theorem xnd_cmp {op : CmpOp} (hm : behindInMarks op b = false) (ha : SndE X Γ a ca) (hx : XndE X Γ a ca) (hy : XndE X Γ b cb) : XndE X Γ (.Compare a [op] [b] pos) (.cmp op ca cb) := fun W tk H0 F ρ S σ H π lo lf s x ρ' S' hv w Q => by
  refine ⟨_, pe_cmpR opr_never (mxE X a) (mxE X b) hm, ?_⟩
  rcases cmp_exc hv with h1 | ⟨y, ρ1, S1, h1, h2⟩
  · exact hx W tk _ _ _ _ _ _ _ _ _ s _ _ _ h1 w _
  · exact ha.sh s h1 fun v H1 π1 lf1 x1 s1 r1 => hy W tk _ _ _ _ _ _ _ _ _ s1 _ _ _ h2 (w.after x1) _
theorem e_exc {ρ ρ' : Env} {S S' : Store} {x : Xn} (hv : evT Γ (.e c) ρ S = .exc x ρ' S') : ev Γ c ρ S = .exc x ρ' S' := by
  simp only [evT] at hv
  rcases bind_exc_inv hv with h1 | ⟨y, ρ1, S1, h1, g⟩
  · exact h1
  · exact (of_exc_inv g).elim
theorem xndT_cmp {op : CmpOp} (hm : behindInMarks op b = false) (ha : SndE X Γ a ca) (hx : XndE X Γ a ca) (hy : XndE X Γ b cb) : XndT X Γ (.Compare a [op] [b] pos) (.e (.cmp op ca cb)) := fun W tk H0 F ρ S σ H π lo lf s x ρ' S' hv w Q => by
  refine ⟨_, pt_cmpR opr_never (mxE X a) (mxE X b) hm, ?_⟩
  rcases cmp_exc (e_exc hv) with h1 | ⟨y, ρ1, S1, h1, h2⟩
  · exact hx W tk _ _ _ _ _ _ _ _ _ s _ _ _ h1 w _
  · exact ha.sh s h1 fun v H1 π1 lf1 x1 s1 r1 => hy W tk _ _ _ _ _ _ _ _ _ s1 _ _ _ h2 (w.after x1) _
theorem xndT_calm (h : c.calm = true) : XndT X Γ e (.e c) := fun W tk H0 F ρ S σ H π lo lf s x ρ' S' hv w Q => absurd (e_exc hv) (calm_ne h ρ S x ρ' S')
theorem xndT_of (he : ∀ whole, isTrue e X.env whole = (do let v ← whole; standAt e.pos; holding [v] (truthy v))) (h : XndE X Γ e c) : XndT X Γ e (.e c) := fun W tk H0 F ρ S σ H π lo lf s x ρ' S' hv w Q =>
  ⟨_, pt_val (mxE X e) he, h W tk _ _ _ _ _ _ _ _ _ s _ _ _ (e_exc hv) w _⟩
theorem xndT_grd {is : List Nat} (h : XndT X Γ e (.e c)) : XndT X Γ e (.e (grd is c)) := by
  unfold grd
  split
  · exact h
  · exact xndT_calm rfl
theorem xndT_nt (ha : XndT X Γ a ka) : XndT X Γ (.UnaryOp .Not a pos) (.nt ka) := fun W tk H0 F ρ S σ H π lo lf s x ρ' S' hv w Q => by
  simp only [evT] at hv
  rcases bind_exc_inv hv with h1 | ⟨y, ρ1, S1, h1, g⟩
  · exact ⟨_, pt_not (mxT X a), ha W tk _ _ _ _ _ _ _ _ _ s _ _ _ h1 w _⟩
  · cases g
def XndW (X : Cx) (Γ : Ctx) (e : Expr) (c : CT) : Prop := ∀ W, L2N.Takes X W → ∀ H0 F ρ S σ H π lo lf, Sim X.K H0 F ρ S σ H π lo lf → ∀ x ρ' S', evT Γ c ρ S = .exc x ρ' S' → XTo X.K Γ.xc H0 F ρ S H π lo lf σ W x ρ' S' → ∀ Q : Bool → Hp → Prop, MxW X e σ H Q
theorem XndW.t (h : XndW X Γ e k) : XndT X Γ e k := fun W tk H0 F ρ S σ H π lo lf s x ρ' S' hv w Q => by
  obtain ⟨t, h1, h2⟩ := h W tk H0 F ρ S σ H π lo lf s x ρ' S' hv w Q
  exact ⟨t, h1.pt, h2⟩
theorem xndW_one {op : BoolOp} (ha : XndT X Γ a ka) : XndW X Γ (.BoolOp op [a] pos) ka := fun W tk H0 F ρ S σ H π lo lf s x ρ' S' hv w Q => by
  cases op with
  | And => exact ⟨_, pw_and1 (mxT X a), ha W tk _ _ _ _ _ _ _ _ _ s _ _ _ hv w Q⟩
  | Or => exact ⟨_, pw_or1 (mxT X a), ha W tk _ _ _ _ _ _ _ _ _ s _ _ _ hv w Q⟩
theorem xndW_and {r : List Expr} (hs : SndT X Γ a ka) (ha : XndT X Γ a ka) (hb : XndW X Γ (.BoolOp .And (b :: r) pos) kb) : XndW X Γ (.BoolOp .And (a :: b :: r) pos) (.and ka kb) := fun W tk H0 F ρ S σ H π lo lf s x ρ' S' hv w Q => by
  simp only [evT] at hv
  refine ⟨_, pw_and (mxT X a) (mxW X _), ?_⟩
  rcases bind_exc_inv hv with h1 | ⟨y, ρ1, S1, h1, g⟩
  · exact ha W tk _ _ _ _ _ _ _ _ _ s _ _ _ h1 w _
  · refine hs _ _ _ _ _ _ _ _ _ s _ _ _ h1 _ fun H1 π1 lf1 x1 s1 => ?_
    cases y with
    | true => exact iteT (hb W tk _ _ _ _ _ _ _ _ _ s1 _ _ _ g (w.after x1) Q)
    | false => cases g
theorem xndW_or {r : List Expr} (hs : SndT X Γ a ka) (ha : XndT X Γ a ka) (hb : XndW X Γ (.BoolOp .Or (b :: r) pos) kb) : XndW X Γ (.BoolOp .Or (a :: b :: r) pos) (.or ka kb) := fun W tk H0 F ρ S σ H π lo lf s x ρ' S' hv w Q => by
  simp only [evT] at hv
  refine ⟨_, pw_or (mxT X a) (mxW X _), ?_⟩
  rcases bind_exc_inv hv with h1 | ⟨y, ρ1, S1, h1, g⟩
  · exact ha W tk _ _ _ _ _ _ _ _ _ s _ _ _ h1 w _
  · refine hs _ _ _ _ _ _ _ _ _ s _ _ _ h1 _ fun H1 π1 lf1 x1 s1 => ?_
    cases y with
    | false => exact iteF (hb W tk _ _ _ _ _ _ _ _ _ s1 _ _ _ g (w.after x1) Q)
    | true => cases g
theorem convT_xnd (ok : Cok X Γ) {cv : Expr → CE} (hcv : ∀ e, SndE X Γ e (cv e)) (hcm : ∀ a ops bs p, SndT X Γ (.Compare a ops bs p) (.e (cv (.Compare a ops bs p)))) (hxv : ∀ e, XndE X Γ e (cv e)) (hxm : ∀ a ops bs p, XndT X Γ (.Compare a ops bs p) (.e (cv (.Compare a ops bs p)))) :
    ∀ (f : Nat) (e : Expr), XndT X Γ e (convT cv f e) ∧ ∀ op v vs p, e = .BoolOp op (v :: vs) p → XndW X Γ e (convT cv f e)
  | 0, e => ⟨xndT_calm rfl, fun op v vs p he W tk H0 F ρ S σ H π lo lf s x ρ' S' hv => absurd (e_exc hv) (calm_ne rfl ρ S x ρ' S')⟩
  | f + 1, e => by
    have ih := convT_xnd ok hcv hcm hxv hxm f
    have is := convT_snd ok hcv hcm f
    have hW : ∀ op v vs p, XndW X Γ (.BoolOp op (v :: vs) p) (convT cv (f + 1) (.BoolOp op (v :: vs) p)) := fun op v vs p => by
      cases vs with
      | nil => exact xndW_one (ih v).1
      | cons w ws =>
        cases op with
        | And => exact xndW_and (is v).1 (ih v).1 ((ih (.BoolOp .And (w :: ws) p)).2 _ _ _ _ rfl)
        | Or => exact xndW_or (is v).1 (ih v).1 ((ih (.BoolOp .Or (w :: ws) p)).2 _ _ _ _ rfl)
    refine ⟨?_, fun op v vs p he => by subst he; exact hW op v vs p⟩
    cases e with
    | IfExp t a b p => exact xndT_calm rfl
    | UnaryOp op a p =>
      cases op with
      | Not => exact xndT_nt (ih a).1
      | _ => exact xndT_of (fun _ => rfl) (hxv _)
    | BoolOp op vs p =>
      cases vs with
      | nil => exact xndT_calm rfl
      | cons v vs => exact (hW op v vs p).t
    | Compare a ops bs p => exact hxm a ops bs p
    | _ => exact xndT_of (fun _ => rfl) (hxv _)
/-! ### calls -/
theorem xnd_fld {f : Str} (hb : isRecvM a = true) (hx : XndE X Γ a ca) : XndE X Γ (.Attribute a f pos) (.fld ca f) := fun W tk H0 F ρ S σ H π lo lf s x ρ' S' hv w Q => by
  simp only [ev] at hv
  rcases bind_exc_inv hv with h1 | ⟨y, ρ1, S1, h1, g⟩
  · exact ⟨_, pe_fld (mxE X a) (recvM_base hb), hx W tk _ _ _ _ _ _ _ _ _ s _ _ _ h1 w _⟩
  · split at g
    · split at g <;> cases g
    · cases g
/-- the arguments raise -/
theorem call_args {x : Str} {fa : Addr} {es : List Expr} (hg : Gl X x) (hdb : (x == ("__debug__" : Str)) = false) (hm : X.mg x = some (.ref fa)) (hk : PySem.W.keepIn X.K (.ref fa) = true) (hst : starEach (e :: es) X.env = (false, eval e X.env) :: starEach es X.env) (hpl : (backTo pos (starEach es X.env)).any (·.1) = false) :
    PE X (.Call (.Name x p) (e :: es) [] pos) (fun σ H Q => MxA X (e :: es) σ H fun _ _ => False) :=
  ⟨fun pns st sl Hh Qq J hq => wpAny_Call_Name_kw (ld_glob J hg hm (PySem.W.callWith_K (h₀ := X.base) J.ok.mod.kin hk (thn ((mxA X (e :: es)).run pos pns st sl Hh _ J hq) fun us s1 z => by
    obtain ⟨vs, H1, J1, r1, q1⟩ := z
    exact q1.elim) hst hpl) hdb)⟩
theorem xnd_call {x : Str} {es : List Expr} {cs : List CE} (ok : Cok X Γ) (hg : Gl X x) (hdb : (x == ("__debug__" : Str)) = false) (hs : es.any isStar = false) (hn : es = [] → cs = []) (ha : SndA X Γ es cs) (hx : XndA X Γ es cs) : XndE X Γ (.Call (.Name x p) es [] pos) (.call x cs) := fun W tk H0 F ρ S σ H π lo lf s y ρ' S' hv w Q => by
  simp only [ev] at hv
  rcases bind_exc_inv hv with h1 | ⟨ds, ρ1, S1, h1, g⟩
  · obtain ⟨b1, h1⟩ := chk_exc_inv h1
    obtain ⟨fa, f1, f2⟩ := ok.hf x b1
    cases es with
    | nil =>
      have hcs := hn rfl
      subst hcs
      simp only [evs] at h1
      cases h1
    | cons e es =>
      simp only [List.any_cons, Bool.or_eq_false_iff] at hs
      exact ⟨_, call_args hg hdb f1 f2 (star_cons hs.1) (star_any hs.2), hx W tk _ _ _ _ _ _ _ _ _ s _ _ _ h1 w _⟩
  · have h1 := chk_ok_inv h1
    cases hc : Γ.cf x ds S1 with
    | bad => rw [hc] at g; cases g
    | ok r2 S2 => rw [hc] at g; cases g
    | exc y2 S2 =>
      rw [hc] at g
      cases g
      obtain ⟨k, fa, fd, ps, hF, hr, hm, hk, hb⟩ := ok.cf x ds S1 (by rw [hc]; intro z; cases z)
      have fin : ∀ (vs : List V) (H1 : Hp) (π1 : List Addr) (lf1 : Nat → Str → Addr), Ext X.K F H π (Mt F ρ S π lo lf) H1 π1 (Mt F ρ' S1 π1 lo lf1) → Sim X.K H0 F ρ' S1 σ H1 π1 lo lf1 → Reps X.K H1 π1 (Mt F ρ' S1 π1 lo lf1) vs ds → spC X.K Γ.xc Γ.cf ds.length x vs H1 Q (WE W σ) := fun vs H1 π1 lf1 x1 s1 r1 =>
        call_fin (by rw [hc]; intro z; cases z) s1 r1 (fun r2 S2 e2 => by rw [hc] at e2; cases e2) fun x2 S2 e2 cls d H2 π2 lf2 x2 s2 ex => by
          rw [hc] at e2
          cases e2
          exact w cls d H2 π2 lf2 (x1.trans x2) s2 ex
      cases es with
      | nil =>
        refine ⟨_, HtX.call0 hF hr hg hm hk hb (fun σ => L2N.passAt tk σ) hdb, ?_⟩
        have hcs := hn rfl
        subst hcs
        simp only [evs] at h1
        cases h1
        exact fin [] H π lf .refl s .nil
      | cons e es =>
        simp only [List.any_cons, Bool.or_eq_false_iff] at hs
        refine ⟨_, pe_callS hF hr hg hm hk hb (fun σ => L2N.passAt tk σ) (mxA X (e :: es)) hdb (star_cons hs.1) (star_any hs.2), ?_⟩
        exact ha _ _ _ _ _ _ _ _ _ s _ _ _ h1 _ fun vs H1 π1 lf1 x1 s1 r1 => fin vs H1 π1 lf1 x1 s1 r1
end
end Ht

set_option Elab.async false
set_option linter.all false
set_option maxRecDepth 100000
set_option maxHeartbeats 1000000
/-! ### soundness: what is raised by methods, new objects; the translation -/
namespace Ht
open PySem L2
section
variable {X : Cx} {Γ : Ctx} {e a b : Expr} {c ca cb : CE} {k ka kb : CT} {p pos : Pos}
/-- the arguments of a method raise -/
theorem meth_args {m : Str} {ap : Pos} {C fa : Addr} {es : List Expr} {ta : TE} (hb : isRecvM a = true) (hs : (e :: es).any isStar = false) (hlen : (e :: es).length < 29) (hl : (ap.endLine == pos.line) = true) (he : PE X a ta) (hc : Cls X.K C) (hm : Meth X.K C m fa) :
    PE X (.Call (.Attribute a m ap) (e :: es) [] pos) (fun σ H Q => ta σ H fun x H1 => ∃ q dx fs, x = .ref q ∧ H1 q = some (.ins C dx fs) ∧ fs.lookup m = none ∧ MxA X (e :: es) σ H1 fun _ _ => False) := by
  have hs' := hs
  simp only [List.any_cons, Bool.or_eq_false_iff] at hs'
  refine ⟨fun pns st sl Hh Qq J hq => PySem.W.methodCall_KW (thn (he.run pns st sl Hh _ J hq) fun u s1 z => ?_) (meth_tree hb hs hlen hl)⟩
  obtain ⟨y, H1, J1, ry, q, dx, fs, rfl, ea, hl1, q1⟩ := z
  obtain rfl : u = Value.ref q := ry
  refine getmeth_ok J1 ea hc hm hl1 (PySem.W.callWith_K (first := [.ref q]) (h₀ := X.base) J.ok.mod.kin hm.kp (thn ((mxA X (e :: es)).run pos pns s1 sl H1 _ J1 q1) fun us s2 z2 => ?_) (star_cons hs'.1) (star_any hs'.2))
  obtain ⟨vs, H2, J2, r2, q2⟩ := z2
  exact q2.elim
theorem xnd_meth {m : Str} {ap : Pos} {es : List Expr} {cs : List CE} (ok : Cok X Γ) (hb : isRecvM a = true) (hs : es.any isStar = false) (hlen : es.length < 29) (hl : (ap.endLine == pos.line) = true) (hn : es = [] → cs = []) (ha : SndE X Γ a ca) (hx : XndE X Γ a ca) (hA : SndA X Γ es cs) (hxA : XndA X Γ es cs) :
    XndE X Γ (.Call (.Attribute a m ap) es [] pos) (.meth ca m cs) := fun W tk H0 F ρ S σ H π lo lf s x ρ' S' hv w Q => by
  simp only [ev] at hv
  rcases bind_exc_inv hv with h1 | ⟨y, ρ1, S1, h1, g⟩
  · -- the receiver raises: any class will do
    have rule : PE X (.Call (.Attribute a m ap) es [] pos) (fun σ H Q => MxE X a σ H fun _ _ => False) := ⟨fun pns st sl Hh Qq J hq => PySem.W.methodCall_KW (thn ((mxE X a).run pns st sl Hh _ J hq) fun u s1 z => by
      obtain ⟨_, _, _, _, q⟩ := z
      exact q.elim) (meth_tree hb hs hlen hl)⟩
    exact ⟨_, rule, hx W tk _ _ _ _ _ _ _ _ _ s _ _ _ h1 w _⟩
  · split at g
    · rename_i n
      split at g
      · rename_i c fs hS
        split at g
        · cases g
        · rename_i hf
          have obj : ∀ {C : Addr} {H1 : Hp} {π1 : List Addr} {lf1 : Nat → Str → Addr} {v : V}, ClsAt X.K c C → Sim X.K H0 F ρ1 S1 σ H1 π1 lo lf1 → Rep X.K H1 π1 (Mt F ρ1 S1 π1 lo lf1) v (.ref n) → ∃ p dx vfs, v = .ref p ∧ H1 p = some (.ins C dx vfs) ∧ vfs.lookup m = none := fun hC0 s1 r1 => by
            obtain ⟨p, rfl, hp⟩ := r1.ref_inv
            obtain ⟨c', fs', e, a', C', dx, vfs, k1, k2, k3, k4, k5⟩ := s1.ok.cell n _ hS
            cases e
            rw [hp] at k1
            cases k1
            have := k3.1.symm.trans hC0.1
            cases this
            exact ⟨p, dx, vfs, rfl, k2, hasF_none vfs fs k4 (by simpa using hf)⟩
          rcases bind_exc_inv g with h2 | ⟨ds, ρ2, S2, h2, g2⟩
          · obtain ⟨b1, h2⟩ := chk_exc_inv h2
            obtain ⟨C, fa, f1, f2, _, _⟩ := ok.hm c m b1
            cases es with
            | nil =>
              have hcs := hn rfl
              subst hcs
              simp only [evs] at h2
              cases h2
            | cons e es =>
              refine ⟨_, meth_args hb hs hlen hl (mxE X a) f1.2.1 f2, ha.sh s h1 fun v H1 π1 lf1 x1 s1 r1 => ?_⟩
              obtain ⟨p, dx, vfs, rfl, k2, k3⟩ := obj f1 s1 r1
              exact ⟨p, dx, vfs, rfl, k2, k3, hxA W tk _ _ _ _ _ _ _ _ _ s1 _ _ _ h2 (w.after x1) _⟩
          · have h2 := chk_ok_inv h2
            split at g2
            · cases g2
            · rename_i y2 S3 hc
              cases g2
              obtain ⟨k, fa, fd, ps, C, hF, hr, hC0, hM, hB⟩ := ok.cm c m (D.ref n :: ds) S2 (by rw [hc]; intro z; cases z)
              have fin : ∀ {vs : List V} {H1 H2 : Hp} {π1 π2 : List Addr} {lf1 lf2 : Nat → Str → Addr} {v : V}, Ext X.K F H π (Mt F ρ S π lo lf) H1 π1 (Mt F ρ1 S1 π1 lo lf1) → Rep X.K H1 π1 (Mt F ρ1 S1 π1 lo lf1) v (.ref n) → Ext X.K F H1 π1 (Mt F ρ1 S1 π1 lo lf1) H2 π2 (Mt F ρ' S2 π2 lo lf2) → Sim X.K H0 F ρ' S2 σ H2 π2 lo lf2 →
                  Reps X.K H2 π2 (Mt F ρ' S2 π2 lo lf2) vs ds → spG X.K Γ.xc (Γ.cm c m) (D.ref n :: ds).length (v :: vs) H2 Q (WE W σ) := fun x1 r1 x2 s2 r2 =>
                call_fin (by rw [hc]; intro z; cases z) s2 (.cons (r1.keep x2.toKeeps) r2) (fun r3 S3 e3 => by rw [hc] at e3; cases e3) fun y3 S3 e3 cls d H' π' lf' x3 s3 ex => by
                  rw [hc] at e3
                  cases e3
                  exact w cls d H' π' lf' (x1.trans (x2.trans x3)) s3 ex
              cases es with
              | nil =>
                have hcs := hn rfl
                subst hcs
                simp only [evs] at h2
                cases h2
                refine ⟨_, HtX.meth0 (mxE X a) hC0.2.1 hM hF hr hB (fun σ => L2N.passAt tk σ) (meth_tree hb hs hlen hl), ?_⟩
                refine ha.sh s h1 fun v H1 π1 lf1 x1 s1 r1 => ?_
                obtain ⟨p, dx, vfs, rfl, k2, k3⟩ := obj hC0 s1 r1
                exact ⟨p, dx, vfs, rfl, k2, k3, fin x1 r1 .refl s1 .nil⟩
              | cons e es =>
                simp only [List.any_cons, Bool.or_eq_false_iff] at hs
                refine ⟨_, HtX.meth (mxE X a) hC0.2.1 hM hF hr hB (fun σ => L2N.passAt tk σ) (mxA X (e :: es)) (star_cons hs.1) (star_any hs.2) (meth_tree hb (by simp only [List.any_cons, Bool.or_eq_false_iff]; exact hs) hlen hl), ?_⟩
                refine ha.sh s h1 fun v H1 π1 lf1 x1 s1 r1 => ?_
                obtain ⟨p, dx, vfs, rfl, k2, k3⟩ := obj hC0 s1 r1
                exact ⟨p, dx, vfs, rfl, k2, k3, hA _ _ _ _ _ _ _ _ _ s1 _ _ _ h2 _ fun vs H2 π2 lf2 x2 s2 r2 => fin x1 r1 x2 s2 r2⟩
            · cases g2
      · cases g
    · cases g
theorem xnd_make {x : Str} {es : List Expr} {cs : List CE} (ok : Cok X Γ) (hg : Gl X x) (hdb : (x == ("__debug__" : Str)) = false) (hs : es.any isStar = false) (hn : es = [] → cs = []) (hA : SndA X Γ es cs) (hxA : XndA X Γ es cs) : XndE X Γ (.Call (.Name x p) es [] pos) (.make x cs) := fun W tk H0 F ρ S σ H π lo lf s y ρ' S' hv w Q => by
  simp only [ev] at hv
  rcases bind_exc_inv hv with h1 | ⟨ds, ρ1, S1, h1, g⟩
  · obtain ⟨b1, h1⟩ := chk_exc_inv h1
    obtain ⟨C, fa, _, _, f1, f2⟩ := ok.hm x "__init__" b1
    cases es with
    | nil =>
      have hcs := hn rfl
      subst hcs
      simp only [evs] at h1
      cases h1
    | cons e es =>
      simp only [List.any_cons, Bool.or_eq_false_iff] at hs
      exact ⟨_, call_args hg hdb f1 (f2 rfl).kp (star_cons hs.1) (star_any hs.2), hxA W tk _ _ _ _ _ _ _ _ _ s _ _ _ h1 w _⟩
  · have h1 := chk_ok_inv h1
    split at g
    · cases g
    · rename_i y2 S2 hc
      cases g
      obtain ⟨k, fa, fd, ps, C, hF, hr, hC, hm, hM, hB⟩ := ok.ci x (D.ref S1.length :: ds) (S1 ++ [.obj x []]) (by rw [hc]; intro z; cases z)
      have fin : ∀ (vs : List V) (H1 : Hp) (π1 : List Addr) (lf1 : Nat → Str → Addr), Ext X.K F H π (Mt F ρ S π lo lf) H1 π1 (Mt F ρ' S1 π1 lo lf1) → Sim X.K H0 F ρ' S1 σ H1 π1 lo lf1 → Reps X.K H1 π1 (Mt F ρ' S1 π1 lo lf1) vs ds → ∀ y dx, H1 y = none → H1 dx = none → dx ≠ y →
          spG X.K Γ.xc (Γ.ci x) (D.ref S1.length :: ds).length (.ref y :: vs) (upd (upd H1 dx (.own y)) y (.ins C dx [])) (fun v H2 => v = .non ∧ Q (.ref y) H2) (WE W σ) := fun vs H1 π1 lf1 x1 s1 r1 y dx hy hdx hne => by
        have hy2 : (upd H1 dx (.own y)) y = none := by rw [upd_ne (Ne.symm hne)]; exact hy
        have s2 := s1.new (o := .own y) hdx
        have x2 := Ext.new (o := .own y) hdx s1
        have s3 := s2.new (o := .ins C dx []) hy2
        have x3 := Ext.new (o := .ins C dx []) hy2 s2
        obtain ⟨s4, x4⟩ := s3.addCell (x := y) upd_same (fun m => s1.ok.dom.1 y m hy) (fun m => s1.fh y m hy) hC
        have x5 := x2.trans (x3.trans x4)
        have hl : π1.length = S1.length := s1.ok.len
        have hix : (π1 ++ [y])[S1.length]? = some y := by rw [← hl]; simp
        exact call_fin (by rw [hc]; intro z; cases z) s4 (.cons (.ref hix) (r1.keep x5.toKeeps)) (fun r6 S6 e6 => by rw [hc] at e6; cases e6) fun y6 S6 e6 cls d H' π' lf' x6 s6 ex => by
          rw [hc] at e6
          cases e6
          exact w cls d H' π' lf' (x1.trans (x5.trans x6)) s6 ex
      cases es with
      | nil =>
        refine ⟨_, HtX.make0 hM hF hr hg hm hB (fun σ => L2N.passAt tk σ) hdb, ?_⟩
        have hcs := hn rfl
        subst hcs
        simp only [evs] at h1
        cases h1
        exact fin [] H π lf .refl s .nil
      | cons e es =>
        simp only [List.any_cons, Bool.or_eq_false_iff] at hs
        refine ⟨_, HtX.make hM hF hr hg hm hB (fun σ => L2N.passAt tk σ) (mxA X (e :: es)) hdb (star_cons hs.1) (star_any hs.2), ?_⟩
        exact hA _ _ _ _ _ _ _ _ _ s _ _ _ h1 _ fun vs H1 π1 lf1 x1 s1 r1 => fin vs H1 π1 lf1 x1 s1 r1
    · cases g
/-! ### the translation -/
theorem convCall_xnd (ok : Cok X Γ) {cv : Expr → CE} (hcv : ∀ e, SndE X Γ e (cv e)) (hxv : ∀ e, XndE X Γ e (cv e)) {N : List Str} {mu : List Nat} {x : Str} {as : List Expr} {p pos : Pos} (hg : Gl X x) (hdb : (x == ("__debug__" : Str)) = false) (hs : as.any isStar = false) : XndE X Γ (.Call (.Name x p) as [] pos) (convCall cv X.env.scope N mu x as) := by
  unfold convCall
  by_cases h : x = "len"
  · rw [if_pos h]
    repeat' (first | exact xnd_calm rfl | exact xnd_grd (xnd_calm rfl) | split)
  rw [if_neg h]
  clear h
  by_cases h : x = "abs"
  · rw [if_pos h]
    repeat' (first | exact xnd_calm rfl | exact xnd_grd (xnd_calm rfl) | split)
  rw [if_neg h]
  clear h
  by_cases h : x = "max"
  · rw [if_pos h]
    repeat' (first | exact xnd_calm rfl | exact xnd_grd (xnd_calm rfl) | split)
  rw [if_neg h]
  clear h
  by_cases h : x = "min"
  · rw [if_pos h]
    repeat' (first | exact xnd_calm rfl | exact xnd_grd (xnd_calm rfl) | split)
  rw [if_neg h]
  clear h
  by_cases h : x = "any"
  · rw [if_pos h]
    repeat' (first | exact xnd_calm rfl | exact xnd_grd (xnd_calm rfl) | split)
  rw [if_neg h]
  clear h
  by_cases h : x = "all"
  · rw [if_pos h]
    repeat' (first | exact xnd_calm rfl | exact xnd_grd (xnd_calm rfl) | split)
  rw [if_neg h]
  clear h
  by_cases h : x = "sorted"
  · rw [if_pos h]
    repeat' (first | exact xnd_calm rfl | exact xnd_grd (xnd_calm rfl) | split)
  rw [if_neg h]
  clear h
  by_cases h : x = "str"
  · rw [if_pos h]
    repeat' (first | exact xnd_calm rfl | exact xnd_grd (xnd_calm rfl) | split)
  rw [if_neg h]
  clear h
  by_cases h : x = "isinstance"
  · rw [if_pos h]
    repeat' (first | exact xnd_calm rfl | exact xnd_grd (xnd_calm rfl) | split)
  rw [if_neg h]
  clear h
  by_cases h : x = "list"
  · rw [if_pos h]
    repeat' (first | exact xnd_calm rfl | exact xnd_grd (xnd_calm rfl) | split)
  rw [if_neg h]
  clear h
  split
  · exact xnd_calm rfl
  split
  · exact xnd_make ok hg hdb hs (fun h => by rw [h]; rfl) (sndA_all hs fun e _ => hcv e) (xndA_all hs hcv hxv)
  split
  · exact xnd_calm rfl
  · exact xnd_grd (xnd_call ok hg hdb hs (fun h => by rw [h]; rfl) (sndA_all hs fun e _ => hcv e) (xndA_all hs hcv hxv))
theorem convE_xnd (N : List Str) (mu : List Nat) : ∀ (f : Nat) (X : Cx), X.N = N → Cok X Γ → (∀ e, XndE X Γ e (convE f N mu X.env.scope e)) ∧ ∀ a ops bs p, XndT X Γ (.Compare a ops bs p) (.e (convE f N mu X.env.scope (.Compare a ops bs p)))
  | 0, X, _, ok => ⟨fun e => xnd_unk, fun a ops bs p => xndT_calm rfl⟩
  | f + 1, X, hN, ok => by
    have ih := (convE_snd (Γ := Γ) N mu f X hN ok).1
    have ihT := (convE_snd (Γ := Γ) N mu f X hN ok).2
    have jh := (convE_xnd N mu f X hN ok).1
    have jhT := (convE_xnd N mu f X hN ok).2
    refine ⟨fun e => ?_, fun a ops bs p => ?_⟩
    · cases e with
      | BoolOp op vs p =>
        unfold convE
        simp only
        split
        · exact xnd_one (jh _)
        · split
          · exact xnd_band (ih _) (jh _) (jh _)
          · exact xnd_bor (ih _) (jh _) (jh _)
        · exact xnd_unk
      | Compare a ops bs p =>
        unfold convE
        simp only
        split
        · split
          · exact xnd_unk
          · rename_i h
            split
            · split <;> exact xnd_calm rfl
            · split
              · split <;> exact xnd_calm rfl
              · exact xnd_grd (xnd_cmp (by simpa using h) (ih _) (jh _) (jh _))
        · split <;> exact xnd_calm rfl
        · exact xnd_unk
      | IfExp t a b p => exact xnd_ite (convT_snd ok ih ihT f _).1 (convT_xnd ok ih ihT jh jhT f _).1 (jh _) (jh _)
      | List es p =>
        unfold convE
        simp only
        split
        · exact xnd_unk
        · rename_i h
          exact xnd_lst (xndA_all (by simpa using h) ih jh)
      | Tuple es kk p =>
        unfold convE
        simp only
        split
        · exact xnd_unk
        · rename_i h
          exact xnd_tup (xndA_all (by simpa using h) ih jh)
      | Attribute v m p =>
        unfold convE
        simp only
        split
        · rename_i h
          simp only [Bool.and_eq_true, Bool.not_eq_true'] at h
          exact xnd_fld h.2 (jh _)
        · exact xnd_unk
      | Call g as ks cp =>
        cases ks with
        | cons k ks => exact xnd_calm rfl
        | nil =>
          unfold convE
          simp only
          split
          · rename_i x xp
            split
            · rename_i h
              rw [Bool.and_eq_true, Bool.and_eq_true, Bool.not_eq_true'] at h
              exact convCall_xnd ok ih jh (glbB_inv h.1.1) (okName_inv h.1.2).1 h.2
            · exact xnd_unk
          · rename_i v m ap
            split
            · repeat' (first | exact xnd_calm rfl | split)
            · split
              · repeat' (first | exact xnd_calm rfl | split)
              · split
                · rename_i h
                  simp only [Bool.and_eq_true, Bool.not_eq_true', decide_eq_true_eq] at h
                  obtain ⟨⟨⟨⟨h1, h2⟩, h3⟩, h4⟩, h5⟩ := h
                  exact xnd_meth ok h2 h4 h5 h3 (fun h => by rw [h]; rfl) (ih _) (jh _) (sndA_all h4 fun e _ => ih e) (xndA_all h4 ih jh)
                · exact xnd_unk
          · exact xnd_unk
      | UnaryOp op a p => cases op <;> exact xnd_calm rfl
      | Constant v kk p => cases v <;> exact xnd_calm rfl
      | Name x p =>
        unfold convE
        simp only
        repeat' (first | exact xnd_calm rfl | split)
      | Subscript a b p =>
        unfold convE
        simp only
        repeat' (first | exact xnd_calm rfl | exact xnd_grd (xnd_calm rfl) | split)
      | ListComp elt gs scope p =>
        unfold convE
        split
        all_goals first | exact xnd_calm rfl | skip
        all_goals first | (rename_i h; cases h; done) | skip
        repeat' (first | exact xnd_calm rfl | split)
      | _ => exact xnd_calm rfl
    · unfold convE
      simp only
      split
      · split
        · exact xndT_calm rfl
        · rename_i h
          split
          · split <;> exact xndT_calm rfl
          · split
            · split <;> exact xndT_calm rfl
            · exact xndT_grd (xndT_cmp (by simpa using h) (ih _) (jh _) (jh _))
      · split <;> exact xndT_calm rfl
      · exact xndT_calm rfl
end
end Ht

set_option Elab.async false
set_option linter.all false
set_option maxRecDepth 100000
set_option maxHeartbeats 1000000
/-! ### soundness: except suites -/
namespace Ht
open PySem L2
/-- what a suite may lean on: the slots and heaps of which P holds -/
structure Sta (P : L2.St → Hp → Prop) : Prop where
  dm : ∀ σ H H', (∀ a, H' a = none → H a = none) → P σ H → P σ H'
def HndE (X : Cx) (Γ : Ctx) (P : L2.St → Hp → Prop) (e : Expr) (c : CE) : Prop := ∀ H0 F ρ S σ H π lo lf, Sim X.K H0 F ρ S σ H π lo lf → P σ H → ∀ r ρ' S', ev Γ c ρ S = .ok r ρ' S' → ∀ Q : VK,
  (∀ v H' π' lf', Ext X.K F H π (Mt F ρ S π lo lf) H' π' (Mt F ρ' S' π' lo lf') → RvOk X.K H0 H F ρ' S' σ H' π' lo lf' v r → Q v H') → MxE X e σ H Q
def HndT (X : Cx) (Γ : Ctx) (P : L2.St → Hp → Prop) (e : Expr) (c : CT) : Prop := ∀ H0 F ρ S σ H π lo lf, Sim X.K H0 F ρ S σ H π lo lf → P σ H → ∀ b ρ' S', evT Γ c ρ S = .ok b ρ' S' → ∀ Q : Bool → Hp → Prop,
  (∀ H' π' lf', Ext X.K F H π (Mt F ρ S π lo lf) H' π' (Mt F ρ' S' π' lo lf') → Sim X.K H0 F ρ' S' σ H' π' lo lf' → Q b H') → MxT X e σ H Q
def HndA (X : Cx) (Γ : Ctx) (P : L2.St → Hp → Prop) (es : List Expr) (cs : List CE) : Prop := ∀ H0 F ρ S σ H π lo lf, Sim X.K H0 F ρ S σ H π lo lf → P σ H → ∀ ds ρ' S', evs Γ cs ρ S = .ok ds ρ' S' → ∀ Q : List V → Hp → Prop,
  (∀ vs H' π' lf', Ext X.K F H π (Mt F ρ S π lo lf) H' π' (Mt F ρ' S' π' lo lf') → Sim X.K H0 F ρ' S' σ H' π' lo lf' → Reps X.K H' π' (Mt F ρ' S' π' lo lf') vs ds → Q vs H') → MxA X es σ H Q
section
variable {X : Cx} {Γ : Ctx} {P : L2.St → Hp → Prop} {e a b : Expr} {c ca cb : CE} {k ka kb : CT} {p pos : Pos}
theorem HndE.sh (h : HndE X Γ P e c) {H0 : Hp} {F : AS} {ρ : Env} {S : Store} {σ : L2.St} {H : Hp} {π : List Addr} {lo : Nat → Addr} {lf : Nat → Str → Addr} (s : Sim X.K H0 F ρ S σ H π lo lf) (hp : P σ H) {r : Rv} {ρ' : Env} {S' : Store} (he : ev Γ c ρ S = .ok r ρ' S') {Q : VK}
    (q : ∀ v H' π' lf', Ext X.K F H π (Mt F ρ S π lo lf) H' π' (Mt F ρ' S' π' lo lf') → Sim X.K H0 F ρ' S' σ H' π' lo lf' → Rep X.K H' π' (Mt F ρ' S' π' lo lf') v r.d → Q v H') : MxE X e σ H Q :=
  h H0 F ρ S σ H π lo lf s hp r ρ' S' he Q fun v H' π' lf' x k => q v H' π' lf' x k.sh.1 k.sh.2
theorem hnd_of (h : SndE X Γ e c) : HndE X Γ P e c := fun H0 F ρ S σ H π lo lf s _ => h H0 F ρ S σ H π lo lf s
theorem hnd_bad (h : ∀ ρ S, ev Γ c ρ S = .bad) : HndE X Γ P e c := hnd_of (snd_bad h)
theorem hnd_bin {op : Operator} (st : Sta P) (ha : HndE X Γ P a ca) (hb : HndE X Γ P b cb) : HndE X Γ P (.BinOp a op b pos) (.bin op ca cb) := fun H0 F ρ S σ H π lo lf s hp r ρ' S' h Q q => by
  simp only [ev] at h
  obtain ⟨x, ρ1, S1, h1, h⟩ := bind_ok_inv h
  obtain ⟨y, ρ2, S2, h2, h⟩ := bind_ok_inv h
  obtain ⟨h3, rfl, rfl⟩ := of_ok_inv h
  obtain ⟨rl, ho, hv⟩ := bin_val (X := X) h3
  refine ⟨_, pe_op ho (mxE X a) (mxE X b), ?_⟩
  refine ha.sh s hp h1 fun v1 H1 π1 lf1 x1 s1 r1 => hb.sh s1 (st.dm _ _ _ x1.dm hp) h2 fun v2 H2 π2 lf2 x2 s2 r2 => ?_
  exact hv _ _ _ _ _ _ _ _ _ _ _ s2 (r1.keep x2.toKeeps) r2 Q fun v H' π' lf' x3 k => q v H' π' lf' (x1.trans (x2.trans x3)) (k.of (x1.trans x2).dm)
theorem hnd_nt (ha : HndE X Γ P a ca) : HndE X Γ P (.UnaryOp .Not a pos) (.nt ca) := fun H0 F ρ S σ H π lo lf s hp r ρ' S' h Q q => by
  simp only [ev] at h
  obtain ⟨x, ρ1, S1, h1, h⟩ := bind_ok_inv h
  obtain ⟨y, ρ2, S2, h2, g⟩ := bind_ok_inv h
  clear h
  obtain ⟨h3, rfl, rfl⟩ := of_ok_inv h2
  cases g
  have := isB_inv h3
  subst this
  exact ⟨_, pe_not (mxE X a), ha.sh s hp h1 fun v1 H1 π1 lf1 x1 s1 r1 => ⟨_, r1.bl_inv, q _ _ _ _ x1 ⟨s1, .bl _⟩⟩⟩
theorem hnd_band {r : List Expr} (st : Sta P) (ha : HndE X Γ P a ca) (hb : HndE X Γ P (.BoolOp .And (b :: r) pos) cb) : HndE X Γ P (.BoolOp .And (a :: b :: r) pos) (.band ca cb) := fun H0 F ρ S σ H π lo lf s hp r ρ' S' h Q q => by
  simp only [ev] at h
  obtain ⟨x, ρ1, S1, h1, h⟩ := bind_ok_inv h
  obtain ⟨y, ρ2, S2, h2, g⟩ := bind_ok_inv h
  clear h
  obtain ⟨h3, rfl, rfl⟩ := of_ok_inv h2
  have := isB_inv h3
  subst this
  refine ⟨_, pe_and (mxE X a) (mxE X _), ha.sh s hp h1 fun v1 H1 π1 lf1 x1 s1 r1 => ⟨y, r1.bl_inv, ?_⟩⟩
  cases y with
  | true => exact iteT (hb _ _ _ _ _ _ _ _ _ s1 (st.dm _ _ _ x1.dm hp) _ _ _ g Q fun v H' π' lf' x2 k => q v H' π' lf' (x1.trans x2) (k.of x1.dm))
  | false =>
    cases g
    exact iteF (q _ _ _ _ x1 ⟨s1, .bl _⟩)
theorem hnd_bor {r : List Expr} (st : Sta P) (ha : HndE X Γ P a ca) (hb : HndE X Γ P (.BoolOp .Or (b :: r) pos) cb) : HndE X Γ P (.BoolOp .Or (a :: b :: r) pos) (.bor ca cb) := fun H0 F ρ S σ H π lo lf s hp r ρ' S' h Q q => by
  simp only [ev] at h
  obtain ⟨x, ρ1, S1, h1, h⟩ := bind_ok_inv h
  obtain ⟨y, ρ2, S2, h2, g⟩ := bind_ok_inv h
  clear h
  obtain ⟨h3, rfl, rfl⟩ := of_ok_inv h2
  have := isB_inv h3
  subst this
  refine ⟨_, pe_or (mxE X a) (mxE X _), ha.sh s hp h1 fun v1 H1 π1 lf1 x1 s1 r1 => ⟨y, r1.bl_inv, ?_⟩⟩
  cases y with
  | false => exact iteF (hb _ _ _ _ _ _ _ _ _ s1 (st.dm _ _ _ x1.dm hp) _ _ _ g Q fun v H' π' lf' x2 k => q v H' π' lf' (x1.trans x2) (k.of x1.dm))
  | true =>
    cases g
    exact iteT (q _ _ _ _ x1 ⟨s1, .bl _⟩)
theorem hnd_one {op : BoolOp} (ha : HndE X Γ P a ca) : HndE X Γ P (.BoolOp op [a] pos) ca := fun H0 F ρ S σ H π lo lf s hp r ρ' S' h Q q => ⟨_, pe_one (mxE X a), ha H0 F ρ S σ H π lo lf s hp r ρ' S' h Q q⟩
theorem hnd_ite {t : Expr} {ct : CT} (st : Sta P) (ht : HndT X Γ P t ct) (ha : HndE X Γ P a ca) (hb : HndE X Γ P b cb) : HndE X Γ P (.IfExp t a b pos) (.ite ct ca cb) := fun H0 F ρ S σ H π lo lf s hp r ρ' S' h Q q => by
  simp only [ev] at h
  obtain ⟨x, ρ1, S1, h1, h⟩ := bind_ok_inv h
  refine ⟨_, pe_ifExp (mxT X t) (mxE X a) (mxE X b), ht _ _ _ _ _ _ _ _ _ s hp _ _ _ h1 _ fun H1 π1 lf1 x1 s1 => ?_⟩
  cases x with
  | true => exact iteT (ha _ _ _ _ _ _ _ _ _ s1 (st.dm _ _ _ x1.dm hp) _ _ _ h Q fun v H' π' lf' x2 k => q v H' π' lf' (x1.trans x2) (k.of x1.dm))
  | false => exact iteF (hb _ _ _ _ _ _ _ _ _ s1 (st.dm _ _ _ x1.dm hp) _ _ _ h Q fun v H' π' lf' x2 k => q v H' π' lf' (x1.trans x2) (k.of x1.dm))
theorem hndA_nil : HndA X Γ P [] [] := fun H0 F ρ S σ H π lo lf s _ => sndA_nil H0 F ρ S σ H π lo lf s
theorem hndA_cons {es : List Expr} {cs : List CE} (st : Sta P) (hs : isStar a = false) (ha : HndE X Γ P a ca) (hr : HndA X Γ P es cs) : HndA X Γ P (a :: es) (ca :: cs) := fun H0 F ρ S σ H π lo lf s hp r ρ' S' h Q q => by
  simp only [evs] at h
  obtain ⟨x, ρ1, S1, h1, h'⟩ := bind_ok_inv h
  obtain ⟨y, ρ2, S2, h2, g⟩ := bind_ok_inv h'
  clear h h'
  cases g
  refine ⟨_, pa_cons (mxE X a) (mxA X es) (star_cons hs), ha.sh s hp h1 fun v1 H1 π1 lf1 x1 s1 r1 => hr _ _ _ _ _ _ _ _ _ s1 (st.dm _ _ _ x1.dm hp) _ _ _ h2 _ fun vs H2 π2 lf2 x2 s2 r2 => ?_⟩
  exact q _ _ _ _ (x1.trans x2) s2 (.cons (r1.keep x2.toKeeps) r2)
theorem hndA_all {es : List Expr} {cv : Expr → CE} (st : Sta P) (hs : es.any isStar = false) (h : ∀ e, HndE X Γ P e (cv e)) : HndA X Γ P es (es.map cv) := by
  induction es with
  | nil => exact hndA_nil
  | cons e es ih =>
    simp only [List.any_cons, Bool.or_eq_false_iff] at hs
    exact hndA_cons st hs.1 (h e) (ih hs.2)
theorem hnd_lst {es : List Expr} {cs : List CE} (ha : HndA X Γ P es cs) : HndE X Γ P (.List es pos) (.lst cs) := fun H0 F ρ S σ H π lo lf s hp r ρ' S' h Q q => by
  simp only [ev] at h
  obtain ⟨x, ρ1, S1, h1, g⟩ := bind_ok_inv h
  clear h
  split at g
  · cases g
    rename_i hz
    refine ⟨_, pe_lst (mxA X es), ha _ _ _ _ _ _ _ _ _ s hp _ _ _ h1 _ fun vs H2 π2 lf2 x2 s2 r2 => ⟨by rw [r2.length]; exact hz, ?_⟩⟩
    exact val_lst s2 r2 (fun Q z => z) (fun v H' => Q v H') fun v H' π' lf' x3 k => q v H' π' lf' (x2.trans x3) (k.of x2.dm)
  · cases g
theorem hnd_tup {es : List Expr} {cs : List CE} {j : Nat} (ha : HndA X Γ P es cs) : HndE X Γ P (.Tuple es j pos) (.tup cs) := fun H0 F ρ S σ H π lo lf s hp r ρ' S' h Q q => by
  simp only [ev] at h
  obtain ⟨x, ρ1, S1, h1, g⟩ := bind_ok_inv h
  clear h
  split at g
  · cases g
    rename_i hz
    refine ⟨_, pe_tup (mxA X es), ha _ _ _ _ _ _ _ _ _ s hp _ _ _ h1 _ fun vs H2 π2 lf2 x2 s2 r2 => ⟨by rw [r2.length]; exact hz, ?_⟩⟩
    exact val_tup s2 r2 (fun Q z => z) (fun v H' => Q v H') fun v H' π' lf' x3 k => q v H' π' lf' (x2.trans x3) (k.of x2.dm)
  · cases g
/-! tests -/
theorem hndT_of (he : ∀ whole, isTrue e X.env whole = (do let v ← whole; standAt e.pos; holding [v] (truthy v))) (h : HndE X Γ P e c) : HndT X Γ P e (.e c) := fun H0 F ρ S σ H π lo lf s hp r ρ' S' hv Q q => by
  simp only [evT] at hv
  obtain ⟨x, ρ1, S1, h1, hv⟩ := bind_ok_inv hv
  obtain ⟨h2, rfl, rfl⟩ := of_ok_inv hv
  have := isB_inv h2
  subst this
  exact ⟨_, pt_val (mxE X e) he, h.sh s hp h1 fun v1 H1 π1 lf1 x1 s1 r1 => ⟨_, r1.bl_inv, q _ _ _ x1 s1⟩⟩
theorem hndT_bad (h : ∀ ρ S, ev Γ c ρ S = .bad) : HndT X Γ P e (.e c) := fun H0 F ρ S σ H π lo lf s hp r ρ' S' hv Q q => by
  simp only [evT, h, Out.bind_bad] at hv
  cases hv
theorem hndT_nt (ha : HndT X Γ P a ka) : HndT X Γ P (.UnaryOp .Not a pos) (.nt ka) := fun H0 F ρ S σ H π lo lf s hp r ρ' S' h Q q => by
  simp only [evT] at h
  obtain ⟨x, ρ1, S1, h1, h⟩ := bind_ok_inv h
  cases h
  exact ⟨_, pt_not (mxT X a), ha _ _ _ _ _ _ _ _ _ s hp _ _ _ h1 _ fun H' π' lf' x1 s1 => q H' π' lf' x1 s1⟩
def HndW (X : Cx) (Γ : Ctx) (P : L2.St → Hp → Prop) (e : Expr) (c : CT) : Prop := ∀ H0 F ρ S σ H π lo lf, Sim X.K H0 F ρ S σ H π lo lf → P σ H → ∀ b ρ' S', evT Γ c ρ S = .ok b ρ' S' → ∀ Q : Bool → Hp → Prop,
  (∀ H' π' lf', Ext X.K F H π (Mt F ρ S π lo lf) H' π' (Mt F ρ' S' π' lo lf') → Sim X.K H0 F ρ' S' σ H' π' lo lf' → Q b H') → MxW X e σ H Q
theorem HndW.t (h : HndW X Γ P e k) : HndT X Γ P e k := fun H0 F ρ S σ H π lo lf s hp r ρ' S' hv Q q => by
  obtain ⟨t, h1, h2⟩ := h H0 F ρ S σ H π lo lf s hp r ρ' S' hv Q q
  exact ⟨t, h1.pt, h2⟩
theorem hndW_one {op : BoolOp} (ha : HndT X Γ P a ka) : HndW X Γ P (.BoolOp op [a] pos) ka := fun H0 F ρ S σ H π lo lf s hp r ρ' S' h Q q => by
  cases op with
  | And => exact ⟨_, pw_and1 (mxT X a), ha H0 F ρ S σ H π lo lf s hp r ρ' S' h Q q⟩
  | Or => exact ⟨_, pw_or1 (mxT X a), ha H0 F ρ S σ H π lo lf s hp r ρ' S' h Q q⟩
theorem hndW_and {r : List Expr} (st : Sta P) (ha : HndT X Γ P a ka) (hb : HndW X Γ P (.BoolOp .And (b :: r) pos) kb) : HndW X Γ P (.BoolOp .And (a :: b :: r) pos) (.and ka kb) := fun H0 F ρ S σ H π lo lf s hp r ρ' S' h Q q => by
  simp only [evT] at h
  obtain ⟨x, ρ1, S1, h1, h⟩ := bind_ok_inv h
  refine ⟨_, pw_and (mxT X a) (mxW X _), ha _ _ _ _ _ _ _ _ _ s hp _ _ _ h1 _ fun H1 π1 lf1 x1 s1 => ?_⟩
  cases x with
  | true => exact iteT (hb _ _ _ _ _ _ _ _ _ s1 (st.dm _ _ _ x1.dm hp) _ _ _ h Q fun H' π' lf' x2 k => q H' π' lf' (x1.trans x2) k)
  | false =>
    cases h
    exact iteF (q _ _ _ x1 s1)
theorem hndW_or {r : List Expr} (st : Sta P) (ha : HndT X Γ P a ka) (hb : HndW X Γ P (.BoolOp .Or (b :: r) pos) kb) : HndW X Γ P (.BoolOp .Or (a :: b :: r) pos) (.or ka kb) := fun H0 F ρ S σ H π lo lf s hp r ρ' S' h Q q => by
  simp only [evT] at h
  obtain ⟨x, ρ1, S1, h1, h⟩ := bind_ok_inv h
  refine ⟨_, pw_or (mxT X a) (mxW X _), ha _ _ _ _ _ _ _ _ _ s hp _ _ _ h1 _ fun H1 π1 lf1 x1 s1 => ?_⟩
  cases x with
  | false => exact iteF (hb _ _ _ _ _ _ _ _ _ s1 (st.dm _ _ _ x1.dm hp) _ _ _ h Q fun H' π' lf' x2 k => q H' π' lf' (x1.trans x2) k)
  | true =>
    cases h
    exact iteT (q _ _ _ x1 s1)
theorem convT_hnd (ok : CokB X Γ) (st : Sta P) {cv : Expr → CE} (hcv : ∀ e, HndE X Γ P e (cv e)) (hcm : ∀ a ops bs p ρ S, ev Γ (cv (.Compare a ops bs p)) ρ S = .bad) : ∀ (f : Nat) (e : Expr), HndT X Γ P e (convT cv f e) ∧ ∀ op v vs p, e = .BoolOp op (v :: vs) p → HndW X Γ P e (convT cv f e)
  | 0, e => ⟨hndT_bad (ev_unk ok), fun op v vs p he H0 F ρ S σ H π lo lf s hp r ρ' S' h => by
    rw [show convT cv 0 e = .e CE.unk from rfl, evT_unk ok] at h
    cases h⟩
  | f + 1, e => by
    have ih := convT_hnd ok st hcv hcm f
    have hW : ∀ op v vs p, HndW X Γ P (.BoolOp op (v :: vs) p) (convT cv (f + 1) (.BoolOp op (v :: vs) p)) := fun op v vs p => by
      cases vs with
      | nil => exact hndW_one (ih v).1
      | cons w ws =>
        cases op with
        | And => exact hndW_and st (ih v).1 ((ih (.BoolOp .And (w :: ws) p)).2 _ _ _ _ rfl)
        | Or => exact hndW_or st (ih v).1 ((ih (.BoolOp .Or (w :: ws) p)).2 _ _ _ _ rfl)
    refine ⟨?_, fun op v vs p he => by subst he; exact hW op v vs p⟩
    cases e with
    | IfExp t a b p => exact hndT_bad (ev_unk ok)
    | UnaryOp op a p =>
      cases op with
      | Not => exact hndT_nt (ih a).1
      | _ => exact hndT_of (fun _ => rfl) (hcv _)
    | BoolOp op vs p =>
      cases vs with
      | nil => exact hndT_bad (ev_unk ok)
      | cons v vs => exact (hW op v vs p).t
    | Compare a ops bs p => exact hndT_bad (hcm a ops bs p)
    | _ => exact hndT_of (fun _ => rfl) (hcv _)
end
/-! ### the suite of a clause -/
/-- what the suite's slots and heap bear -/
def Pz (en : Option Nat) (a : Addr) (d : Option Addr) : L2.St → Hp → Prop := fun σ H => (∀ i, en = some i → σ[i]? = some (some (.ref a))) ∧ ∀ dx, d = some dx → H dx ≠ none
theorem sta_pz {en : Option Nat} {a : Addr} {d : Option Addr} : Sta (Pz en a d) := ⟨fun σ H H' h hp => ⟨hp.1, fun dx e z => hp.2 dx e (h dx z)⟩⟩
section
variable {X : Cx} {Γ : Ctx} {a : Addr} {oe : Obj} {pn : List (Addr × Obj)} {d : Option Addr} {x : Xn} {p pos : Pos}
theorem suite_okB (ok : CokB X Γ) : CokB (X.suite a pn) { Γ with xn := some x } := ⟨ok.nd, ok.hu, ok.blt, ok.unk, ok.hu2, ok.dc, ok.gl, ok.xc, ok.xp, ok.xv, ok.hf, ok.hm⟩
theorem hnd_xis {C : Addr} {i : Nat} {n c : Str} {p1 p2 : Pos} (ok : CokB X Γ) (hz : L2N.Zn (.ref C) d oe) (hf : ∃ vs, oe.data = .fields vs) (hx : XClsAt X.K x.cls C) (hxc : Γ.xc x.cls ≠ none) (hN : X.N[i]? = some n) (hv : Vis X.env.scope n) (hd : (n == ("__debug__" : Str)) = false) (hcd : (n == ("__classdict__" : Str)) = false)
    (hg : Gl X "isinstance") (hgc : Gl X c) (hdc : (c == ("__debug__" : Str)) = false) (hnc : c ≠ "__name__") :
    HndE (X.suite a ((a, oe) :: pn)) { Γ with xn := some x } (Pz (some i) a d) (.Call (.Name "isinstance" p) [.Name n p1, .Name c p2] [] pos) (.xis c) := fun H0 F ρ S σ H π lo lf s hp r ρ' S' h Q q => by
  simp only [ev] at h
  split at h
  case isFalse => cases h
  rename_i hc
  cases h
  have fin : ∀ (cv : Value) (vc : V) (bb : Bool), (∀ u, RelV vc u → u = cv) → PySem.W.kitOne X.K (.ref C) cv = some bb → Q (.bl bb) H → PE (X.suite a ((a, oe) :: pn)) (.Name c p2) (tC vc) → MxE (X.suite a ((a, oe) :: pn)) (.Call (.Name "isinstance" p) [.Name n p1, .Name c p2] [] pos) σ H Q := fun cv vc bb h1 h2 h3 h4 => by
    refine ⟨_, pe_callB (X := X.suite a ((a, oe) :: pn)) (HtX.isE hx.is hz hf) hg (ok.blt "isinstance" (by decide)) PyProof.Rows.boot_isinstance (pa_cons (pe_var hN hv hd hcd) (pa_cons h4 pa_nil)) (by decide) (by decide) rfl rfl, ?_⟩
    exact ⟨_, hp.1 i rfl, vc, cv, bb, rfl, h1, h2, hp.2, h3⟩
  by_cases hve : c = "ValueError"
  · subst hve
    refine fin (.type "ValueError") (.ty "ValueError") true (fun u hu => hu) ?_ (by simpa using q (.bl true) H π lf .refl ⟨s, .bl _⟩) (pe_bltn hgc ok.xv (by decide +kernel) rfl hnc hdc)
    unfold PySem.W.kitOne
    rw [if_neg (by simp)]
    exact hx.ve
  · rcases hc with hc | hc
    · exact absurd hc hve
    · obtain ⟨kk, hk⟩ := Option.ne_none_iff_exists'.mp hc
      obtain ⟨C', k1, k2, _⟩ := ok.xc c kk hk
      refine fin (.ref C') (.ref C') (excSub x.cls c) (fun u hu => hu) ?_ ?_ (pe_glob hgc k2 (show RelV (.ref C') (.ref C') from rfl) hdc)
      · unfold PySem.W.kitOne
        split
        · rename_i he
          have e : C = C' := Value.ref.inj (beq_iff_eq.mp he)
          subst e
          have hxp := ok.xp x.cls C c C hxc hc hx k1
          -- the same class: kitCls says whether; a class is under itself
          have : PySem.W.kitCls X.K (.ref C) (.ref C) = some true := by
            have hs := ok.xp x.cls C x.cls C hxc hxc hx hx
            rw [hs]
            simp [excSub]
          rw [this] at hxp
          exact hxp
        · exact ok.xp x.cls C c C' hxc hc hx k1
      · have := q (.bl (decide (c = "ValueError") || excSub x.cls c)) H π lf .refl ⟨s, .bl _⟩
        simpa [hve] using this
end
end Ht

set_option Elab.async false
set_option linter.all false
set_option maxRecDepth 100000
set_option maxHeartbeats 1000000
/-! ### soundness: the statements of a suite -/
namespace Ht
open PySem L2
structure WishP (P : L2.St → Hp → Prop) (K : Fg) (H0 : Hp) (F : AS) (ρ : Env) (S : Store) (H : Hp) (π : List Addr) (lo : Nat → Addr) (lf : Nat → Str → Addr) (D : Ends) (fl : Fl) (ρ' : Env) (S' : Store) : Prop where
  go : ∀ σ' H' π' lo' lf', Ext K F H π (Mt F ρ S π lo lf) H' π' (Mt F ρ' S' π' lo' lf') → Sim K H0 F ρ' S' σ' H' π' lo' lf' → P σ' H' → FlTo D fl σ' H'
  rt : ∀ r, fl = .rt r → ∀ v H' π' lf', Ext K F H π (Mt F ρ S π lo lf) H' π' (Mt F [] S' π' (fun _ => 0) lf') → RvOk K H0 H0 F [] S' [] H' π' (fun _ => 0) lf' v r → D.rt v H'
theorem WishP.after {P : L2.St → Hp → Prop} {K : Fg} {H0 : Hp} {F : AS} {ρ ρ' ρ'' : Env} {S S' S'' : Store} {H : Hp} {π : List Addr} {lo : Nat → Addr} {lf : Nat → Str → Addr} {D : Ends} {fl : Fl} (w : WishP P K H0 F ρ S H π lo lf D fl ρ'' S'') {H1 : Hp} {π1 : List Addr} {lo1 : Nat → Addr} {lf1 : Nat → Str → Addr} (x : Ext K F H π (Mt F ρ S π lo lf) H1 π1 (Mt F ρ' S' π1 lo1 lf1)) : WishP P K H0 F ρ' S' H1 π1 lo1 lf1 D fl ρ'' S'' :=
  ⟨fun σ' H' π' lo' lf' y s p => w.go σ' H' π' lo' lf' (x.trans y) s p, fun r e v H' π' lf' y k => w.rt r e v H' π' lf' (x.trans y) k⟩
def HndS (X : Cx) (Γ : Ctx) (P : L2.St → Hp → Prop) (s : Stmt) (c : CS) : Prop := ∀ H0 F ρ S σ H π lo lf, Sim X.K H0 F ρ S σ H π lo lf → P σ H → ∀ fl ρ' S', evS Γ c ρ S = .ok fl ρ' S' → ∀ D : Ends, WishP P X.K H0 F ρ S H π lo lf D fl ρ' S' → MxS X s D σ H
def HndSs (X : Cx) (Γ : Ctx) (P : L2.St → Hp → Prop) (s : List Stmt) (c : List CS) : Prop := ∀ H0 F ρ S σ H π lo lf, Sim X.K H0 F ρ S σ H π lo lf → P σ H → ∀ fl ρ' S', evSs Γ c ρ S = .ok fl ρ' S' → ∀ D : Ends, WishP P X.K H0 F ρ S H π lo lf D fl ρ' S' → MxSs X s D σ H
section
variable {X : Cx} {Γ : Ctx} {P : L2.St → Hp → Prop} {e a b : Expr} {c ca cb : CE} {k : CT} {p pos : Pos}
theorem hndS_unk {s : Stmt} : HndS X Γ P s .unk := fun H0 F ρ S σ H π lo lf sm hp fl ρ' S' he => by
  simp only [evS] at he
  cases he
theorem hndSs_nil : HndSs X Γ P [] [] := fun H0 F ρ S σ H π lo lf s hp fl ρ' S' h D w => by
  simp only [evSs] at h
  cases h
  exact ⟨_, pss_nil, w.go σ H π lo lf .refl s hp⟩
theorem hndSs_cons {s : Stmt} {r : List Stmt} {cs : CS} {cr : List CS} (h1 : HndS X Γ P s cs) (h2 : HndSs X Γ P r cr) : HndSs X Γ P (s :: r) (cs :: cr) := fun H0 F ρ S σ H π lo lf sm hp fl ρ' S' h D w => by
  simp only [evSs] at h
  obtain ⟨f1, ρ1, S1, g1, g2⟩ := bind_ok_inv h
  clear h
  refine ⟨_, pss_cons (mxS X s) (mxSs X r), ?_⟩
  cases f1 with
  | nx => exact h1 _ _ _ _ _ _ _ _ _ sm hp _ _ _ g1 _ ⟨fun σ' H' π' lo' lf' x t q => h2 _ _ _ _ _ _ _ _ _ t q _ _ _ g2 D (w.after x), fun r e => by cases e⟩
  | bk =>
    cases g2
    exact h1 _ _ _ _ _ _ _ _ _ sm hp _ _ _ g1 _ ⟨fun σ' H' π' lo' lf' x t q => w.go _ _ _ _ _ x t q, fun r e => by cases e⟩
  | ct =>
    cases g2
    exact h1 _ _ _ _ _ _ _ _ _ sm hp _ _ _ g1 _ ⟨fun σ' H' π' lo' lf' x t q => w.go _ _ _ _ _ x t q, fun r e => by cases e⟩
  | rt r =>
    cases g2
    exact h1 _ _ _ _ _ _ _ _ _ sm hp _ _ _ g1 _ ⟨fun σ' H' π' lo' lf' x t q => trivial, fun r e v H' π' lf' x k => w.rt r e v H' π' lf' x k⟩
theorem hndSs_all {ss : List Stmt} {cv : Stmt → CS} (h : ∀ s, HndS X Γ P s (cv s)) : HndSs X Γ P ss (ss.map cv) := by
  induction ss with
  | nil => exact hndSs_nil
  | cons s r ih => exact hndSs_cons (h s) ih
theorem hndS_pas : HndS X Γ P (.Pass pos) .pas := fun H0 F ρ S σ H π lo lf s hp fl ρ' S' h D w => by
  simp only [evS] at h
  cases h
  exact ⟨_, ps_pass, w.go σ H π lo lf .refl s hp⟩
theorem hndS_ret (ha : HndE X Γ P a ca) : HndS X Γ P (.Return (some a) pos) (.ret ca) := fun H0 F ρ S σ H π lo lf s hp fl ρ' S' h D w => by
  simp only [evS] at h
  obtain ⟨x, ρ1, S1, h1, g⟩ := bind_ok_inv h
  clear h
  cases g
  exact ⟨_, ps_ret (mxE X a), ha _ _ _ _ _ _ _ _ _ s hp _ _ _ h1 _ fun v H' π' lf' y k => w.rt _ rfl v H' π' lf' y.drop (k.drop.of s.dm)⟩
theorem hndS_ite {t : Expr} {sa sb : List Stmt} {ka kb : List CS} (st : Sta P) (ht : HndT X Γ P t k) (ha : HndSs X Γ P sa ka) (hb : HndSs X Γ P sb kb) : HndS X Γ P (.If t sa sb pos) (.ite k ka kb) := fun H0 F ρ S σ H π lo lf s hp fl ρ' S' h D w => by
  simp only [evS] at h
  obtain ⟨y, ρ1, S1, h1, g⟩ := bind_ok_inv h
  clear h
  refine ⟨_, ps_if (mxT X t) (mxSs X sa) (mxSs X sb), ht _ _ _ _ _ _ _ _ _ s hp _ _ _ h1 _ fun H1 π1 lf1 x1 s1 => ?_⟩
  cases y with
  | true => exact iteT (ha _ _ _ _ _ _ _ _ _ s1 (st.dm _ _ _ x1.dm hp) _ _ _ g D (w.after x1))
  | false => exact iteF (hb _ _ _ _ _ _ _ _ _ s1 (st.dm _ _ _ x1.dm hp) _ _ _ g D (w.after x1))
theorem hndS_asg {own : Bool} {i : Nat} {x : Str} (st : Sta P) (hset : ∀ σ H v, P σ H → P (σ.set i v) H) (nd : X.N.Nodup) (hfn : ∀ x, X.fn x = true) (hN : X.N[i]? = some x) (hx : Loc X.env.scope x) (hs : swapsWith a (some (.Name x p)) pos.line X.env = pure false) (ha : HndE X Γ P a ca) : HndS X Γ P (.Assign [.Name x p] a pos) (.asg own i ca) := fun H0 F ρ S σ H π lo lf s hp fl ρ' S' h D w => by
  simp only [evS] at h
  obtain ⟨y, ρ1, S1, h1, g⟩ := bind_ok_inv h
  clear h
  cases g
  refine ⟨_, ps_set nd hN hx (mxE X a) hs (.inl (hfn x)), ha _ _ _ _ _ _ _ _ _ s hp _ _ _ h1 _ fun v H1 π1 lf1 x1 k1 => ?_⟩
  exact asg_fin (D := { nx := fun σ' H' => P σ' H' → D.nx σ' H', rt := D.rt, bk := D.bk, ct := D.ct }) ⟨fun σ' H' π' lo' lf' y t q => w.go σ' H' π' lo' lf' y t q, fun r e => by cases e⟩ x1 s k1 (hset _ _ _ (st.dm _ _ _ x1.dm hp))
theorem hndS_app {i : Nat} {x : Str} {ap cp : Pos} (st : Sta P) (hN : X.N[i]? = some x) (hv : Vis X.env.scope x) (hd : (x == ("__debug__" : Str)) = false) (hcd : (x == ("__classdict__" : Str)) = false) (hl : (ap.endLine == cp.line) = true) (hs : isStar a = false) (ha : HndE X Γ P a ca) : HndS X Γ P (.Expr (.Call (.Attribute (.Name x p) "append" ap) [a] [] cp) pos) (.app i ca) := fun H0 F ρ S σ H π lo lf s hp fl ρ' S' h D w => by
  simp only [evS] at h
  cases hg : gt ρ i with
  | no => rw [hg] at h; cases h
  | v d => rw [hg] at h; cases h
  | own ds =>
    rw [hg] at h
    simp only at h
    obtain ⟨y, ρ1, S1, h1, g⟩ := bind_ok_inv h
    clear h
    obtain ⟨q1, vs, q2, q3⟩ := s.ow i ds hg
    cases hg1 : gt ρ1 i with
    | no => rw [hg1] at g; cases g
    | v d => rw [hg1] at g; cases g
    | own es =>
      rw [hg1] at g
      simp only at g
      split at g
      · rename_i hz
        cases g
        refine ⟨_, ps_expr (pe_bm PySem.F.plainAttrs_list PySem.F.slot_list_append PySem.F.type_list_append mt_append (pe_var hN hv hd hcd) (pa_cons (mxE X a) pa_nil (star_cons hs)) rfl (by rw [star_cons hs]; rfl) hl (star_cons hs) rfl) rfl, ?_⟩
        refine ⟨_, q1, .inl ⟨rfl, _, SqL.of q2⟩, ha.sh s hp h1 fun v H1 π1 lf1 x1 s1 r1 => ?_⟩
        obtain ⟨g1, ws, g2, g3⟩ := s1.ow i es hg1
        obtain ⟨s2, x2⟩ := s1.setOwn hg1 (g3.append (.cons r1 .nil))
        exact ⟨lo i, ws, v, rfl, rfl, g2, by rw [g3.length]; exact hz, w.go σ _ _ lo _ (x1.trans x2) s2 (st.dm _ _ _ (x1.trans x2).dm hp)⟩
      · cases g
end
/-! ### where a name is stored -/
theorem swaps_false {e : Expr} {t : Option Expr} {l : Nat} {env : PySem.Env} (h1 : ∀ a b c d, e ≠ .ListComp a b c d) (h2 : ∀ a b c d, e ≠ .SetComp a b c d) (h3 : ∀ a b c d f, e ≠ .DictComp a b c d f) : swapsWith e t l env = pure false := by
  cases e <;> first | rfl | (exact absurd rfl (h1 _ _ _ _)) | (exact absurd rfl (h2 _ _ _ _)) | (exact absurd rfl (h3 _ _ _ _ _))
/-! ### the translation of suites -/
section
variable {X : Cx} {Γ : Ctx} {a : Addr} {oe : Obj} {pn : List (Addr × Obj)} {d : Option Addr} {x : Xn} {C : Addr}
/-- the clause's name and its slot -/
def EnOk (X : Cx) (en : Option Str) (ei : Option Nat) : Prop := ∀ n, en = some n → ∃ i, ei = some i ∧ X.N[i]? = some n
theorem convX_hnd (N : List Str) (mu : List Nat) {en : Option Str} {ei : Option Nat} (hN : X.N = N) (ok : CokB X Γ) (hen : EnOk X en ei) (hz : L2N.Zn (.ref C) d oe) (hf : ∃ vs, oe.data = .fields vs) (hx : XClsAt X.K x.cls C) (hxc : Γ.xc x.cls ≠ none) :
    ∀ (f : Nat) (e : Expr), HndE (X.suite a ((a, oe) :: pn)) { Γ with xn := some x } (Pz ei a d) e (convX f N mu X.env.scope en e)
  | 0, e => hnd_bad (ev_unk (suite_okB (a := a) (pn := (a, oe) :: pn) ok))
  | f + 1, e => by
    have okS := suite_okB (x := x) (a := a) (pn := (a, oe) :: pn) ok
    have ih := convX_hnd N mu hN ok hen hz hf hx hxc f
    have unk : ∀ e, HndE (X.suite a ((a, oe) :: pn)) { Γ with xn := some x } (Pz ei a d) e CE.unk := fun e => hnd_bad (ev_unk okS)
    have hcm : ∀ a ops bs p ρ S, ev { Γ with xn := some x } (convX f N mu X.env.scope en (.Compare a ops bs p)) ρ S = .bad := fun _ _ _ _ ρ S => by
      cases f with
      | zero => exact ev_unk okS ρ S
      | succ f => exact ev_unk okS ρ S
    unfold convX
    split
    · split
      · rename_i h
        obtain ⟨h1, h2, h3, h4⟩ := locOf_inv h
        split
        · exact unk _
        · exact hnd_of (snd_slot (X := X.suite a ((a, oe) :: pn)) (by show X.N[_]? = _; rw [hN]; exact h2) h1 h3 h4)
      · exact unk _
    · exact hnd_of snd_int
    · exact hnd_of snd_bl
    · exact hnd_of snd_non
    · exact hnd_of snd_str
    · exact hnd_bin sta_pz (ih _) (ih _)
    · exact hnd_nt (ih _)
    · split
      · exact hnd_one (ih _)
      · split
        · exact hnd_band sta_pz (ih _) (ih _)
        · exact hnd_bor sta_pz (ih _) (ih _)
      · exact unk _
    · exact hnd_ite sta_pz (convT_hnd okS sta_pz ih hcm f _).1 (ih _) (ih _)
    · split
      · exact unk _
      · rename_i h
        exact hnd_lst (hndA_all sta_pz (by simpa using h) ih)
    · split
      · exact unk _
      · rename_i h
        exact hnd_tup (hndA_all sta_pz (by simpa using h) ih)
    · split
      · rename_i hgi
        subst hgi
        split
        · rename_i h
          simp only [Bool.and_eq_true, decide_eq_true_eq] at h
          obtain ⟨⟨⟨⟨⟨h1, h2⟩, h3⟩, h4⟩, h5⟩, h6⟩ := h
          obtain ⟨i, rfl, hi⟩ := hen _ h6
          exact hnd_xis ok hz hf hx hxc hi (visB_inv h5) (okName_inv h4).1 (okName_inv h4).2.1 (glbB_inv h1) (glbB_inv h2) (okName_inv h3).1 (okName_inv h3).2.2
        · exact unk _
      · exact unk _
    · exact unk _
theorem convX_comp {N : List Str} {mu : List Nat} {en : Option Str} (ok : CokB X Γ) (f : Nat) (sc : Scope) {e : Expr} (h : (∃ a b c d, e = .SetComp a b c d) ∨ ∃ a b c d f, e = .DictComp a b c d f) : ∀ ρ S, ev Γ (convX f N mu sc en e) ρ S = .bad := by
  cases f with
  | zero => exact ev_unk ok
  | succ f => rcases h with ⟨a, b, c, d, rfl⟩ | ⟨a, b, c, d, g, rfl⟩ <;> exact ev_unk ok
theorem convXS_hnd (N : List Str) (mu : List Nat) {en : Option Str} {ei : Option Nat} (hN : X.N = N) (ok : CokB X Γ) (hfn : ∀ x, X.fn x = true) (hen : EnOk X en ei) (hei : ∀ i, ei = some i → ∃ n, en = some n) (hz : L2N.Zn (.ref C) d oe) (hf : ∃ vs, oe.data = .fields vs) (hx : XClsAt X.K x.cls C) (hxc : Γ.xc x.cls ≠ none) :
    ∀ (f : Nat) (s : Stmt), HndS (X.suite a ((a, oe) :: pn)) { Γ with xn := some x } (Pz ei a d) s (convXS f N mu X.env.scope en s)
  | 0, s => hndS_unk
  | f + 1, s => by
    have okS := suite_okB (x := x) (a := a) (pn := (a, oe) :: pn) ok
    have ih := convX_hnd (a := a) (oe := oe) (pn := pn) N mu hN ok hen hz hf hx hxc f
    have ihs := convXS_hnd N mu hN ok hfn hen hei hz hf hx hxc f
    have hcm : ∀ a ops bs p ρ S, ev { Γ with xn := some x } (convX f N mu X.env.scope en (.Compare a ops bs p)) ρ S = .bad := fun _ _ _ _ ρ S => by
      cases f with
      | zero => exact ev_unk okS ρ S
      | succ f => exact ev_unk okS ρ S
    unfold convXS
    split
    · exact hndS_ret (ih _)
    · rename_i y py e sp
      split
      · rename_i i hs
        obtain ⟨x', p', i', r', e1, e2, h1, h2, h3⟩ := slotsOf_cons (by rw [← hN] at hs; exact hs)
        cases e1
        cases e2
        split
        · exact hndS_unk
        · rename_i hne
          split
          · exact hndS_unk
          · rename_i hen2
            have hset : ∀ σ H v, Pz ei a d σ H → Pz ei a d (σ.set i v) H := fun σ H v hp => ⟨fun j hj => by
              obtain ⟨n, hn⟩ := hei j hj
              obtain ⟨j', q1, q2⟩ := hen n hn
              rw [hj] at q1
              cases q1
              have ne : i ≠ j := fun z => by
                subst z
                rw [h2] at q2
                cases q2
                exact hen2 hn
              rw [List.getElem?_set_ne ne]
              exact hp.1 j hj, hp.2⟩
            by_cases hsc : (∃ a b c d, e = .SetComp a b c d) ∨ ∃ a b c d f, e = .DictComp a b c d f
            · exact fun H0 F ρ S σ H π lo lf sm hp fl ρ' S' he => by
                simp only [evS, convX_comp okS f _ hsc, Out.bind_bad] at he
                cases he
            · exact hndS_asg (X := X.suite a ((a, oe) :: pn)) sta_pz hset ok.nd hfn h2 (locB_inv h1) (swaps_false (fun a b c d e => hne a b c d e) (fun a b c d e => hsc (.inl ⟨a, b, c, d, e⟩)) fun a b c d f e => hsc (.inr ⟨a, b, c, d, f, e⟩)) (ih _)
      · exact hndS_unk
    · split
      · rename_i hc
        simp only [Bool.and_eq_true, Bool.not_eq_true', decide_eq_true_eq] at hc
        obtain ⟨⟨c1, c2⟩, c3⟩ := hc
        subst c1
        split
        · rename_i hl
          obtain ⟨k1, k2, k3, k4⟩ := locOf_inv hl
          exact hndS_app (X := X.suite a ((a, oe) :: pn)) sta_pz (by show X.N[_]? = _; rw [hN]; exact k2) k1 k3 k4 c2 c3 (ih _)
        · exact hndS_unk
      · exact hndS_unk
    · exact hndS_ite sta_pz (convT_hnd okS sta_pz ih hcm f _).1 (hndSs_all ihs) (hndSs_all ihs)
    · exact hndS_pas
    · exact hndS_unk
end
end Ht

set_option Elab.async false
set_option linter.all false
set_option maxRecDepth 100000
set_option maxHeartbeats 1000000
/-! ### soundness: what is raised within statements; try -/
namespace Ht
open PySem L2
def XToS (K : Fg) (xc : Str → Option Nat) (H0 : Hp) (F : AS) (ρ : Env) (S : Store) (H : Hp) (π : List Addr) (lo : Nat → Addr) (lf : Nat → Str → Addr) (W : WX) (x : Xn) (ρ' : Env) (S' : Store) : Prop :=
  ∀ cls d σ' H' π' lo' lf', Ext K F H π (Mt F ρ S π lo lf) H' π' (Mt F ρ' S' π' lo' lf') → Sim K H0 F ρ' S' σ' H' π' lo' lf' → ExcOk K xc x cls d H' → W cls d σ' H'
section
variable {K : Fg} {xc : Str → Option Nat} {H0 : Hp} {F : AS} {ρ ρ1 ρ' : Env} {S S1 S' : Store} {H H1 : Hp} {π π1 : List Addr} {lo lo1 : Nat → Addr} {lf lf1 : Nat → Str → Addr} {σ : L2.St} {W : WX} {x : Xn}
theorem XToS.e (w : XToS K xc H0 F ρ S H π lo lf W x ρ' S') : XTo K xc H0 F ρ S H π lo lf σ W x ρ' S' := fun cls d H' π' lf' y s e => w cls d σ H' π' lo lf' y s e
theorem XToS.after (w : XToS K xc H0 F ρ S H π lo lf W x ρ' S') (x1 : Ext K F H π (Mt F ρ S π lo lf) H1 π1 (Mt F ρ1 S1 π1 lo1 lf1)) : XToS K xc H0 F ρ1 S1 H1 π1 lo1 lf1 W x ρ' S' := fun cls d σ' H' π' lo' lf' y s e => w cls d σ' H' π' lo' lf' (x1.trans y) s e
end
def XndS (X : Cx) (Γ : Ctx) (s : Stmt) (c : CS) : Prop := ∀ W, L2N.Takes X W → ∀ H0 F ρ S σ H π lo lf, Sim X.K H0 F ρ S σ H π lo lf → ∀ x ρ' S', evS Γ c ρ S = .exc x ρ' S' → XToS X.K Γ.xc H0 F ρ S H π lo lf W x ρ' S' → ∀ D : Ends, MxS X s D σ H
def XndSs (X : Cx) (Γ : Ctx) (s : List Stmt) (c : List CS) : Prop := ∀ W, L2N.Takes X W → ∀ H0 F ρ S σ H π lo lf, Sim X.K H0 F ρ S σ H π lo lf → ∀ x ρ' S', evSs Γ c ρ S = .exc x ρ' S' → XToS X.K Γ.xc H0 F ρ S H π lo lf W x ρ' S' → ∀ D : Ends, MxSs X s D σ H
theorem while_ne {t : Env → Store → Out Bool} {b : Env → Store → Out Fl} : ∀ (n : Nat) (ρ : Env) (S : Store), NE (whileS t b n ρ S)
  | 0, _, _ => ne_bad
  | n + 1, ρ, S => by
    unfold whileS
    refine ne_bindB fun c ρ1 S1 => ?_
    split
    · split
      · exact while_ne n _ _
      · exact while_ne n _ _
      · exact ne_ok
      · exact ne_ok
      · exact ne_bad
      · exact ne_bad
    · exact ne_ok
theorem evFr_ne {Γ : Ctx} : ∀ (es : List CE) (ρ : Env) (S : Store), NE (evFr Γ es ρ S)
  | [], _, _ => ne_ok
  | e :: es, ρ, S => by
    unfold evFr
    refine ne_bindB fun c ρ1 S1 => ?_
    split
    · split
      · exact evFr_ne es _ _
      · exact ne_bad
    · exact ne_bad
section
variable {X : Cx} {Γ : Ctx} {e a b : Expr} {c ca cb : CE} {k : CT} {p pos : Pos}
theorem xndS_ne {s : Stmt} {c : CS} (h : ∀ ρ S, NE (evS Γ c ρ S)) : XndS X Γ s c := fun W tk H0 F ρ S σ H π lo lf sm x ρ' S' hv => absurd hv (h ρ S x ρ' S')
/-- the statements that raise nothing -/
def CS.calm : CS → Bool
  | .aug _ _ _ | .app _ _ | .seti _ _ _ | .retS _ | .retN | .whl _ _ | .pas | .brk | .cnt | .ext _ _ | .unk | .fapp _ _ _ | .fappF _ _ _ _ | .spoil _ _ => true
  | _ => false
theorem calmS_ne {c : CS} (h : c.calm = true) (ρ : Env) (S : Store) : NE (evS Γ c ρ S) := by
  cases c <;> first | (exact (Bool.false_ne_true h).elim) | simp only [evS]
  case whl t b => exact while_ne _ _ _
  case spoil i es =>
    intro x ρ' S' hv
    obtain ⟨_, _, _, _, g⟩ := bindB_exc_inv hv
    split at g <;> cases g
  all_goals repeat' (first | exact ne_ok | exact ne_bad | exact ne_of' | (apply ne_bindB; intro _ _ _) | split)
theorem xndS_calm {s : Stmt} {c : CS} (h : c.calm = true) : XndS X Γ s c := xndS_ne (calmS_ne h)
theorem asg_exc {own : Bool} {i : Nat} {ρ ρ' : Env} {S S' : Store} {x : Xn} (hv : evS Γ (.asg own i ca) ρ S = .exc x ρ' S') : ev Γ ca ρ S = .exc x ρ' S' := by
  simp only [evS] at hv
  rcases bind_exc_inv hv with h1 | ⟨y, ρ1, S1, h1, g⟩
  · exact h1
  · cases g
theorem xndS_asg {own : Bool} {i : Nat} {x : Str} (ok : Dok X Γ) (hN : X.N[i]? = some x) (hx : Loc X.env.scope x) (hs : swapsWith a (some (.Name x p)) pos.line X.env = pure false) (ha : XndE X Γ a ca) : XndS X Γ (.Assign [.Name x p] a pos) (.asg own i ca) := fun W tk H0 F ρ S σ H π lo lf s x ρ' S' hv w D =>
  ⟨_, ps_set ok.nd hN hx (mxE X a) hs (.inl (ok.fn _)), ha W tk _ _ _ _ _ _ _ _ _ s _ _ _ (asg_exc hv) w.e _⟩
theorem xndS_asgC {own : Bool} {i : Nat} {s : Stmt} (h : ca.calm = true) : XndS X Γ s (.asg own i ca) := xndS_ne fun ρ S x ρ' S' hv => absurd (asg_exc hv) (calm_ne h ρ S x ρ' S')
theorem xndS_asgT {ts : List Expr} {is : List Nat} {kk : Nat} {e : Expr} (he : (∃ g as ks cp, e = .Call g as ks cp) ∨ (∃ a b cp, e = .Subscript a b cp) ∨ ∃ x cp, e = .Name x cp) (ok : Dok X Γ) (h : slotsOf X.env.scope X.N ts = some is) (ha : XndE X Γ e ca) : XndS X Γ (.Assign [.Tuple ts kk p] e pos) (.asgT is ca) := fun W tk H0 F ρ S σ H π lo lf s x ρ' S' hv w D => by
  simp only [evS] at hv
  obtain ⟨gg, hpg, hgg⟩ := tg_tup (p := p) (kk := kk) ok h
  rcases bind_exc_inv hv with h1 | ⟨y, ρ1, S1, h1, g⟩
  · exact ⟨_, ps_asg (mxE X _) hpg (by rcases he with ⟨_, _, _, _, rfl⟩ | ⟨_, _, _, rfl⟩ | ⟨_, _, rfl⟩ <;> rfl) (by rcases he with ⟨_, _, _, _, rfl⟩ | ⟨_, _, _, rfl⟩ | ⟨_, _, rfl⟩ <;> rfl) rfl, ha W tk _ _ _ _ _ _ _ _ _ s _ _ _ h1 w.e _⟩
  · unfold asgT at g
    split at g
    · split at g <;> cases g
    · cases g
theorem xndS_exp (hs : swapsWith a none pos.line X.env = pure false) (ha : XndE X Γ a ca) : XndS X Γ (.Expr a pos) (.exp ca) := fun W tk H0 F ρ S σ H π lo lf s x ρ' S' hv w D => by
  simp only [evS] at hv
  rcases bind_exc_inv hv with h1 | ⟨y, ρ1, S1, h1, g⟩
  · exact ⟨_, ps_expr (mxE X a) hs, ha W tk _ _ _ _ _ _ _ _ _ s _ _ _ h1 w.e _⟩
  · cases g
theorem xndS_ret (ha : XndE X Γ a ca) : XndS X Γ (.Return (some a) pos) (.ret ca) := fun W tk H0 F ρ S σ H π lo lf s x ρ' S' hv w D => by
  simp only [evS] at hv
  rcases bind_exc_inv hv with h1 | ⟨y, ρ1, S1, h1, g⟩
  · exact ⟨_, ps_ret (mxE X a), ha W tk _ _ _ _ _ _ _ _ _ s _ _ _ h1 w.e _⟩
  · cases g
theorem xndS_fset {own : Bool} {f : Str} {p2 : Pos} (he : XndE X Γ e c) : XndS X Γ (.Assign [.Attribute a f p2] e pos) (.fset own ca f c) := fun W tk H0 F ρ S σ H π lo lf s x ρ' S' hv w D => by
  simp only [evS] at hv
  rcases bind_exc_inv hv with h1 | ⟨y, ρ1, S1, h1, g⟩
  · exact ⟨_, ps_fld (mxE X a) (mxE X e) swaps_attr, he W tk _ _ _ _ _ _ _ _ _ s _ _ _ h1 w.e _⟩
  · obtain ⟨z, ρ2, S2, h2, g2⟩ := bindB_exc_inv g
    split at g2
    · split at g2
      · split at g2 <;> cases g2
      · cases g2
    · cases g2
theorem xndSs_nil : XndSs X Γ [] [] := fun W tk H0 F ρ S σ H π lo lf s x ρ' S' hv => by simp only [evSs] at hv; cases hv
theorem xndSs_cons {s : Stmt} {r : List Stmt} {cs : CS} {cr : List CS} (h1 : SndS X Γ s cs) (x1 : XndS X Γ s cs) (x2 : XndSs X Γ r cr) : XndSs X Γ (s :: r) (cs :: cr) := fun W tk H0 F ρ S σ H π lo lf sm x ρ' S' hv w D => by
  simp only [evSs] at hv
  refine ⟨_, pss_cons (mxS X s) (mxSs X r), ?_⟩
  rcases bind_exc_inv hv with g1 | ⟨f1, ρ1, S1, g1, g⟩
  · exact x1 W tk _ _ _ _ _ _ _ _ _ sm _ _ _ g1 w _
  · cases f1 with
    | nx => exact h1 _ _ _ _ _ _ _ _ _ sm _ _ _ g1 _ ⟨fun σ' H' π' lo' lf' y t => x2 W tk _ _ _ _ _ _ _ _ _ t _ _ _ g (w.after y) D, fun r e => by cases e⟩
    | bk => cases g
    | ct => cases g
    | rt r => cases g
theorem xndSs_all {ss : List Stmt} {cv : Stmt → CS} (h : ∀ s, SndS X Γ s (cv s)) (x : ∀ s, XndS X Γ s (cv s)) : XndSs X Γ ss (ss.map cv) := by
  induction ss with
  | nil => exact xndSs_nil
  | cons s r ih => exact xndSs_cons (h s) (x s) ih
theorem xndS_ite {t : Expr} {sa sb : List Stmt} {ka kb : List CS} (ht : SndT X Γ t k) (hx : XndT X Γ t k) (ha : XndSs X Γ sa ka) (hb : XndSs X Γ sb kb) : XndS X Γ (.If t sa sb pos) (.ite k ka kb) := fun W tk H0 F ρ S σ H π lo lf s x ρ' S' hv w D => by
  simp only [evS] at hv
  refine ⟨_, ps_if (mxT X t) (mxSs X sa) (mxSs X sb), ?_⟩
  rcases bind_exc_inv hv with h1 | ⟨y, ρ1, S1, h1, g⟩
  · exact hx W tk _ _ _ _ _ _ _ _ _ s _ _ _ h1 w.e _
  · refine ht _ _ _ _ _ _ _ _ _ s _ _ _ h1 _ fun H1 π1 lf1 x1 s1 => ?_
    cases y with
    | true => exact iteT (ha W tk _ _ _ _ _ _ _ _ _ s1 _ _ _ g (w.after x1) D)
    | false => exact iteF (hb W tk _ _ _ _ _ _ _ _ _ s1 _ _ _ g (w.after x1) D)
theorem xndS_rais {x : Str} {cp : Pos} (ok : Dok X Γ) (hg : Gl X x) (hdb : (x == ("__debug__" : Str)) = false) : XndS X Γ (.Raise (some (.Call (.Name x p) [] [] cp)) none pos) (.rais x) := fun W tk H0 F ρ S σ H π lo lf s y ρ' S' hv w D => by
  simp only [evS] at hv
  split at hv
  · rename_i hk
    cases hv
    obtain ⟨C, k1, k2, k3⟩ := ok.xc x 1 hk
    refine ⟨_, L2N.ps_raise ok.calm tk (HtX.mk0 PySem.F.excBase_ValueError (k3.1 rfl) k2 k1.kp (raises_own k1.is.hs k1.ty) hg hdb), ?_⟩
    exact w (.ref C) none σ H π lo lf .refl s ⟨(by rw [hk]; intro z; cases z), ⟨C, rfl, k1⟩, rfl⟩
  · cases hv
theorem xndS_raisAt {x : Str} {cp : Pos} (ok : Dok X Γ) (hg : Gl X x) (hdb : (x == ("__debug__" : Str)) = false) (hs : isStar e = false) (he : SndE X Γ e c) : XndS X Γ (.Raise (some (.Call (.Name x p) [e] [] cp)) none pos) (.raisAt x c) := fun W tk H0 F ρ S σ H π lo lf s y ρ' S' hv w D => by
  simp only [evS] at hv
  obtain ⟨v, ρ1, S1, h1, g⟩ := bindB_exc_inv hv
  clear hv
  split at g
  · rename_i k
    split at g
    · rename_i hk
      cases g
      obtain ⟨C, k1, k2, k3⟩ := ok.xc x 2 hk
      obtain ⟨qn, gg, T⟩ := k3.2 rfl
      refine ⟨_, L2N.ps_raise ok.calm tk (HtY.mkAt T k2 ok.rm (pa_cons (mxE X e) pa_nil (star_cons hs)) hg hdb (star_cons hs)), ?_⟩
      refine he.sh s h1 fun v1 H1 π1 lf1 x1 s1 r1 => ?_
      have r2 := r1.int_inv
      subst r2
      refine ⟨_, rfl, fun dx hd => ?_⟩
      exact w (.ref C) (some dx) σ (upd H1 dx (.xd [(("at" : Str), .int k)])) π1 lo lf1 (x1.trans (Ext.new hd s1)) (s1.new hd) ⟨(by rw [hk]; intro z; cases z), ⟨C, rfl, k1⟩, ⟨dx, rfl, upd_same⟩⟩
    · cases g
  · cases g
/-! ### loops -/
theorem loopS_exc {f : D → Env → Store → Out Fl} {d : D} {ds : List D} {ρ ρ' : Env} {S S' : Store} {x : Xn} (h : loopS f (d :: ds) ρ S = .exc x ρ' S') : f d ρ S = .exc x ρ' S' ∨ ∃ f2 ρ2 S2, f d ρ S = .ok f2 ρ2 S2 ∧ (f2 = .nx ∨ f2 = .ct) ∧ loopS f ds ρ2 S2 = .exc x ρ' S' := by
  unfold loopS at h
  split at h
  · exact .inr ⟨_, _, _, by assumption, .inl rfl, h⟩
  · exact .inr ⟨_, _, _, by assumption, .inr rfl, h⟩
  · cases h
  · cases h
  · cases h
    exact .inl (by assumption)
  · cases h
theorem for_exc {tg it : Expr} {sb : List Stmt} {kb : List CS} {src : Src} {asg : D → Env → Store → Out Fl} (ok : Dok X Γ) (hi : SndI X Γ tg it src) (hg : TgOk X tg asg) (hae : ∀ d ρ S, NE (asg d ρ S)) (hb : SndSs X Γ sb kb) (hx : XndSs X Γ sb kb) (hfs : ∀ v, foldedSetIterable it X.env v = pure v) {W : WX} (tk : L2N.Takes X W) {H0 : Hp} {F : AS} {ρ ρ' : Env} {S S' : Store} {σ : L2.St} {H : Hp} {π : List Addr} {lo : Nat → Addr} {lf : Nat → Str → Addr} {x : Xn}
    (s : Sim X.K H0 F ρ S σ H π lo lf) (h : ((evSrc Γ src ρ S).bindB fun ds ρ S => loopS (fun d ρ S => (asg d ρ S).bind fun _ ρ S => evSs Γ kb ρ S) ds ρ S) = .exc x ρ' S') (w : XToS X.K Γ.xc H0 F ρ S H π lo lf W x ρ' S') {D : Ends} : MxS X (.For tg it sb [] pos) D σ H := by
  obtain ⟨ds, ρ1, S1, h1, g⟩ := bindB_exc_inv h
  clear h
  obtain ⟨gg, hpg, hgg⟩ := hg
  refine ⟨_, ps_for ok.ps ok.calm (mxI X tg it) hpg (mxSs X sb) hfs, hi _ _ _ _ _ _ _ _ _ s _ _ _ h1 _ fun J H1 π1 lf1 x1 s1 w1 => ?_⟩
  refine ⟨fun j m σ2 H2 => ∃ ρ2 S2 π2 lo2 lf2, j ≤ ds.length ∧ m = ds.length - j ∧ Sim X.K H0 F ρ2 S2 σ2 H2 π2 lo2 lf2 ∧ loopS (fun d ρ S => (asg d ρ S).bind fun _ ρ S => evSs Γ kb ρ S) (ds.drop j) ρ2 S2 = .exc x ρ' S' ∧ Ext X.K F H1 π1 (Mt F ρ1 S1 π1 lo lf1) H2 π2 (Mt F ρ2 S2 π2 lo2 lf2),
    ⟨ds.length, ρ1, S1, π1, lo, lf1, Nat.zero_le _, rfl, s1, g, .refl⟩, ?_⟩
  rintro j m σ2 H2 ⟨ρ2, S2, π2, lo2, lf2, hj, hm, s2, g2, x2⟩
  by_cases hlt : j < ds.length
  · refine .inr ⟨w1.go x2.toKeeps hlt, fun σ3 H3 => ∃ ρ2 S2 π2 lo2 lf2, Sim X.K H0 F ρ2 S2 σ3 H3 π2 lo2 lf2 ∧ loopS (fun d ρ S => (asg d ρ S).bind fun _ ρ S => evSs Γ kb ρ S) (ds.drop (j + 1)) ρ2 S2 = .exc x ρ' S' ∧ Ext X.K F H1 π1 (Mt F ρ1 S1 π1 lo lf1) H3 π2 (Mt F ρ2 S2 π2 lo2 lf2), fun σ3 H3 n3 => ?_, fun v H' hy => ?_⟩
    · obtain ⟨ρ2, S2, π2, lo2, lf2, n1, n2, n3⟩ := n3
      exact ⟨ds.length - (j + 1), by omega, ρ2, S2, π2, lo2, lf2, by omega, rfl, n1, n2, n3⟩
    · have hd : ds[j]? = some ds[j] := List.getElem?_eq_getElem hlt
      rw [List.drop_eq_getElem_cons hlt] at g2
      obtain ⟨t3, r3, y3⟩ : Sim X.K H0 F ρ2 S2 σ2 H' π2 lo2 lf2 ∧ Rep X.K H' π2 (Mt F ρ2 S2 π2 lo2 lf2) v ds[j] ∧ Ext X.K F H2 π2 (Mt F ρ2 S2 π2 lo2 lf2) H' π2 (Mt F ρ2 S2 π2 lo2 lf2) := by
        rcases w1.yld x2.toKeeps hy hd with ⟨rfl, q⟩ | ⟨p, ws, es, q1, rfl, rfl, q2, q3⟩
        · exact ⟨s2, q, .refl⟩
        · refine ⟨s2.new q1, ?_, .new q1 s2⟩
          rw [q2]
          exact .tup (SqT.of upd_same) (q3.keep (keeps_new q1 fun _ z => .inl z))
      rcases loopS_exc g2 with g3 | ⟨f2, ρ3, S3, g3, g4, g7⟩
      · rcases bind_exc_inv g3 with g5 | ⟨fa, ρ4, S4, g5, g6⟩
        · exact absurd g5 (hae _ _ _ _ _ _)
        · refine hgg _ _ _ _ _ _ _ _ _ _ _ _ _ _ t3 r3 g5 _ fun σ4 _ x4 s4 => ?_
          exact hx W tk _ _ _ _ _ _ _ _ _ s4 _ _ _ g6 (w.after (x1.trans (x2.trans (y3.trans x4)))) _
      · obtain ⟨fa, ρ4, S4, g5, g6⟩ := bind_ok_inv g3
        refine hgg _ _ _ _ _ _ _ _ _ _ _ _ _ _ t3 r3 g5 _ fun σ4 _ x4 s4 => ?_
        refine hb _ _ _ _ _ _ _ _ _ s4 _ _ _ g6 _ ⟨fun σ5 H5 π5 lo5 lf5 x5 s5 => ?_, fun r e v H5 π5 lf5 x5 k5 => ?_⟩
        · rcases g4 with rfl | rfl
          · exact ⟨ρ3, S3, π5, lo5, lf5, s5, g7, x2.trans (y3.trans (x4.trans x5))⟩
          · exact ⟨ρ3, S3, π5, lo5, lf5, s5, g7, x2.trans (y3.trans (x4.trans x5))⟩
        · rcases g4 with rfl | rfl <;> cases e
  · have ej : j = ds.length := by omega
    subst ej
    rw [List.drop_length] at g2
    simp only [loopS] at g2
    cases g2
theorem xndS_for1 {it : Expr} {sb : List Stmt} {kb : List CS} {src : Src} {i : Nat} {x : Str} (ok : Dok X Γ) (hN : X.N[i]? = some x) (hl : Loc X.env.scope x) (hi : SndI X Γ (.Name x p) it src) (hb : SndSs X Γ sb kb) (hx : XndSs X Γ sb kb) (hfs : ∀ v, foldedSetIterable it X.env v = pure v) : XndS X Γ (.For (.Name x p) it sb [] pos) (.for1 i src kb) := fun W tk H0 F ρ S σ H π lo lf s y ρ' S' h w D => by
  simp only [evS] at h
  exact for_exc ok hi (tg_name ok hN hl) (fun _ _ _ => ne_ok) hb hx hfs tk s h w
theorem xndS_forT {it : Expr} {sb : List Stmt} {kb : List CS} {src : Src} {ts : List Expr} {is : List Nat} {kk : Nat} (ok : Dok X Γ) (h : slotsOf X.env.scope X.N ts = some is) (hi : SndI X Γ (.Tuple ts kk p) it src) (hb : SndSs X Γ sb kb) (hx : XndSs X Γ sb kb) (hfs : ∀ v, foldedSetIterable it X.env v = pure v) : XndS X Γ (.For (.Tuple ts kk p) it sb [] pos) (.forT is src kb) := fun W tk H0 F ρ S σ H π lo lf s y ρ' S' h' w D => by
  simp only [evS] at h'
  refine for_exc ok hi (tg_tup ok h) (fun d ρ S => ?_) hb hx hfs tk s h' w
  unfold asgT
  repeat' (first | exact ne_ok | exact ne_bad | split)
theorem xndS_forN {it t : Expr} {us : List Expr} {sb : List Stmt} {kb : List CS} {src : Src} {i : Nat} {is : List Nat} {kk k2 : Nat} {p2 : Pos} (ok : Dok X Γ) (h0 : slotsOf X.env.scope X.N [t] = some [i]) (h : slotsOf X.env.scope X.N us = some is) (hi : SndI X Γ (.Tuple [t, .Tuple us k2 p2] kk p) it src) (hb : SndSs X Γ sb kb) (hx : XndSs X Γ sb kb) (hfs : ∀ v, foldedSetIterable it X.env v = pure v) : XndS X Γ (.For (.Tuple [t, .Tuple us k2 p2] kk p) it sb [] pos) (.forN i is src kb) := fun W tk H0 F ρ S σ H π lo lf s y ρ' S' h' w D => by
  simp only [evS] at h'
  refine for_exc ok hi (tg_nest ok h0 h) (fun d ρ S => ?_) hb hx hfs tk s h' w
  unfold asgN asgT
  repeat' (first | exact ne_ok | exact ne_bad | split)
/-! ### try -/
def suTs (X : Cx) (bs : List Stmt) : HtX.Suite := fun a cls d D σ H => ∀ oe pn, L2N.Zn cls d oe → (∃ vs, oe.data = .fields vs) → MxSs (X.suite a ((a, oe) :: pn)) bs D σ H
inductive HdR (X : Cx) (Γ : Ctx) : List ExceptHandler → Hd → Prop
  | nil : HdR X Γ [] .nil
  | cons {c : Str} {nm : Option Str} {i : Option Nat} {b0 : Stmt} {bs : List Stmt} {cb : List CS} {np hp : Pos} {r : List ExceptHandler} {h : Hd} (hg : Gl X c) (hdb : (c == ("__debug__" : Str)) = false) (hn : HtX.NameAt X nm i)
      (su : ∀ (a : Addr) (oe : Obj) (pn : List (Addr × Obj)) (d : Option Addr) (x : Xn) (C : Addr), L2N.Zn (.ref C) d oe → (∃ vs, oe.data = .fields vs) → XClsAt X.K x.cls C → Γ.xc x.cls ≠ none → HndSs (X.suite a ((a, oe) :: pn)) { Γ with xn := some x } (Pz i a d) (b0 :: bs) cb) (t : HdR X Γ r h) :
      HdR X Γ (.ExceptHandler (some (.Name c np)) nm (b0 :: bs) hp :: r) (.cons c i cb h)
  | retAt {c n : Str} {i : Nat} {k0 kk : Nat} {np hp p1 p2 p3 p4 p5 : Pos} {r : List ExceptHandler} {h : Hd} (hg : Gl X c) (hdb : (c == ("__debug__" : Str)) = false) (hn : HtX.NameAt X (some n) (some i)) (hv : Vis X.env.scope n) (hd : (n == ("__debug__" : Str)) = false) (hcd : (n == ("__classdict__" : Str)) = false) (t : HdR X Γ r h) :
      HdR X Γ (.ExceptHandler (some (.Name c np)) (some n) [.Return (some (.Tuple [.Constant .none k0 p1, .Attribute (.Name n p2) "at" p3] kk p4)) p5] hp :: r) (.retAt c i h)
theorem noSl_sim {K : Fg} {H0 : Hp} {F : AS} {ρ : Env} {S : Store} {σ σ' : L2.St} {H : Hp} {π : List Addr} {lo : Nat → Addr} {lf : Nat → Str → Addr} {i : Option Nat} (s : Sim K H0 F ρ S σ H π lo lf) (hσ : ∀ j, i ≠ some j → σ'[j]? = σ[j]?) (hl : σ'.length = σ.length) : Sim K H0 F (noSl i ρ) S σ' H π lo lf ∧ ∀ a, Mt F (noSl i ρ) S π lo lf a → Mt F ρ S π lo lf a := by
  cases i with
  | none =>
    have : σ' = σ := List.ext_getElem? fun j => hσ j (by intro z; cases z)
    subst this
    exact ⟨s, fun _ h => h⟩
  | some i => exact s.forget (fun j hj => hσ j fun z => hj (Option.some.inj z)) hl
theorem named_ne {i : Option Nat} {a : Addr} {σ : L2.St} {j : Nat} (h : i ≠ some j) : (HtX.namedS i a σ)[j]? = σ[j]? := by
  cases i with
  | none => rfl
  | some q => exact List.getElem?_set_ne fun z => h (by rw [z])
theorem named_len {i : Option Nat} {a : Addr} {σ : L2.St} : (HtX.namedS i a σ).length = σ.length := by
  cases i with
  | none => rfl
  | some q => exact List.length_set
theorem hd_use {hds : List ExceptHandler} {h : Hd} (ok : Dok X Γ) (hr : HdR X Γ hds h) (hk : h.known Γ.xc = true) : ∃ l, HtX.Hs X hds l ∧ ∀ {W0 : WX} {D : Ends} {H0 : Hp} {F : AS} {ρ : Env} {S : Store} {σ : L2.St} {H : Hp} {π : List Addr} {lo : Nat → Addr} {lf : Nat → Str → Addr} {x : Xn} {cls : Value} {d : Option Addr},
    Sim X.K H0 F ρ S σ H π lo lf → ExcOk X.K Γ.xc x cls d H →
    (∀ fl ρ' S', evH Γ x h ρ S = .ok fl ρ' S' → Wish X.K H0 F ρ S H π lo lf D fl ρ' S' → HtX.wAll X.K W0 D l cls d σ H) ∧ (∀ y ρ' S', evH Γ x h ρ S = .exc y ρ' S' → (y = x → ρ' = ρ → S' = S → W0 cls d σ H) → HtX.wAll X.K W0 D l cls d σ H) := by
  induction hr with
  | nil =>
    refine ⟨[], .nil, fun {W0 D H0 F ρ S σ H π lo lf x cls d} s ex => ⟨fun fl ρ' S' h => ?_, fun y ρ' S' h w => ?_⟩⟩
    · simp only [evH] at h
      cases h
    · simp only [evH] at h
      cases h
      exact w rfl rfl rfl
  | @cons c nm i b0 bs cb np hp r h hg hdb hn su t ih =>
    simp only [Hd.known, Bool.and_eq_true] at hk
    obtain ⟨k1, k2⟩ := hk
    obtain ⟨l, hl, use⟩ := ih k2
    obtain ⟨kk, hkk⟩ := Option.isSome_iff_exists.mp k1
    obtain ⟨C', c1, c2, _⟩ := ok.xc c kk hkk
    refine ⟨(.ref C', i, suTs X (b0 :: bs)) :: l, .cons ⟨hg, hdb, .inl c2⟩ hn (fun a oe cls d pn hz hf => ⟨fun pins st σ H D I q => (mxSs _ _).run pins st σ H D I (q oe pn hz hf)⟩) hl, fun {W0 D H0 F ρ S σ H π lo lf x cls d} s ex => ?_⟩
    obtain ⟨e1, ⟨C, rfl, e2⟩, e3⟩ := ex
    have hm : PySem.W.exmOne X.K (.ref C) (.ref C') = some (excSub x.cls c) := by
      unfold PySem.W.exmOne
      rw [if_pos (by rw [c1.is.hs]; rfl)]
      exact ok.xp x.cls C c C' e1 (by rw [hkk]; intro z; cases z) e2 c1
    obtain ⟨u1, u2⟩ := use (W0 := W0) (D := D) s ⟨e1, ⟨C, rfl, e2⟩, e3⟩
    cases hsub : excSub x.cls c with
    | false =>
      refine ⟨fun fl ρ' S' h w => ⟨false, (by rw [hm, hsub]), (fun z => by cases z), fun _ => u1 fl ρ' S' ?_ w⟩, fun y ρ' S' h w => ⟨false, (by rw [hm, hsub]), (fun z => by cases z), fun _ => u2 y ρ' S' ?_ w⟩⟩
      · simp only [evH, hsub, Bool.false_eq_true, if_false] at h
        exact h
      · simp only [evH, hsub, Bool.false_eq_true, if_false] at h
        exact h
    | true =>
      refine ⟨fun fl ρ' S' h w => ⟨true, (by rw [hm, hsub]), fun _ a na oe pn hz hf => ?_, fun z => (by cases z)⟩, fun y ρ' S' h w => ?_⟩
      · simp only [evH, hsub, if_true] at h
        split at h
        case isFalse => cases h
        rename_i hin
        cases hv : evSs { Γ with xn := some x } cb (noSl i ρ) S with
        | bad => rw [hv] at h; cases h
        | exc y ρ2 S2 => rw [hv] at h; cases h
        | ok fl2 ρ2 S2 =>
          rw [hv] at h
          cases h
          have nl : (HtX.namedS i a σ).length = σ.length := named_len
          obtain ⟨s1, l1⟩ := noSl_sim (i := i) (σ' := HtX.namedS i a σ) s (fun j hj => named_ne hj) nl
          have x1 : Ext X.K F H π (Mt F ρ S π lo lf) H π (Mt F (noSl i ρ) S π lo lf) := ⟨.less l1, fun _ _ _ z => z, fun _ z => z⟩
          have pz : Pz i a d (HtX.namedS i a σ) H := ⟨fun j hj => by
            subst hj
            have hlt : j < σ.length := by
              rw [s.len]
              simpa [slIn] using hin
            exact List.getElem?_set_self hlt, fun dx hd z => by
            subst hd
            cases hfl : x.fld with
            | none => rw [hfl] at e3; cases e3
            | some q =>
              rw [hfl] at e3
              obtain ⟨dx', q1, q2⟩ := e3
              cases q1
              rw [z] at q2
              cases q2⟩
          refine su a oe pn d x C hz hf e2 e1 _ _ _ _ _ _ _ _ _ s1 pz _ _ _ hv _ ⟨fun σ2 H2 π2 lo2 lf2 x2 s2 _ => ?_, fun r er v H2 π2 lf2 x2 k2 => ?_⟩
          · have back : ∀ (σ3 : L2.St), (∀ j, i ≠ some j → σ3[j]? = σ2[j]?) → σ3.length = σ2.length → FlTo D fl σ3 H2 := fun σ3 q1 q2 => by
              obtain ⟨s3, l3⟩ := noSl_sim (σ' := σ3) s2 q1 q2
              exact w.go σ3 H2 π2 lo2 lf2 (x1.trans (x2.trans ⟨.less l3, fun _ _ _ z => z, fun _ z => z⟩)) s3
            cases i with
            | none => exact back σ2 (fun _ _ => rfl) rfl
            | some q =>
              have b2 := back (σ2.set q none) (fun j hj => List.getElem?_set_ne fun z => hj (by rw [z])) List.length_set
              cases fl <;> exact b2
          · have := w.rt r er v H2 π2 lf2 (x1.trans x2) k2
            cases i <;> exact this
      · simp only [evH, hsub, if_true] at h
        split at h
        · cases hv : evSs { Γ with xn := some x } cb (noSl i ρ) S <;> (rw [hv] at h; cases h)
        · cases h
  | @retAt c n i k0 kk np hp p1 p2 p3 p4 p5 r h hg hdb hn hv hd hcd t ih =>
    simp only [Hd.known, Bool.and_eq_true] at hk
    obtain ⟨k1, k2⟩ := hk
    obtain ⟨l, hl, use⟩ := ih k2
    obtain ⟨kc, hkk⟩ := Option.isSome_iff_exists.mp k1
    obtain ⟨C', c1, c2, _⟩ := ok.xc c kc hkk
    refine ⟨(.ref C', some i, suTs X _) :: l, .cons ⟨hg, hdb, .inl c2⟩ hn (fun a oe cls d pn hz hf => ⟨fun pins st σ H D I q => (mxSs _ _).run pins st σ H D I (q oe pn hz hf)⟩) hl, fun {W0 D H0 F ρ S σ H π lo lf x cls d} s ex => ?_⟩
    obtain ⟨e1, ⟨C, rfl, e2⟩, e3⟩ := ex
    have hm : PySem.W.exmOne X.K (.ref C) (.ref C') = some (excSub x.cls c) := by
      unfold PySem.W.exmOne
      rw [if_pos (by rw [c1.is.hs]; rfl)]
      exact ok.xp x.cls C c C' e1 (by rw [hkk]; intro z; cases z) e2 c1
    obtain ⟨u1, u2⟩ := use (W0 := W0) (D := D) s ⟨e1, ⟨C, rfl, e2⟩, e3⟩
    cases hsub : excSub x.cls c with
    | false =>
      refine ⟨fun fl ρ' S' h w => ⟨false, (by rw [hm, hsub]), (fun z => by cases z), fun _ => u1 fl ρ' S' ?_ w⟩, fun y ρ' S' h w => ⟨false, (by rw [hm, hsub]), (fun z => by cases z), fun _ => u2 y ρ' S' ?_ w⟩⟩
      · simp only [evH, hsub, Bool.false_eq_true, if_false] at h
        exact h
      · simp only [evH, hsub, Bool.false_eq_true, if_false] at h
        exact h
    | true =>
      refine ⟨fun fl ρ' S' h w => ⟨true, (by rw [hm, hsub]), fun _ a na oe pn hz hf => ?_, fun z => (by cases z)⟩, fun y ρ' S' h w => ?_⟩
      · simp only [evH, hsub, if_true] at h
        cases hfl : x.fld with
        | none => rw [hfl] at h; cases h
        | some q =>
          rw [hfl] at h e3
          simp only at h e3
          split at h
          case isFalse => cases h
          rename_i hin
          cases h
          obtain ⟨dx, rfl, hdx⟩ := e3
          obtain ⟨C2, t1, t2, t3⟩ := ok.xc x.cls 2 hin.2
          have eC := t1.at_.symm.trans e2.at_
          cases eC
          obtain ⟨qn, gg, T⟩ := t3.2 rfl
          have hlt : i < σ.length := by
            rw [s.len]
            simpa [slIn] using hin.1
          obtain ⟨s1, l1⟩ := noSl_sim (i := some i) (σ' := HtX.namedS (some i) a σ) s (fun j hj => named_ne hj) named_len
          refine ⟨_, pss_cons (ps_ret (pe_tup (pa_cons pe_non (pa_cons (HtY.peAt T hz hf (pe_var (X := X.suite a ((a, oe) :: pn)) hn.1 hv hd hcd)) pa_nil (star_cons rfl)) (star_cons rfl)))) pss_nil, ?_⟩
          refine ⟨_, List.getElem?_set_self hlt, rfl, rfl, dx, .int q, rfl, hdx, ?_⟩
          refine ⟨(by rw [sizeLine_eq]; exact (by decide : 2 ≤ 16777216)), fun p hp => ?_⟩
          have s0 := s.drop
          exact w.rt _ rfl (.ref p) _ π lf ((Ext.new hp s).drop) ⟨s0.new hp, .tup (SqT.of upd_same) (.cons .non (.cons (.int q) .nil))⟩
      · simp only [evH, hsub, if_true] at h
        split at h
        · split at h <;> cases h
        · cases h
/-- the body of a try -/
def tbOf (X : Cx) (body : List Stmt) (W : WX) : TS := fun D σ H => ∀ pn xe, L2N.Takes (X.tr pn xe) W → PassesOwn (model X.prog X.w) X.A X.env xe → MxSs (X.tr pn xe) body D σ H
theorem tri_rule {body : List Stmt} {h0 : ExceptHandler} {hds : List ExceptHandler} {l : List (Value × Option Nat × HtX.Suite)} {W0 : WX} (ok : Dok X Γ) (tk : L2N.Takes X W0) (hl : HtX.Hs X (h0 :: hds) l) : PS X (.Try body (h0 :: hds) [] [] pos) (fun D σ H => tbOf X body (HtX.wAll X.K W0 D l) D σ H) :=
  HtX.tryAll ok.sk ok.fr ok.nd tk (fun W pn xe t pa => ⟨fun pins st σ H D I q => (mxSs _ _).run pins st σ H D I (q pn xe t pa)⟩) hl
theorem sndS_tri {body : List Stmt} {h0 : ExceptHandler} {hds : List ExceptHandler} {kb : List CS} {h : Hd} (ok : Dok X Γ) (hb : ∀ pn xe, PassesOwn (model X.prog X.w) X.A X.env xe → SndSs (X.tr pn xe) Γ body kb ∧ XndSs (X.tr pn xe) Γ body kb) (hr : HdR X Γ (h0 :: hds) h) : SndS X Γ (.Try body (h0 :: hds) [] [] pos) (.tri kb h) := fun H0 F ρ S σ H π lo lf s fl ρ' S' hv D w => by
  simp only [evS] at hv
  split at hv
  case isFalse => cases hv
  rename_i hk
  obtain ⟨l, hl, use⟩ := hd_use ok hr hk
  refine ⟨_, tri_rule ok HtX.takesNone hl, fun pn xe tk pa => ?_⟩
  split at hv
  · rename_i y ρ1 S1 h1
    refine (hb pn xe pa).2 _ tk _ _ _ _ _ _ _ _ _ s _ _ _ h1 (fun cls d σ' H' π' lo' lf' x1 s1 ex => ?_) D
    exact (use s1 ex).1 fl ρ' S' hv (w.after x1)
  · exact (hb pn xe pa).1 _ _ _ _ _ _ _ _ _ s _ _ _ hv D w
theorem xndS_tri {body : List Stmt} {h0 : ExceptHandler} {hds : List ExceptHandler} {kb : List CS} {h : Hd} (ok : Dok X Γ) (hb : ∀ pn xe, PassesOwn (model X.prog X.w) X.A X.env xe → SndSs (X.tr pn xe) Γ body kb ∧ XndSs (X.tr pn xe) Γ body kb) (hr : HdR X Γ (h0 :: hds) h) (hne : ∀ x ρ S y ρ' S', evH Γ x h ρ S = .exc y ρ' S' → y = x ∧ ρ' = ρ ∧ S' = S) : XndS X Γ (.Try body (h0 :: hds) [] [] pos) (.tri kb h) := fun W tk H0 F ρ S σ H π lo lf s x ρ' S' hv w D => by
  simp only [evS] at hv
  split at hv
  case isFalse => cases hv
  rename_i hk
  obtain ⟨l, hl, use⟩ := hd_use ok hr hk
  refine ⟨_, tri_rule ok tk hl, fun pn xe tk2 pa => ?_⟩
  split at hv
  · rename_i y ρ1 S1 h1
    refine (hb pn xe pa).2 _ tk2 _ _ _ _ _ _ _ _ _ s _ _ _ h1 (fun cls d σ' H' π' lo' lf' x1 s1 ex => ?_) D
    obtain ⟨rfl, rfl, rfl⟩ := hne _ _ _ _ _ _ hv
    exact (use s1 ex).2 _ _ _ hv fun _ _ _ => w cls d σ' H' π' lo' lf' x1 s1 ex
  · rename_i hno
    exact absurd hv (hno _ _ _)
theorem evH_exc : ∀ {h : Hd} {x : Xn} {ρ : Env} {S : Store} {y : Xn} {ρ' : Env} {S' : Store}, evH Γ x h ρ S = .exc y ρ' S' → y = x ∧ ρ' = ρ ∧ S' = S
  | .nil, x, ρ, S, y, ρ', S', h => by
    simp only [evH] at h
    cases h
    exact ⟨rfl, rfl, rfl⟩
  | .cons c i b r, x, ρ, S, y, ρ', S', h => by
    simp only [evH] at h
    split at h
    · split at h
      · unfold outSu at h
        split at h <;> cases h
      · cases h
    · exact evH_exc h
  | .retAt c i r, x, ρ, S, y, ρ', S', h => by
    simp only [evH] at h
    split at h
    · split at h
      · split at h <;> cases h
      · cases h
    · exact evH_exc h
  | .asgAt c i j r, x, ρ, S, y, ρ', S', h => by
    simp only [evH] at h
    split at h
    · split at h
      · split at h <;> cases h
      · cases h
    · exact evH_exc h
end
end Ht

set_option Elab.async false
set_option linter.all false
set_option maxRecDepth 100000
set_option maxHeartbeats 1000000
/-! ### soundness: the translation of statements; functions -/
namespace Ht
open PySem L2
section
variable {X : Cx} {Γ : Ctx}
/-- the translation of a comprehension -/
theorem conv_lc (N : List Str) (mu : List Nat) (f : Nat) (hN : X.N = N) (ok : Cok X Γ) (elt : Expr) (gs : List Comprehension) (scope : Scope) (cpos : Pos) :
    (∀ ρ S, ev Γ (convE f N mu X.env.scope (.ListComp elt gs scope cpos)) ρ S = .bad) ∨ ∃ x tp iter ifs i sh ce src cond, gs = [⟨.Name x tp, iter, ifs, 0⟩] ∧ convE f N mu X.env.scope (.ListComp elt gs scope cpos) = .comp sh ce i src cond ∧ SndI X Γ (.Name x tp) iter src ∧ BlkOk X.N X.env.scope scope [(x, i)] ∧
      X.N[i]? = some x ∧ (scope.names.lookup x = some .local ∨ scope.names.lookup x = some .cell) ∧ (∀ s H1 C cl fp, SndE (Blk X scope s H1 C cl fp) Γ elt ce) ∧ SndC X Γ scope ifs cond ∧ ∀ v, foldedSetIterable iter X.env v = pure v := by
  cases f with
  | zero => exact .inl (ev_unk ok.toCokB)
  | succ f =>
    have ih := (convE_snd (Γ := Γ) N mu f X hN ok).1
    unfold convE
    split
    all_goals first | (exact .inl (ev_unk ok.toCokB)) | skip
    all_goals first | (rename_i h; cases h; done) | skip
    rename_i elt' x tp iter ifs scope' cpos' heq
    cases heq
    split
    · exact .inl (ev_unk ok.toCokB)
    · rename_i i hi
      split
      · rename_i hc
        rw [Bool.and_eq_true, Bool.and_eq_true] at hc
        obtain ⟨⟨h1, h2⟩, h3⟩ := hc
        have okB : BlkOk X.N X.env.scope scope [(x, i)] := by rw [hN]; exact blkOk_by h1
        have hxi : X.N[i]? = some x := by rw [hN]; exact slotOf_inv hi
        by_cases hst : ∃ es k p, iter = .Set es k p
        · obtain ⟨es, k, p, hst⟩ := hst
          have hu : convSrc (convE f N mu X.env.scope) X.env.scope false iter = .e CE.unk := by
            subst hst
            cases f with
            | zero => rfl
            | succ f => rfl
          left
          intro ρ S
          rw [hu]
          split <;> first | (simp only [ev, evSrc, ev_unk ok.toCokB, Out.bind_bad, Out.bindB_bad]; done) | exact ev_unk ok ρ S
        · have hfs := folded_ok (env := X.env) fun es k p e => hst ⟨es, k, p, e⟩
          have he : ∀ s H1 C cl fp, SndE (Blk X scope s H1 C cl fp) Γ elt (convE f N mu (relS scope X.env.scope) elt) := fun s H1 C cl fp => (convE_snd N mu f (Blk X scope s H1 C cl fp) hN (blk_ok ok s H1 C cl fp)).1 elt
          split
          · exact .inr ⟨x, tp, iter, [], i, _, _, _, _, rfl, rfl, convSrc_snd ok ih (by intro z; cases z), okB, hxi, locB_inv h2, he, trivial, hfs⟩
          · refine .inr ⟨x, tp, iter, _, i, _, _, _, _, rfl, rfl, convSrc_snd ok ih (by intro z; cases z), okB, hxi, locB_inv h2, he, ?_, hfs⟩
            show ∀ s H1 C cl fp, SndT _ _ _ _
            intro s H1 C cl fp
            have ok' := blk_ok (scope := scope) ok s H1 C cl fp
            have ih' := convE_snd N mu f (Blk X scope s H1 C cl fp) hN ok'
            exact (convT_snd ok' ih'.1 ih'.2 f _).1
          · exact .inl (ev_unk ok.toCokB)
      · exact .inl (ev_unk ok.toCokB)
theorem swaps_cell {elt : Expr} {gs : List Comprehension} {scope : Scope} {pos py : Pos} {y : Str} {l : Nat} {env : PySem.Env} (hy : env.scope.names.lookup y ≠ some .local) : swapsWith (.ListComp elt gs scope pos) (some (.Name y py)) l env = pure false := by
  have : (env.kindOf y == some .local) = false := by
    rw [beq_eq_false_iff_ne]
    exact hy
  unfold swapsWith
  simp only [this, Bool.and_false, Bool.false_and]
/-- a comprehension that is a set or a dict is not served -/
theorem setcomp_bad (N : List Str) (mu : List Nat) (f : Nat) (ok : Cok X Γ) (sc : Scope) {e : Expr} (h : (∃ a b c d, e = .SetComp a b c d) ∨ ∃ a b c d f, e = .DictComp a b c d f) : ∀ ρ S, ev Γ (convE f N mu sc e) ρ S = .bad := by
  cases f with
  | zero => exact ev_unk ok.toCokB
  | succ f => rcases h with ⟨a, b, c, d, rfl⟩ | ⟨a, b, c, d, g, rfl⟩ <;> exact ev_unk ok.toCokB
theorem asg_bad {own : Bool} {i : Nat} {s : Stmt} {c : CE} (h : ∀ ρ S, ev Γ c ρ S = .bad) : SndS X Γ s (.asg own i c) := sndS_bad fun ρ S => by simp only [evS, h, Out.bind_bad, Out.bindB_bad]
theorem asg_any (N : List Str) (mu : List Nat) (f : Nat) (ok : Dok X Γ) {own : Bool} {i : Nat} {x : Str} {e : Expr} {p pos : Pos} (h2 : X.N[i]? = some x) (hl : Loc X.env.scope x) (hne : ∀ a b c d, e = .ListComp a b c d → False) (he : SndE X Γ e (convE f N mu X.env.scope e)) : SndS X Γ (.Assign [.Name x p] e pos) (.asg own i (convE f N mu X.env.scope e)) := by
  by_cases hsc : (∃ a b c d, e = .SetComp a b c d) ∨ ∃ a b c d f, e = .DictComp a b c d f
  · exact asg_bad (setcomp_bad N mu f ok.toCok _ hsc)
  · exact sndS_asg ok h2 hl (swaps_false (fun a b c d e => hne a b c d e) (fun a b c d e => hsc (.inl ⟨a, b, c, d, e⟩)) fun a b c d f e => hsc (.inr ⟨a, b, c, d, f, e⟩)) he
theorem for_iter {it tg : Expr} {N : List Str} {mu : List Nat} {f : Nat} {tup : Bool} (ok : Cok X Γ) (h : ∃ es k p, it = .Set es k p) : convSrc (convE f N mu X.env.scope) X.env.scope tup it = .e CE.unk := by
  obtain ⟨es, k, p, rfl⟩ := h
  cases f with
  | zero => rfl
  | succ f => rfl
theorem slots1_ok {sc : Scope} {N : List Str} {x : Str} {p : Pos} {is : List Nat} (h : slotsOf sc N [.Name x p] = some is) : okName x = true := by
  simp only [slotsOf] at h
  split at h
  · rename_i hc
    rw [Bool.and_eq_true] at hc
    exact hc.2
  · cases h
theorem isSpoil_inv {x : Str} {b : List Stmt} (h : isSpoil x b = true) : ∃ yp ap kk k0 kp cp xp, b = [.Expr (.Call (.Attribute (.Name x yp) "append" ap) [.Constant (.int kk) k0 kp] [] cp) xp] ∧ (ap.endLine == cp.line) = true := by
  unfold isSpoil at h
  split at h
  · simp only [Bool.and_eq_true] at h
    obtain ⟨⟨h1, h2⟩, h3⟩ := h
    have e1 := eq_of_beq h1
    have e2 := eq_of_beq h2
    subst e1
    subst e2
    exact ⟨_, _, _, _, _, _, _, rfl, h3⟩
  · cases h
theorem isRetAt_inv {n : Str} {b : List Stmt} (h : isRetAt n b = true) : ∃ k0 kk p1 p2 p3 p4 p5, b = [.Return (some (.Tuple [.Constant .none k0 p1, .Attribute (.Name n p2) "at" p3] kk p4)) p5] := by
  unfold isRetAt at h
  split at h
  · simp only [Bool.and_eq_true] at h
    obtain ⟨h1, h2⟩ := h
    have e1 := eq_of_beq h1
    have e2 := eq_of_beq h2
    subst e1
    subst e2
    exact ⟨_, _, _, _, _, _, _, rfl⟩
  · cases h
/-! ### the clauses -/
theorem tr_ok (ok : Dok X Γ) (pn : List (Addr × Obj)) (xe : Value → Shared → Prop) (pa : PassesOwn (model X.prog X.w) X.A X.env xe) : Dok (X.tr pn xe) Γ :=
  { toCok := ⟨⟨ok.nd, ok.hu, ok.blt, ok.unk, ok.hu2, ok.dc, ok.gl, ok.xc, ok.xp, ok.xv, ok.hf, ok.hm⟩, ok.calm, ok.cf, ok.cm, ok.ci⟩, rm := ok.rm, fn := ok.fn, kd := ok.kd, ps := pa, sk := ok.sk, fr := ok.fr }
theorem convHd_rel (N : List Str) (mu : List Nat) (f : Nat) (hN : X.N = N) (ok : Dok X Γ) : ∀ {hds : List ExceptHandler} {h : Hd}, convHd f N mu X.env.scope hds = some h → HdR X Γ hds h
  | [], h, e => by
    simp only [convHd] at e
    cases e
    exact .nil
  | hd :: r, h, e => by
    unfold convHd at e
    split at e
    · rename_i e2
      cases e2
    · rename_i x np nm b0 bs hp r' e2
      cases e2
      split at e
      · rename_i hc
        rw [Bool.and_eq_true] at hc
        split at e
        · cases e
        · rename_i h' hr
          have ih := convHd_rel N mu f hN ok hr
          split at e
          · cases e
            exact .cons (glbB_inv hc.1) (okName_inv hc.2).1 trivial (fun a oe pn d x C hz hf hx hxc => hndSs_all (convXS_hnd N mu hN ok.toCokB ok.fn (fun n e => by cases e) (fun i e => by cases e) hz hf hx hxc f)) ih
          · split at e
            · cases e
            · rename_i n _ i hi
              split at e
              · rename_i hc2
                rw [Bool.and_eq_true, decide_eq_true_eq] at hc2
                split at e
                · rename_i hra
                  cases e
                  obtain ⟨k0, kk, p1, p2, p3, p4, p5, e5⟩ := isRetAt_inv hra
                  cases e5
                  exact .retAt (glbB_inv hc.1) (okName_inv hc.2).1 ⟨(by rw [hN]; exact slotOf_inv hi), hc2.1⟩ (.inl hc2.1) (okName_inv hc2.2).1 (okName_inv hc2.2).2.1 ih
                cases e
                have hni : X.N[i]? = some n := by rw [hN]; exact slotOf_inv hi
                exact .cons (glbB_inv hc.1) (okName_inv hc.2).1 ⟨hni, hc2.1⟩ (fun a oe pn d x C hz hf hx hxc => hndSs_all (convXS_hnd N mu hN ok.toCokB ok.fn (fun m e => by cases e; exact ⟨i, rfl, hni⟩) (fun j e => ⟨n, rfl⟩) hz hf hx hxc f)) ih
              · cases e
      · cases e
    · cases e
theorem convS_one (N : List Str) (mu : List Nat) (hN : X.N = N) (ok : Dok X Γ) (f : Nat) (ihs : ∀ s, SndS X Γ s (convS f N mu X.env.scope s)) (hB : ∀ pn xe, PassesOwn (model X.prog X.w) X.A X.env xe → ∀ ss : List Stmt, SndSs (X.tr pn xe) Γ ss (ss.map (convS f N mu X.env.scope)) ∧ XndSs (X.tr pn xe) Γ ss (ss.map (convS f N mu X.env.scope))) (s : Stmt) : SndS X Γ s (convS (f + 1) N mu X.env.scope s) := by
    have hE := convE_snd (Γ := Γ) N mu f X hN ok.toCok
    have ih := hE.1
    have ihT : ∀ e, SndT X Γ e (convT (convE f N mu X.env.scope) f e) := fun e => (convT_snd ok.toCok ih hE.2 f e).1
    unfold convS
    split
    · rename_i x py e sp
      split
      · rename_i i hs
        obtain ⟨x', p', i', r', e1, e2, h1, h2, h3⟩ := slotsOf_cons (by rw [← hN] at hs; exact hs)
        cases e1
        cases e2
        have hl := locB_inv h1
        split
        · rename_i elt gs scope cpos
          split
          · rename_i hloc
            split
            · rename_i hc
              rw [Bool.and_eq_true, Bool.not_eq_true'] at hc
              rcases conv_lc N mu f hN ok.toCok elt gs scope cpos with hb | ⟨x1, tp, iter, ifs, i1, sh, ce, src, cond, rfl, hcv, k1, k2, k3, k4, k5, k6, k7⟩
              · exact asg_bad hb
              · rw [hcv]
                exact sndS_asgLc ok h2 hloc (sw_true ok.kd hloc hc.1 hc.2) k1 k2 k3 k4 k5 k6 k7
            · exact sndS_unk
          · rename_i hloc
            exact sndS_asg ok h2 hl (swaps_cell hloc) (ih _)
        · rename_i hne
          exact asg_any N mu f ok h2 hl hne (ih _)
      · exact sndS_unk
    · split
      · rename_i is hs
        exact sndS_asgT (.inl ⟨_, _, _, _, rfl⟩) ok (by rw [hN]; exact hs) (ih _)
      · exact sndS_unk
    · split
      · rename_i is hs
        exact sndS_asgT (.inr (.inl ⟨_, _, _, rfl⟩)) ok (by rw [hN]; exact hs) (ih _)
      · exact sndS_unk
    · split
      · rename_i is hs
        exact sndS_asgT (.inr (.inr ⟨_, _, rfl⟩)) ok (by rw [hN]; exact hs) (ih _)
      · exact sndS_unk
    · split
      · rename_i h
        simp only [Bool.and_eq_true] at h
        exact sndS_fset h.2 (by simpa using h.1) (ih _) (ih _)
      · exact sndS_unk
    · split
      · rename_i hl
        obtain ⟨k1, k2, k3, k4⟩ := locOf_inv hl
        split
        · rename_i hc
          simp only [Bool.and_eq_true] at hc
          exact sndS_seti (by rw [hN]; exact k2) k1 k3 k4 hc.1.2 hc.2 (ih _) (ih _)
        · exact sndS_unk
      · exact sndS_unk
    · split
      · rename_i i hs
        obtain ⟨x', p', i', r', e1, e2, h1, h2, h3⟩ := slotsOf_cons (by rw [← hN] at hs; exact hs)
        cases e1
        cases e2
        split
        · exact sndS_aug ok h2 (locB_inv h1) (ih _)
        · exact sndS_unk
      · exact sndS_unk
    · split
      · rename_i x xp m ap a cp
        split
        · rename_i hc
          simp only [Bool.and_eq_true, Bool.not_eq_true', decide_eq_true_eq] at hc
          obtain ⟨⟨c1, c2⟩, c3⟩ := hc
          subst c1
          split
          · rename_i hl
            obtain ⟨k1, k2, k3, k4⟩ := locOf_inv hl
            exact sndS_app (by rw [hN]; exact k2) k1 k3 k4 c2 c3 (ih _)
          · exact sndS_unk
        · split
          · rename_i hc
            simp only [Bool.and_eq_true, Bool.not_eq_true', decide_eq_true_eq] at hc
            obtain ⟨⟨c1, c2⟩, c3⟩ := hc
            subst c1
            split
            · rename_i hl
              obtain ⟨k1, k2, k3, k4⟩ := locOf_inv hl
              exact sndS_ext (by rw [hN]; exact k2) k1 k3 k4 c2 c3 (ih _)
            · exact sndS_unk
          · split
            · exact sndS_exp rfl (ih _)
            · exact sndS_unk
      · rename_i o fl fp m ap a cp
        split
        · rename_i hm
          subst hm
          split
          · rename_i hc
            simp only [Bool.and_eq_true, Bool.not_eq_true'] at hc
            obtain ⟨⟨⟨c1, c2⟩, c3⟩, c4⟩ := hc
            split
            · split
              · rename_i hi hj
                obtain ⟨k1, k2, k3, k4⟩ := locOf_inv hi
                obtain ⟨j1, j2, j3, j4⟩ := locOf_inv hj
                split
                · rename_i hg
                  simp only [Bool.and_eq_true] at hg
                  exact sndS_fappF (by rw [hN]; exact k2) k1 k3 k4 (by rw [hN]; exact j2) j1 j3 j4 (own_fld c1) (by simpa using hg.1) c3
                · exact sndS_unk
              · exact sndS_unk
            · exact sndS_fapp c2 (own_fld c1) c3 c4 (ih _) (ih _)
          · exact sndS_unk
        · exact sndS_exp rfl (ih _)
      · exact sndS_exp rfl (ih _)
      · exact sndS_unk
    · exact sndS_retN
    · split
      · split
        · rename_i hl
          obtain ⟨k1, k2, k3, k4⟩ := locOf_inv hl
          exact sndS_retS (by rw [hN]; exact k2) k1 k3 k4
        · exact sndS_ret (ih _)
      · exact sndS_ret (ih _)
    · exact sndS_ite (ihT _) (sndSs_all fun s _ => ihs s) (sndSs_all fun s _ => ihs s)
    · exact sndS_whl ok (ihT _) (sndSs_all fun s _ => ihs s)
    · rename_i tg it b sp
      have hbad : (∃ es k p, it = .Set es k p) → ∀ tup, convSrc (convE f N mu X.env.scope) X.env.scope tup it = .e CE.unk := fun h tup => for_iter (tg := tg) ok.toCok h
      split
      · rename_i x xp
        split
        · rename_i i hs
          obtain ⟨x', p', i', r', e1, e2, h1, h2, h3⟩ := slotsOf_cons (by rw [← hN] at hs; exact hs)
          cases e1
          cases e2
          have gen : SndS X Γ (.For (.Name x xp) it b [] sp) (.for1 i (convSrc (convE f N mu X.env.scope) X.env.scope false it) (b.map (convS f N mu X.env.scope))) := by
           by_cases hst : ∃ es k p, it = .Set es k p
           · rw [hbad hst]
             exact sndS_bad fun ρ S => by simp only [evS, evSrc, ev_unk ok.toCokB, Out.bind_bad, Out.bindB_bad]
           · exact sndS_for1 ok h2 (locB_inv h1) (convSrc_snd ok.toCok ih (by intro z; cases z)) (sndSs_all fun s _ => ihs s) (folded_ok fun es k p e => hst ⟨es, k, p, e⟩)
          split
          · rename_i es lp hes
            split
            · rename_i hc
              simp only [Bool.and_eq_true, Bool.not_eq_true', decide_eq_true_eq] at hc
              obtain ⟨⟨c1, c2⟩, c3⟩ := hc
              obtain ⟨yp, ap, kk, k0, kp, cp, xp2, rfl, c4⟩ := isSpoil_inv c1
              obtain ⟨o1, o2, _⟩ := okName_inv (slots1_ok hs)
              have hv : Vis X.env.scope x := (locB_inv h1).elim .inl fun z => .inr (.inl z)
              exact sndS_spoil ok c3 h2 (locB_inv h1) hv o1 o2 c2 c4 fun e _ => ih e
            · exact gen
          · exact gen
        · exact sndS_unk
      · rename_i ts kk tp
        split
        · rename_i is hs
          by_cases hst : ∃ es k p, it = .Set es k p
          · rw [hbad hst]
            exact sndS_bad fun ρ S => by simp only [evS, evSrc, ev_unk ok.toCokB, Out.bind_bad, Out.bindB_bad]
          · exact sndS_forT ok (by rw [hN]; exact hs) (convSrc_snd ok.toCok ih fun _ => ⟨ts, kk, tp, rfl⟩) (sndSs_all fun s _ => ihs s) (folded_ok fun es k p e => hst ⟨es, k, p, e⟩)
        · split
          · split
            · rename_i hs1 hs2
              by_cases hst : ∃ es k p, it = .Set es k p
              · rw [hbad hst]
                exact sndS_bad fun ρ S => by simp only [evS, evSrc, ev_unk ok.toCokB, Out.bind_bad, Out.bindB_bad]
              · exact sndS_forN ok (by rw [hN]; exact hs1) (by rw [hN]; exact hs2) (convSrc_snd ok.toCok ih fun _ => ⟨_, kk, tp, rfl⟩) (sndSs_all fun s _ => ihs s) (folded_ok fun es k p e => hst ⟨es, k, p, e⟩)
            · exact sndS_unk
          · exact sndS_unk
      · exact sndS_unk
    · exact sndS_pas
    · exact sndS_brk
    · exact sndS_cnt
    · split
      · split
        · exact fun H0 F ρ S σ H π lo lf sm fl ρ' S' he => by
            simp only [evS] at he
            split at he <;> cases he
        · exact sndS_unk
      · split
        · exact fun H0 F ρ S σ H π lo lf sm fl ρ' S' he => by
            simp only [evS] at he
            obtain ⟨v, ρ1, S1, h1, g⟩ := bind_ok_inv he
            split at g
            · split at g <;> cases g
            · cases g
        · exact sndS_unk
      · exact sndS_unk
    · split
      · rename_i h hh
        exact sndS_tri ok (fun pn xe pa => hB pn xe pa _) (convHd_rel N mu f hN ok hh)
      · exact sndS_unk
    · exact sndS_unk
theorem xndS_bad {s : Stmt} {c : CS} (h : ∀ ρ S, evS Γ c ρ S = .bad) : XndS X Γ s c := xndS_ne fun ρ S x ρ' S' hv => by rw [h] at hv; cases hv
theorem convS_onx (N : List Str) (mu : List Nat) (hN : X.N = N) (ok : Dok X Γ) (f : Nat) (ihs : ∀ s, SndS X Γ s (convS f N mu X.env.scope s)) (jhs : ∀ s, XndS X Γ s (convS f N mu X.env.scope s)) (hB : ∀ pn xe, PassesOwn (model X.prog X.w) X.A X.env xe → ∀ ss : List Stmt, SndSs (X.tr pn xe) Γ ss (ss.map (convS f N mu X.env.scope)) ∧ XndSs (X.tr pn xe) Γ ss (ss.map (convS f N mu X.env.scope))) (s : Stmt) : XndS X Γ s (convS (f + 1) N mu X.env.scope s) := by
  have hE := convE_snd (Γ := Γ) N mu f X hN ok.toCok
  have ih := hE.1
  have ihT : ∀ e, SndT X Γ e (convT (convE f N mu X.env.scope) f e) := fun e => (convT_snd ok.toCok ih hE.2 f e).1
  have hX := convE_xnd (Γ := Γ) N mu f X hN ok.toCok
  have jh := hX.1
  have jhT : ∀ e, XndT X Γ e (convT (convE f N mu X.env.scope) f e) := fun e => (convT_xnd ok.toCok ih hE.2 jh hX.2 f e).1
  unfold convS
  split
  · rename_i x py e sp
    split
    · rename_i i hs
      obtain ⟨x', p', i', r', e1, e2, h1, h2, h3⟩ := slotsOf_cons (by rw [← hN] at hs; exact hs)
      cases e1
      cases e2
      have hl := locB_inv h1
      split
      · rename_i elt gs scope cpos
        have cm : XndS X Γ (.Assign [.Name x py] (.ListComp elt gs scope cpos) sp) (.asg (mu.contains i) i (convE f N mu X.env.scope (.ListComp elt gs scope cpos))) := by
          rcases conv_lc N mu f hN ok.toCok elt gs scope cpos with hb | ⟨x1, tp, iter, ifs, i1, sh, ce, src, cond, rfl, hcv, _⟩
          · exact xndS_bad fun ρ S => by simp only [evS, hb, Out.bind_bad]
          · rw [hcv]
            exact xndS_asgC rfl
        split
        · split
          · exact cm
          · exact xndS_calm rfl
        · exact cm
      · rename_i hne
        by_cases hsc : (∃ a b c d, e = .SetComp a b c d) ∨ ∃ a b c d f, e = .DictComp a b c d f
        · exact xndS_bad fun ρ S => by simp only [evS, setcomp_bad N mu f ok.toCok _ hsc, Out.bind_bad]
        · exact xndS_asg ok h2 hl (swaps_false (fun a b c d e => hne a b c d e) (fun a b c d e => hsc (.inl ⟨a, b, c, d, e⟩)) fun a b c d f e => hsc (.inr ⟨a, b, c, d, f, e⟩)) (jh _)
    · exact xndS_calm rfl
  · split
    · rename_i is hs
      exact xndS_asgT (.inl ⟨_, _, _, _, rfl⟩) ok (by rw [hN]; exact hs) (jh _)
    · exact xndS_calm rfl
  · split
    · rename_i is hs
      exact xndS_asgT (.inr (.inl ⟨_, _, _, rfl⟩)) ok (by rw [hN]; exact hs) (jh _)
    · exact xndS_calm rfl
  · split
    · rename_i is hs
      exact xndS_asgT (.inr (.inr ⟨_, _, rfl⟩)) ok (by rw [hN]; exact hs) (jh _)
    · exact xndS_calm rfl
  · split
    · exact xndS_fset (jh _)
    · exact xndS_calm rfl
  · repeat' (first | exact xndS_calm rfl | split)
  · repeat' (first | exact xndS_calm rfl | split)
  · split
    · repeat' (first | exact xndS_calm rfl | exact xndS_exp rfl (jh _) | split)
    · repeat' (first | exact xndS_calm rfl | exact xndS_exp rfl (jh _) | split)
    · exact xndS_exp rfl (jh _)
    · exact xndS_calm rfl
  · exact xndS_calm rfl
  · repeat' (first | exact xndS_calm rfl | exact xndS_ret (jh _) | split)
  · exact xndS_ite (ihT _) (jhT _) (xndSs_all ihs jhs) (xndSs_all ihs jhs)
  · exact xndS_calm rfl
  · rename_i tg it b sp
    have hbad : (∃ es k p, it = .Set es k p) → ∀ tup, convSrc (convE f N mu X.env.scope) X.env.scope tup it = .e CE.unk := fun h tup => for_iter (tg := tg) ok.toCok h
    split
    · rename_i x xp
      split
      · rename_i i hs
        obtain ⟨x', p', i', r', e1, e2, h1, h2, h3⟩ := slotsOf_cons (by rw [← hN] at hs; exact hs)
        cases e1
        cases e2
        have gen : XndS X Γ (.For (.Name x xp) it b [] sp) (.for1 i (convSrc (convE f N mu X.env.scope) X.env.scope false it) (b.map (convS f N mu X.env.scope))) := by
          by_cases hst : ∃ es k p, it = .Set es k p
          · rw [hbad hst]
            exact xndS_bad fun ρ S => by simp only [evS, evSrc, ev_unk ok.toCokB, Out.bind_bad, Out.bindB_bad]
          · exact xndS_for1 ok h2 (locB_inv h1) (convSrc_snd ok.toCok ih (by intro z; cases z)) (sndSs_all fun s _ => ihs s) (xndSs_all ihs jhs) (folded_ok fun es k p e => hst ⟨es, k, p, e⟩)
        split
        · split
          · exact xndS_calm rfl
          · exact gen
        · exact gen
      · exact xndS_calm rfl
    · rename_i ts kk tp
      split
      · rename_i is hs
        by_cases hst : ∃ es k p, it = .Set es k p
        · rw [hbad hst]
          exact xndS_bad fun ρ S => by simp only [evS, evSrc, ev_unk ok.toCokB, Out.bind_bad, Out.bindB_bad]
        · exact xndS_forT ok (by rw [hN]; exact hs) (convSrc_snd ok.toCok ih fun _ => ⟨ts, kk, tp, rfl⟩) (sndSs_all fun s _ => ihs s) (xndSs_all ihs jhs) (folded_ok fun es k p e => hst ⟨es, k, p, e⟩)
      · split
        · split
          · rename_i hs1 hs2
            by_cases hst : ∃ es k p, it = .Set es k p
            · rw [hbad hst]
              exact xndS_bad fun ρ S => by simp only [evS, evSrc, ev_unk ok.toCokB, Out.bind_bad, Out.bindB_bad]
            · exact xndS_forN ok (by rw [hN]; exact hs1) (by rw [hN]; exact hs2) (convSrc_snd ok.toCok ih fun _ => ⟨_, kk, tp, rfl⟩) (sndSs_all fun s _ => ihs s) (xndSs_all ihs jhs) (folded_ok fun es k p e => hst ⟨es, k, p, e⟩)
          · exact xndS_calm rfl
        · exact xndS_calm rfl
    · exact xndS_calm rfl
  · exact xndS_calm rfl
  · exact xndS_calm rfl
  · exact xndS_calm rfl
  · split
    · split
      · rename_i h
        rw [Bool.and_eq_true] at h
        exact xndS_rais ok (glbB_inv h.1) (okName_inv h.2).1
      · exact xndS_calm rfl
    · split
      · rename_i h
        simp only [Bool.and_eq_true, Bool.not_eq_true'] at h
        exact xndS_raisAt ok (glbB_inv h.1.1) (okName_inv h.1.2).1 h.2 (ih _)
      · exact xndS_calm rfl
    · exact xndS_calm rfl
  · split
    · rename_i h hh
      exact xndS_tri ok (fun pn xe pa => hB pn xe pa _) (convHd_rel N mu f hN ok hh) fun x ρ S y ρ' S' e => evH_exc e
    · exact xndS_calm rfl
  · exact xndS_calm rfl
end
theorem convS_snd {Γ : Ctx} (N : List Str) (mu : List Nat) : ∀ (f : Nat) (X : Cx), X.N = N → Dok X Γ → (∀ s, SndS X Γ s (convS f N mu X.env.scope s)) ∧ ∀ s, XndS X Γ s (convS f N mu X.env.scope s)
  | 0, X, _, _ => ⟨fun s => sndS_unk, fun s => xndS_calm rfl⟩
  | f + 1, X, hN, ok => by
    have ih := convS_snd N mu f X hN ok
    have hB : ∀ pn xe, PassesOwn (model X.prog X.w) X.A X.env xe → ∀ ss : List Stmt, SndSs (X.tr pn xe) Γ ss (ss.map (convS f N mu X.env.scope)) ∧ XndSs (X.tr pn xe) Γ ss (ss.map (convS f N mu X.env.scope)) := fun pn xe pa ss => by
      have h := convS_snd N mu f (X.tr pn xe) hN (tr_ok ok pn xe pa)
      exact ⟨sndSs_all fun s _ => h.1 s, xndSs_all h.1 h.2⟩
    exact ⟨convS_one N mu hN ok f ih.1 hB, convS_onx N mu hN ok f ih.1 ih.2 hB⟩
end Ht

set_option Elab.async false
set_option linter.all false
set_option maxRecDepth 100000
set_option maxHeartbeats 1000000
/-! ### soundness: functions, the law -/
namespace Ht
open PySem L2
/-- a def of the text that the table tells -/
structure FnFact (K : Fg) (mg : Str → Option Value) (f : Str) (fn : Fn) : Prop where
  ex : ∃ (st : Stmt) (fa : Addr) (fd : FuncData) (N : List Str) (mu : List Nat) (ps : List Str), Fun K f f st fa fd ∧ FnScope N ps (defScope st) ∧ fn = convF N mu ps.length st ∧ Binds K fd ps [] ∧ mg f = some (.ref fa)
/-- a method of the text that the table tells -/
structure MtFact (K : Fg) (mg : Str → Option Value) (c m : Str) (fn : Fn) : Prop where
  ex : ∃ (qual : Str) (st : Stmt) (fa : Addr) (fd : FuncData) (N : List Str) (mu : List Nat) (ps : List Str) (C : Addr), Fun K m qual st fa fd ∧ FnScope N ps (defScope st) ∧ fn = convF N mu ps.length st ∧ Binds K fd ps [] ∧ ClsAt K c C ∧ Meth K C m fa ∧ mg c = some (.ref C) ∧ (m = "__init__" → Mk K C fa)
structure TabOk (w : World) (K : Fg) (mg : Str → Option Value) (T : Tab) : Prop where
  fns : ∀ f fn, T.fn f = some fn → FnFact K mg f fn
  mts : ∀ c m fn, T.mt c m = some fn → MtFact K mg c m fn
  gls : ∀ x d, T.gl x = some d → ∃ u v, mg x = some u ∧ RelV v u ∧ ∀ H π M, Rep K H π M v d
  unk : T.gl "?" = none
  dcs : ∀ x kvs, T.dc x = some kvs → ∃ (a : Addr) (es : Array DictEntry) (n : Nat), mg x = some (.ref a) ∧ KDict K w a es n ∧ ∀ z : Str, ∃ r, PySem.W.nsIn K a z = some r ∧ (match dlk kvs z.cps.toList with
    | some d => ∃ u v, r = some u ∧ RelV v u ∧ ∀ H π M, Rep K H π M v d
    | none => r = none)
  blt : ∀ x ∈ bltNames, mg x = none
  xcs : ∀ c k, T.xc c = some k → ∃ C, XClsAt K c C ∧ mg c = some (.ref C) ∧ (k = 1 → PySem.W.excIn K C PySem.HandSPX.veTail "ValueError.__new__" = true) ∧ (k = 2 → ∃ qn g, HtY.AtTxt K qn C g)
  xps : ∀ c C c' C', T.xc c ≠ none → T.xc c' ≠ none → XClsAt K c C → XClsAt K c' C' → PySem.W.kitCls K (.ref C) (.ref C') = some (excSub c c')
  xve : mg "ValueError" = none
theorem res_inv {o : Out Fl} {r : Rv} {S : Store} (h : Fl.res o = .ok r S) : ∃ ρ, o = .ok (.rt r) ρ S ∨ (o = .ok .nx ρ S ∧ r = .sh .non) := by
  unfold Fl.res at h
  split at h
  · cases h
    exact ⟨_, .inl rfl⟩
  · cases h
    exact ⟨_, .inr ⟨rfl, rfl⟩⟩
  all_goals cases h
theorem res_exc {o : Out Fl} {x : Xn} {S : Store} (h : Fl.res o = .exc x S) : ∃ ρ, o = .exc x ρ S := by
  unfold Fl.res at h
  split at h
  all_goals first | (cases h; done) | skip
  cases h
  exact ⟨_, rfl⟩
section
variable {K : Fg} {H0 : Hp} {F : AS} {S : Store} {H : Hp} {π : List Addr} {lf : Nat → Str → Addr}
theorem start_get {N : List Str} {vs : List V} {i : Nat} {v : V} (h : vs[i]? = some v) : (L2.start N vs)[i]? = some (some v) := by
  unfold L2.start
  have hl := (List.getElem?_eq_some_iff.mp h).1
  rw [List.getElem?_append_left (by simpa using hl), List.getElem?_map, h]
  rfl
theorem Sim.enter {N : List Str} {vs : List V} {ds : List D} (hn : vs.length ≤ N.length) (s : Sim K H0 F [] S [] H π (fun _ => 0) lf) (r : Reps K H π (Mt F [] S π (fun _ => 0) lf) vs ds) :
    Sim K H0 F (ds.map .v ++ List.replicate (N.length - ds.length) .no) S (L2.start N vs) H π (fun _ => 0) lf ∧ ∀ a, Mt F (ds.map .v ++ List.replicate (N.length - ds.length) .no) S π (fun _ => 0) lf a → Mt F [] S π (fun _ => 0) lf a := by
  have no : NoOwn (ds.map Sl.v ++ List.replicate (N.length - ds.length) Sl.no) := fun i es e => by
    rw [gt_map_v] at e
    split at e <;> cases e
  have less : ∀ a, Mt F (ds.map .v ++ List.replicate (N.length - ds.length) .no) S π (fun _ => 0) lf a → Mt F [] S π (fun _ => 0) lf a := fun a h => mt_noOwn no h
  refine ⟨⟨fun i d e => ?_, fun i es e => absurd e (no i es), fun i j es fs e => absurd e (no i es), fun i es e => absurd e (no i es), s.np, s.nq, ?_, s.ok.keep (.less less) (fun _ _ _ q => q) (fun _ _ _ _ _ q => q), s.dm, s.fh⟩, less⟩
  · rw [gt_map_v] at e
    split at e
    · cases e
      rename_i hd
      obtain ⟨v, h1, h2⟩ := r.get hd
      exact ⟨v, start_get h1, h2.less less⟩
    · cases e
  · unfold L2.start
    rw [List.length_append, List.length_append, List.length_map, List.length_map, List.length_replicate, List.length_replicate, r.length]
end
section
variable {P : Program} {w : World} {K : Fg} {mg : Str → Option Value} {base : Heap} {T : Tab}
/-- where a def stands -/
def KeyOk (K : Fg) (mg : Str → Option Value) : Fk → Addr → Prop
  | .g f, fa => mg f = some (.ref fa) ∧ PySem.W.keepIn K (.ref fa) = true
  | .m c m, fa => ∃ C, ClsAt K c C ∧ Meth K C m fa ∧ mg c = some (.ref C) ∧ (m = "__init__" → Mk K C fa)
def CallOk (P : Program) (w : World) (K : Fg) (mg : Str → Option Value) (base : Heap) (T : Tab) (n : Nat) : Prop :=
  ∀ (k : Fk) (ds : List D) (S : Store), callG T n k ds S ≠ .bad → ∃ (fa : Addr) (fd : FuncData) (ps : List Str), FnOk P w K mg base (CXN P w) n fa fd ps (spG K T.xc (callG T n k) ds.length) ∧ KeyOk K mg k fa ∧ Binds K fd ps [] ∧ ps.length = ds.length
theorem okN {x qual : Str} {st : Stmt} {f : Addr} {fd : FuncData} {N ps : List Str} {k : Nat} {sp : Sp} (F : Fun K x qual st f fd) (S : FnScope N ps (defScope st)) (len : ∀ vs H Q E, sp vs H Q E → vs.length = ps.length)
    (hb : ∀ (cdv : Value) (A : Around) (outer : List PySem.Env) (s : Shared) (H : Hp) (vs : List V) (Q : VK) (E : XK), Room k (A.deeper (PyProof.Rows.envOfC qual (defScope st) s.heap.objs.size f cdv)) → sp vs H Q E →
      ∃ t, PSs (cxOf (CXN P w) P w K mg base N qual (defScope st) f cdv A outer s H E) (defBody st) t ∧ t { nx := fun _ H' => Q .non H', rt := Q } (start N vs) H) : FnOk P w K mg base (CXN P w) (k + 1) f fd ps sp := by
  obtain ⟨oc, od, kV, doc, pm, an, cdv, ct, osl, rfl, lk, hcd⟩ := F.ex
  exact fn_of lk hcd S len fun A outer s H vs Q E hr hsp => hb cdv A outer s H vs Q E hr hsp
theorem fn_step (h : TabOk w K mg T) {n : Nat} (ih : CallOk P w K mg base T n) (ih2 : ∀ m, n = m + 1 → CallOk P w K mg base T m) {k : Fk} {f qual : Str} {st : Stmt} {fa : Addr} {fd : FuncData} {N : List Str} {mu : List Nat} {ps : List Str} (hF : Fun K f qual st fa fd) (hS : FnScope N ps (defScope st)) (hf : T.at k = some (convF N mu ps.length st)) {ds : List D} (hlen : ds.length = ps.length) :
    FnOk P w K mg base (CXN P w) (n + 1) fa fd ps (spG K T.xc (callG T (n + 1) k) ds.length) := by
  have hpl : ps.length ≤ N.length := by
    have := congrArg List.length hS.pre
    rw [List.length_take] at this
    omega
  refine okN hF hS (fun vs H Q E q => ?_) (fun cdv A outer s H vs Q E hr q => ?_)
  · obtain ⟨F, S1, ds1, π, lf, q1, _⟩ := q
    rw [q1, hlen]
  · obtain ⟨F, S1, ds1, π, lf, q1, q3, q4, q5⟩ := q
    refine ⟨MxSs _ _, mxSs _ _, ?_⟩
    rw [callG_succ, hf] at q5
    simp only [runF] at q5
    split at q5
    case isFalse => exact q5.elim
    case isTrue hlen1 =>
    have hlen1 : ds1.length = ps.length := hlen1
    have hl1 : vs.length ≤ N.length := by rw [q4.length, hlen1]; exact hpl
    obtain ⟨s1, l1⟩ := q3.enter (N := N) hl1 q4
    have ok : Dok (cxOf (CXN P w) P w K mg base N qual (defScope st) fa cdv A outer s H E) (cx T n) :=
      { rm := hr.mono (Nat.zero_le _), calm := rfl, nd := hS.nd, hu := hr.units, hu2 := (have z : (A.deeper (PyProof.Rows.envOfC qual (defScope st) s.heap.objs.size fa cdv)).units + 65 < cLine := (by have := hr.un; omega); z), blt := h.blt, unk := h.unk, gl := h.gls, dc := h.dcs,
        xc := h.xcs, xp := h.xps, xv := h.xve,
        hf := fun f2 e2 => by
          obtain ⟨fn2, e3⟩ := Option.isSome_iff_exists.mp e2
          obtain ⟨st2, fa2, fd2, N2, mu2, ps2, k1, _, _, _, k5⟩ := (h.fns f2 fn2 e3).ex
          exact ⟨fa2, k5, k1.kp⟩,
        hm := fun c2 m2 e2 => by
          obtain ⟨fn2, e3⟩ := Option.isSome_iff_exists.mp e2
          obtain ⟨qual2, st2, fa2, fd2, N2, mu2, ps2, C2, k1, _, _, _, k5, k6, k7, k8⟩ := (h.mts c2 m2 fn2 e3).ex
          exact ⟨C2, fa2, k5, k6, k7, k8⟩,
        cf := fun f2 ds2 S3 e3 => by
          obtain ⟨fa2, fd2, ps2, k1, ⟨k2, k3⟩, k4, _⟩ := ih (.g f2) ds2 S3 e3
          exact ⟨n, fa2, fd2, ps2, k1, hr, k2, k3, k4⟩,
        cm := fun c2 m2 ds2 S3 e3 => by
          obtain ⟨fa2, fd2, ps2, k1, ⟨C, k2, k3, _⟩, k4, _⟩ := ih (.m c2 m2) ds2 S3 e3
          exact ⟨n, fa2, fd2, ps2, C, k1, hr, k2, k3, k4⟩,
        ci := fun c2 ds2 S3 e3 => by
          cases n with
          | zero => exact absurd rfl e3
          | succ m =>
            obtain ⟨fa2, fd2, ps2, k1, ⟨C, k2, k3, k5, k6⟩, k4, _⟩ := ih2 m rfl (.m c2 "__init__") ds2 S3 e3
            exact ⟨m, fa2, fd2, ps2, C, k1, hr, k2, k5, k6 rfl, k4⟩,
        fn := fun _ => rfl, kd := hS.kind, ps := L2.passes_of rfl, sk := rfl, fr := rfl }
    have sx := convS_snd N mu 40 (cxOf (CXN P w) P w K mg base N qual (defScope st) fa cdv A outer s H E) rfl ok
    have snd := sndSs_all (X := cxOf (CXN P w) P w K mg base N qual (defScope st) fa cdv A outer s H E) (ss := defBody st) fun s _ => sx.1 s
    have xnd := xndSs_all (X := cxOf (CXN P w) P w K mg base N qual (defScope st) fa cdv A outer s H E) (ss := defBody st) sx.1 sx.2
    have hnl : (convF N mu ps.length st).nl - (convF N mu ps.length st).np = N.length - ds1.length := by
      rw [hlen1]
      rfl
    rw [hnl] at q5
    cases hv : Fl.res (evSs (cx T n) (convF N mu ps.length st).body (ds1.map .v ++ List.replicate (N.length - ds1.length) .no) S1) with
    | bad =>
      rw [hv] at q5
      exact q5.elim
    | exc x S2 =>
      rw [hv] at q5
      obtain ⟨ρ', hv⟩ := res_exc hv
      refine xnd _ (L2N.takes_of rfl rfl rfl rfl) _ _ _ _ _ _ _ _ _ s1 x ρ' S2 hv (fun cls d σ' H' π' lo' lf' y t ex => ?_) _
      exact q5 cls d H' π' lf' (y.drop.ofCall (fun _ z => z) (fun a z => l1 a z) fun _ z => z) t.drop ex
    | ok r1 S2 =>
      rw [hv] at q5
      obtain ⟨ρ', hv2⟩ := res_inv hv
      clear hv
      rcases hv2 with hv | ⟨hv, rfl⟩
      · refine snd _ _ _ _ _ _ _ _ _ s1 (.rt r1) ρ' S2 hv _ ⟨fun _ _ _ _ _ _ _ => trivial, fun r2 e2 v H' π' lf' x k => ?_⟩
        cases e2
        exact q5 v H' π' lf' (x.ofCall (fun _ z => z) (fun a z => l1 a z) fun _ z => z) k
      · refine snd _ _ _ _ _ _ _ _ _ s1 .nx ρ' S2 hv _ ⟨fun σ' H' π' lo' lf' x k => ?_, fun r2 e2 => by cases e2⟩
        exact q5 .non H' π' lf' (x.drop.ofCall (fun _ z => z) (fun a z => l1 a z) fun _ z => z) ⟨k.drop, .non⟩
theorem all_ok (h : TabOk w K mg T) : ∀ n : Nat, CallOk P w K mg base T n ∧ ∀ m, n = m + 1 → CallOk P w K mg base T m
  | 0 => ⟨fun _ _ _ e => absurd rfl e, fun m e => (by cases e)⟩
  | n + 1 => by
    have ih := all_ok h n
    refine ⟨fun k ds S e => ?_, fun m e => by cases e; exact ih.1⟩
    rw [callG_succ] at e
    cases hf : T.at k with
    | none => rw [hf] at e; exact absurd rfl e
    | some fn =>
      rw [hf] at e
      simp only [runF] at e
      split at e
      case isFalse => exact absurd rfl e
      case isTrue hlen =>
      cases k with
      | g f =>
        obtain ⟨st, fa, fd, N, mu, ps, hF, hS, rfl, hb, hm⟩ := (h.fns f fn hf).ex
        have hlen : ds.length = ps.length := hlen
        exact ⟨fa, fd, ps, fn_step h ih.1 ih.2 hF hS hf hlen, ⟨hm, hF.kp⟩, hb, hlen.symm⟩
      | m c m =>
        obtain ⟨qual, st, fa, fd, N, mu, ps, C, hF, hS, rfl, hb, k1, k2, k3, k4⟩ := (h.mts c m fn hf).ex
        have hlen : ds.length = ps.length := hlen
        exact ⟨fa, fd, ps, fn_step h ih.1 ih.2 hF hS hf hlen, ⟨C, k1, k2, k3, k4⟩, hb, hlen.symm⟩
/-- what is asked of the law's def -/
def spLaw (K : Fg) (m : Nat) : Sp := fun vs H Q _ => ∃ (a : Addr) (ns : List Int), vs = [.ref a] ∧ Zq K H a (ns.map V.int) ∧ (∀ b, H b = none ∨ ∃ o u, H b = some (.frz o u)) ∧ ns.length ≤ m ∧ ∀ H', Q (.bl true) H'
theorem law_ok (h : TabOk w K mg T) {n m : Nat} (hl : ∀ ns : List Int, ns.length ≤ m → ∃ S, callF T (n + 1) "law" [.scr ns] [] = .ok (.sh (.bl true)) S)
    {st : Stmt} {fa : Addr} {fd : FuncData} {N : List Str} {mu : List Nat} {x : Str} (hF : Fun K "law" "law" st fa fd) (hS : FnScope N [x] (defScope st)) (hf : T.fn "law" = some (convF N mu 1 st)) :
    FnOk P w K mg base CX0 (n + 1) fa fd [x] (spLaw K m) := by
  have k1 := fn_step (P := P) (w := w) (base := base) (k := .g "law") h (all_ok h n).1 (all_ok h n).2 hF hS hf (ds := [.non]) rfl
  have imp : ∀ vs H Q E, spLaw K m vs H Q E → spG K T.xc (callG T (n + 1) (.g "law")) 1 vs H Q (fun _ _ _ => False) := fun vs H Q E q => by
    obtain ⟨a, ns, rfl, hz, ho, hm, q⟩ := q
    obtain ⟨S1, hS1⟩ := hl ns hm
    refine ⟨fun _ => False, [], [.scr ns], [], fun _ _ => 0, rfl, ?_, .cons (.scr hz) .nil, ?_⟩
    · exact ⟨fun i d e => (by cases e), fun i d e => (by cases e), fun i j ds es e => (by cases e), fun i ds e => (by cases e), fun a ha => (by cases ha), fun n f ds e => (by simp [fldAt] at e), rfl, .nil, fun _ h => h, fun _ h => h.elim⟩
    · rw [show callG T (n + 1) (.g "law") [.scr ns] [] = .ok (.sh (.bl true)) S1 from hS1]
      intro v H' π' lf' x k
      have := k.2.bl_inv
      subst this
      exact q H'
  refine ⟨fun vs H Q E q => k1.len vs H Q _ (imp vs H Q E q), fun A outer s H args us vs Q E hr he hb hv hs => codeAny_mono (k1.run A outer s H args us vs Q (fun _ _ _ => False) hr he hb hv (imp vs H Q E hs)) fun r s' z => ?_⟩
  cases r with
  | error e =>
    obtain ⟨_, _, _, _, _, _, _, _, _, _, _, _, q⟩ := z
    exact q.elim
  | ok fl => cases fl <;> exact z
end
/-! ### a law's own part -/
def lk : List (Str × Fn) → Str → Option Fn
  | [], _ => none
  | (k, f) :: r, x => if x = k then some f else lk r x
section
variable {K : Fg} {mg : Str → Option Value}
inductive Facts (K : Fg) (mg : Str → Option Value) : List (Str × Fn) → Prop
  | nil : Facts K mg []
  | cons {k : Str} {f : Fn} {r : List (Str × Fn)} : FnFact K mg k f → Facts K mg r → Facts K mg ((k, f) :: r)
theorem Facts.get {l : List (Str × Fn)} (h : Facts K mg l) : ∀ {x : Str} {f : Fn}, lk l x = some f → FnFact K mg x f := by
  induction h with
  | nil => intro x f e; cases e
  | cons a _ ih =>
    intro x f e
    unfold lk at e
    split at e
    · rename_i hx
      cases e
      subst hx
      exact a
    · exact ih e
theorem fact_mk {h : Heap} {f : Str} {st : Stmt} {fa : Addr} {od an : Option Addr} {sl : Array (Option Value)} {oc kV dc pm cd ct : Value} {fn : Fn} {N : List Str} {mu : List Nat} {ps : List Str} (X : K.In h) (G : h.Ns mainGlobals mg)
    (sc : FnScope N ps (defScope st)) (e : fn = convF N mu ps.length st)
    (hb : ∀ (kV doc pm : Value) (an : Option Addr) (cdv ct : Value) (us : List Value), us.length = ps.length → bindArgs (PySem.W.fnOf f f (defArgs st) (defBody st) (defScope st) .none kV doc pm an cdv ct) ⟨us, []⟩ = pure (ps.zip us))
    (a : PySem.W.nsIn K mainGlobals f = some (some (.ref fa))) (l : K.lookup fa = some ⟨oc, od, .func (PySem.W.fnOf f f (defArgs st) (defBody st) (defScope st) .none kV dc pm an cd ct), sl⟩) (c : PySem.W.codeIn K cd f = true) (k : PySem.W.keepIn K (.ref fa) = true) : FnFact K mg f fn :=
  ⟨st, fa, _, N, mu, ps, fun_mk l c k, sc, e, (fun_mk l c k).binds hb, PySem.W.mg_of X G a⟩
/-! methods -/
def mlk : List (Str × Str × Fn) → Str → Str → Option Fn
  | [], _, _ => none
  | (c, m, f) :: r, x, y => if x = c ∧ y = m then some f else mlk r x y
inductive MFacts (K : Fg) (mg : Str → Option Value) : List (Str × Str × Fn) → Prop
  | nil : MFacts K mg []
  | cons {c m : Str} {f : Fn} {r : List (Str × Str × Fn)} : MtFact K mg c m f → MFacts K mg r → MFacts K mg ((c, m, f) :: r)
theorem MFacts.get {l : List (Str × Str × Fn)} (h : MFacts K mg l) : ∀ {x y : Str} {f : Fn}, mlk l x y = some f → MtFact K mg x y f := by
  induction h with
  | nil => intro x y f e; cases e
  | cons a _ ih =>
    intro x y f e
    unfold mlk at e
    split at e
    · rename_i hx
      cases e
      obtain ⟨rfl, rfl⟩ := hx
      exact a
    · exact ih e
/-- a method, its class being known -/
def MtRaw (K : Fg) (C : Addr) (m : Str) (fn : Fn) : Prop := ∃ (qual : Str) (st : Stmt) (fa : Addr) (fd : FuncData) (N : List Str) (mu : List Nat) (ps : List Str), Fun K m qual st fa fd ∧ FnScope N ps (defScope st) ∧ fn = convF N mu ps.length st ∧ Binds K fd ps [] ∧ Meth K C m fa
theorem mt_mk {m qual : Str} {st : Stmt} {fa C : Addr} {od an : Option Addr} {sl : Array (Option Value)} {oc kV dc pm cd ct : Value} {fn : Fn} {N : List Str} {mu : List Nat} {ps : List Str}
    (sc : FnScope N ps (defScope st)) (e : fn = convF N mu ps.length st)
    (hb : ∀ (kV doc pm : Value) (an : Option Addr) (cdv ct : Value) (us : List Value), us.length = ps.length → bindArgs (PySem.W.fnOf m qual (defArgs st) (defBody st) (defScope st) .none kV doc pm an cdv ct) ⟨us, []⟩ = pure (ps.zip us))
    (a : PySem.W.findIn K (.ref C) m = some (some (.ref fa))) (i : PySem.W.isFn K (.ref fa) = true) (l : K.lookup fa = some ⟨oc, od, .func (PySem.W.fnOf m qual (defArgs st) (defBody st) (defScope st) .none kV dc pm an cd ct), sl⟩) (q : PySem.W.codeIn K cd qual = true) (k : PySem.W.keepIn K (.ref fa) = true) : MtRaw K C m fn :=
  ⟨qual, st, fa, _, N, mu, ps, fun_mk l q k, sc, e, (fun_mk l q k).binds hb, ⟨a, i, k⟩⟩
/-- the methods of one class -/
inductive MRow (K : Fg) (c : Str) (C : Addr) : List (Str × Str × Fn) → Prop
  | nil : MRow K c C []
  | cons {m : Str} {f : Fn} {r : List (Str × Str × Fn)} : MtRaw K C m f → MRow K c C r → MRow K c C ((c, m, f) :: r)
theorem MRow.facts {h : Heap} {c : Str} {C : Addr} {l : List (Str × Str × Fn)} (X : K.In h) (G : h.Ns mainGlobals mg) (hc : ClsAt K c C) (mk : PySem.W.makesIn K C = true) (kc : PySem.W.keepIn K (.ref C) = true) (r : MRow K c C l) : MFacts K mg l := by
  induction r with
  | nil => exact .nil
  | cons a _ ih =>
    obtain ⟨qual, st, fa, fd, N, mu, ps, h1, h2, h3, h4, h5⟩ := a
    exact .cons ⟨qual, st, fa, fd, N, mu, ps, C, h1, h2, h3, h4, hc, h5, PySem.W.mg_of X G hc.1, fun z => by subst z; exact ⟨mk, h5.at_, h5.fn, kc⟩⟩ ih
theorem MFacts.append : ∀ {l r : List (Str × Str × Fn)}, MFacts K mg l → MFacts K mg r → MFacts K mg (l ++ r)
  | _, _, .nil, h => h
  | _, _, .cons a b, h => .cons a (MFacts.append b h)
/-- no class has one of the names -/
def noAttrs (K : Fg) (C : Addr) : List Str → Prop
  | [] => True
  | f :: r => PySem.W.findIn K (.ref C) f = some none ∧ noAttrs K C r
theorem noAttrs.all {C : Addr} : ∀ {l : List Str}, noAttrs K C l → ∀ f ∈ l, NoAttr K C f
  | [], _, f, hf => by cases hf
  | g :: r, q, f, hf => by
    cases hf with
    | head => exact q.1
    | tail _ hf => exact noAttrs.all q.2 f hf
theorem cls_mk {c : Str} {C : Addr} (aC : PySem.W.nsIn K mainGlobals c = some (some (.ref C))) (pg : PySem.W.plainGet K C Str.empty = true) (hd : PySem.W.hasDictIn K C = true) (po : PySem.W.plainOver K C = true) (sa : PySem.W.findIn K (.ref C) "__setattr__" = some (some (.builtin "object.__setattr__"))) (na : noAttrs K C fldNames) : ClsAt K c C :=
  ⟨aC, ⟨pg, hd, po, sa⟩, na.all⟩
/-- the names of the built-ins stand nowhere in the top -/
def noBlt (K : Fg) : List Str → Prop
  | [] => True
  | x :: r => PySem.W.nsIn K mainGlobals x = some none ∧ noBlt K r
theorem noBlt.none {h : Heap} (X : K.In h) (G : h.Ns mainGlobals mg) : ∀ {l : List Str}, noBlt K l → ∀ x ∈ l, mg x = none
  | [], _, x, hx => by cases hx
  | y :: r, q, x, hx => by
    cases hx with
    | head => exact PySem.W.mg_none_of X G q.1
    | tail _ hx => exact noBlt.none X G q.2 x hx
/-! classes of exceptions -/
def xlk : List (Str × Nat) → Str → Option Nat
  | [], _ => none
  | (c, k) :: r, x => if x = c then some k else xlk r x
/-- the facts of one class at C -/
structure XRow (K : Fg) (c : Str) (k : Nat) (C : Addr) : Prop where
  at_ : XClsAt K c C
  plain : k = 1 → PySem.W.excIn K C PySem.HandSPX.veTail "ValueError.__new__" = true
  fat : k = 2 → ∃ qn g, HtY.AtTxt K qn C g
inductive XFacts (K : Fg) : List (Str × Nat) → List Addr → Prop
  | nil : XFacts K [] []
  | cons {c : Str} {k : Nat} {C : Addr} {r : List (Str × Nat)} {l : List Addr} : XRow K c k C → XFacts K r l → XFacts K ((c, k) :: r) (C :: l)
theorem XFacts.get {l : List (Str × Nat)} {as : List Addr} (h : XFacts K l as) : ∀ {c : Str} {k : Nat}, xlk l c = some k → ∃ (i : Nat) (C : Addr), l[i]? = some (c, k) ∧ as[i]? = some C ∧ XRow K c k C := by
  induction h with
  | nil => intro c k e; cases e
  | @cons c' k' C' r l' a _ ih =>
    intro c k e
    unfold xlk at e
    split at e
    · rename_i hx
      cases e
      subst hx
      exact ⟨0, C', rfl, rfl, a⟩
    · obtain ⟨i, C, h1, h2, h3⟩ := ih e
      exact ⟨i + 1, C, h1, h2, h3⟩
/-- each class against each: whether it is under it -/
def XPair (K : Fg) (l : List (Str × Nat)) (as : List Addr) : Prop := ∀ (i j : Nat) (c c' : Str) (k k' : Nat) (C C' : Addr), l[i]? = some (c, k) → as[i]? = some C → l[j]? = some (c', k') → as[j]? = some C' → PySem.W.kitCls K (.ref C) (.ref C') = some (excSub c c')
theorem XFacts.all {h : Heap} {l : List (Str × Nat)} {as : List Addr} (X : K.In h) (G : h.Ns mainGlobals mg) (f : XFacts K l as) (c : Str) (k : Nat) (e : xlk l c = some k) : ∃ C, XClsAt K c C ∧ mg c = some (.ref C) ∧ (k = 1 → PySem.W.excIn K C PySem.HandSPX.veTail "ValueError.__new__" = true) ∧ (k = 2 → ∃ qn g, HtY.AtTxt K qn C g) := by
  obtain ⟨i, C, _, _, r⟩ := f.get e
  exact ⟨C, r.at_, PySem.W.mg_of X G r.at_.at_, r.plain, r.fat⟩
theorem XFacts.pair {l : List (Str × Nat)} {as : List Addr} (f : XFacts K l as) (p : XPair K l as) (c : Str) (C : Addr) (c' : Str) (C' : Addr) (h : xlk l c ≠ none) (h' : xlk l c' ≠ none) (a : XClsAt K c C) (a' : XClsAt K c' C') : PySem.W.kitCls K (.ref C) (.ref C') = some (excSub c c') := by
  obtain ⟨k, hk⟩ := Option.ne_none_iff_exists'.mp h
  obtain ⟨k', hk'⟩ := Option.ne_none_iff_exists'.mp h'
  obtain ⟨i, C1, q1, q2, q3⟩ := f.get hk
  obtain ⟨j, C2, r1, r2, r3⟩ := f.get hk'
  have e1 := q3.at_.at_.symm.trans a.at_
  have e2 := r3.at_.at_.symm.trans a'.at_
  cases e1
  cases e2
  exact p i j c c' k k' C C' q1 q2 r1 r2
/-- from the rows' own facts: kitCls by subIn -/
theorem kit_sub {C C' : Addr} {b : Bool} (h : (PySem.W.clsIn K C').isSome = true) (t : PySem.W.typeIn K (.ref C') = some (.type "type")) (s : PySem.W.subIn K (.ref C) (.ref C') = some b) : PySem.W.kitCls K (.ref C) (.ref C') = some b := by
  unfold PySem.W.kitCls
  simp only [h, t, beq_self_eq_true, Bool.and_self, if_true]
  exact s
/-- one class against all -/
def XP1 (K : Fg) (C : Addr) : List Addr → List Bool → Prop
  | C' :: l, b :: bs => PySem.W.subIn K (.ref C) (.ref C') = some b ∧ XP1 K C l bs
  | [], [] => True
  | _, _ => False
def XPs (K : Fg) (as : List Addr) : List Addr → List (List Bool) → Prop
  | C :: l, b :: bs => XP1 K C as b ∧ XPs K as l bs
  | [], [] => True
  | _, _ => False
def xmat (l : List (Str × Nat)) : List (List Bool) := l.map fun c => l.map fun c' => excSub c.1 c'.1
theorem XP1.get {C : Addr} : ∀ {l : List Addr} {bs : List Bool} {j : Nat} {C' : Addr} {b : Bool}, XP1 K C l bs → l[j]? = some C' → bs[j]? = some b → PySem.W.subIn K (.ref C) (.ref C') = some b
  | C1 :: l, b1 :: bs, 0, _, _, h, e1, e2 => by
    cases e1
    cases e2
    exact h.1
  | C1 :: l, b1 :: bs, j + 1, _, _, h, e1, e2 => XP1.get (j := j) h.2 e1 e2
theorem XPs.get {as : List Addr} : ∀ {l : List Addr} {bs : List (List Bool)} {i : Nat} {C : Addr} {b : List Bool}, XPs K as l bs → l[i]? = some C → bs[i]? = some b → XP1 K C as b
  | C1 :: l, b1 :: bs, 0, _, _, h, e1, e2 => by
    cases e1
    cases e2
    exact h.1
  | C1 :: l, b1 :: bs, i + 1, _, _, h, e1, e2 => XPs.get (i := i) h.2 e1 e2
theorem XFacts.row {l : List (Str × Nat)} {as : List Addr} (h : XFacts K l as) : ∀ {i : Nat} {c : Str} {k : Nat} {C : Addr}, l[i]? = some (c, k) → as[i]? = some C → XRow K c k C := by
  induction h with
  | nil => intro i c k C e; cases e
  | cons a _ ih =>
    intro i c k C e1 e2
    cases i with
    | zero =>
      cases e1
      cases e2
      exact a
    | succ i => exact ih (i := i) e1 e2
theorem XFacts.pairs {l : List (Str × Nat)} {as : List Addr} {M : List (List Bool)} (f : XFacts K l as) (hM : M = xmat l) (p : XPs K as as M) : XPair K l as := fun i j c c' k k' C C' h1 h2 h3 h4 => by
  have r := f.row h3 h4
  have hb : M[i]? = some (l.map fun c' => excSub c c'.1) := by
    rw [hM]
    unfold xmat
    rw [List.getElem?_map, h1]
    rfl
  have hbb : (l.map fun c' => excSub c c'.1)[j]? = some (excSub c c') := by
    rw [List.getElem?_map, h3]
    rfl
  refine kit_sub ?_ r.at_.ty ((p.get h2 hb).get h4 hbb)
  obtain ⟨cd, hc, _⟩ := PySem.W.any_some r.at_.is.hd
  rw [hc]
  rfl
def XOk (K : Fg) (l : List (Str × Nat)) : Prop := ∃ (as : List Addr) (M : List (List Bool)), XFacts K l as ∧ M = xmat l ∧ XPs K as as M
theorem XOk.all {h : Heap} {l : List (Str × Nat)} (X : K.In h) (G : h.Ns mainGlobals mg) (o : XOk K l) (c : Str) (k : Nat) (e : xlk l c = some k) : ∃ C, XClsAt K c C ∧ mg c = some (.ref C) ∧ (k = 1 → PySem.W.excIn K C PySem.HandSPX.veTail "ValueError.__new__" = true) ∧ (k = 2 → ∃ qn g, HtY.AtTxt K qn C g) := by
  obtain ⟨as, M, f, _, _⟩ := o
  exact f.all X G c k e
theorem XOk.pair {l : List (Str × Nat)} (o : XOk K l) (c : Str) (C : Addr) (c' : Str) (C' : Addr) (h : xlk l c ≠ none) (h' : xlk l c' ≠ none) (a : XClsAt K c C) (a' : XClsAt K c' C') : PySem.W.kitCls K (.ref C) (.ref C') = some (excSub c c') := by
  obtain ⟨as, M, f, e, p⟩ := o
  exact f.pair (f.pairs e p) c C c' C' h h' a a'
theorem xrow_mk {c : Str} {k : Nat} {C : Addr} (a : PySem.W.nsIn K mainGlobals c = some (some (.ref C))) (hg : PySem.W.findIn K (.ref C) "__getattribute__" = some (some (.builtin "BaseException.__getattribute__"))) (hk : PySem.W.findIn K (.ref C) "__getattr__" = some none) (hs : PySem.W.subIn K (.ref C) (.type "BaseException") = some true)
    (hd : PySem.W.hasDictIn K C = true) (ha : PySem.W.findIn K (.ref C) "__class__" = some (some (.builtin "object.__class__"))) (hn : PySem.W.specialIn K (.builtin "object.__class__") "__get__" = some (some (.builtin "getset_descriptor.__get__"))) (ht : PySem.W.takesIn K (.builtin "object.__class__") = some true) (hm : PySem.W.mroIn K C (.type "object") = some true)
    (ty : PySem.W.typeIn K (.ref C) = some (.type "type")) (kp : PySem.W.keepIn K (.ref C) = true) (ve : PySem.W.subIn K (.ref C) (.type "ValueError") = some true) (pl : k = 1 → PySem.W.excIn K C PySem.HandSPX.veTail "ValueError.__new__" = true) (pt : k = 2 → ∃ qn g, HtY.AtTxt K qn C g) : XRow K c k C :=
  ⟨⟨a, ⟨hg, hk, hs, hd, ha, hn, ht, hm⟩, ty, kp, by unfold PySem.W.kitCls; simp only; rw [if_pos (by decide +kernel)]; exact ve⟩, pl, pt⟩
theorem zq_of {H : Hp} {a : Addr} {xs : List V} (ho : Only H) (h : SqL K H a xs) : Zq K H a xs := by
  rcases h with (h | ⟨o, h⟩) | h
  · rcases ho a with e | ⟨o, ys, e⟩
    · rw [e] at h; cases h
    · rw [e] at h; cases h
  · exact .inl ⟨o, h⟩
  · exact .inr (.inr h)
theorem sp_of {H : Hp} {a : Addr} {ns : List Int} {m : Nat} (hl : ns.length ≤ m) (ho : Only H) (h : SqL K H a (ns.map V.int)) : spLaw K m [.ref a] H (fun v _ => v = .bl true) fun _ _ _ => False :=
  ⟨a, ns, rfl, zq_of ho h, fun b => (ho b).imp id fun ⟨o, xs, e⟩ => ⟨o, _, e⟩, hl, fun _ => rfl⟩
/-- the law's def, with its fact -/
theorem law_mk {P : Program} {w : World} {h : Heap} {T : Tab} {n m : Nat} {fa f1 : Addr} {st : Stmt} {od an : Option Addr} {sl : Array (Option Value)} {oc kV dc pm cd ct : Value} {N : List Str} {mu : List Nat} {x : Str} (X : K.In h) (G : h.Ns mainGlobals mg) (hfa : mg "law" = some (.ref fa))
    (hT : TabOk w K mg T) (hl : ∀ ns : List Int, ns.length ≤ m → ∃ S, callF T (n + 1) "law" [.scr ns] [] = .ok (.sh (.bl true)) S) (sc : FnScope N [x] (defScope st)) (hf : T.fn "law" = some (convF N mu 1 st))
    (hb : ∀ (kV doc pm : Value) (an : Option Addr) (cdv ct : Value) (u : Value), bindArgs (PySem.W.fnOf "law" "law" (defArgs st) (defBody st) (defScope st) .none kV doc pm an cdv ct) ⟨[u], []⟩ = pure [(x, u)])
    (a : PySem.W.nsIn K mainGlobals "law" = some (some (.ref f1))) (l : K.lookup f1 = some ⟨oc, od, .func (PySem.W.fnOf "law" "law" (defArgs st) (defBody st) (defScope st) .none kV dc pm an cd ct), sl⟩) (c : PySem.W.codeIn K cd "law" = true) (k : PySem.W.keepIn K (.ref f1) = true) :
    ∃ fd : FuncData, (∀ (s : Shared) (v : Value), BindsTo s fd ⟨[v], []⟩ [(x, v)]) ∧ ∀ base : Heap, K.In base → base.Ns mainGlobals mg → FnOk P w K mg base CX0 (n + 1) fa fd [x] (spLaw K m) := by
  have e := hfa.symm.trans (PySem.W.mg_of X G a)
  cases e
  exact ⟨_, fun s v => .of_eq (hb kV dc pm an cd ct v), fun base _ _ => law_ok hT hl (fun_mk l c k) sc hf⟩
/-! constants of the top -/
def GlFact (K : Fg) (mg : Str → Option Value) (x : Str) (d : D) : Prop := ∃ u v, mg x = some u ∧ RelV v u ∧ ∀ H π M, Rep K H π M v d
def glk : List (Str × D) → Str → Option D
  | [], _ => none
  | (k, d) :: r, x => if x = k then some d else glk r x
inductive GFacts (K : Fg) (mg : Str → Option Value) : List (Str × D) → Prop
  | nil : GFacts K mg []
  | cons {k : Str} {d : D} {r : List (Str × D)} : GlFact K mg k d → GFacts K mg r → GFacts K mg ((k, d) :: r)
theorem GFacts.get {l : List (Str × D)} (h : GFacts K mg l) : ∀ {x : Str} {d : D}, glk l x = some d → GlFact K mg x d := by
  induction h with
  | nil => intro x d e; cases e
  | cons a _ ih =>
    intro x d e
    unfold glk at e
    split at e
    · rename_i hx
      cases e
      subst hx
      exact a
    · exact ih e
theorem gl_str {h : Heap} {x s : Str} {t : Tok} {cs : List Nat} (X : K.In h) (G : h.Ns mainGlobals mg) (a : PySem.W.nsIn K mainGlobals x = some (some (.str s t))) (e : s.cps.toList = cs) : GlFact K mg x (.str cs) :=
  ⟨_, .str s, PySem.W.mg_of X G a, ⟨t, rfl⟩, fun _ _ _ => e ▸ .str s⟩
def vdD : Value → Option D
  | .int i _ => some (.int i)
  | .str s _ => some (.str s.cps.toList)
  | .bool b => some (.bl b)
  | .none => some .non
  | _ => none
def vds : List Value → Option (List D)
  | [] => some []
  | u :: us => match vdD u, vds us with
    | some d, some ds => some (d :: ds)
    | _, _ => none
theorem vdD_ok {u : Value} {d : D} (e : vdD u = some d) : ∃ v, RelV v u ∧ ∀ H π M, Rep K H π M v d := by
  unfold vdD at e
  split at e <;> cases e
  · exact ⟨.int _, ⟨_, rfl⟩, fun _ _ _ => .int _⟩
  · exact ⟨.str _, ⟨_, rfl⟩, fun _ _ _ => .str _⟩
  · exact ⟨.bl _, rfl, fun _ _ _ => .bl _⟩
  · exact ⟨.non, rfl, fun _ _ _ => .non⟩
theorem vds_ok : ∀ {us : List Value} {ds : List D}, vds us = some ds → ∃ vs, Vals vs us ∧ ∀ H π M, Reps K H π M vs ds
  | [], _, e => by cases e; exact ⟨[], .nil, fun _ _ _ => .nil⟩
  | u :: us, ds, e => by
    unfold vds at e
    split at e
    · rename_i d ds' h1 h2
      cases e
      obtain ⟨v, a1, a2⟩ := vdD_ok (K := K) h1
      obtain ⟨vs, b1, b2⟩ := vds_ok h2
      exact ⟨v :: vs, .cons a1 b1, fun H π M => .cons (a2 H π M) (b2 H π M)⟩
    · cases e
/-! written dicts -/
def dlkT : List (Str × List (List Nat × D)) → Str → Option (List (List Nat × D))
  | [], _ => none
  | (k, d) :: r, x => if x = k then some d else dlkT r x
def DcFact (w : World) (K : Fg) (mg : Str → Option Value) (x : Str) (kvs : List (List Nat × D)) : Prop := ∃ (a : Addr) (es : Array DictEntry) (n : Nat), mg x = some (.ref a) ∧ KDict K w a es n ∧ ∀ z : Str, ∃ r, PySem.W.nsIn K a z = some r ∧ (match dlk kvs z.cps.toList with
    | some d => ∃ u v, r = some u ∧ RelV v u ∧ ∀ H π M, Rep K H π M v d
    | none => r = none)
inductive DFacts (w : World) (K : Fg) (mg : Str → Option Value) : List (Str × List (List Nat × D)) → Prop
  | nil : DFacts w K mg []
  | cons {k : Str} {d : List (List Nat × D)} {r : List (Str × List (List Nat × D))} : DcFact w K mg k d → DFacts w K mg r → DFacts w K mg ((k, d) :: r)
theorem DFacts.get {w : World} {l : List (Str × List (List Nat × D))} (h : DFacts w K mg l) : ∀ {x : Str} {d : List (List Nat × D)}, dlkT l x = some d → DcFact w K mg x d := by
  induction h with
  | nil => intro x d e; cases e
  | cons a _ ih =>
    intro x d e
    unfold dlkT at e
    split at e
    · rename_i hx
      cases e
      subst hx
      exact a
    · exact ih e
def kvsOf : List DictEntry → Option (List (List Nat × D))
  | [] => some []
  | e :: r => match e.key, vdD e.val, kvsOf r with
    | .str x _, some d, some l => some ((x.cps.toList, d) :: l)
    | _, _, _ => none
theorem kvs_find : ∀ {es : List DictEntry} {kvs : List (List Nat × D)}, kvsOf es = some kvs → ∀ z : Str, (match es.find? (·.key.isStr z) with
    | some e => ∃ d, vdD e.val = some d ∧ dlk kvs z.cps.toList = some d
    | none => dlk kvs z.cps.toList = none)
  | [], _, h, z => by cases h; rfl
  | e :: r, kvs, h, z => by
    unfold kvsOf at h
    split at h
    · rename_i x t d l h1 h2 h3
      cases h
      have ih := kvs_find h3 z
      rw [List.find?_cons, h1]
      by_cases c : x = z
      · subst c
        simp [Value.isStr, dlk, h2]
      · have c1 : (Value.str x t).isStr z = false := by simp [Value.isStr, c]
        have c2 : ¬ z.cps.toList = x.cps.toList := fun e => c (str_ext e).symm
        rw [c1]
        simp only [dlk, if_neg c2]
        exact ih
    · cases h
theorem dc_mk {w : World} {h : Heap} {x : Str} {a : Addr} {es : Array DictEntry} {n : Nat} {kvs : List (List Nat × D)} (X : K.In h) (G : h.Ns mainGlobals mg) (ha : PySem.W.nsIn K mainGlobals x = some (some (.ref a))) (l : K.lookup a = some ⟨.type "dict", none, .dict es n, #[]⟩) (hk : PySem.W.KeysLit w.params es.toList) (hs : (a == sysModules) = false) (hr : es.toList.any (·.refKey) = false) (hv : kvsOf es.toList = some kvs) : DcFact w K mg x kvs :=
  ⟨a, es, n, PySem.W.mg_of X G ha, ⟨l, hk, hs⟩, fun z => by
    have hn : PySem.W.nsIn K a z = match es.toList.find? (·.key.isStr z) with
      | some e => some (some e.val)
      | none => if es.toList.any (·.refKey) then none else some none := by
      unfold PySem.W.nsIn
      rw [l]
      rfl
    have hf := kvs_find hv z
    cases he : es.toList.find? (·.key.isStr z) with
    | none =>
      rw [he] at hf hn
      rw [hr] at hn
      exact ⟨none, hn, by rw [show dlk kvs z.cps.toList = none from hf]⟩
    | some e =>
      rw [he] at hf hn
      obtain ⟨d, h1, h2⟩ := hf
      obtain ⟨v, h3, h4⟩ := vdD_ok (K := K) h1
      exact ⟨some e.val, hn, by rw [h2]; exact ⟨_, v, rfl, h3, h4⟩⟩⟩
theorem gl_tup {h : Heap} {x : Str} {p : Addr} {od : Option Addr} {its : Array Value} {n : Nat} {sl : Array (Option Value)} {ds : List D} (X : K.In h) (G : h.Ns mainGlobals mg) (a : PySem.W.nsIn K mainGlobals x = some (some (.ref p))) (l : K.lookup p = some ⟨.type "tuple", od, .seq its n, sl⟩) (hs : its.size ≤ sizeLine) (e : vds its.toList = some ds) : GlFact K mg x (.tup ds) := by
  obtain ⟨vs, b1, b2⟩ := vds_ok (K := K) e
  exact ⟨_, .ref p, PySem.W.mg_of X G a, rfl, fun H π M => .tup (.inr ⟨_, its, n, l, rfl, rfl, hs, b1⟩) (b2 H π M)⟩
end
end Ht

set_option linter.all false
set_option maxRecDepth 100000
set_option maxHeartbeats 1000000
/-! ### the laws' own helpers: numbers, sentences -/
namespace Ht
open PySem
/-- the joints of two sentences -/
inductive Jt where
  | and | or | ifj | same
  deriving DecidableEq
def Jt.s : Jt → List Nat
  | .and => [97, 110, 100] | .or => [111, 114] | .ifj => [105, 102] | .same => [115, 97, 109, 101]
inductive Sen where
  | lt (k : Nat) | nt (s : Sen) | j2 (j : Jt) (s t : Sen)
def tLet : List Nat := [108, 101, 116]
def tNot : List Nat := [110, 111, 116]
def Sen.d : Sen → D
  | .lt k => .tup [.str tLet, .int k]
  | .nt s => .tup [.str tNot, s.d]
  | .j2 j s t => .tup [.str j.s, s.d, t.d]
def Sen.depth : Sen → Nat
  | .lt _ => 0
  | .nt s => s.depth + 1
  | .j2 _ s t => max s.depth t.depth + 1
/-- how many letters, nots and joints -/
def Sen.size : Sen → Nat
  | .lt _ => 1
  | .nt s => s.size + 1
  | .j2 _ s t => s.size + t.size + 1
/-- all letters below m -/
def Sen.ok (m : Nat) : Sen → Prop
  | .lt k => k < m
  | .nt s => s.ok m
  | .j2 _ s t => s.ok m ∧ t.ok m
theorem Sen.depth_lt : ∀ s : Sen, s.depth < s.size
  | .lt _ => by simp [Sen.depth, Sen.size]
  | .nt s => by have := s.depth_lt; simp [Sen.depth, Sen.size]; omega
  | .j2 _ s t => by have := s.depth_lt; have := t.depth_lt; simp [Sen.depth, Sen.size]; omega
theorem s_let : (Str.ofString "let").cps.toList = tLet := by decide +kernel
theorem s_not : (Str.ofString "not").cps.toList = tNot := by decide +kernel
theorem s_and : (Str.ofString "and").cps.toList = Jt.s .and := by decide +kernel
theorem s_or : (Str.ofString "or").cps.toList = Jt.s .or := by decide +kernel
theorem s_if : (Str.ofString "if").cps.toList = Jt.s .ifj := by decide +kernel
theorem s_same : (Str.ofString "same").cps.toList = Jt.s .same := by decide +kernel
theorem Jt.ne_let (j : Jt) : j.s ≠ tLet := by cases j <;> decide
theorem Jt.ne_not (j : Jt) : j.s ≠ tNot := by cases j <;> decide
theorem not_ne_let : tNot ≠ tLet := by decide

def fn__law_num : Fn := ⟨2, 5, [
  .asg false 2 (.int 0),
  .ite (.e (.cmp .NotEq (.slot 0) (.lst []))) [
    .asg false 2 (.abs (.idx (.slot 0) (.bin .Mod (.slot 1) (.len (.slot 0)))))] [],
  .ite (.and (.e (.cmp .Lt (.slot 1) (.len (.slot 0)))) (.e (.cmp .GtE (.slot 2) (.bin .Pow (.int 10) (.int 12))))) [
    .retS 2] [],
  .asg false 3 (.bin .Mod (.bin .Add (.bin .Add (.bin .Mult (.slot 2) (.int 48271)) (.bin .Mult (.int 40692) (.slot 1))) (.int 11)) (.int 2147483647)),
  .asg false 4 (.bin .Mod (.bin .Add (.bin .Add (.bin .Mult (.slot 3) (.slot 3)) (.bin .Mult (.int 69621) (.slot 2))) (.int 17)) (.int 2147483629)),
  .ret (.bin .Add (.bin .Mult (.slot 3) (.int 2147483629)) (.slot 4))]⟩
def fn__law_many : Fn := ⟨1, 1, [
  .ite (.e (.cmp .Eq (.bin .Mod (.slot 0) (.int 8)) (.int 5))) [
    .ret (.bin .Add (.int 4) (.bin .Mod (.bin .FloorDiv (.slot 0) (.int 8)) (.int 2)))] [],
  .ret (.bin .Add (.int 1) (.bin .Mod (.bin .FloorDiv (.slot 0) (.int 8)) (.int 3)))]⟩
def fn__law_whole : Fn := ⟨1, 1, [
  .ret (.band (.isin (.slot 0) .int) (.nt (.isin (.slot 0) .bool)))]⟩
def b1__law_sentence : List CS := [
    .asg false 7 (.bin .Mod (.slot 0) (.int 10)),
    .asg false 0 (.bin .FloorDiv (.slot 0) (.int 10)),
    .ite (.and (.e (.cmp .Eq (.slot 7) (.int 5))) (.e (.guard [4] (.cmp .NotEq (.slot 4) (.lst []))))) [
      .app 4 (.tup [(.str "not"), (.pop 4)])] [
      .ite (.and (.e (.cmp .Gt (.slot 7) (.int 5))) (.e (.cmp .Gt (.guard [4] (.len (.slot 4))) (.int 1)))) [
        .asg false 8 (.pop 4),
        .app 4 (.tup [(.idx (.slot 3) (.bin .Sub (.slot 7) (.int 6))), (.pop 4), (.slot 8)])] [
        .app 4 (.tup [(.str "let"), (.bin .Mod (.slot 7) (.slot 2))])]]]
def b2__law_sentence : List CS := [
    .asg false 8 (.pop 4),
    .app 4 (.tup [(.idx (.slot 3) (.bin .Mod (.slot 0) (.int 4))), (.pop 4), (.slot 8)]),
    .asg false 0 (.bin .FloorDiv (.slot 0) (.int 4))]
def fn__law_sentence : Fn := ⟨3, 9, [
  .asg false 3 (.lst [(.str "and"), (.str "or"), (.str "if"), (.str "same")]),
  .asg true 4 (.lst []),
  .asg false 5 (.bin .Add (.int 1) (.bin .Mod (.slot 0) (.slot 1))),
  .asg false 0 (.bin .FloorDiv (.slot 0) (.slot 1)),
  .for1 6 (.rng1 (.slot 5)) b1__law_sentence,
  .whl (.e (.cmp .Gt (.guard [4] (.len (.slot 4))) (.int 1))) b2__law_sentence,
  .ret (.guard [4] (.idx (.slot 4) (.int 0)))]⟩

/-! comparisons -/
theorem c_eqI (a b : Int) : cmpD .Eq (.int a) (.int b) = some (decide (a = b)) := by
  simp only [cmpD, D.flatTo, D.eqv, Bool.and_self, if_true]
  rfl
theorem c_neI (a b : Int) : cmpD .NotEq (.int a) (.int b) = some (!decide (a = b)) := by
  simp only [cmpD, D.flatTo, D.eqv, Bool.and_self, if_true]
  rfl
theorem c_eqS (a b : List Nat) : cmpD .Eq (.str a) (.str b) = some (decide (a = b)) := rfl
theorem c_neS (a b : List Nat) : cmpD .NotEq (.str a) (.str b) = some (!decide (a = b)) := rfl
theorem c_lt (a b : Int) : cmpD .Lt (.int a) (.int b) = some (decide (a < b)) := rfl
theorem c_le (a b : Int) : cmpD .LtE (.int a) (.int b) = some (decide (a ≤ b)) := rfl
theorem c_gt (a b : Int) : cmpD .Gt (.int a) (.int b) = some (decide (b < a)) := rfl
theorem c_ge (a b : Int) : cmpD .GtE (.int a) (.int b) = some (decide (b ≤ a)) := rfl
theorem c_eqB (a b : Bool) : cmpD .Eq (.bl a) (.bl b) = some (a == b) := by
  simp only [cmpD, D.flatTo, D.eqv, Bool.and_self, if_true]
theorem c_neB (a b : Bool) : cmpD .NotEq (.bl a) (.bl b) = some (!(a == b)) := by
  simp only [cmpD, D.flatTo, D.eqv, Bool.and_self, if_true]
/-! steps -/
theorem src_rng1 {Γ : Ctx} {a : CE} {ρ ρ' : Env} {S S' : Store} {x : Rv} {ds : List D} (h : ev Γ a ρ S = .ok x ρ' S') (h2 : rangeD (.int 0) x.d = some ds) : evSrc Γ (.rng1 a) ρ S = .ok ds ρ' S' := by simp only [evSrc, h, Out.bind_ok, Out.bindB_ok, Out.chk_ok, h2, Out.of_some]
theorem src_e {Γ : Ctx} {a : CE} {ρ ρ' : Env} {S S' : Store} {x : Rv} {ds : List D} (h : ev Γ a ρ S = .ok x ρ' S') (h2 : walkD x.d = some ds) : evSrc Γ (.e a) ρ S = .ok ds ρ' S' := by simp only [evSrc, h, Out.bind_ok, Out.bindB_ok, Out.chk_ok, h2, Out.of_some]
theorem for1_eq {Γ : Ctx} {src : Src} {i : Nat} {b : List CS} {ρ ρ' : Env} {S S' : Store} {ds : List D} (h : evSrc Γ src ρ S = .ok ds ρ' S') : evS Γ (.for1 i src b) ρ S = loopS (fun d ρ S => evSs Γ b (st ρ i (.v d)) S) ds ρ' S' := by simp only [evS, h, Out.bind_ok, Out.bindB_ok, Out.chk_ok]
theorem forT_eq {Γ : Ctx} {src : Src} {is : List Nat} {b : List CS} {ρ ρ' : Env} {S S' : Store} {ds : List D} (h : evSrc Γ src ρ S = .ok ds ρ' S') : evS Γ (.forT is src b) ρ S = loopS (fun d ρ S => (asgT is d ρ S).bind fun _ ρ S => evSs Γ b ρ S) ds ρ' S' := by simp only [evS, h, Out.bind_ok, Out.bindB_ok, Out.chk_ok]
theorem loop_nx {f : D → Env → Store → Out Fl} {d : D} {ds : List D} {ρ ρ' : Env} {S S' : Store} (h : f d ρ S = .ok .nx ρ' S') : loopS f (d :: ds) ρ S = loopS f ds ρ' S' := by simp only [loopS, h]
theorem loop_rt {f : D → Env → Store → Out Fl} {d : D} {ds : List D} {ρ ρ' : Env} {S S' : Store} {v : Rv} (h : f d ρ S = .ok (.rt v) ρ' S') : loopS f (d :: ds) ρ S = .ok (.rt v) ρ' S' := by simp only [loopS, h]
theorem evSs_nx {Γ : Ctx} {s : CS} {r : List CS} {ρ ρ' : Env} {S S' : Store} (h : evS Γ s ρ S = .ok .nx ρ' S') : evSs Γ (s :: r) ρ S = evSs Γ r ρ' S' := by simp only [evSs, h, Out.bind_ok, Out.bindB_ok, Out.chk_ok]
theorem evSs_rt {Γ : Ctx} {s : CS} {r : List CS} {ρ ρ' : Env} {S S' : Store} {v : Rv} (h : evS Γ s ρ S = .ok (.rt v) ρ' S') : evSs Γ (s :: r) ρ S = .ok (.rt v) ρ' S' := by simp only [evSs, h, Out.bind_ok, Out.bindB_ok, Out.chk_ok]
theorem call_eq {T : Tab} {f : Str} {fn : Fn} {ds : List D} {S : Store} {n : Nat} (h : T.fn f = some fn) (hl : ds.length = fn.np) : callF T (n + 1) f ds S = Fl.res (evSs (cx T n) fn.body (ds.map .v ++ List.replicate (fn.nl - fn.np) .no) S) := by simp only [callF_succ, h, runF, hl, if_true]
theorem compL_fm {f : D → Store → Out (Option D)} (g : D → Option D) {S : Store} : ∀ (ds acc : List D), (∀ d ∈ ds, ∃ ρ, f d S = .ok (g d) ρ S) → acc.length + ds.length ≤ big → compL f ds S acc = .ok (acc ++ ds.filterMap g) [] S
  | [], acc, _, _ => by simp [compL]
  | d :: ds, acc, h, hl => by
    obtain ⟨ρ, e⟩ := h d (by simp)
    simp only [List.length_cons] at hl
    unfold compL
    rw [e]
    cases hg : g d with
    | none =>
      simp only [List.filterMap_cons_none hg]
      exact compL_fm g ds acc (fun x hx => h x (by simp [hx])) (by omega)
    | some y =>
      simp only [List.filterMap_cons_some hg]
      rw [if_pos (by omega), compL_fm g ds (acc ++ [y]) (fun x hx => h x (by simp [hx])) (by simp; omega)]
      simp
theorem compL_map {f : D → Store → Out (Option D)} (g : D → D) {S : Store} (ds : List D) (h : ∀ d ∈ ds, ∃ ρ, f d S = .ok (some (g d)) ρ S) (hl : ds.length ≤ big) : compL f ds S [] = .ok (ds.map g) [] S := by
  rw [compL_fm (fun d => some (g d)) ds [] h (by simpa using hl)]
  simp
/-! the drawn number -/
def lawCell (ns : List Int) (k : Int) : Int := match ns[(k % ns.length).toNat]? with
  | some i => if i < 0 then -i else i
  | none => 0
def lawNum (ns : List Int) (k : Int) : Int :=
  if k < ns.length ∧ lawCell ns k ≥ 10 ^ 12 then lawCell ns k else
    (lawCell ns k * 48271 + 40692 * k + 11) % 2147483647 * 2147483629 + ((lawCell ns k * 48271 + 40692 * k + 11) % 2147483647 * ((lawCell ns k * 48271 + 40692 * k + 11) % 2147483647) + 69621 * lawCell ns k + 17) % 2147483629
theorem lawCell_nonneg (ns : List Int) (k : Int) : 0 ≤ lawCell ns k := by
  unfold lawCell
  split
  · split <;> omega
  · omega
theorem lawNum_nonneg (ns : List Int) (k : Int) : 0 ≤ lawNum ns k := by
  unfold lawNum
  split
  · exact lawCell_nonneg ns k
  · have h1 := Int.emod_nonneg (lawCell ns k * 48271 + 40692 * k + 11) (b := 2147483647) (by decide)
    have h2 := Int.emod_nonneg ((lawCell ns k * 48271 + 40692 * k + 11) % 2147483647 * ((lawCell ns k * 48271 + 40692 * k + 11) % 2147483647) + 69621 * lawCell ns k + 17) (b := 2147483629) (by decide)
    omega
theorem small_of {i : Int} (h1 : 0 ≤ i) (h2 : i < 2 ^ 64) : smallI i = true := by
  simp only [smallI, Bool.and_eq_true, decide_eq_true_eq]
  omega
theorem idx_scr {ns : List Int} {k : Int} (hk : 0 ≤ k) (hn : ns ≠ []) : ∃ i, idxD (.scr ns) (.int (k % ns.length)) = some (.int i) ∧ lawCell ns k = if i < 0 then -i else i := by
  have hp : 0 < ns.length := List.length_pos_iff.mpr hn
  have h1 : 0 ≤ k % (ns.length : Int) := Int.emod_nonneg _ (by omega)
  have h2 : k % (ns.length : Int) < ns.length := Int.emod_lt_of_pos _ (by omega)
  have h3 : (k % (ns.length : Int)).toNat < ns.length := by omega
  refine ⟨ns[(k % (ns.length : Int)).toNat], ?_, ?_⟩
  · simp only [idxD, ixN, if_pos h1, if_pos h2, Option.bind_some, List.getElem?_eq_getElem h3, Option.map_some]
  · simp only [lawCell, List.getElem?_eq_getElem h3]
theorem ok_num {T : Tab} (h : T.fn "_law_num" = some fn__law_num) (n : Nat) (ns : List Int) (k : Int) (hk : 0 ≤ k) (S : Store) : callF T (n + 1) "_law_num" [.scr ns, .int k] S = .ok (.sh (.int (lawNum ns k))) S := by
  have e1 : smallI 48271 = true := by decide
  have e2 : smallI 40692 = true := by decide
  have e3 : smallI 69621 = true := by decide
  have e4 : smallI 2147483629 = true := by decide
  have e5 : smallI 10 = true := by decide
  have o1 := Int.emod_nonneg (lawCell ns k * 48271 + 40692 * k + 11) (b := 2147483647) (by decide)
  have o2 := Int.emod_lt_of_pos (lawCell ns k * 48271 + 40692 * k + 11) (b := 2147483647) (by decide)
  have e6 : smallI ((lawCell ns k * 48271 + 40692 * k + 11) % 2147483647) = true := small_of o1 (by omega)
  have key : ∀ c : Int, c = lawCell ns k → Fl.res (evSs (cx T n) (fn__law_num.body.drop 2) [.v (.scr ns), .v (.int k), .v (.int c), .no, .no] S) = .ok (.sh (.int (lawNum ns k))) S := fun c hc => by
    subst hc
    by_cases hlt : k < ns.length
    · by_cases hge : lawCell ns k ≥ 10 ^ 12
      · have hge' : 1000000000000 ≤ lawCell ns k := by omega
        simp [fn__law_num, evSs, evS, evT, ev, gt, st, cmpD, lenD, isB, Rv.d, binD, Fl.res, lawNum, hlt, hge', e5]
      · have hge' : ¬ 1000000000000 ≤ lawCell ns k := by omega
        simp [fn__law_num, evSs, evS, evT, ev, gt, st, cmpD, lenD, isB, Rv.d, binD, Fl.res, lawNum, hlt, hge', e1, e2, e3, e4, e5, e6]
    · simp [fn__law_num, evSs, evS, evT, ev, gt, st, cmpD, lenD, isB, Rv.d, binD, Fl.res, lawNum, hlt, e1, e2, e3, e4, e5, e6]
  by_cases hn : ns = []
  · have hc : lawCell ns k = 0 := by subst hn; rfl
    have := key 0 hc.symm
    subst hn
    rw [← this]
    simp [callF_succ, h, runF, fn__law_num, evSs, evS, evT, ev, evs, gt, st, cmpD, isB, Rv.d, big]
  · obtain ⟨i, hi, hc⟩ := idx_scr hk hn
    have := key _ hc.symm
    rw [← this]
    have hne : ns.isEmpty = false := by cases ns <;> simp_all
    have hlen : 0 < ns.length := List.length_pos_iff.mpr hn
    simp [callF_succ, h, runF, fn__law_num, evSs, evS, evT, ev, evs, gt, st, cmpD, isB, Rv.d, big, hne, lenD, binD, hlen, hi, absD]
/-! drawn counts, whole numbers -/
def manyF (n : Int) : Int := if n % 8 = 5 then 4 + n / 8 % 2 else 1 + n / 8 % 3
theorem manyF_lo (n : Int) : 1 ≤ manyF n := by unfold manyF; split <;> omega
theorem manyF_hi (n : Int) : manyF n ≤ 5 := by unfold manyF; split <;> omega
theorem ok_many {T : Tab} (h : T.fn "_law_many" = some fn__law_many) (n : Nat) (k : Int) (S : Store) : callF T (n + 1) "_law_many" [.int k] S = .ok (.sh (.int (manyF k))) S := by
  by_cases c : k % 8 = 5 <;> simp [h, fn__law_many, callF_succ, callM_succ, cx_cf, cx_cm, cx_gl, cx_dc, cx_ci, runF, evSs, evS, evT, ev, evs, evSrc, evc, evo, gt, st, Rv.d, isB, isI, Fl.res, Out.bind_ok, Out.bindB_ok, Out.chk_ok, Out.bind_bad, Out.bindB_bad, Out.of_some, Out.of_none, asgT, setT, List.map_cons, List.map_nil, List.length_cons, List.length_nil, Sl.mask, Sl.pure, Sl.share, shareAt, binD, cmpD, D.flatTo, D.eqv, manyF, c]
theorem ok_whole {T : Tab} (h : T.fn "_law_whole" = some fn__law_whole) (n : Nat) (k : Int) (S : Store) : callF T (n + 1) "_law_whole" [.int k] S = .ok (.sh (.bl true)) S := by
  simp [h, fn__law_whole, callF_succ, callM_succ, cx_cf, cx_cm, cx_gl, cx_dc, cx_ci, runF, evSs, evS, evT, ev, evs, evSrc, evc, evo, gt, st, Rv.d, isB, isI, Fl.res, Out.bind_ok, Out.bindB_ok, Out.chk_ok, Out.bind_bad, Out.bindB_bad, Out.of_some, Out.of_none, asgT, setT, List.map_cons, List.map_nil, List.length_cons, List.length_nil, Sl.mask, Sl.pure, Sl.share, shareAt, isinD]
/-! sentences -/
mutual
theorem rfree_str : ∀ s : Sen, s.d.rfree = true
  | .lt _ => by simp [Sen.d, D.rfree, D.rfrees]
  | .nt s => by simp [Sen.d, D.rfree, D.rfrees, rfree_str s]
  | .j2 _ s t => by simp [Sen.d, D.rfree, D.rfrees, rfree_str s, rfree_str t]
end
theorem lfree_sen : ∀ s : Sen, s.d.lfree = true
  | .lt _ => by simp [Sen.d, D.lfree, D.lfrees]
  | .nt s => by simp [Sen.d, D.lfree, D.lfrees, lfree_sen s]
  | .j2 _ s t => by simp [Sen.d, D.lfree, D.lfrees, lfree_sen s, lfree_sen t]
theorem rfrees_map : ∀ R : List Sen, D.rfrees (R.map Sen.d) = true
  | [] => rfl
  | s :: R => by simp [D.rfrees, rfree_str s, rfrees_map R]
theorem Jt.ascii (j : Jt) : j.s.all (· < 128) = true := by cases j <;> decide
theorem flat_sen : ∀ (s : Sen) (n : Nat), s.depth < n → s.d.flatTo n = true
  | .lt _, n + 1, _ => by simp [Sen.d, D.flatTo, D.flatsTo, tLet]
  | .nt s, n + 1, h => by
    have h : s.depth + 1 < n + 1 := h
    simp [Sen.d, D.flatTo, D.flatsTo, tNot, flat_sen s n (by omega)]
  | .j2 j s t, n + 1, h => by
    have h : max s.depth t.depth + 1 < n + 1 := h
    have := j.ascii
    simp only [Sen.d, D.flatTo, D.flatsTo, this, flat_sen s n (by omega), flat_sen t n (by omega), Bool.and_self]
theorem flats_map (n : Nat) : ∀ R : List Sen, (∀ s ∈ R, s.depth < n) → D.flatsTo (R.map Sen.d) n = true
  | [], _ => rfl
  | s :: R, h => by simp [D.flatsTo, flat_sen s n (h s (by simp)), flats_map n R fun t ht => h t (by simp [ht])]
def jOf (i : Int) : Jt := if i = 0 then .and else if i = 1 then .or else if i = 2 then .ifj else .same
theorem idx_joints {i : Int} (h0 : 0 ≤ i) (h4 : i < 4) : idxD (.lst [.str (Jt.s .and), .str (Jt.s .or), .str (Jt.s .ifj), .str (Jt.s .same)]) (.int i) = some (.str (jOf i).s) := by
  have : i = 0 ∨ i = 1 ∨ i = 2 ∨ i = 3 := by omega
  rcases this with rfl | rfl | rfl | rfl <;> rfl
/-- a turn of the pile (its top first) -/
def pStep (m g : Int) : List Sen → List Sen
  | [] => [.lt (g % m).toNat]
  | [r] => if g = 5 then [.nt r] else [.lt (g % m).toNat, r]
  | r :: l :: R => if g = 5 then .nt r :: l :: R else if 5 < g then .j2 (jOf (g - 6)) l r :: R else .lt (g % m).toNat :: r :: l :: R
def pRun (m : Int) : Nat → Int → List Sen → List Sen × Int
  | 0, n, R => (R, n)
  | k + 1, n, R => pRun m k (n / 10) (pStep m (n % 10) R)
def pJoin (r : Sen) : List Sen → Int → Sen
  | [], _ => r
  | l :: R, n => pJoin (.j2 (jOf (n % 4)) l r) R (n / 4)
def senF (n most m : Int) : Sen := match pRun m (1 + n % most).toNat (n / most) [] with
  | ([], _) => .lt 0
  | (r :: R, k) => pJoin r R k
def sumS : List Sen → Nat
  | [] => 0
  | s :: R => s.size + sumS R
theorem le_sumS : ∀ (R : List Sen) (s : Sen), s ∈ R → s.size ≤ sumS R
  | t :: R, s, h => by
    rcases List.mem_cons.mp h with rfl | h
    · simp [sumS]
    · have := le_sumS R s h
      simp [sumS]
      omega
theorem pStep_ne (m g : Int) (R : List Sen) : pStep m g R ≠ [] := by
  unfold pStep
  split
  · simp
  · split <;> simp
  · split
    · simp
    · split <;> simp
theorem pStep_sum (m g : Int) (R : List Sen) : sumS (pStep m g R) = sumS R + 1 := by
  unfold pStep
  split
  · simp [sumS, Sen.size]
  · split <;> simp [sumS, Sen.size] <;> omega
  · split
    · simp [sumS, Sen.size]; omega
    · split <;> simp [sumS, Sen.size] <;> omega
theorem pStep_len (m g : Int) (R : List Sen) : (pStep m g R).length ≤ R.length + 1 := by
  unfold pStep
  split
  · simp
  · split <;> simp
  · split
    · simp
    · split <;> simp <;> omega
theorem pStep_ok {m g : Int} (hm : 0 < m) {R : List Sen} (h : ∀ s ∈ R, s.ok m.toNat) : ∀ s ∈ pStep m g R, s.ok m.toNat := by
  have hg : (g % m).toNat < m.toNat := by
    have := Int.emod_nonneg g (b := m) (by omega)
    have := Int.emod_lt_of_pos g hm
    omega
  unfold pStep
  split
  · simpa [Sen.ok] using hg
  · split
    · simpa [Sen.ok] using h
    · simp only [List.mem_cons, List.not_mem_nil, or_false, forall_eq_or_imp, forall_eq] at h ⊢
      exact ⟨hg, h⟩
  · simp only [List.mem_cons, forall_eq_or_imp] at h
    split
    · simp only [List.mem_cons, forall_eq_or_imp]
      exact h
    · split <;> simp only [List.mem_cons, forall_eq_or_imp]
      · exact ⟨⟨h.2.1, h.1⟩, h.2.2⟩
      · exact ⟨hg, h⟩
theorem pRun_facts {m : Int} (hm : 0 < m) : ∀ (k : Nat) (n : Int) (R : List Sen), 0 ≤ n → (∀ s ∈ R, s.ok m.toNat) → (∀ s ∈ (pRun m k n R).1, s.ok m.toNat) ∧ sumS (pRun m k n R).1 = sumS R + k ∧ (pRun m k n R).1.length ≤ R.length + k ∧ 0 ≤ (pRun m k n R).2 ∧ (k ≠ 0 → (pRun m k n R).1 ≠ [])
  | 0, n, R, hn, h => ⟨h, rfl, Nat.le_refl _, hn, fun e => absurd rfl e⟩
  | k + 1, n, R, hn, h => by
    have q := pRun_facts hm k (n / 10) (pStep m (n % 10) R) (by omega) (pStep_ok hm h)
    have q1 := pStep_sum m (n % 10) R
    have q2 := pStep_len m (n % 10) R
    refine ⟨q.1, by rw [show (pRun m (k + 1) n R) = pRun m k (n / 10) (pStep m (n % 10) R) from rfl]; omega, by rw [show (pRun m (k + 1) n R) = pRun m k (n / 10) (pStep m (n % 10) R) from rfl]; omega, q.2.2.2.1, fun _ => ?_⟩
    by_cases hk : k = 0
    · subst hk
      exact pStep_ne m (n % 10) R
    · exact q.2.2.2.2 hk
theorem pJoin_ok {m : Nat} : ∀ (R : List Sen) (r : Sen) (n : Int), r.ok m → (∀ s ∈ R, s.ok m) → (pJoin r R n).ok m
  | [], r, _, h, _ => h
  | l :: R, r, n, h, h2 => pJoin_ok R _ _ ⟨h2 l (by simp), h⟩ fun s hs => h2 s (by simp [hs])
theorem pJoin_size : ∀ (R : List Sen) (r : Sen) (n : Int), (pJoin r R n).size = r.size + sumS R + R.length
  | [], r, _ => by simp [pJoin, sumS]
  | l :: R, r, n => by
    rw [pJoin, pJoin_size R]
    simp [sumS, Sen.size]
    omega
theorem senF_facts {n most m : Int} (hn : 0 ≤ n) (hmo : 0 < most) (hm : 0 < m) : (senF n most m).ok m.toNat ∧ (senF n most m).size < 2 * most.toNat := by
  have hk : (1 + n % most).toNat ≠ 0 ∧ (1 + n % most).toNat ≤ most.toNat := by
    have := Int.emod_nonneg n (b := most) (by omega)
    have := Int.emod_lt_of_pos n hmo
    omega
  have q := pRun_facts hm (1 + n % most).toNat (n / most) [] (Int.ediv_nonneg hn (by omega)) (by simp)
  unfold senF
  split
  · rename_i e
    rw [e] at q
    exact absurd rfl (q.2.2.2.2 hk.1)
  · rename_i r R k e
    rw [e] at q
    simp only [sumS, List.length_cons, List.length_nil] at q
    refine ⟨pJoin_ok R r k (q.1 r (by simp)) fun s hs => q.1 s (by simp [hs]), ?_⟩
    rw [pJoin_size]
    omega
theorem flatsNil (n : Nat) : D.flatsTo [] n = true := rfl
def dJoints : D := .lst [.str (Jt.s .and), .str (Jt.s .or), .str (Jt.s .ifj), .str (Jt.s .same)]
def senEnv (n most m size : Int) (R : List Sen) (x6 x7 x8 : Sl) : Env := [.v (.int n), .v (.int most), .v (.int m), .v dJoints, .own (R.reverse.map Sen.d), .v (.int size), x6, x7, x8]
theorem toNat_emod {g m : Int} (hm : 0 < m) : (((g % m).toNat : Nat) : Int) = g % m := by
  have := Int.emod_nonneg g (b := m) (by omega)
  omega
theorem sen_turn (Γ : Ctx) {n most m size : Int} (hn : 0 ≤ n) (hm : 0 < m) (R : List Sen) (hR : sumS R < 60) (hl : R.length < 60) (x6 x7 x8 : Sl) (S : Store) : ∃ y7 y8, evSs Γ b1__law_sentence (senEnv n most m size R x6 x7 x8) S = .ok .nx (senEnv (n / 10) most m size (pStep m (n % 10) R) x6 y7 y8) S := by
  have hr := rfrees_map R.reverse
  have hf : D.flatsTo (R.reverse.map Sen.d) 61 = true := flats_map 61 _ fun s hs => by
    have := le_sumS R s (by simpa using hs)
    have := s.depth_lt
    omega
  have h0 : 0 ≤ n % 10 := by omega
  have h9 : n % 10 < 10 := by omega
  have hlen : R.length + 1 < big := by unfold big; omega
  generalize hg : n % 10 = g at *
  match R, hr, hf, hlen with
  | [], _, _, _ =>
    by_cases c : g = 5 <;> by_cases c2 : 5 < g <;>
    simp [b1__law_sentence, senEnv, callF_succ, callM_succ, cx_cf, cx_cm, cx_gl, cx_dc, cx_ci, runF, evSs, evS, evT, ev, evs, evSrc, evc, evo, gt, st, Rv.d, isB, isI, Fl.res, Out.bind_ok, Out.bindB_ok, Out.chk_ok, Out.bind_bad, Out.bindB_bad, Out.of_some, Out.of_none, asgT, setT, List.map_cons, List.map_nil, List.length_cons, List.length_nil, Sl.mask, Sl.pure, Sl.share, shareAt, hg, binD, cmpD, lenD, D.rfree, D.rfrees, D.flatTo, D.flatsTo, D.eqv, D.eqvs, D.lfree, pStep, Sen.d, toNat_emod hm, s_let, hm, c, c2, big]
  | [r], hr, hf, _ =>
    simp only [List.reverse_cons, List.reverse_nil, List.nil_append, List.map_cons, List.map_nil] at hr hf
    by_cases c : g = 5 <;> by_cases c2 : 5 < g <;>
    simp [b1__law_sentence, senEnv, callF_succ, callM_succ, cx_cf, cx_cm, cx_gl, cx_dc, cx_ci, runF, evSs, evS, evT, ev, evs, evSrc, evc, evo, gt, st, Rv.d, isB, isI, Fl.res, Out.bind_ok, Out.bindB_ok, Out.chk_ok, Out.bind_bad, Out.bindB_bad, Out.of_some, Out.of_none, asgT, setT, List.map_cons, List.map_nil, List.length_cons, List.length_nil, Sl.mask, Sl.pure, Sl.share, shareAt, hg, binD, cmpD, lenD, D.rfree, hr, D.flatTo, hf, flatsNil, D.eqv, D.eqvs, D.lfree, pStep, Sen.d, toNat_emod hm, s_let, s_not, hm, c, c2, big]
  | r :: l :: R, hr, hf, hlen =>
    simp only [List.reverse_cons, List.map_append, List.map_cons, List.map_nil, List.map_reverse, List.append_assoc, List.cons_append, List.nil_append] at hr hf
    simp only [List.length_cons] at hlen
    have hidx : 5 < g → idxD dJoints (.int (g - 6)) = some (.str (jOf (g - 6)).s) := fun c2 => idx_joints (by omega) (by omega)
    have z1 : R.length + 1 < 16777216 := by unfold big at hlen; omega
    have z2 : R.length < 16777216 := by omega
    have z4 : (1 : Int) < (R.length : Int) + 2 := by omega
    have z3 : R.length + 1 + 1 < 16777216 := by unfold big at hlen; omega
    by_cases c : g = 5 <;> by_cases c2 : 5 < g
    · omega
    · simp [b1__law_sentence, senEnv, callF_succ, callM_succ, cx_cf, cx_cm, cx_gl, cx_dc, cx_ci, runF, evSs, evS, evT, ev, evs, evSrc, evc, evo, gt, st, Rv.d, isB, isI, Fl.res, Out.bind_ok, Out.bindB_ok, Out.chk_ok, Out.bind_bad, Out.bindB_bad, Out.of_some, Out.of_none, asgT, setT, List.map_cons, List.map_nil, List.length_cons, List.length_nil, Sl.mask, Sl.pure, Sl.share, shareAt, hg, binD, cmpD, lenD, D.rfree, hr, D.flatTo, hf, flatsNil, D.eqv, D.eqvs, D.lfree, pStep, Sen.d, toNat_emod hm, s_let, s_not, hm, c, big, z1]
    · simp [b1__law_sentence, senEnv, callF_succ, callM_succ, cx_cf, cx_cm, cx_gl, cx_dc, cx_ci, runF, evSs, evS, evT, ev, evs, evSrc, evc, evo, gt, st, Rv.d, isB, isI, Fl.res, Out.bind_ok, Out.bindB_ok, Out.chk_ok, Out.bind_bad, Out.bindB_bad, Out.of_some, Out.of_none, asgT, setT, List.map_cons, List.map_nil, List.length_cons, List.length_nil, Sl.mask, Sl.pure, Sl.share, shareAt, hg, binD, cmpD, lenD, D.rfree, hr, D.flatTo, hf, flatsNil, D.eqv, D.eqvs, D.lfree, pStep, Sen.d, toNat_emod hm, s_let, s_not, hm, c, c2, big, z2, z4, hidx c2]
    · simp [b1__law_sentence, senEnv, callF_succ, callM_succ, cx_cf, cx_cm, cx_gl, cx_dc, cx_ci, runF, evSs, evS, evT, ev, evs, evSrc, evc, evo, gt, st, Rv.d, isB, isI, Fl.res, Out.bind_ok, Out.bindB_ok, Out.chk_ok, Out.bind_bad, Out.bindB_bad, Out.of_some, Out.of_none, asgT, setT, List.map_cons, List.map_nil, List.length_cons, List.length_nil, Sl.mask, Sl.pure, Sl.share, shareAt, hg, binD, cmpD, lenD, D.rfree, hr, D.flatTo, hf, flatsNil, D.eqv, D.eqvs, D.lfree, pStep, Sen.d, toNat_emod hm, s_let, s_not, hm, c, c2, big, z3]
theorem sen_loop (Γ : Ctx) {most m size : Int} (hm : 0 < m) : ∀ (ds : List D) (n : Int) (R : List Sen) (x6 x7 x8 : Sl) (S : Store), 0 ≤ n → sumS R + ds.length ≤ 60 → R.length + ds.length ≤ 60 →
    ∃ y6 y7 y8, loopS (fun d ρ S => evSs Γ b1__law_sentence (st ρ 6 (.v d)) S) ds (senEnv n most m size R x6 x7 x8) S = .ok .nx (senEnv (pRun m ds.length n R).2 most m size (pRun m ds.length n R).1 y6 y7 y8) S
  | [], n, R, x6, x7, x8, S, _, _, _ => ⟨x6, x7, x8, rfl⟩
  | d :: ds, n, R, x6, x7, x8, S, hn, h1, h2 => by
    simp only [List.length_cons] at h1 h2
    obtain ⟨y7, y8, e⟩ := sen_turn Γ (size := size) (most := most) hn hm R (by omega) (by omega) (.v d) x7 x8 S
    have q1 := pStep_sum m (n % 10) R
    have q2 := pStep_len m (n % 10) R
    obtain ⟨z6, z7, z8, e2⟩ := sen_loop Γ (size := size) (most := most) hm ds (n / 10) (pStep m (n % 10) R) (.v d) y7 y8 S (by omega) (by omega) (by omega)
    refine ⟨z6, z7, z8, ?_⟩
    show (match evSs Γ b1__law_sentence (senEnv n most m size R (.v d) x7 x8) S with
      | .ok .nx ρ S => loopS _ ds ρ S
      | .ok .ct ρ S => loopS _ ds ρ S
      | .ok .bk ρ S => .ok .nx ρ S
      | .ok (.rt r) ρ S => .ok (.rt r) ρ S
      | .exc x ρ S => .exc x ρ S
      | .bad => .bad) = _
    rw [e]
    exact e2
def senTest : CT := .e (.cmp .Gt (.guard [4] (.len (.slot 4))) (.int 1))
theorem sen_test (Γ : Ctx) (n most m size : Int) (R : List Sen) (x6 x7 x8 : Sl) (S : Store) : evT Γ senTest (senEnv n most m size R x6 x7 x8) S = .ok (decide (1 < R.length)) (senEnv n most m size R x6 x7 x8) S := by
  have hr := rfrees_map R.reverse
  simp only [List.map_reverse] at hr
  simp [senTest, senEnv, callF_succ, callM_succ, cx_cf, cx_cm, cx_gl, cx_dc, cx_ci, runF, evSs, evS, evT, ev, evs, evSrc, evc, evo, gt, st, Rv.d, isB, isI, Fl.res, Out.bind_ok, Out.bindB_ok, Out.chk_ok, Out.bind_bad, Out.bindB_bad, Out.of_some, Out.of_none, asgT, setT, List.map_cons, List.map_nil, List.length_cons, List.length_nil, Sl.mask, Sl.pure, Sl.share, shareAt, cmpD, lenD, D.rfree, hr, D.lfree]
  omega
theorem sen_while (Γ : Ctx) {most m size : Int} : ∀ (R : List Sen) (r : Sen) (n : Int) (k : Nat) (x6 x7 x8 : Sl) (S : Store), 0 ≤ n → R.length < k → R.length < 60 →
    ∃ n' y8, whileS (evT Γ senTest) (evSs Γ b2__law_sentence) k (senEnv n most m size (r :: R) x6 x7 x8) S = .ok .nx (senEnv n' most m size [pJoin r R n] x6 x7 y8) S
  | [], r, n, k + 1, x6, x7, x8, S, _, _, _ => ⟨n, x8, by simp [whileS, sen_test, pJoin]⟩
  | l :: R, r, n, k + 1, x6, x7, x8, S, hn, hk, hl => by
    simp only [List.length_cons] at hk hl
    obtain ⟨n', y8, e⟩ := sen_while Γ (most := most) (m := m) (size := size) R (.j2 (jOf (n % 4)) l r) (n / 4) k x6 x7 (.v r.d) S (by omega) (by omega) (by omega)
    refine ⟨n', y8, ?_⟩
    have hidx : idxD dJoints (.int (n % 4)) = some (.str (jOf (n % 4)).s) := idx_joints (by omega) (by omega)
    have z : R.length < 16777216 := by omega
    have e2 : evSs Γ b2__law_sentence (senEnv n most m size (r :: l :: R) x6 x7 x8) S = .ok .nx (senEnv (n / 4) most m size (.j2 (jOf (n % 4)) l r :: R) x6 x7 (.v r.d)) S := by
      simp [b2__law_sentence, senEnv, callF_succ, callM_succ, cx_cf, cx_cm, cx_gl, cx_dc, cx_ci, runF, evSs, evS, evT, ev, evs, evSrc, evc, evo, gt, st, Rv.d, isB, isI, Fl.res, Out.bind_ok, Out.bindB_ok, Out.chk_ok, Out.bind_bad, Out.bindB_bad, Out.of_some, Out.of_none, asgT, setT, List.map_cons, List.map_nil, List.length_cons, List.length_nil, Sl.mask, Sl.pure, Sl.share, shareAt, binD, hidx, big, z, Sen.d]
    rw [pJoin, ← e]
    simp [whileS, sen_test, e2]
theorem ok_sentence {T : Tab} (h : T.fn "_law_sentence" = some fn__law_sentence) (f : Nat) {n most m : Int} (hn : 0 ≤ n) (hmo : 0 < most) (hmo2 : most ≤ 30) (hm : 0 < m) (S : Store) : callF T (f + 1) "_law_sentence" [.int n, .int most, .int m] S = .ok (.sh (senF n most m).d) S := by
  have hk : 0 ≤ n % most ∧ n % most < most := ⟨Int.emod_nonneg n (by omega), Int.emod_lt_of_pos n hmo⟩
  have hq : 0 ≤ n / most := Int.ediv_nonneg hn (by omega)
  have hr : rangeD (.int 0) (.int (1 + n % most)) = some ((List.range (1 + n % most).toNat).map fun (k : Nat) => .int (0 + k)) := by
    have e : (1 + n % most - 0).toNat = (1 + n % most).toNat := by omega
    simp only [rangeD, rangeL, e]
    rw [if_pos (by omega)]
  obtain ⟨y6, y7, y8, e1⟩ := sen_loop (cx T f) (most := most) (size := 1 + n % most) hm ((List.range (1 + n % most).toNat).map fun (k : Nat) => .int (0 + k)) (n / most) [] .no .no .no S hq (by simp [sumS]; omega) (by simp; omega)
  have hfacts := pRun_facts hm (1 + n % most).toNat (n / most) [] hq (by simp)
  rw [List.length_map, List.length_range] at e1
  unfold senF
  match hR : pRun m (1 + n % most).toNat (n / most) [] with
  | ([], k) =>
    rw [hR] at hfacts
    exact absurd rfl (hfacts.2.2.2.2 (by omega))
  | (r :: R, k) =>
    rw [hR] at hfacts e1
    simp only [List.length_cons, List.length_nil] at hfacts
    obtain ⟨n', z8, e2⟩ := sen_while (cx T f) (most := most) (m := m) (size := 1 + n % most) R r k turns y6 y7 y8 S hfacts.2.2.2.1 (by unfold turns; omega) (by omega)
    have hlt : most < 18446744073709551616 := by omega
    rw [call_eq h rfl]
    simp only [fn__law_sentence, List.map_cons, List.map_nil, List.cons_append, List.nil_append, List.replicate, Nat.reduceSub]
    rw [evSs_nx (by simp [callF_succ, callM_succ, cx_cf, cx_cm, cx_gl, cx_dc, cx_ci, runF, evSs, evS, evT, ev, evs, evSrc, evc, evo, gt, st, Rv.d, isB, isI, Fl.res, Out.bind_ok, Out.bindB_ok, Out.chk_ok, Out.bind_bad, Out.bindB_bad, Out.of_some, Out.of_none, asgT, setT, List.map_cons, List.map_nil, List.length_cons, List.length_nil, Sl.mask, Sl.pure, Sl.share, shareAt, big]; exact ⟨rfl, rfl⟩), evSs_nx (by simp [callF_succ, callM_succ, cx_cf, cx_cm, cx_gl, cx_dc, cx_ci, runF, evSs, evS, evT, ev, evs, evSrc, evc, evo, gt, st, Rv.d, isB, isI, Fl.res, Out.bind_ok, Out.bindB_ok, Out.chk_ok, Out.bind_bad, Out.bindB_bad, Out.of_some, Out.of_none, asgT, setT, List.map_cons, List.map_nil, List.length_cons, List.length_nil, Sl.mask, Sl.pure, Sl.share, shareAt, big]; exact ⟨rfl, rfl⟩), evSs_nx (by simp [callF_succ, callM_succ, cx_cf, cx_cm, cx_gl, cx_dc, cx_ci, runF, evSs, evS, evT, ev, evs, evSrc, evc, evo, gt, st, Rv.d, isB, isI, Fl.res, Out.bind_ok, Out.bindB_ok, Out.chk_ok, Out.bind_bad, Out.bindB_bad, Out.of_some, Out.of_none, asgT, setT, List.map_cons, List.map_nil, List.length_cons, List.length_nil, Sl.mask, Sl.pure, Sl.share, shareAt, binD, hmo]; exact ⟨rfl, rfl⟩), evSs_nx (by simp [callF_succ, callM_succ, cx_cf, cx_cm, cx_gl, cx_dc, cx_ci, runF, evSs, evS, evT, ev, evs, evSrc, evc, evo, gt, st, Rv.d, isB, isI, Fl.res, Out.bind_ok, Out.bindB_ok, Out.chk_ok, Out.bind_bad, Out.bindB_bad, Out.of_some, Out.of_none, asgT, setT, List.map_cons, List.map_nil, List.length_cons, List.length_nil, Sl.mask, Sl.pure, Sl.share, shareAt, binD, hmo, hlt]; exact ⟨rfl, rfl⟩)]
    simp only [s_and, s_or, s_if, s_same]
    rw [evSs_nx (ρ' := senEnv k most m (1 + n % most) (r :: R) y6 y7 y8) (S' := S) (by
      simp only [evS, evSrc, ev, gt, Out.bind_ok, Out.bindB_ok, Out.chk_ok, Rv.d, hr, Out.of_some]
      exact e1), evSs_nx (by simp only [evS]; exact e2)]
    have hl := lfree_sen (pJoin r R k)
    have hr2 := rfree_str (pJoin r R k)
    simp [callF_succ, callM_succ, cx_cf, cx_cm, cx_gl, cx_dc, cx_ci, runF, evSs, evS, evT, ev, evs, evSrc, evc, evo, gt, st, Rv.d, isB, isI, Fl.res, Out.bind_ok, Out.bindB_ok, Out.chk_ok, Out.bind_bad, Out.bindB_bad, Out.of_some, Out.of_none, asgT, setT, List.map_cons, List.map_nil, List.length_cons, List.length_nil, Sl.mask, Sl.pure, Sl.share, shareAt, senEnv, D.rfree, D.rfrees, hr2, hl, idxD, ixN]
end Ht

set_option linter.all false
set_option maxRecDepth 100000
set_option maxHeartbeats 1000000
/-! ### rows of worlds -/
namespace Ht
open PySem
theorem d_sh (d : D) : (Rv.sh d).d = d := rfl
theorem d_fr (ds : List D) : (Rv.fr ds).d = .lst ds := rfl
mutual
theorem eqv_self : ∀ (d : D) (n : Nat), d.flatTo n = true → d.eqv d = true
  | .non, _, _ => rfl
  | .bl _, _, _ => by simp [D.eqv]
  | .int _, _, _ => by simp [D.eqv]
  | .str _, _, _ => by simp [D.eqv]
  | .lst ds, 0, h => by cases h
  | .lst ds, n + 1, h => eqvs_self ds n h
  | .tup ds, 0, h => by cases h
  | .tup ds, n + 1, h => eqvs_self ds n h
  | .ref _, _, h => by cases h
  | .scr _, _, h => by cases h
theorem eqvs_self : ∀ (ds : List D) (n : Nat), D.flatsTo ds n = true → D.eqvs ds ds = true
  | [], _, _ => rfl
  | d :: ds, n, h => by
    simp only [D.flatsTo, Bool.and_eq_true] at h
    simp only [D.eqvs, eqv_self d n h.1, eqvs_self ds n h.2, Bool.and_self]
end
theorem cs_eq {d : D} (h : d.flatTo 62 = true) : cmpD .Eq d d = some true := by
  have q := eqv_self d 62 h
  cases d <;> first | (simp only [cmpD, h, q, Bool.and_self, if_true]; done) | simp [cmpD]
theorem cs_ne {d : D} (h : d.flatTo 62 = true) : cmpD .NotEq d d = some false := by
  have q := eqv_self d 62 h
  cases d <;> first | (simp only [cmpD, h, q, Bool.and_self, if_true, Bool.not_true]; done) | simp [cmpD]
  all_goals cases h
/-- a row of whole numbers -/
def row (r : List Int) : List D := r.map .int
theorem row_len (r : List Int) : (row r).length = r.length := List.length_map _
theorem row_nil : row [] = [] := rfl
theorem row_cons (w : Int) (r : List Int) : row (w :: r) = .int w :: row r := rfl
theorem row_app (a b : List Int) : row a ++ row b = row (a ++ b) := (List.map_append ..).symm
theorem row_inj : ∀ {a b : List Int}, row a = row b → a = b
  | [], [], _ => rfl
  | _ :: _, _ :: _, h => by
    simp only [row_cons, List.cons.injEq, D.int.injEq] at h
    rw [h.1, row_inj h.2]
theorem rfrees_row : ∀ r : List Int, D.rfrees (row r) = true
  | [] => rfl
  | _ :: r => by simp [row_cons, D.rfrees, D.rfree, rfrees_row r]
theorem rfree_row (r : List Int) : D.rfree (.lst (row r)) = true := rfrees_row r
theorem rfree_int (i : Int) : D.rfree (.int i) = true := rfl
theorem rfree_scr (ns : List Int) : D.rfree (.scr ns) = true := rfl
theorem flats_row (n : Nat) : ∀ r : List Int, D.flatsTo (row r) n = true
  | [] => rfl
  | _ :: r => by simp [row_cons, D.flatsTo, D.flatTo, flats_row n r]
theorem flat_row (n : Nat) (r : List Int) : D.flatTo (.lst (row r)) (n + 1) = true := flats_row n r
theorem allFlat_row : ∀ r : List Int, (row r).all D.flat = true
  | [] => rfl
  | _ :: r => by simp [row_cons, D.flat, allFlat_row r]
theorem eqvs_row : ∀ a b : List Int, D.eqvs (row a) (row b) = decide (a = b)
  | [], [] => rfl
  | [], _ :: _ => by simp [row_nil, row_cons, D.eqvs]
  | _ :: _, [] => by simp [row_nil, row_cons, D.eqvs]
  | x :: a, y :: b => by
    simp only [row_cons, D.eqvs, D.eqv, eqvs_row a b, List.cons.injEq, Bool.decide_and]
    rfl
theorem c_eqR (a b : List Int) : cmpD .Eq (.lst (row a)) (.lst (row b)) = some (decide (a = b)) := by
  simp only [cmpD, flat_row 61, Bool.and_self, if_true, D.eqv, eqvs_row]
theorem c_neR (a b : List Int) : cmpD .NotEq (.lst (row a)) (.lst (row b)) = some (!decide (a = b)) := by
  simp only [cmpD, flat_row 61, Bool.and_self, if_true, D.eqv, eqvs_row]
theorem c_eqN (a : List Int) : cmpD .Eq (.lst (row a)) (.lst []) = some (decide (a = [])) := c_eqR a []
theorem c_neN (a : List Int) : cmpD .NotEq (.lst (row a)) (.lst []) = some (!decide (a = [])) := c_neR a []
theorem any_row (w : Int) : ∀ r : List Int, (row r).any (fun d => d.eqv (.int w)) = decide (w ∈ r)
  | [] => by simp [row_nil]
  | x :: r => by
    simp only [row_cons, List.any_cons, any_row w r, D.eqv, List.mem_cons, Bool.decide_or]
    by_cases h : x = w
    · subst h
      simp
    · have h2 : ¬ w = x := fun e => h e.symm
      simp [h, h2]
theorem c_in (w : Int) (r : List Int) : cmpD .In (.int w) (.lst (row r)) = some (decide (w ∈ r)) := by
  simp only [cmpD, D.flat, allFlat_row, Bool.and_self, if_true, any_row]
theorem c_ni (w : Int) (r : List Int) : cmpD .NotIn (.int w) (.lst (row r)) = some (!decide (w ∈ r)) := by
  simp only [cmpD, D.flat, allFlat_row, Bool.and_self, if_true, any_row]
theorem len_row (r : List Int) : lenD (.lst (row r)) = some (.int r.length) := by simp only [lenD, row_len]
theorem walk_row (r : List Int) : walkD (.lst (row r)) = some (row r) := rfl
theorem list_row (r : List Int) : listD (.lst (row r)) = some (row r) := rfl
theorem idx_row {r : List Int} {i : Int} (h0 : 0 ≤ i) (h1 : i < r.length) : idxD (.lst (row r)) (.int i) = some (.int (r.getD i.toNat 0)) := by
  have h : i.toNat < r.length := by omega
  simp only [idxD, ixN, row_len, if_pos h0, if_pos h1, Option.bind_some]
  simp [row, h]
theorem comp_row {f : D → Store → Out (Option D)} (p : Int → Bool) {S : Store} (r : List Int) (h : ∀ w ∈ r, ∃ ρ, f (.int w) S = .ok (if p w then some (.int w) else none) ρ S) (hl : r.length ≤ big) : compL f (row r) S [] = .ok (row (r.filter p)) [] S := by
  rw [compL_fm (fun d => match d with
    | .int w => if p w then some (.int w) else none
    | _ => none) (row r) [] (fun d hd => ?_) (by simpa [row_len] using hl)]
  · congr 1
    rw [List.nil_append]
    clear h hl
    induction r with
    | nil => rfl
    | cons w r ih =>
      by_cases hp : p w = true
      · rw [row_cons, List.filter_cons_of_pos hp, row_cons, List.filterMap_cons_some (b := .int w) (by simp [hp]), ih]
      · rw [row_cons, List.filter_cons_of_neg hp, List.filterMap_cons_none (by simp [hp]), ih]
  · obtain ⟨w, hw, rfl⟩ := List.mem_map.mp hd
    exact h w hw
theorem gt_st {ρ : Env} {i : Nat} {x : Sl} (h : i < ρ.length) : gt (st ρ i x) i = x := by
  induction ρ generalizing i with
  | nil => simp at h
  | cons y ρ ih =>
    cases i with
    | zero => rfl
    | succ i => exact ih (by simpa using h)
theorem lw_gt_ne : ∀ {ρ : Env} {i j : Nat} {y : Sl}, i ≠ j → gt (st ρ i y) j = gt ρ j
  | [], _, _, _, _ => rfl
  | _ :: _, 0, 0, _, h => absurd rfl h
  | _ :: _, 0, _ + 1, _, _ => rfl
  | _ :: _, _ + 1, 0, _, _ => rfl
  | _ :: ρ, i + 1, j + 1, _, h => lw_gt_ne (ρ := ρ) fun e => h (by rw [e])
theorem lw_gt_mask : ∀ (ρ : Env) (i : Nat), gt (ρ.map Sl.mask) i = (gt ρ i).mask
  | [], _ => rfl
  | _ :: _, 0 => rfl
  | _ :: ρ, i + 1 => lw_gt_mask ρ i
/-- a row picked from a row -/
theorem ev_pick {Γ : Ctx} {i : Nat} {src : Src} {t : CT} {ρ : Env} {S : Store} {r : List Int} {p : Int → Bool} (hi : i < ρ.length) (hs : evSrc Γ src ρ S = .ok (row r) ρ S)
    (ht : ∀ w ∈ r, evT Γ t (st (ρ.map Sl.mask) i (.v (.int w))) S = .ok (p w) (st (ρ.map Sl.mask) i (.v (.int w))) S) (hl : r.length ≤ big) : ev Γ (.comp [] (.slot i) i src (some t)) ρ S = .ok (.fr (row (r.filter p))) ρ S := by
  simp only [ev, hs, Out.bind_ok, Out.bindB_ok, Out.chk_ok, shareAt]
  rw [comp_row p r (fun w hw => ?_) hl]
  simp only [evc, ht w hw, Out.bind_ok, Out.bindB_ok, Out.chk_ok, gt_st (ρ := ρ.map Sl.mask) (i := i) (by simpa using hi)]
  cases hp : p w
  · exact ⟨_, rfl⟩
  · exact ⟨_, rfl⟩
theorem loop_inv {f : D → Env → Store → Out Fl} (I : Env → Store → Prop) : ∀ {ds : List D} {ρ : Env} {S : Store}, I ρ S → (∀ d ∈ ds, ∀ ρ S, I ρ S → ∃ ρ' S', f d ρ S = .ok .nx ρ' S' ∧ I ρ' S') → ∃ ρ' S', loopS f ds ρ S = .ok .nx ρ' S' ∧ I ρ' S'
  | [], ρ, S, h0, _ => ⟨ρ, S, rfl, h0⟩
  | d :: ds, ρ, S, h0, hs => by
    obtain ⟨ρ', S', e, h1⟩ := hs d (by simp) ρ S h0
    rw [loop_nx e]
    exact loop_inv I h1 fun d hd => hs d (by simp [hd])
/-! all worlds -/
def wl (n : Nat) : List Int := (List.range n).map fun (k : Nat) => (k : Int)
theorem wl_len (n : Nat) : (wl n).length = n := by simp [wl]
theorem rng_row {n : Int} (h0 : 0 ≤ n) (h : n ≤ 1000000) : rangeD (.int 0) (.int n) = some (row (wl n.toNat)) := by
  simp only [rangeD, rangeL, Int.sub_zero]
  rw [if_pos (by omega)]
  simp [row, wl]
theorem mem_wl {n : Nat} {w : Int} : w ∈ wl n ↔ 0 ≤ w ∧ w < n := by
  simp only [wl, List.mem_map, List.mem_range]
  constructor
  · rintro ⟨k, h, rfl⟩
    omega
  · rintro ⟨h0, h1⟩
    exact ⟨w.toNat, by omega, by omega⟩
theorem wl_sorted (n : Nat) : (wl n).Pairwise (· < ·) := by
  simp only [wl, List.pairwise_map]
  exact (List.pairwise_lt_range (n := n)).imp fun h => by omega
/-- the worlds of so many letters -/
def worldsF (m : Int) : List Int := wl (2 ^ m.toNat)
theorem worldsF_len (m : Int) (h1 : 1 ≤ m) (h5 : m ≤ 5) : 2 ≤ (worldsF m).length ∧ (worldsF m).length ≤ 32 := by
  have : m = 1 ∨ m = 2 ∨ m = 3 ∨ m = 4 ∨ m = 5 := by omega
  rcases this with rfl | rfl | rfl | rfl | rfl <;> decide
def fn__law_worlds : Fn := ⟨1, 1, [
  .ret (.range (.int 0) (.idx (.lst [(.int 2), (.int 4), (.int 8), (.int 16), (.int 32)]) (.bin .Sub (.slot 0) (.int 1))))]⟩
theorem ok_worlds {T : Tab} (h : T.fn "_law_worlds" = some fn__law_worlds) (f : Nat) {m : Int} (h1 : 1 ≤ m) (h5 : m ≤ 5) (S : Store) : callF T (f + 1) "_law_worlds" [.int m] S = .ok (.fr (row (worldsF m))) S := by
  rw [call_eq h rfl]
  have : m = 1 ∨ m = 2 ∨ m = 3 ∨ m = 4 ∨ m = 5 := by omega
  rcases this with rfl | rfl | rfl | rfl | rfl <;>
  simp [fn__law_worlds, evSs, evS, ev, evs, gt, d_sh, d_fr, binD, idxD, ixN, big, rng_row, Fl.res, worldsF]
/-! a drawn choice -/
def someF : Int → List Int → List Int
  | _, [] => []
  | n, w :: r => if n % 2 = 1 then w :: someF (n / 2) r else someF (n / 2) r
theorem someF_sub : ∀ (r : List Int) (n : Int), (someF n r).Sublist r
  | [], _ => .slnil
  | w :: r, n => by
    unfold someF
    split
    · exact (someF_sub r _).cons₂ w
    · exact (someF_sub r _).cons w
def b1__law_some : List CS := [
    .ite (.e (.cmp .Eq (.bin .Mod (.slot 0) (.int 2)) (.int 1))) [
      .app 2 (.slot 3)] [],
    .asg false 0 (.bin .FloorDiv (.slot 0) (.int 2))]
def fn__law_some : Fn := ⟨2, 4, [
  .asg true 2 (.lst []),
  .for1 3 (.e (.slot 1)) b1__law_some,
  .retS 2]⟩
theorem some_loop (Γ : Ctx) (x1 : Sl) : ∀ (r : List Int) (n : Int) (acc : List Int) (x3 : Sl) (S : Store), acc.length + r.length < big →
    ∃ n' y3, loopS (fun d ρ S => evSs Γ b1__law_some (st ρ 3 (.v d)) S) (row r) [.v (.int n), x1, .own (row acc), x3] S = .ok .nx [.v (.int n'), x1, .own (row (acc ++ someF n r)), y3] S
  | [], n, acc, x3, S, _ => ⟨n, x3, by simp [row_nil, loopS, someF]⟩
  | w :: r, n, acc, x3, S, h => by
    simp only [List.length_cons] at h
    by_cases c : n % 2 = 1
    · obtain ⟨n', y3, e⟩ := some_loop Γ x1 r (n / 2) (acc ++ [w]) (.v (.int w)) S (by simp; omega)
      refine ⟨n', y3, ?_⟩
      rw [row_cons, loop_nx (ρ' := [.v (.int (n / 2)), x1, .own (row (acc ++ [w])), .v (.int w)]) (S' := S)]
      · rw [e, someF, if_pos c, List.append_assoc]
        rfl
      · have : acc.length < big := by omega
        simp [b1__law_some, evSs, evS, evT, ev, gt, st, d_sh, isB, c_eqI, binD, c, row_len, this, ← row_app, row_cons, row_nil]
    · obtain ⟨n', y3, e⟩ := some_loop Γ x1 r (n / 2) acc (.v (.int w)) S (by omega)
      refine ⟨n', y3, ?_⟩
      rw [row_cons, loop_nx (ρ' := [.v (.int (n / 2)), x1, .own (row acc), .v (.int w)]) (S' := S)]
      · rw [e, someF, if_neg c]
      · simp [b1__law_some, evSs, evS, evT, ev, gt, st, d_sh, isB, c_eqI, binD, c]
theorem ok_some {T : Tab} (h : T.fn "_law_some" = some fn__law_some) (f : Nat) (n : Int) {r : List Int} (hr : r.length < big) (S : Store) : callF T (f + 1) "_law_some" [.int n, .lst (row r)] S = .ok (.fr (row (someF n r))) S := by
  rw [call_eq h rfl]
  obtain ⟨n', y3, e⟩ := some_loop (cx T f) (.v (.lst (row r))) r n [] .no S (by simpa using hr)
  simp only [List.nil_append, row_nil] at e
  simp [fn__law_some, evSs, evS, ev, evs, evSrc, gt, st, d_sh, walk_row, e, Fl.res, big]
def someOneF (n : Int) (r : List Int) : List Int := if someF n r = [] then [r.getD (n / 64 % r.length).toNat 0] else someF n r
theorem someOneF_ne (n : Int) (r : List Int) : someOneF n r ≠ [] := by
  unfold someOneF
  split <;> simp_all
theorem someOneF_sub {r : List Int} (hr : r ≠ []) (n : Int) : (someOneF n r).Sublist r := by
  have hp : 0 < r.length := List.length_pos_iff.mpr hr
  unfold someOneF
  split
  · have h0 := Int.emod_nonneg (n / 64) (b := r.length) (by omega)
    have h1 := Int.emod_lt_of_pos (n / 64) (b := r.length) (by omega)
    have h2 : (n / 64 % r.length).toNat < r.length := by omega
    rw [List.getD_eq_getElem?_getD, List.getElem?_eq_getElem h2]
    exact List.singleton_sublist.mpr (List.getElem_mem h2)
  · exact someF_sub r n
def fn__law_some_one : Fn := ⟨2, 3, [
  .asg false 2 (.call "_law_some" [(.slot 0), (.slot 1)]),
  .ite (.e (.cmp .Eq (.slot 2) (.lst []))) [
    .ret (.lst [(.idx (.slot 1) (.bin .Mod (.bin .FloorDiv (.slot 0) (.int 64)) (.len (.slot 1))))])] [],
  .retS 2]⟩
theorem ok_some_one {T : Tab} (h : T.fn "_law_some_one" = some fn__law_some_one) (h2 : T.fn "_law_some" = some fn__law_some) (f : Nat) (n : Int) {r : List Int} (hne : r ≠ []) (hr : r.length < big) (S : Store) : ∃ v, callF T (f + 2) "_law_some_one" [.int n, .lst (row r)] S = .ok v S ∧ v.d = .lst (row (someOneF n r)) := by
  rw [call_eq h rfl]
  have hp : 0 < r.length := List.length_pos_iff.mpr hne
  have h0 := Int.emod_nonneg (n / 64) (b := r.length) (by omega)
  have h1 := Int.emod_lt_of_pos (n / 64) (b := r.length) (by omega)
  by_cases c : someF n r = []
  · exact ⟨_, by simp [fn__law_some_one, evSs, evS, evT, ev, evs, gt, st, d_sh, d_fr, isB, ok_some h2 f n hr, c_eqN, c, len_row, hp, binD, idx_row h0 h1, Fl.res, big]; rfl, by simp [someOneF, c, d_fr]; rfl⟩
  · exact ⟨_, by simp [fn__law_some_one, evSs, evS, evT, ev, evs, gt, st, d_sh, d_fr, isB, ok_some h2 f n hr, c_eqN, c, Fl.res, big]; rfl, by simp [someOneF, c, d_sh]⟩
end Ht

set_option linter.all false
set_option maxRecDepth 100000
set_option maxHeartbeats 1000000
/-! ### truth in a world -/
namespace Ht
open PySem
def ltr (k : Nat) (w : Int) : Bool := decide (w / 2 ^ k % 2 = 1)
def Jt.op : Jt → Bool → Bool → Bool
  | .and, a, b => a && b
  | .or, a, b => a || b
  | .ifj, a, b => !a || b
  | .same, a, b => a == b
def Sen.tr : Sen → Int → Bool
  | .lt k, w => ltr k w
  | .nt s, w => !s.tr w
  | .j2 j s t, w => j.op (s.tr w) (t.tr w)
theorem Sen.ok_mono {m n : Nat} (h : m ≤ n) : ∀ s : Sen, s.ok m → s.ok n
  | .lt k, q => Nat.lt_of_lt_of_le q h
  | .nt s, q => s.ok_mono h q
  | .j2 _ s t, q => ⟨s.ok_mono h q.1, t.ok_mono h q.2⟩
def dPowers : D := .tup [.int 1, .int 2, .int 4, .int 8, .int 16]
theorem idx_pow {k : Nat} (h : k < 5) : idxD dPowers (.int k) = some (.int (2 ^ k)) := by
  match k, h with
  | 0, _ => rfl
  | 1, _ => rfl
  | 2, _ => rfl
  | 3, _ => rfl
  | 4, _ => rfl
theorem idx_powL {k : Nat} (h : k < 5) : idxD (.lst [.int 1, .int 2, .int 4, .int 8, .int 16]) (.int k) = some (.int (2 ^ k)) := by
  match k, h with
  | 0, _ => rfl
  | 1, _ => rfl
  | 2, _ => rfl
  | 3, _ => rfl
  | 4, _ => rfl
theorem pow_small {k : Nat} (h : k < 5) : (0 : Int) < 2 ^ k ∧ (2 : Int) ^ k < 2 ^ 64 := by
  have : k = 0 ∨ k = 1 ∨ k = 2 ∨ k = 3 ∨ k = 4 := by omega
  rcases this with rfl | rfl | rfl | rfl | rfl <;> decide
def fn_letter_true : Fn := ⟨2, 2, [
  .ret (.cmp .Eq (.bin .Mod (.bin .FloorDiv (.slot 1) (.idx (.glob "POWERS") (.slot 0))) (.int 2)) (.int 1))]⟩
theorem ok_letter_true {T : Tab} (h : T.fn "letter_true" = some fn_letter_true) (g : T.gl "POWERS" = some dPowers) (f : Nat) {k : Nat} (hk : k < 5) (w : Int) (S : Store) : callF T (f + 1) "letter_true" [.int k, .int w] S = .ok (.sh (.bl (ltr k w))) S := by
  have hp := pow_small hk
  rw [call_eq h rfl]
  simp only [fn_letter_true, evSs, evS, ev, gt, List.map_cons, List.map_nil, List.cons_append, Out.bind_ok, Out.bindB_ok, Out.chk_ok, g, d_sh, idx_pow hk, Out.of_some, binD, hp, and_self, if_true, c_eqI, Fl.res, ltr, show (0 : Int) < 2 by decide]
def fn_true_in : Fn := ⟨2, 5, [
  .asg false 2 (.idx (.slot 0) (.int 0)),
  .ite (.e (.cmp .Eq (.slot 2) (.str "let"))) [
    .ret (.call "letter_true" [(.idx (.slot 0) (.int 1)), (.slot 1)])] [],
  .ite (.e (.cmp .Eq (.slot 2) (.str "not"))) [
    .ret (.nt (.call "true_in" [(.idx (.slot 0) (.int 1)), (.slot 1)]))] [],
  .asg false 3 (.call "true_in" [(.idx (.slot 0) (.int 1)), (.slot 1)]),
  .asg false 4 (.call "true_in" [(.idx (.slot 0) (.int 2)), (.slot 1)]),
  .ite (.e (.cmp .Eq (.slot 2) (.str "and"))) [
    .ret (.band (.slot 3) (.slot 4))] [],
  .ite (.e (.cmp .Eq (.slot 2) (.str "or"))) [
    .ret (.bor (.slot 3) (.slot 4))] [],
  .ite (.e (.cmp .Eq (.slot 2) (.str "if"))) [
    .ret (.bor (.slot 4) (.nt (.slot 3)))] [],
  .ret (.cmp .Eq (.slot 3) (.slot 4))]⟩
theorem ok_true_in {T : Tab} (h : T.fn "true_in" = some fn_true_in) (h2 : T.fn "letter_true" = some fn_letter_true) (g : T.gl "POWERS" = some dPowers) (w : Int) : ∀ (s : Sen) (f : Nat) (S : Store), s.ok 5 → s.depth + 1 < f → callF T f "true_in" [s.d, .int w] S = .ok (.sh (.bl (s.tr w))) S
  | .lt k, f + 2, S, ho, _ => by
    rw [call_eq h rfl]
    simp [fn_true_in, evSs, evS, evT, ev, evs, gt, st, d_sh, isB, Fl.res, Sen.d, idxD, ixN, c_eqS, s_let, Sen.tr, ok_letter_true h2 g f ho]
  | .nt s, f + 1, S, ho, hd => by
    have ih := ok_true_in h h2 g w s f S ho (by simp only [Sen.depth] at hd; omega)
    rw [call_eq h rfl]
    simp [fn_true_in, evSs, evS, evT, ev, evs, gt, st, d_sh, isB, Fl.res, Sen.d, idxD, ixN, c_eqS, s_let, s_not, not_ne_let, Sen.tr, ih]
  | .j2 j s t, f + 1, S, ho, hd => by
    have ih := ok_true_in h h2 g w s f S ho.1 (by simp only [Sen.depth] at hd; omega)
    have ih2 := ok_true_in h h2 g w t f S ho.2 (by simp only [Sen.depth] at hd; omega)
    rw [call_eq h rfl]
    cases j <;> simp [fn_true_in, evSs, evS, evT, ev, evs, gt, st, d_sh, isB, Fl.res, Sen.d, idxD, ixN, c_eqS, s_let, s_not, s_and, s_or, s_if, Jt.s, tLet, tNot, Sen.tr, Jt.op, c_eqB, ih, ih2] <;> cases Sen.tr s w <;> cases Sen.tr t w <;> rfl
def fn__law_true : Fn := ⟨2, 4, [
  .ite (.e (.cmp .Eq (.idx (.slot 0) (.int 0)) (.str "let"))) [
    .ret (.cmp .Eq (.bin .Mod (.bin .FloorDiv (.slot 1) (.idx (.lst [(.int 1), (.int 2), (.int 4), (.int 8), (.int 16)]) (.idx (.slot 0) (.int 1)))) (.int 2)) (.int 1))] [],
  .ite (.e (.cmp .Eq (.idx (.slot 0) (.int 0)) (.str "not"))) [
    .ret (.nt (.call "_law_true" [(.idx (.slot 0) (.int 1)), (.slot 1)]))] [],
  .asg false 2 (.call "_law_true" [(.idx (.slot 0) (.int 1)), (.slot 1)]),
  .asg false 3 (.call "_law_true" [(.idx (.slot 0) (.int 2)), (.slot 1)]),
  .ite (.e (.cmp .Eq (.idx (.slot 0) (.int 0)) (.str "and"))) [
    .ret (.band (.slot 2) (.slot 3))] [],
  .ite (.e (.cmp .Eq (.idx (.slot 0) (.int 0)) (.str "or"))) [
    .ret (.bor (.slot 2) (.slot 3))] [],
  .ite (.e (.cmp .Eq (.idx (.slot 0) (.int 0)) (.str "if"))) [
    .ret (.bor (.nt (.slot 2)) (.slot 3))] [],
  .ret (.cmp .Eq (.slot 2) (.slot 3))]⟩
theorem ok_ltrue {T : Tab} (h : T.fn "_law_true" = some fn__law_true) (w : Int) : ∀ (s : Sen) (f : Nat) (S : Store), s.ok 5 → s.depth < f → callF T f "_law_true" [s.d, .int w] S = .ok (.sh (.bl (s.tr w))) S
  | .lt k, f + 1, S, ho, _ => by
    have hp := pow_small (k := k) ho
    have hp2 : (2 : Int) ^ k < 18446744073709551616 := by have := hp.2; omega
    rw [call_eq h rfl]
    simp [fn__law_true, evSs, evS, evT, ev, evs, gt, st, d_sh, d_fr, isB, Fl.res, Sen.d, big, c_eqS, s_let, Sen.tr, show ∀ x y, idxD (.tup [x, y]) (.int 0) = some x from fun _ _ => rfl, show ∀ x y, idxD (.tup [x, y]) (.int 1) = some y from fun _ _ => rfl, idx_powL (k := k) ho, binD, c_eqI, ltr, hp2, hp.1]
  | .nt s, f + 1, S, ho, hd => by
    have ih := ok_ltrue h w s f S ho (by simp only [Sen.depth] at hd; omega)
    rw [call_eq h rfl]
    simp [fn__law_true, evSs, evS, evT, ev, evs, gt, st, d_sh, isB, Fl.res, Sen.d, idxD, ixN, c_eqS, s_let, s_not, not_ne_let, Sen.tr, ih]
  | .j2 j s t, f + 1, S, ho, hd => by
    have ih := ok_ltrue h w s f S ho.1 (by simp only [Sen.depth] at hd; omega)
    have ih2 := ok_ltrue h w t f S ho.2 (by simp only [Sen.depth] at hd; omega)
    rw [call_eq h rfl]
    cases j <;> simp [fn__law_true, evSs, evS, evT, ev, evs, gt, st, d_sh, isB, Fl.res, Sen.d, idxD, ixN, c_eqS, s_let, s_not, s_and, s_or, s_if, Jt.s, tLet, tNot, Sen.tr, Jt.op, c_eqB, ih, ih2] <;> cases Sen.tr s w <;> cases Sen.tr t w <;> rfl
def fn_worlds_of : Fn := ⟨2, 3, [
  .ret (.comp [] (.slot 2) 2 (.e (.slot 1)) (some (.e (.call "true_in" [(.slot 0), (.slot 2)]))))]⟩
theorem ok_worlds_of {T : Tab} (h : T.fn "worlds_of" = some fn_worlds_of) (h1 : T.fn "true_in" = some fn_true_in) (h2 : T.fn "letter_true" = some fn_letter_true) (g : T.gl "POWERS" = some dPowers) {s : Sen} {f : Nat} (ho : s.ok 5) (hd : s.depth + 1 < f) {r : List Int} (hr : r.length ≤ big) (S : Store) : callF T (f + 1) "worlds_of" [s.d, .lst (row r)] S = .ok (.fr (row (r.filter s.tr))) S := by
  rw [call_eq h rfl]
  simp only [fn_worlds_of, evSs, evS, List.map_cons, List.map_nil, List.cons_append, List.nil_append, List.replicate, Nat.reduceSub]
  rw [ev_pick (r := r) (p := s.tr) (by simp) (by simp [evSrc, ev, gt, d_sh, walk_row]) (fun w _ => by simp [evT, ev, evs, gt, st, Sl.mask, d_sh, isB, ok_true_in h1 h2 g w s f S ho hd]) hr]
  rfl
def fn__law_ins : Fn := ⟨2, 3, [
  .ret (.comp [] (.slot 2) 2 (.e (.slot 1)) (some (.e (.call "_law_true" [(.slot 0), (.slot 2)]))))]⟩
theorem ok_ins {T : Tab} (h : T.fn "_law_ins" = some fn__law_ins) (h1 : T.fn "_law_true" = some fn__law_true) {s : Sen} {f : Nat} (ho : s.ok 5) (hd : s.depth < f) {r : List Int} (hr : r.length ≤ big) (S : Store) : callF T (f + 1) "_law_ins" [s.d, .lst (row r)] S = .ok (.fr (row (r.filter s.tr))) S := by
  rw [call_eq h rfl]
  simp only [fn__law_ins, evSs, evS, List.map_cons, List.map_nil, List.cons_append, List.nil_append, List.replicate, Nat.reduceSub]
  rw [ev_pick (r := r) (p := s.tr) (by simp) (by simp [evSrc, ev, gt, d_sh, walk_row]) (fun w _ => by simp [evT, ev, evs, gt, st, Sl.mask, d_sh, isB, ok_ltrue h1 w s f S ho hd]) hr]
  rfl
def fn__law_outs : Fn := ⟨2, 3, [
  .ret (.comp [] (.slot 2) 2 (.e (.slot 1)) (some (.nt (.e (.call "_law_true" [(.slot 0), (.slot 2)])))))]⟩
theorem ok_outs {T : Tab} (h : T.fn "_law_outs" = some fn__law_outs) (h1 : T.fn "_law_true" = some fn__law_true) {s : Sen} {f : Nat} (ho : s.ok 5) (hd : s.depth < f) {r : List Int} (hr : r.length ≤ big) (S : Store) : callF T (f + 1) "_law_outs" [s.d, .lst (row r)] S = .ok (.fr (row (r.filter fun w => !s.tr w))) S := by
  rw [call_eq h rfl]
  simp only [fn__law_outs, evSs, evS, List.map_cons, List.map_nil, List.cons_append, List.nil_append, List.replicate, Nat.reduceSub]
  rw [ev_pick (r := r) (p := fun w => !s.tr w) (by simp) (by simp [evSrc, ev, gt, d_sh, walk_row]) (fun w _ => by simp [evT, ev, evs, gt, st, Sl.mask, d_sh, isB, ok_ltrue h1 w s f S ho hd]) hr]
  rfl
def fn_all_worlds : Fn := ⟨1, 1, [
  .ret (.range (.int 0) (.bin .Mult (.int 2) (.idx (.glob "POWERS") (.bin .Sub (.slot 0) (.int 1)))))]⟩
theorem ok_all_worlds {T : Tab} (h : T.fn "all_worlds" = some fn_all_worlds) (g : T.gl "POWERS" = some dPowers) (f : Nat) {m : Int} (h1 : 1 ≤ m) (h5 : m ≤ 5) (S : Store) : callF T (f + 1) "all_worlds" [.int m] S = .ok (.fr (row (worldsF m))) S := by
  have e2 : smallI 2 = true := by decide
  have hm : ∃ k : Int, idxD dPowers (.int (m - 1)) = some (.int k) ∧ rangeD (.int 0) (.int (2 * k)) = some (row (worldsF m)) := by
    have : m = 1 ∨ m = 2 ∨ m = 3 ∨ m = 4 ∨ m = 5 := by omega
    rcases this with rfl | rfl | rfl | rfl | rfl
    · exact ⟨1, rfl, rng_row (n := 2) (by decide) (by decide)⟩
    · exact ⟨2, rfl, rng_row (n := 4) (by decide) (by decide)⟩
    · exact ⟨4, rfl, rng_row (n := 8) (by decide) (by decide)⟩
    · exact ⟨8, rfl, rng_row (n := 16) (by decide) (by decide)⟩
    · exact ⟨16, rfl, rng_row (n := 32) (by decide) (by decide)⟩
  obtain ⟨k, e3, e4⟩ := hm
  rw [call_eq h rfl]
  simp only [fn_all_worlds, evSs, evS, ev, gt, List.map_cons, List.map_nil, List.cons_append, Out.bind_ok, Out.bindB_ok, Out.chk_ok, d_sh, g, binD, Out.of_some, e2, e3, e4, Bool.true_or, if_true, Fl.res]
/-! a row is the due one -/
def b1__law_row_is : List CS := [
    .ite (.or (.nt (.e (.call "_law_whole" [(.idx (.slot 0) (.slot 2))]))) (.e (.cmp .NotEq (.idx (.slot 0) (.slot 2)) (.idx (.slot 1) (.slot 2))))) [
      .ret (.bl false)] []]
def fn__law_row_is : Fn := ⟨2, 3, [
  .ite (.or (.nt (.e (.isin (.slot 0) .list))) (.e (.cmp .NotEq (.len (.slot 0)) (.len (.slot 1))))) [
    .ret (.bl false)] [],
  .for1 2 (.rng1 (.len (.slot 1))) b1__law_row_is,
  .ret (.bl true)]⟩
theorem row_is_loop {T : Tab} (hw : T.fn "_law_whole" = some fn__law_whole) (f : Nat) {r : List Int} {S : Store} : ∀ (ds : List Int) (x2 : Sl), (∀ i ∈ ds, 0 ≤ i ∧ i < r.length) →
    ∃ y2, loopS (fun d ρ S => evSs (cx T (f + 1)) b1__law_row_is (st ρ 2 (.v d)) S) (row ds) [.v (.lst (row r)), .v (.lst (row r)), x2] S = .ok .nx [.v (.lst (row r)), .v (.lst (row r)), y2] S
  | [], x2, _ => ⟨x2, rfl⟩
  | i :: ds, x2, h => by
    obtain ⟨y2, e⟩ := row_is_loop hw f (S := S) ds (.v (.int i)) fun j hj => h j (by simp [hj])
    have hi := h i (by simp)
    refine ⟨y2, ?_⟩
    rw [row_cons, loop_nx (ρ' := [.v (.lst (row r)), .v (.lst (row r)), .v (.int i)]) (S' := S)]
    · exact e
    · simp [b1__law_row_is, evSs, evS, evT, ev, evs, gt, st, d_sh, isB, idx_row hi.1 hi.2, ok_whole hw f, c_neI]
theorem rng_len {n : Nat} (h : n ≤ 1000000) : rangeD (.int 0) (.int n) = some (row (wl n)) := by
  have := rng_row (n := n) (by omega) (by omega)
  rw [Int.toNat_natCast] at this
  exact this
theorem ok_row_is {T : Tab} (h : T.fn "_law_row_is" = some fn__law_row_is) (hw : T.fn "_law_whole" = some fn__law_whole) (f : Nat) {r : List Int} (hr : r.length ≤ 1000000) (S : Store) : callF T (f + 2) "_law_row_is" [.lst (row r), .lst (row r)] S = .ok (.sh (.bl true)) S := by
  rw [call_eq h rfl]
  obtain ⟨y2, e⟩ := row_is_loop hw f (r := r) (S := S) (wl r.length) .no fun i hi => by
    have := mem_wl.mp hi
    omega
  have hg : rangeD (.int 0) (.int r.length) = some (row (wl r.length)) := rng_len hr
  simp only [fn__law_row_is, List.map_cons, List.map_nil, List.cons_append, List.nil_append, List.replicate, Nat.reduceSub]
  rw [evSs_nx (ρ' := [.v (.lst (row r)), .v (.lst (row r)), .no]) (S' := S) (by simp [evSs, evS, evT, ev, gt, d_sh, isB, isinD, len_row, c_neI])]
  rw [evSs_nx (ρ' := [.v (.lst (row r)), .v (.lst (row r)), y2]) (S' := S) ((for1_eq (src_rng1 (x := .sh (.int r.length)) (by simp [ev, gt, d_sh, len_row]) hg)).trans e)]
  rfl
end Ht

set_option linter.all false
set_option maxRecDepth 100000
set_option maxHeartbeats 1000000
namespace Ht
open PySem
/-! ### rooms, seen worlds, answers -/
def roomF (n m : Int) : List Int := if n % 3 = 1 then worldsF m else someOneF (n / 3) (worldsF m)
theorem worldsF_ne {m : Int} (h1 : 1 ≤ m) (h5 : m ≤ 5) : worldsF m ≠ [] := by
  have := worldsF_len m h1 h5
  intro e
  rw [e] at this
  simp at this
theorem roomF_sub {n m : Int} (h1 : 1 ≤ m) (h5 : m ≤ 5) : (roomF n m).Sublist (worldsF m) := by
  unfold roomF
  split
  · exact .refl _
  · exact someOneF_sub (worldsF_ne h1 h5) _
theorem roomF_ne {n m : Int} (h1 : 1 ≤ m) (h5 : m ≤ 5) : roomF n m ≠ [] := by
  unfold roomF
  split
  · exact worldsF_ne h1 h5
  · exact someOneF_ne _ _
theorem roomF_len {n m : Int} (h1 : 1 ≤ m) (h5 : m ≤ 5) : (roomF n m).length ≤ 32 := by
  have := (roomF_sub (n := n) h1 h5).length_le
  have := worldsF_len m h1 h5
  omega
theorem roomF_sorted {n m : Int} (h1 : 1 ≤ m) (h5 : m ≤ 5) : (roomF n m).Pairwise (· < ·) := (wl_sorted _).sublist (roomF_sub h1 h5)
def fn__law_room : Fn := ⟨2, 2, [
  .ite (.e (.cmp .Eq (.bin .Mod (.slot 0) (.int 3)) (.int 1))) [
    .ret (.call "_law_worlds" [(.slot 1)])] [],
  .ret (.call "_law_some_one" [(.bin .FloorDiv (.slot 0) (.int 3)), (.call "_law_worlds" [(.slot 1)])])]⟩
theorem ok_room {T : Tab} (h : T.fn "_law_room" = some fn__law_room) (h2 : T.fn "_law_worlds" = some fn__law_worlds) (h3 : T.fn "_law_some_one" = some fn__law_some_one) (h4 : T.fn "_law_some" = some fn__law_some) (f : Nat) (n : Int) {m : Int} (h1 : 1 ≤ m) (h5 : m ≤ 5) (S : Store) : ∃ v, callF T (f + 3) "_law_room" [.int n, .int m] S = .ok v S ∧ v.d = .lst (row (roomF n m)) := by
  have hl := worldsF_len m h1 h5
  obtain ⟨v, e, ev1⟩ := ok_some_one h3 h4 f (n / 3) (worldsF_ne h1 h5) (by unfold big; omega) S
  rw [call_eq h rfl]
  by_cases c : n % 3 = 1
  · exact ⟨.fr (row (worldsF m)), by simp [fn__law_room, evSs, evS, evT, ev, evs, gt, st, d_sh, d_fr, isB, binD, c, c_eqI, ok_worlds h2 (f + 1) h1 h5, Fl.res], by simp [roomF, c, d_fr]⟩
  · exact ⟨v, by simp [fn__law_room, evSs, evS, evT, ev, evs, gt, st, d_sh, d_fr, isB, binD, c, c_eqI, ok_worlds h2 (f + 1) h1 h5, e, Fl.res], by simp [roomF, c, ev1]⟩
def seenF (n : Int) (r : List Int) : List Int := if n % 5 < 3 then [r.getD (n / 5 % r.length).toNat 0] else if n % 5 = 3 then r else someOneF (n / 5) r
theorem seenF_sub {n : Int} {r : List Int} (hr : r ≠ []) : (seenF n r).Sublist r := by
  have hp : 0 < r.length := List.length_pos_iff.mpr hr
  unfold seenF
  split
  · have h0 := Int.emod_nonneg (n / 5) (b := r.length) (by omega)
    have h1 := Int.emod_lt_of_pos (n / 5) (b := r.length) (by omega)
    have h2 : (n / 5 % r.length).toNat < r.length := by omega
    rw [List.getD_eq_getElem?_getD, List.getElem?_eq_getElem h2]
    exact List.singleton_sublist.mpr (List.getElem_mem h2)
  · split
    · exact .refl _
    · exact someOneF_sub hr _
theorem seenF_ne {n : Int} {r : List Int} (hr : r ≠ []) : seenF n r ≠ [] := by
  unfold seenF
  split
  · simp
  · split
    · exact hr
    · exact someOneF_ne _ _
def fn__law_seen : Fn := ⟨2, 2, [
  .ite (.e (.cmp .Lt (.bin .Mod (.slot 0) (.int 5)) (.int 3))) [
    .ret (.lst [(.idx (.slot 1) (.bin .Mod (.bin .FloorDiv (.slot 0) (.int 5)) (.len (.slot 1))))])] [],
  .ite (.e (.cmp .Eq (.bin .Mod (.slot 0) (.int 5)) (.int 3))) [
    .ret (.list (.slot 1))] [],
  .ret (.call "_law_some_one" [(.bin .FloorDiv (.slot 0) (.int 5)), (.slot 1)])]⟩
theorem ok_seen {T : Tab} (h : T.fn "_law_seen" = some fn__law_seen) (h3 : T.fn "_law_some_one" = some fn__law_some_one) (h4 : T.fn "_law_some" = some fn__law_some) (f : Nat) (n : Int) {r : List Int} (hr : r ≠ []) (hl : r.length ≤ 100) (S : Store) : ∃ v, callF T (f + 3) "_law_seen" [.int n, .lst (row r)] S = .ok v S ∧ v.d = .lst (row (seenF n r)) := by
  have hp : 0 < r.length := List.length_pos_iff.mpr hr
  have h0 := Int.emod_nonneg (n / 5) (b := r.length) (by omega)
  have h1 := Int.emod_lt_of_pos (n / 5) (b := r.length) (by omega)
  obtain ⟨v, e, ev1⟩ := ok_some_one h3 h4 f (n / 5) hr (by unfold big; omega) S
  rw [call_eq h rfl]
  by_cases c : n % 5 < 3
  · exact ⟨.fr (row [r.getD (n / 5 % r.length).toNat 0]), by simp [fn__law_seen, evSs, evS, evT, ev, evs, gt, st, d_sh, d_fr, isB, binD, c, c_lt, c_eqI, len_row, hp, idx_row h0 h1, big, Fl.res, row_cons, row_nil], by simp [seenF, c, d_fr]⟩
  · by_cases c2 : n % 5 = 3
    · exact ⟨.fr (row r), by simp [fn__law_seen, evSs, evS, evT, ev, evs, gt, st, d_sh, d_fr, isB, binD, c, c2, c_lt, c_eqI, list_row, Fl.res], by simp [seenF, c2, d_fr]⟩
    · exact ⟨v, by simp [fn__law_seen, evSs, evS, evT, ev, evs, gt, st, d_sh, d_fr, isB, binD, c, c2, c_lt, c_eqI, e, Fl.res], by simp [seenF, c, c2, ev1]⟩
def fn__law_says : Fn := ⟨2, 2, [
  .ret (.band (.isin (.slot 0) .str) (.cmp .Eq (.slot 0) (.slot 1)))]⟩
theorem ok_says {T : Tab} (h : T.fn "_law_says" = some fn__law_says) (f : Nat) (a b : List Nat) (S : Store) : callF T (f + 1) "_law_says" [.str a, .str b] S = .ok (.sh (.bl (decide (a = b)))) S := by
  rw [call_eq h rfl]
  simp [fn__law_says, evSs, evS, ev, gt, d_sh, isB, isinD, c_eqS, Fl.res]
inductive Ans where
  | grant | deny | doubt
  deriving DecidableEq
def Ans.s : Ans → List Nat
  | .grant => [103, 114, 97, 110, 116] | .deny => [100, 101, 110, 121] | .doubt => [100, 111, 117, 98, 116]
theorem s_grant : (Str.ofString "grant").cps.toList = Ans.s .grant := by decide +kernel
theorem s_deny : (Str.ofString "deny").cps.toList = Ans.s .deny := by decide +kernel
theorem s_doubt : (Str.ofString "doubt").cps.toList = Ans.s .doubt := by decide +kernel
theorem Ans.inj {a b : Ans} : a.s = b.s ↔ a = b := by cases a <;> cases b <;> decide
def meetF (a b : List Int) : List Int := a.filter fun w => decide (w ∈ b)
def restF (a b : List Int) : List Int := a.filter fun w => !decide (w ∈ b)
theorem meet_len (a b : List Int) : (meetF a b).length ≤ a.length := List.length_filter_le _ _
theorem rest_len (a b : List Int) : (restF a b).length ≤ a.length := List.length_filter_le _ _
def plainF (seen r : List Int) : Ans := if (meetF seen r).length = seen.length then .grant else if meetF seen r = [] then .deny else .doubt
/-- a picked row by membership -/
theorem ev_meet {Γ : Ctx} {i j k : Nat} {ρ : Env} {S : Store} {a b : List Int} (hi : i < ρ.length) (hij : i ≠ k) (ha : gt ρ j = .v (.lst (row a))) (hb : gt ρ k = .v (.lst (row b))) (hl : a.length ≤ 100) : ev Γ (.comp [] (.slot i) i (.e (.slot j)) (some (.e (.cmp .In (.slot i) (.slot k))))) ρ S = .ok (.fr (row (meetF a b))) ρ S := by
  refine ev_pick hi (src_e (x := .sh (.lst (row a))) (by simp only [ev, ha]) rfl) (fun w _ => ?_) (by unfold big; omega)
  have h1 : gt (st (ρ.map Sl.mask) i (.v (.int w))) i = .v (.int w) := gt_st (by simpa using hi)
  have h2 : gt (st (ρ.map Sl.mask) i (.v (.int w))) k = .v (.lst (row b)) := by
    rw [lw_gt_ne hij, lw_gt_mask, hb]
    rfl
  simp only [evT, ev, h1, h2, Out.bind_ok, Out.bindB_ok, Out.chk_ok, d_sh, c_in, Out.of_some, isB]
theorem ev_rest {Γ : Ctx} {i j k : Nat} {ρ : Env} {S : Store} {a b : List Int} (hi : i < ρ.length) (hij : i ≠ k) (ha : gt ρ j = .v (.lst (row a))) (hb : gt ρ k = .v (.lst (row b))) (hl : a.length ≤ 100) : ev Γ (.comp [] (.slot i) i (.e (.slot j)) (some (.e (.cmp .NotIn (.slot i) (.slot k))))) ρ S = .ok (.fr (row (restF a b))) ρ S := by
  refine ev_pick hi (src_e (x := .sh (.lst (row a))) (by simp only [ev, ha]) rfl) (fun w _ => ?_) (by unfold big; omega)
  have h1 : gt (st (ρ.map Sl.mask) i (.v (.int w))) i = .v (.int w) := gt_st (by simpa using hi)
  have h2 : gt (st (ρ.map Sl.mask) i (.v (.int w))) k = .v (.lst (row b)) := by
    rw [lw_gt_ne hij, lw_gt_mask, hb]
    rfl
  simp only [evT, ev, h1, h2, Out.bind_ok, Out.bindB_ok, Out.chk_ok, d_sh, c_ni, Out.of_some, isB]
def fn_plain : Fn := ⟨2, 4, [
  .asg false 2 (.comp [] (.slot 3) 3 (.e (.slot 0)) (some (.e (.cmp .In (.slot 3) (.slot 1))))),
  .ite (.e (.cmp .Eq (.len (.slot 2)) (.len (.slot 0)))) [
    .ret (.str "grant")] [],
  .ite (.e (.cmp .Eq (.slot 2) (.lst []))) [
    .ret (.str "deny")] [],
  .ret (.str "doubt")]⟩
theorem ok_plainG {T : Tab} {nm : Str} (h : T.fn nm = some fn_plain) (f : Nat) {seen r : List Int} (hl : seen.length ≤ 100) (S : Store) : callF T (f + 1) nm [.lst (row seen), .lst (row r)] S = .ok (.sh (.str (plainF seen r).s)) S := by
  rw [call_eq h rfl]
  simp only [fn_plain, List.map_cons, List.map_nil, List.cons_append, List.nil_append, List.replicate, Nat.reduceSub]
  rw [evSs_nx (ρ' := [.v (.lst (row seen)), .v (.lst (row r)), .v (.lst (row (meetF seen r))), .no]) (S' := S) (by simp only [evS]; rw [ev_meet (a := seen) (b := r) (by simp) (by decide) rfl rfl hl]; rfl)]
  unfold plainF
  generalize meetF seen r = t
  by_cases c : t.length = seen.length
  · simp [evSs, evS, evT, ev, evs, gt, d_sh, d_fr, isB, len_row, c_eqI, c, s_grant, Fl.res]
  · have c2 : ¬ (t.length : Int) = seen.length := by omega
    rw [evSs_nx (ρ' := [.v (.lst (row seen)), .v (.lst (row r)), .v (.lst (row t)), .no]) (S' := S) (by simp only [evS, evT, ev, gt, Out.bind_ok, Out.bindB_ok, Out.chk_ok, d_sh, len_row, Out.of_some, c_eqI, isB, decide_eq_false c2, Bool.false_eq_true, if_false, evSs]), if_neg c]
    by_cases c3 : t = [] <;>
    simp [evSs, evS, evT, ev, evs, gt, d_sh, d_fr, isB, c_eqN, c3, s_deny, s_doubt, Fl.res, big]
theorem ok_plain {T : Tab} (h : T.fn "plain" = some fn_plain) (f : Nat) {seen r : List Int} (hl : seen.length ≤ 100) (S : Store) : callF T (f + 1) "plain" [.lst (row seen), .lst (row r)] S = .ok (.sh (.str (plainF seen r).s)) S := ok_plainG h f hl S
def fn_meet : Fn := ⟨2, 3, [
  .ret (.comp [] (.slot 2) 2 (.e (.slot 0)) (some (.e (.cmp .In (.slot 2) (.slot 1)))))]⟩
theorem ok_meet {T : Tab} (h : T.fn "meet" = some fn_meet) (f : Nat) {a b : List Int} (hl : a.length ≤ 100) (S : Store) : callF T (f + 1) "meet" [.lst (row a), .lst (row b)] S = .ok (.fr (row (meetF a b))) S := by
  rw [call_eq h rfl]
  simp only [fn_meet, evSs, evS, List.map_cons, List.map_nil, List.cons_append, List.nil_append, List.replicate, Nat.reduceSub]
  rw [ev_meet (a := a) (b := b) (by simp) (by decide) rfl rfl hl]
  rfl
def fn_rest : Fn := ⟨2, 3, [
  .ret (.comp [] (.slot 2) 2 (.e (.slot 0)) (some (.e (.cmp .NotIn (.slot 2) (.slot 1)))))]⟩
theorem ok_rest {T : Tab} (h : T.fn "rest" = some fn_rest) (f : Nat) {a b : List Int} (hl : a.length ≤ 100) (S : Store) : callF T (f + 1) "rest" [.lst (row a), .lst (row b)] S = .ok (.fr (row (restF a b))) S := by
  rw [call_eq h rfl]
  simp only [fn_rest, evSs, evS, List.map_cons, List.map_nil, List.cons_append, List.nil_append, List.replicate, Nat.reduceSub]
  rw [ev_rest (a := a) (b := b) (by simp) (by decide) rfl rfl hl]
  rfl
def touchF (a b : List Int) : Bool := a.any fun w => decide (w ∈ b)
theorem touch_meet (a b : List Int) : (!decide (meetF a b = [])) = touchF a b := by
  induction a with
  | nil => rfl
  | cons w a ih =>
    unfold meetF touchF at *
    by_cases c : w ∈ b
    · simp [c]
    · simp only [List.filter_cons, List.any_cons, c, decide_false, Bool.false_eq_true, if_false, Bool.false_or, ih]
def fn_touches : Fn := ⟨2, 2, [
  .ret (.cmp .NotEq (.call "meet" [(.slot 0), (.slot 1)]) (.lst []))]⟩
theorem ok_touches {T : Tab} (h : T.fn "touches" = some fn_touches) (h2 : T.fn "meet" = some fn_meet) (f : Nat) {a b : List Int} (hl : a.length ≤ 100) (S : Store) : callF T (f + 2) "touches" [.lst (row a), .lst (row b)] S = .ok (.sh (.bl (touchF a b))) S := by
  rw [call_eq h rfl]
  simp [fn_touches, evSs, evS, ev, evs, gt, d_sh, d_fr, ok_meet h2 f hl, c_neN, ← touch_meet, Fl.res, big]
/-- a list of rows -/
def rows (rs : List (List Int)) : List D := rs.map fun r => .lst (row r)
theorem rows_nil : rows [] = [] := rfl
theorem rows_cons (r : List Int) (rs : List (List Int)) : rows (r :: rs) = .lst (row r) :: rows rs := rfl
theorem rows_len (rs : List (List Int)) : (rows rs).length = rs.length := List.length_map _
def lostF : List (List Int) → List Int → Nat → Option Nat
  | [], _, _ => none
  | s :: r, h, k => if touchF s h then lostF r h (k + 1) else some k
def standsF (sides : List (List Int)) (held : List Int) : Bool := sides.all fun s => touchF s held
theorem lost_stands (held : List Int) : ∀ (sides : List (List Int)) (k : Nat), (lostF sides held k).isNone = standsF sides held
  | [], _ => rfl
  | s :: r, k => by
    unfold lostF standsF
    by_cases c : touchF s held = true
    · rw [if_pos c, lost_stands held r (k + 1), List.all_cons, c, Bool.true_and]
      rfl
    · simp [c]
def lostD : Option Nat → D
  | some k => .int k
  | none => .non
def b1_lost_side : List CS := [
    .ite (.nt (.e (.call "touches" [(.slot 3), (.slot 1)]))) [
      .retS 2] []]
def fn_lost_side : Fn := ⟨2, 4, [
  .forT [2, 3] (.enum (.slot 0)) b1_lost_side,
  .ret .non]⟩
theorem lost_loop {T : Tab} (h2 : T.fn "touches" = some fn_touches) (h3 : T.fn "meet" = some fn_meet) (f : Nat) {held : List Int} {S : Store} (x0 : Sl) : ∀ (sides : List (List Int)) (k : Nat) (x2 x3 : Sl), (∀ s ∈ sides, s.length ≤ 100) →
    ∃ ρ', loopS (fun d ρ S => (asgT [2, 3] d ρ S).bind fun _ ρ S => evSs (cx T (f + 2)) b1_lost_side ρ S) (enumL (rows sides) k) [x0, .v (.lst (row held)), x2, x3] S = .ok (match lostF sides held k with
      | some k => .rt (.sh (.int k))
      | none => .nx) ρ' S
  | [], k, x2, x3, _ => ⟨_, rfl⟩
  | s :: r, k, x2, x3, hl => by
    obtain ⟨ρ', e⟩ := lost_loop h2 h3 f (held := held) (S := S) x0 r (k + 1) (.v (.int k)) (.v (.lst (row s))) fun t ht => hl t (by simp [ht])
    have ht := ok_touches h2 h3 f (a := s) (b := held) (hl s (by simp)) S
    rw [rows_cons, enumL]
    unfold lostF
    cases c : touchF s held
    · rw [loop_rt (v := .sh (.int k)) (ρ' := [x0, .v (.lst (row held)), .v (.int k), .v (.lst (row s))]) (S' := S)]
      · exact ⟨[x0, .v (.lst (row held)), .v (.int k), .v (.lst (row s))], by simp⟩
      · simp [asgT, setT, st, b1_lost_side, evSs, evS, evT, ev, evs, gt, d_sh, isB, ht, c]
    · rw [loop_nx (ρ' := [x0, .v (.lst (row held)), .v (.int k), .v (.lst (row s))]) (S' := S)]
      · exact ⟨ρ', by simpa using e⟩
      · simp [asgT, setT, st, b1_lost_side, evSs, evS, evT, ev, evs, gt, d_sh, isB, ht, c]
theorem ok_lost {T : Tab} (h : T.fn "lost_side" = some fn_lost_side) (h2 : T.fn "touches" = some fn_touches) (h3 : T.fn "meet" = some fn_meet) (f : Nat) {sides : List (List Int)} {held : List Int} (hl : ∀ s ∈ sides, s.length ≤ 100) (S : Store) : callF T (f + 3) "lost_side" [.lst (rows sides), .lst (row held)] S = .ok (.sh (lostD (lostF sides held 0))) S := by
  rw [call_eq h rfl]
  obtain ⟨ρ', e⟩ := lost_loop h2 h3 f (held := held) (S := S) (.v (.lst (rows sides))) sides 0 .no .no hl
  have e2 := (forT_eq (Γ := (cx T (f + 2))) (is := [2, 3]) (src := .enum (.slot 0)) (b := b1_lost_side) (ds := enumL (rows sides) 0) (ρ := [.v (.lst (rows sides)), .v (.lst (row held)), .no, .no]) (S := S) (by simp only [evSrc, ev, gt, Out.bind_ok, Out.bindB_ok, Out.chk_ok, d_sh])).trans e
  cases c : lostF sides held 0
  · rw [c] at e2
    simp only [fn_lost_side, List.map_cons, List.map_nil, List.cons_append, List.nil_append, List.replicate, Nat.reduceSub]
    rw [evSs_nx e2]
    rfl
  · rw [c] at e2
    simp only [fn_lost_side, List.map_cons, List.map_nil, List.cons_append, List.nil_append, List.replicate, Nat.reduceSub]
    rw [evSs_rt e2]
    rfl
def fn_stands : Fn := ⟨2, 2, [
  .ret (.cmp .Is (.call "lost_side" [(.slot 0), (.slot 1)]) .non)]⟩
theorem ok_stands {T : Tab} (h : T.fn "stands" = some fn_stands) (h1 : T.fn "lost_side" = some fn_lost_side) (h2 : T.fn "touches" = some fn_touches) (h3 : T.fn "meet" = some fn_meet) (f : Nat) {sides : List (List Int)} {held : List Int} (hl : ∀ s ∈ sides, s.length ≤ 100) (S : Store) : callF T (f + 4) "stands" [.lst (rows sides), .lst (row held)] S = .ok (.sh (.bl (standsF sides held))) S := by
  rw [call_eq h rfl, ← lost_stands held sides 0]
  cases c : lostF sides held 0 <;> simp [fn_stands, evSs, evS, ev, evs, gt, d_sh, ok_lost h1 h2 h3 f hl, c, lostD, cmpD, Fl.res]
def answerF (sides : List (List Int)) (going seen r : List Int) : Ans :=
  if restF going r = [] then .grant else if meetF going r = [] then .deny else match plainF seen r with
    | .grant => if standsF sides (meetF going r) then .grant else .doubt
    | .deny => if standsF sides (restF going r) then .deny else .doubt
    | .doubt => .doubt
def fn_answer : Fn := ⟨4, 7, [
  .asg false 4 (.call "meet" [(.slot 1), (.slot 3)]),
  .asg false 5 (.call "rest" [(.slot 1), (.slot 3)]),
  .ite (.e (.cmp .Eq (.slot 5) (.lst []))) [
    .ret (.str "grant")] [],
  .ite (.e (.cmp .Eq (.slot 4) (.lst []))) [
    .ret (.str "deny")] [],
  .asg false 6 (.call "plain" [(.slot 2), (.slot 3)]),
  .ite (.and (.e (.cmp .Eq (.slot 6) (.str "grant"))) (.e (.call "stands" [(.slot 0), (.slot 4)]))) [
    .ret (.str "grant")] [],
  .ite (.and (.e (.cmp .Eq (.slot 6) (.str "deny"))) (.e (.call "stands" [(.slot 0), (.slot 5)]))) [
    .ret (.str "deny")] [],
  .ret (.str "doubt")]⟩
theorem ok_answer {T : Tab} (h : T.fn "answer" = some fn_answer) (h1 : T.fn "stands" = some fn_stands) (h2 : T.fn "lost_side" = some fn_lost_side) (h3 : T.fn "touches" = some fn_touches) (h4 : T.fn "meet" = some fn_meet) (h5 : T.fn "rest" = some fn_rest) (h6 : T.fn "plain" = some fn_plain) (f : Nat) {sides : List (List Int)} {going seen r : List Int} (hl : ∀ s ∈ sides, s.length ≤ 100) (hg : going.length ≤ 100) (hs : seen.length ≤ 100) (S : Store) : callF T (f + 5) "answer" [.lst (rows sides), .lst (row going), .lst (row seen), .lst (row r)] S = .ok (.sh (.str (answerF sides going seen r).s)) S := by
  rw [call_eq h rfl]
  have n1 : Ans.s .grant ≠ Ans.s .deny := by decide
  have n2 : Ans.s .deny ≠ Ans.s .grant := by decide
  have n3 : Ans.s .doubt ≠ Ans.s .grant := by decide
  have n4 : Ans.s .doubt ≠ Ans.s .deny := by decide
  simp only [fn_answer, List.map_cons, List.map_nil, List.cons_append, List.nil_append, List.replicate, Nat.reduceSub]
  rw [evSs_nx (by simp [evS, ev, evs, gt, st, d_sh, d_fr, ok_meet h4 (f + 3) hg]; exact ⟨rfl, rfl⟩), evSs_nx (by simp [evS, ev, evs, gt, st, d_sh, d_fr, ok_rest h5 (f + 3) hg]; exact ⟨rfl, rfl⟩)]
  unfold answerF
  by_cases c : restF going r = []
  · simp [evSs, evS, evT, ev, evs, gt, st, d_sh, d_fr, isB, c_eqN, c, s_grant, Fl.res, big]
  · by_cases c2 : meetF going r = []
    · simp [evSs, evS, evT, ev, evs, gt, st, d_sh, d_fr, isB, c_eqN, c, c2, s_deny, Fl.res, big]
    · have ho := ok_plain h6 (f + 3) (r := r) hs S
      have t1 := ok_stands h1 h2 h3 h4 f (held := meetF going r) hl S
      have t2 := ok_stands h1 h2 h3 h4 f (held := restF going r) hl S
      cases c3 : plainF seen r
      · cases c4 : standsF sides (meetF going r) <;> simp [evSs, evS, evT, ev, evs, gt, st, d_sh, d_fr, isB, c_eqN, c_eqS, c, c2, ho, c3, t1, c4, s_grant, s_deny, s_doubt, n1, Fl.res, big]
      · cases c4 : standsF sides (restF going r) <;> simp [evSs, evS, evT, ev, evs, gt, st, d_sh, d_fr, isB, c_eqN, c_eqS, c, c2, ho, c3, t2, c4, s_grant, s_deny, s_doubt, n2, Fl.res, big]
      · simp [evSs, evS, evT, ev, evs, gt, st, d_sh, d_fr, isB, c_eqN, c_eqS, c, c2, ho, c3, s_grant, s_deny, s_doubt, n3, n4, Fl.res, big]
end Ht

set_option linter.all false
set_option maxRecDepth 100000
set_option maxHeartbeats 1000000
namespace Ht
open PySem
/-! ### footings -/
inductive Kd where
  | tr | fa | db
  deriving DecidableEq
def Kd.s : Kd → List Nat
  | .tr => [116, 114, 117, 101] | .fa => [102, 97, 108, 115, 101] | .db => [100, 111, 117, 98, 116]
theorem s_tr : (Str.ofString "true").cps.toList = Kd.s .tr := by decide +kernel
theorem s_fa : (Str.ofString "false").cps.toList = Kd.s .fa := by decide +kernel
theorem s_db : (Str.ofString "doubt").cps.toList = Kd.s .db := by decide +kernel
def insF (s : Sen) (r : List Int) : List Int := r.filter s.tr
def outsF (s : Sen) (r : List Int) : List Int := r.filter fun w => !s.tr w
theorem ins_len (s : Sen) (r : List Int) : (insF s r).length ≤ r.length := List.length_filter_le _ _
theorem outs_len (s : Sen) (r : List Int) : (outsF s r).length ≤ r.length := List.length_filter_le _ _
def kOf (i : Int) : Kd := if i = 0 then .tr else if i = 1 then .fa else .db
theorem idx_kinds {i : Int} (h0 : 0 ≤ i) (h3 : i < 3) : idxD (.lst [.str (Kd.s .tr), .str (Kd.s .fa), .str (Kd.s .db)]) (.int i) = some (.str (kOf i).s) := by
  have : i = 0 ∨ i = 1 ∨ i = 2 := by omega
  rcases this with rfl | rfl | rfl <;> rfl
def kindF (n : Int) (r : List Int) (s : Sen) : Kd := if insF s r = [] then .fa else if (insF s r).length = r.length then .tr else kOf (n % 3)
def sidesF (k : Kd) (r : List Int) (s : Sen) : List (List Int) := match k with
  | .tr => [insF s r]
  | .fa => [outsF s r]
  | .db => [insF s r, outsF s r]
/-- sides of a footing that stands in a room -/
structure Sides (r : List Int) (sd : List (List Int)) : Prop where
  ne : sd ≠ []
  each : ∀ s ∈ sd, s ≠ [] ∧ s.Sublist r
theorem part_len (s : Sen) : ∀ r : List Int, (insF s r).length + (outsF s r).length = r.length
  | [] => rfl
  | w :: r => by
    have := part_len s r
    unfold insF outsF at *
    cases c : s.tr w <;> simp [c] <;> omega
theorem sides_ok {n : Int} {r : List Int} {s : Sen} (hr : r ≠ []) : Sides r (sidesF (kindF n r s) r s) := by
  have hp := part_len s r
  have hr0 : 0 < r.length := List.length_pos_iff.mpr hr
  have sub1 : (insF s r).Sublist r := List.filter_sublist
  have sub2 : (outsF s r).Sublist r := List.filter_sublist
  by_cases c : insF s r = []
  · have k : kindF n r s = .fa := by rw [kindF, if_pos c]
    rw [k]
    refine ⟨by simp [sidesF], fun t ht => ?_⟩
    simp only [sidesF, List.mem_singleton] at ht
    subst ht
    refine ⟨fun e => ?_, sub2⟩
    rw [c, e] at hp
    simp at hp
    omega
  · by_cases c2 : (insF s r).length = r.length
    · have k : kindF n r s = .tr := by rw [kindF, if_neg c, if_pos c2]
      rw [k]
      refine ⟨by simp [sidesF], fun t ht => ?_⟩
      simp only [sidesF, List.mem_singleton] at ht
      subst ht
      exact ⟨c, sub1⟩
    · have c3 : outsF s r ≠ [] := fun e => by
        rw [e] at hp
        simp at hp
        omega
      refine ⟨by cases kindF n r s <;> simp [sidesF], fun t ht => ?_⟩
      cases hk : kindF n r s <;> rw [hk] at ht <;> simp only [sidesF, List.mem_singleton, List.mem_cons, List.not_mem_nil, or_false] at ht
      · subst ht; exact ⟨c, sub1⟩
      · subst ht; exact ⟨c3, sub2⟩
      · rcases ht with rfl | rfl
        · exact ⟨c, sub1⟩
        · exact ⟨c3, sub2⟩
theorem sides_len (k : Kd) (r : List Int) (s : Sen) : (sidesF k r s).length ≤ 2 := by cases k <;> simp [sidesF]
theorem Sides.len {r : List Int} {sd : List (List Int)} (h : Sides r sd) {n : Nat} (hn : r.length ≤ n) : ∀ s ∈ sd, s.length ≤ n := fun s hs => Nat.le_trans (h.each s hs).2.length_le hn
def baseF (r : List Int) (sd : List (List Int)) : List Int := r.filter fun w => sd.any fun s => decide (w ∈ s)
theorem base_len (r : List Int) (sd : List (List Int)) : (baseF r sd).length ≤ r.length := List.length_filter_le _ _
theorem Sides.base_ne {r : List Int} {sd : List (List Int)} (h : Sides r sd) : baseF r sd ≠ [] := by
  obtain ⟨s, sd', e⟩ := List.exists_cons_of_ne_nil h.ne
  have hs := h.each s (by rw [e]; simp)
  obtain ⟨w, s', e2⟩ := List.exists_cons_of_ne_nil hs.1
  have hw : w ∈ s := by rw [e2]; simp
  have : w ∈ baseF r sd := by
    unfold baseF
    rw [List.mem_filter]
    refine ⟨hs.2.subset hw, ?_⟩
    rw [List.any_eq_true]
    exact ⟨s, by rw [e]; simp, by simpa using hw⟩
  exact fun e3 => by rw [e3] at this; simp at this
def fn__law_kind : Fn := ⟨3, 4, [
  .asg false 3 (.call "_law_ins" [(.slot 2), (.slot 1)]),
  .ite (.e (.cmp .Eq (.slot 3) (.lst []))) [
    .ret (.str "false")] [],
  .ite (.e (.cmp .Eq (.len (.slot 3)) (.len (.slot 1)))) [
    .ret (.str "true")] [],
  .ret (.idx (.lst [(.str "true"), (.str "false"), (.str "doubt")]) (.bin .Mod (.slot 0) (.int 3)))]⟩
theorem ok_kind {T : Tab} (h : T.fn "_law_kind" = some fn__law_kind) (h1 : T.fn "_law_ins" = some fn__law_ins) (h2 : T.fn "_law_true" = some fn__law_true) {s : Sen} {f : Nat} (ho : s.ok 5) (hd : s.depth < f) (n : Int) {r : List Int} (hr : r.length ≤ 100) (S : Store) : callF T (f + 2) "_law_kind" [.int n, .lst (row r), s.d] S = .ok (.sh (.str (kindF n r s).s)) S := by
  have e1 := ok_ins h1 h2 ho hd (r := r) (by unfold big; omega) S
  have hi := idx_kinds (i := n % 3) (by omega) (by omega)
  rw [call_eq h rfl]
  simp only [fn__law_kind, List.map_cons, List.map_nil, List.cons_append, List.nil_append, List.replicate, Nat.reduceSub]
  rw [evSs_nx (ρ' := [.v (.int n), .v (.lst (row r)), .v s.d, .v (.lst (row (insF s r)))]) (S' := S) (by simp [ev.eq_1, ev.eq_2, ev.eq_3, ev.eq_4, ev.eq_5, ev.eq_6, ev.eq_7, ev.eq_8, ev.eq_9, ev.eq_10, ev.eq_11, ev.eq_12, ev.eq_13, ev.eq_14, ev.eq_15, ev.eq_16, ev.eq_17, ev.eq_18, ev.eq_19, ev.eq_20, ev.eq_21, ev.eq_22, ev.eq_23, ev.eq_24, ev.eq_25, ev.eq_26, ev.eq_27, ev.eq_28, ev.eq_29, ev.eq_30, ev.eq_31, ev.eq_33, ev.eq_34, ev.eq_35, ev.eq_36, ev.eq_37, ev.eq_38, ev.eq_39, ev.eq_40, ev.eq_41, ev.eq_42, ev.eq_43, ev.eq_44, ev.eq_45, cx_cf, cx_cm, cx_gl, cx_dc, cx_ci, evSs, evS, evT, evs, evSrc, evo, gt, st, d_sh, d_fr, isB, isI, Out.bind_ok, Out.bindB_ok, Out.chk_ok, Out.of_some, e1, insF])]
  unfold kindF
  by_cases c : insF s r = []
  · simp [ev.eq_1, ev.eq_2, ev.eq_3, ev.eq_4, ev.eq_5, ev.eq_6, ev.eq_7, ev.eq_8, ev.eq_9, ev.eq_10, ev.eq_11, ev.eq_12, ev.eq_13, ev.eq_14, ev.eq_15, ev.eq_16, ev.eq_17, ev.eq_18, ev.eq_19, ev.eq_20, ev.eq_21, ev.eq_22, ev.eq_23, ev.eq_24, ev.eq_25, ev.eq_26, ev.eq_27, ev.eq_28, ev.eq_29, ev.eq_30, ev.eq_31, ev.eq_33, ev.eq_34, ev.eq_35, ev.eq_36, ev.eq_37, ev.eq_38, ev.eq_39, ev.eq_40, ev.eq_41, ev.eq_42, ev.eq_43, ev.eq_44, ev.eq_45, cx_cf, cx_cm, cx_gl, cx_dc, cx_ci, evSs, evS, evT, evs, evSrc, evo, gt, st, d_sh, d_fr, isB, isI, Out.bind_ok, Out.bindB_ok, Out.chk_ok, Out.of_some, c_eqN, c, s_fa, Fl.res, big]
  · rw [evSs_nx (ρ' := [.v (.int n), .v (.lst (row r)), .v s.d, .v (.lst (row (insF s r)))]) (S' := S) (by simp [ev.eq_1, ev.eq_2, ev.eq_3, ev.eq_4, ev.eq_5, ev.eq_6, ev.eq_7, ev.eq_8, ev.eq_9, ev.eq_10, ev.eq_11, ev.eq_12, ev.eq_13, ev.eq_14, ev.eq_15, ev.eq_16, ev.eq_17, ev.eq_18, ev.eq_19, ev.eq_20, ev.eq_21, ev.eq_22, ev.eq_23, ev.eq_24, ev.eq_25, ev.eq_26, ev.eq_27, ev.eq_28, ev.eq_29, ev.eq_30, ev.eq_31, ev.eq_33, ev.eq_34, ev.eq_35, ev.eq_36, ev.eq_37, ev.eq_38, ev.eq_39, ev.eq_40, ev.eq_41, ev.eq_42, ev.eq_43, ev.eq_44, ev.eq_45, cx_cf, cx_cm, cx_gl, cx_dc, cx_ci, evSs, evS, evT, evs, evSrc, evo, gt, st, d_sh, d_fr, isB, isI, Out.bind_ok, Out.bindB_ok, Out.chk_ok, Out.of_some, c_eqN, c, big]), if_neg c]
    by_cases c2 : (insF s r).length = r.length
    · simp [ev.eq_1, ev.eq_2, ev.eq_3, ev.eq_4, ev.eq_5, ev.eq_6, ev.eq_7, ev.eq_8, ev.eq_9, ev.eq_10, ev.eq_11, ev.eq_12, ev.eq_13, ev.eq_14, ev.eq_15, ev.eq_16, ev.eq_17, ev.eq_18, ev.eq_19, ev.eq_20, ev.eq_21, ev.eq_22, ev.eq_23, ev.eq_24, ev.eq_25, ev.eq_26, ev.eq_27, ev.eq_28, ev.eq_29, ev.eq_30, ev.eq_31, ev.eq_33, ev.eq_34, ev.eq_35, ev.eq_36, ev.eq_37, ev.eq_38, ev.eq_39, ev.eq_40, ev.eq_41, ev.eq_42, ev.eq_43, ev.eq_44, ev.eq_45, cx_cf, cx_cm, cx_gl, cx_dc, cx_ci, evSs, evS, evT, evs, evSrc, evo, gt, st, d_sh, d_fr, isB, isI, Out.bind_ok, Out.bindB_ok, Out.chk_ok, Out.of_some, len_row, c_eqI, c2, s_tr, Fl.res]
    · have c3 : ¬ ((insF s r).length : Int) = r.length := by omega
      rw [evSs_nx (ρ' := [.v (.int n), .v (.lst (row r)), .v s.d, .v (.lst (row (insF s r)))]) (S' := S) (by simp only [ev.eq_1, ev.eq_2, ev.eq_3, ev.eq_4, ev.eq_5, ev.eq_6, ev.eq_7, ev.eq_8, ev.eq_9, ev.eq_10, ev.eq_11, ev.eq_12, ev.eq_13, ev.eq_14, ev.eq_15, ev.eq_16, ev.eq_17, ev.eq_18, ev.eq_19, ev.eq_20, ev.eq_21, ev.eq_22, ev.eq_23, ev.eq_24, ev.eq_25, ev.eq_26, ev.eq_27, ev.eq_28, ev.eq_29, ev.eq_30, ev.eq_31, ev.eq_33, ev.eq_34, ev.eq_35, ev.eq_36, ev.eq_37, ev.eq_38, ev.eq_39, ev.eq_40, ev.eq_41, ev.eq_42, ev.eq_43, ev.eq_44, ev.eq_45, cx_cf, cx_cm, cx_gl, cx_dc, cx_ci, evSs, evS, evT, evs, evSrc, evo, gt, st, d_sh, d_fr, isB, isI, Out.bind_ok, Out.bindB_ok, Out.chk_ok, Out.of_some, len_row, c_eqI, decide_eq_false c3, Bool.false_eq_true, if_false]), if_neg c2]
      simp [ev.eq_1, ev.eq_2, ev.eq_3, ev.eq_4, ev.eq_5, ev.eq_6, ev.eq_7, ev.eq_8, ev.eq_9, ev.eq_10, ev.eq_11, ev.eq_12, ev.eq_13, ev.eq_14, ev.eq_15, ev.eq_16, ev.eq_17, ev.eq_18, ev.eq_19, ev.eq_20, ev.eq_21, ev.eq_22, ev.eq_23, ev.eq_24, ev.eq_25, ev.eq_26, ev.eq_27, ev.eq_28, ev.eq_29, ev.eq_30, ev.eq_31, ev.eq_33, ev.eq_34, ev.eq_35, ev.eq_36, ev.eq_37, ev.eq_38, ev.eq_39, ev.eq_40, ev.eq_41, ev.eq_42, ev.eq_43, ev.eq_44, ev.eq_45, cx_cf, cx_cm, cx_gl, cx_dc, cx_ci, evSs, evS, evT, evs, evSrc, evo, gt, st, d_sh, d_fr, isB, isI, Out.bind_ok, Out.bindB_ok, Out.chk_ok, Out.of_some, binD, s_tr, s_fa, s_db, hi, Fl.res, big]
def fn__law_sides : Fn := ⟨3, 3, [
  .ite (.e (.cmp .Eq (.slot 1) (.str "true"))) [
    .ret (.lst [(.call "_law_ins" [(.slot 2), (.slot 0)])])] [],
  .ite (.e (.cmp .Eq (.slot 1) (.str "false"))) [
    .ret (.lst [(.call "_law_outs" [(.slot 2), (.slot 0)])])] [],
  .ret (.lst [(.call "_law_ins" [(.slot 2), (.slot 0)]), (.call "_law_outs" [(.slot 2), (.slot 0)])])]⟩
theorem ok_sides {T : Tab} (h : T.fn "_law_sides" = some fn__law_sides) (h1 : T.fn "_law_ins" = some fn__law_ins) (h3 : T.fn "_law_outs" = some fn__law_outs) (h2 : T.fn "_law_true" = some fn__law_true) {s : Sen} {f : Nat} (ho : s.ok 5) (hd : s.depth < f) (k : Kd) {r : List Int} (hr : r.length ≤ 100) (S : Store) : callF T (f + 2) "_law_sides" [.lst (row r), .str k.s, s.d] S = .ok (.fr (rows (sidesF k r s))) S := by
  have e1 := ok_ins h1 h2 ho hd (r := r) (by unfold big; omega) S
  have e2 := ok_outs h3 h2 ho hd (r := r) (by unfold big; omega) S
  rw [call_eq h rfl]
  cases k <;> simp [fn__law_sides, ev.eq_1, ev.eq_2, ev.eq_3, ev.eq_4, ev.eq_5, ev.eq_6, ev.eq_7, ev.eq_8, ev.eq_9, ev.eq_10, ev.eq_11, ev.eq_12, ev.eq_13, ev.eq_14, ev.eq_15, ev.eq_16, ev.eq_17, ev.eq_18, ev.eq_19, ev.eq_20, ev.eq_21, ev.eq_22, ev.eq_23, ev.eq_24, ev.eq_25, ev.eq_26, ev.eq_27, ev.eq_28, ev.eq_29, ev.eq_30, ev.eq_31, ev.eq_33, ev.eq_34, ev.eq_35, ev.eq_36, ev.eq_37, ev.eq_38, ev.eq_39, ev.eq_40, ev.eq_41, ev.eq_42, ev.eq_43, ev.eq_44, ev.eq_45, cx_cf, cx_cm, cx_gl, cx_dc, cx_ci, evSs, evS, evT, evs, evSrc, evo, gt, st, d_sh, d_fr, isB, isI, Out.bind_ok, Out.bindB_ok, Out.chk_ok, Out.of_some, c_eqS, s_tr, s_fa, Kd.s, e1, e2, Fl.res, big, sidesF, insF, outsF, rows_cons, rows_nil]
/-! any -/
def bls (bs : List Bool) : List D := bs.map .bl
theorem bools_bls : ∀ bs : List Bool, boolsOf (bls bs) = some bs
  | [] => rfl
  | b :: bs => by
    show (boolsOf (bls bs)).map (b :: ·) = _
    rw [bools_bls bs]
    rfl
theorem any_bls (bs : List Bool) : anyD (.lst (bls bs)) = some (.bl (bs.any id)) := by simp only [anyD, bools_bls, Option.map_some]
theorem ev_any_in {Γ : Ctx} {i j k : Nat} {ρ : Env} {S : Store} {sd : List (List Int)} {w : Int} (hj : j < ρ.length) (hij : j ≠ i) (hw : gt ρ i = .v (.int w)) (hk : gt ρ k = .v (.lst (rows sd))) (hl : sd.length ≤ 100) : ev Γ (.any (.comp [] (.cmp .In (.slot i) (.slot j)) j (.e (.slot k)) none)) ρ S = .ok (.sh (.bl (sd.any fun s => decide (w ∈ s)))) ρ S := by
  have e : evSrc Γ (.e (.slot k)) ρ S = .ok (rows sd) ρ S := src_e (x := .sh (.lst (rows sd))) (by simp only [ev, hk]) rfl
  simp only [ev, e, Out.bind_ok, Out.bindB_ok, Out.chk_ok, shareAt]
  rw [compL_map (fun d => match d with
    | .lst ds => .bl (ds.any fun d => d.eqv (.int w))
    | _ => .non) (rows sd) (fun d hd => ?_) (by rw [rows_len]; unfold big; omega)]
  · have q : ((rows sd).map fun d => match d with
      | .lst ds => D.bl (ds.any fun d => d.eqv (.int w))
      | _ => .non) = bls (sd.map fun s => decide (w ∈ s)) := by
      simp only [rows, bls, List.map_map]
      refine List.map_congr_left fun s _ => ?_
      simp only [Function.comp, any_row]
    simp only [q, Out.bind_ok, Out.bindB_ok, Out.chk_ok, d_fr, any_bls, Out.of_some, List.any_map]
    rfl
  · obtain ⟨s, hs, rfl⟩ := List.mem_map.mp hd
    have h1 : gt (st (ρ.map Sl.mask) j (.v (.lst (row s)))) j = .v (.lst (row s)) := gt_st (by simpa using hj)
    have h2 : gt (st (ρ.map Sl.mask) j (.v (.lst (row s)))) i = .v (.int w) := by
      rw [lw_gt_ne hij, lw_gt_mask, hw]
      rfl
    exact ⟨st (ρ.map Sl.mask) j (.v (.lst (row s))), by simp only [evc, ev, h1, h2, Out.bind_ok, Out.bindB_ok, Out.chk_ok, d_sh, c_in, Out.of_some, if_true, any_row]⟩
theorem ev_any_touch {Γ : Ctx} {j k b : Nat} {ρ : Env} {S : Store} {a h : List Int} (hj : j < ρ.length) (hjb : j ≠ b) (hk : gt ρ k = .v (.lst (row a))) (hb : gt ρ b = .v (.lst (row h))) (hl : a.length ≤ 100) : ev Γ (.any (.comp [] (.cmp .In (.slot j) (.slot b)) j (.e (.slot k)) none)) ρ S = .ok (.sh (.bl (touchF a h))) ρ S := by
  have e : evSrc Γ (.e (.slot k)) ρ S = .ok (row a) ρ S := src_e (x := .sh (.lst (row a))) (by simp only [ev, hk]) rfl
  simp only [ev, e, Out.bind_ok, Out.bindB_ok, Out.chk_ok, shareAt]
  rw [compL_map (fun d => match d with
    | .int w => .bl (decide (w ∈ h))
    | _ => .non) (row a) (fun d hd => ?_) (by rw [row_len]; unfold big; omega)]
  · have q : ((row a).map fun d => match d with
      | .int w => D.bl (decide (w ∈ h))
      | _ => .non) = bls (a.map fun w => decide (w ∈ h)) := by
      simp only [row, bls, List.map_map]
      rfl
    simp only [q, Out.bind_ok, Out.bindB_ok, Out.chk_ok, d_fr, any_bls, Out.of_some, List.any_map]
    rfl
  · obtain ⟨w, hw, rfl⟩ := List.mem_map.mp hd
    have h1 : gt (st (ρ.map Sl.mask) j (.v (.int w))) j = .v (.int w) := gt_st (by simpa using hj)
    have h2 : gt (st (ρ.map Sl.mask) j (.v (.int w))) b = .v (.lst (row h)) := by
      rw [lw_gt_ne hjb, lw_gt_mask, hb]
      rfl
    exact ⟨st (ρ.map Sl.mask) j (.v (.int w)), by simp only [evc, ev, h1, h2, Out.bind_ok, Out.bindB_ok, Out.chk_ok, d_sh, c_in, Out.of_some, if_true]⟩
def fn__law_base : Fn := ⟨2, 4, [
  .ret (.comp [] (.slot 2) 2 (.e (.slot 0)) (some (.e (.any (.comp [] (.cmp .In (.slot 2) (.slot 3)) 3 (.e (.slot 1)) none)))))]⟩
theorem ok_base {T : Tab} (h : T.fn "_law_base" = some fn__law_base) (f : Nat) {r : List Int} {sd : List (List Int)} (hr : r.length ≤ 100) (hs : sd.length ≤ 100) (S : Store) : callF T (f + 1) "_law_base" [.lst (row r), .lst (rows sd)] S = .ok (.fr (row (baseF r sd))) S := by
  rw [call_eq h rfl]
  simp only [fn__law_base, evSs, evS, List.map_cons, List.map_nil, List.cons_append, List.nil_append, List.replicate, Nat.reduceSub]
  rw [ev_pick (r := r) (p := fun w => sd.any fun s => decide (w ∈ s)) (by simp) (src_e (x := .sh (.lst (row r))) (by simp only [ev, gt]) rfl) (fun w _ => by
    simp only [evT]
    rw [ev_any_in (sd := sd) (w := w) (by simp [st]) (by decide) rfl rfl hs]
    rfl) (by unfold big; omega)]
  rfl
def b1__law_stands : List CS := [
    .ite (.nt (.e (.any (.comp [] (.cmp .In (.slot 3) (.slot 1)) 3 (.e (.slot 2)) none)))) [
      .ret (.bl false)] []]
def fn__law_stands : Fn := ⟨2, 4, [
  .for1 2 (.e (.slot 0)) b1__law_stands,
  .ret (.bl true)]⟩
theorem lstands_loop (Γ : Ctx) {row0 : List Int} {S : Store} (x0 : Sl) : ∀ (sd : List (List Int)) (x2 x3 : Sl), (∀ s ∈ sd, s.length ≤ 100) →
    ∃ ρ', loopS (fun d ρ S => evSs Γ b1__law_stands (st ρ 2 (.v d)) S) (rows sd) [x0, .v (.lst (row row0)), x2, x3] S = .ok (if standsF sd row0 then .nx else .rt (.sh (.bl false))) ρ' S
  | [], x2, x3, _ => ⟨_, rfl⟩
  | s :: sd, x2, x3, hl => by
    obtain ⟨ρ', e⟩ := lstands_loop Γ (row0 := row0) (S := S) x0 sd (.v (.lst (row s))) x3 fun t ht => hl t (by simp [ht])
    have ht := ev_any_touch (Γ := Γ) (j := 3) (k := 2) (b := 1) (ρ := [x0, .v (.lst (row row0)), .v (.lst (row s)), x3]) (S := S) (a := s) (h := row0) (by simp) (by decide) rfl rfl (hl s (by simp))
    rw [rows_cons]
    unfold standsF
    rw [List.all_cons]
    cases c : touchF s row0
    · rw [loop_rt (v := .sh (.bl false)) (ρ' := [x0, .v (.lst (row row0)), .v (.lst (row s)), x3]) (S' := S)]
      · exact ⟨[x0, .v (.lst (row row0)), .v (.lst (row s)), x3], by simp⟩
      · simp only [st, b1__law_stands, evSs, evS, evT, ht, c, Out.bind_ok, Out.bindB_ok, Out.chk_ok, isB, Out.of_some, Bool.not_false, if_true, ev.eq_3]
    · rw [loop_nx (ρ' := [x0, .v (.lst (row row0)), .v (.lst (row s)), x3]) (S' := S)]
      · exact ⟨ρ', by rw [Bool.true_and]; exact e⟩
      · simp only [st, b1__law_stands, evSs, evS, evT, ht, c, Out.bind_ok, Out.bindB_ok, Out.chk_ok, isB, Out.of_some, Bool.not_true, Bool.false_eq_true, if_false]
theorem ok_lstands {T : Tab} (h : T.fn "_law_stands" = some fn__law_stands) (f : Nat) {sd : List (List Int)} {row0 : List Int} (hl : ∀ s ∈ sd, s.length ≤ 100) (S : Store) : callF T (f + 1) "_law_stands" [.lst (rows sd), .lst (row row0)] S = .ok (.sh (.bl (standsF sd row0))) S := by
  rw [call_eq h rfl]
  obtain ⟨ρ', e⟩ := lstands_loop (cx T f) (row0 := row0) (S := S) (.v (.lst (rows sd))) sd .no .no hl
  have e2 := (for1_eq (Γ := (cx T f)) (i := 2) (src := .e (.slot 0)) (b := b1__law_stands) (ds := rows sd) (ρ := [.v (.lst (rows sd)), .v (.lst (row row0)), .no, .no]) (S := S) (src_e (x := .sh (.lst (rows sd))) (by simp only [ev, gt]) rfl)).trans e
  cases c : standsF sd row0
  · rw [c] at e2
    simp only [fn__law_stands, List.map_cons, List.map_nil, List.cons_append, List.nil_append, List.replicate, Nat.reduceSub]
    rw [evSs_rt e2]
    rfl
  · rw [c] at e2
    simp only [fn__law_stands, List.map_cons, List.map_nil, List.cons_append, List.nil_append, List.replicate, Nat.reduceSub]
    rw [evSs_nx e2]
    rfl
end Ht

set_option linter.all false
set_option maxRecDepth 100000
set_option maxHeartbeats 1000000
namespace Ht
open PySem
/-! ### the answer due -/
def fn__law_wish : Fn := ⟨2, 4, [
  .asg false 2 (.comp [] (.slot 3) 3 (.e (.slot 0)) (some (.e (.cmp .In (.slot 3) (.slot 1))))),
  .ite (.e (.cmp .Eq (.len (.slot 2)) (.len (.slot 0)))) [
    .ret (.str "grant")] [],
  .ite (.e (.cmp .Eq (.slot 2) (.lst []))) [
    .ret (.str "deny")] [],
  .ret (.str "doubt")]⟩
theorem ok_wish {T : Tab} (h : T.fn "_law_wish" = some fn__law_wish) (f : Nat) {seen r : List Int} (hl : seen.length ≤ 100) (S : Store) : callF T (f + 1) "_law_wish" [.lst (row seen), .lst (row r)] S = .ok (.sh (.str (plainF seen r).s)) S := by
  have e : fn__law_wish = fn_plain := rfl
  exact ok_plainG (h.trans (congrArg some e)) f hl S
def fn__law_answer : Fn := ⟨4, 8, [
  .asg false 4 (.comp [] (.slot 5) 5 (.e (.slot 1)) (some (.e (.cmp .In (.slot 5) (.slot 3))))),
  .asg false 6 (.comp [] (.slot 5) 5 (.e (.slot 1)) (some (.e (.cmp .NotIn (.slot 5) (.slot 3))))),
  .ite (.e (.cmp .Eq (.slot 6) (.lst []))) [
    .ret (.str "grant")] [],
  .ite (.e (.cmp .Eq (.slot 4) (.lst []))) [
    .ret (.str "deny")] [],
  .asg false 7 (.call "_law_wish" [(.slot 2), (.slot 3)]),
  .ite (.and (.e (.cmp .Eq (.slot 7) (.str "grant"))) (.nt (.e (.call "_law_stands" [(.slot 0), (.slot 4)])))) [
    .ret (.str "doubt")] [],
  .ite (.and (.e (.cmp .Eq (.slot 7) (.str "deny"))) (.nt (.e (.call "_law_stands" [(.slot 0), (.slot 6)])))) [
    .ret (.str "doubt")] [],
  .retS 7]⟩
theorem ok_lanswer {T : Tab} (h : T.fn "_law_answer" = some fn__law_answer) (h1 : T.fn "_law_stands" = some fn__law_stands) (h6 : T.fn "_law_wish" = some fn__law_wish) (f : Nat) {sides : List (List Int)} {going seen r : List Int} (hl : ∀ s ∈ sides, s.length ≤ 100) (hg : going.length ≤ 100) (hs : seen.length ≤ 100) (S : Store) : callF T (f + 2) "_law_answer" [.lst (rows sides), .lst (row going), .lst (row seen), .lst (row r)] S = .ok (.sh (.str (answerF sides going seen r).s)) S := by
  rw [call_eq h rfl]
  have n1 : Ans.s .grant ≠ Ans.s .deny := by decide
  have n2 : Ans.s .deny ≠ Ans.s .grant := by decide
  have n3 : Ans.s .doubt ≠ Ans.s .grant := by decide
  have n4 : Ans.s .doubt ≠ Ans.s .deny := by decide
  simp only [fn__law_answer, List.map_cons, List.map_nil, List.cons_append, List.nil_append, List.replicate, Nat.reduceSub]
  have ep := ev_meet (Γ := (cx T (f + 1))) (i := 5) (j := 1) (k := 3) (ρ := [.v (.lst (rows sides)), .v (.lst (row going)), .v (.lst (row seen)), .v (.lst (row r)), .no, .no, .no, .no]) (S := S) (a := going) (b := r) (by simp) (by decide) rfl rfl hg
  have ep2 := ev_rest (Γ := (cx T (f + 1))) (i := 5) (j := 1) (k := 3) (ρ := [.v (.lst (rows sides)), .v (.lst (row going)), .v (.lst (row seen)), .v (.lst (row r)), .v (.lst (row (meetF going r))), .no, .no, .no]) (S := S) (a := going) (b := r) (by simp) (by decide) rfl rfl hg
  rw [evSs_nx (by simp [ev.eq_1, ev.eq_2, ev.eq_3, ev.eq_4, ev.eq_5, ev.eq_6, ev.eq_7, ev.eq_8, ev.eq_9, ev.eq_10, ev.eq_11, ev.eq_12, ev.eq_13, ev.eq_14, ev.eq_15, ev.eq_16, ev.eq_17, ev.eq_18, ev.eq_19, ev.eq_20, ev.eq_21, ev.eq_22, ev.eq_23, ev.eq_24, ev.eq_25, ev.eq_26, ev.eq_27, ev.eq_28, ev.eq_29, ev.eq_30, ev.eq_31, ev.eq_33, ev.eq_34, ev.eq_35, ev.eq_36, ev.eq_37, ev.eq_38, ev.eq_39, ev.eq_40, ev.eq_41, ev.eq_42, ev.eq_43, ev.eq_44, ev.eq_45, cx_cf, cx_cm, cx_gl, cx_dc, cx_ci, evSs, evS, evT, evs, evSrc, evo, gt, st, d_sh, d_fr, isB, isI, Out.bind_ok, Out.bindB_ok, Out.chk_ok, Out.of_some, ep]; exact ⟨rfl, rfl⟩), evSs_nx (by simp [ev.eq_1, ev.eq_2, ev.eq_3, ev.eq_4, ev.eq_5, ev.eq_6, ev.eq_7, ev.eq_8, ev.eq_9, ev.eq_10, ev.eq_11, ev.eq_12, ev.eq_13, ev.eq_14, ev.eq_15, ev.eq_16, ev.eq_17, ev.eq_18, ev.eq_19, ev.eq_20, ev.eq_21, ev.eq_22, ev.eq_23, ev.eq_24, ev.eq_25, ev.eq_26, ev.eq_27, ev.eq_28, ev.eq_29, ev.eq_30, ev.eq_31, ev.eq_33, ev.eq_34, ev.eq_35, ev.eq_36, ev.eq_37, ev.eq_38, ev.eq_39, ev.eq_40, ev.eq_41, ev.eq_42, ev.eq_43, ev.eq_44, ev.eq_45, cx_cf, cx_cm, cx_gl, cx_dc, cx_ci, evSs, evS, evT, evs, evSrc, evo, gt, st, d_sh, d_fr, isB, isI, Out.bind_ok, Out.bindB_ok, Out.chk_ok, Out.of_some, ep2]; exact ⟨rfl, rfl⟩)]
  unfold answerF
  by_cases c : restF going r = []
  · simp [ev.eq_1, ev.eq_2, ev.eq_3, ev.eq_4, ev.eq_5, ev.eq_6, ev.eq_7, ev.eq_8, ev.eq_9, ev.eq_10, ev.eq_11, ev.eq_12, ev.eq_13, ev.eq_14, ev.eq_15, ev.eq_16, ev.eq_17, ev.eq_18, ev.eq_19, ev.eq_20, ev.eq_21, ev.eq_22, ev.eq_23, ev.eq_24, ev.eq_25, ev.eq_26, ev.eq_27, ev.eq_28, ev.eq_29, ev.eq_30, ev.eq_31, ev.eq_33, ev.eq_34, ev.eq_35, ev.eq_36, ev.eq_37, ev.eq_38, ev.eq_39, ev.eq_40, ev.eq_41, ev.eq_42, ev.eq_43, ev.eq_44, ev.eq_45, cx_cf, cx_cm, cx_gl, cx_dc, cx_ci, evSs, evS, evT, evs, evSrc, evo, gt, st, d_sh, d_fr, isB, isI, Out.bind_ok, Out.bindB_ok, Out.chk_ok, Out.of_some, c_eqN, c, s_grant, Fl.res, big]
  · by_cases c2 : meetF going r = []
    · simp [ev.eq_1, ev.eq_2, ev.eq_3, ev.eq_4, ev.eq_5, ev.eq_6, ev.eq_7, ev.eq_8, ev.eq_9, ev.eq_10, ev.eq_11, ev.eq_12, ev.eq_13, ev.eq_14, ev.eq_15, ev.eq_16, ev.eq_17, ev.eq_18, ev.eq_19, ev.eq_20, ev.eq_21, ev.eq_22, ev.eq_23, ev.eq_24, ev.eq_25, ev.eq_26, ev.eq_27, ev.eq_28, ev.eq_29, ev.eq_30, ev.eq_31, ev.eq_33, ev.eq_34, ev.eq_35, ev.eq_36, ev.eq_37, ev.eq_38, ev.eq_39, ev.eq_40, ev.eq_41, ev.eq_42, ev.eq_43, ev.eq_44, ev.eq_45, cx_cf, cx_cm, cx_gl, cx_dc, cx_ci, evSs, evS, evT, evs, evSrc, evo, gt, st, d_sh, d_fr, isB, isI, Out.bind_ok, Out.bindB_ok, Out.chk_ok, Out.of_some, c_eqN, c, c2, s_deny, Fl.res, big]
    · have ho := ok_wish h6 f (r := r) hs S
      have t1 := ok_lstands h1 f (row0 := meetF going r) hl S
      have t2 := ok_lstands h1 f (row0 := restF going r) hl S
      cases c3 : plainF seen r
      · cases c4 : standsF sides (meetF going r) <;> simp [ev.eq_1, ev.eq_2, ev.eq_3, ev.eq_4, ev.eq_5, ev.eq_6, ev.eq_7, ev.eq_8, ev.eq_9, ev.eq_10, ev.eq_11, ev.eq_12, ev.eq_13, ev.eq_14, ev.eq_15, ev.eq_16, ev.eq_17, ev.eq_18, ev.eq_19, ev.eq_20, ev.eq_21, ev.eq_22, ev.eq_23, ev.eq_24, ev.eq_25, ev.eq_26, ev.eq_27, ev.eq_28, ev.eq_29, ev.eq_30, ev.eq_31, ev.eq_33, ev.eq_34, ev.eq_35, ev.eq_36, ev.eq_37, ev.eq_38, ev.eq_39, ev.eq_40, ev.eq_41, ev.eq_42, ev.eq_43, ev.eq_44, ev.eq_45, cx_cf, cx_cm, cx_gl, cx_dc, cx_ci, evSs, evS, evT, evs, evSrc, evo, gt, st, d_sh, d_fr, isB, isI, Out.bind_ok, Out.bindB_ok, Out.chk_ok, Out.of_some, c_eqN, c_eqS, c, c2, ho, c3, t1, c4, s_grant, s_deny, s_doubt, n1, Fl.res, big]
      · cases c4 : standsF sides (restF going r) <;> simp [ev.eq_1, ev.eq_2, ev.eq_3, ev.eq_4, ev.eq_5, ev.eq_6, ev.eq_7, ev.eq_8, ev.eq_9, ev.eq_10, ev.eq_11, ev.eq_12, ev.eq_13, ev.eq_14, ev.eq_15, ev.eq_16, ev.eq_17, ev.eq_18, ev.eq_19, ev.eq_20, ev.eq_21, ev.eq_22, ev.eq_23, ev.eq_24, ev.eq_25, ev.eq_26, ev.eq_27, ev.eq_28, ev.eq_29, ev.eq_30, ev.eq_31, ev.eq_33, ev.eq_34, ev.eq_35, ev.eq_36, ev.eq_37, ev.eq_38, ev.eq_39, ev.eq_40, ev.eq_41, ev.eq_42, ev.eq_43, ev.eq_44, ev.eq_45, cx_cf, cx_cm, cx_gl, cx_dc, cx_ci, evSs, evS, evT, evs, evSrc, evo, gt, st, d_sh, d_fr, isB, isI, Out.bind_ok, Out.bindB_ok, Out.chk_ok, Out.of_some, c_eqN, c_eqS, c, c2, ho, c3, t2, c4, s_grant, s_deny, s_doubt, n2, Fl.res, big]
      · simp [ev.eq_1, ev.eq_2, ev.eq_3, ev.eq_4, ev.eq_5, ev.eq_6, ev.eq_7, ev.eq_8, ev.eq_9, ev.eq_10, ev.eq_11, ev.eq_12, ev.eq_13, ev.eq_14, ev.eq_15, ev.eq_16, ev.eq_17, ev.eq_18, ev.eq_19, ev.eq_20, ev.eq_21, ev.eq_22, ev.eq_23, ev.eq_24, ev.eq_25, ev.eq_26, ev.eq_27, ev.eq_28, ev.eq_29, ev.eq_30, ev.eq_31, ev.eq_33, ev.eq_34, ev.eq_35, ev.eq_36, ev.eq_37, ev.eq_38, ev.eq_39, ev.eq_40, ev.eq_41, ev.eq_42, ev.eq_43, ev.eq_44, ev.eq_45, cx_cf, cx_cm, cx_gl, cx_dc, cx_ci, evSs, evS, evT, evs, evSrc, evo, gt, st, d_sh, d_fr, isB, isI, Out.bind_ok, Out.bindB_ok, Out.chk_ok, Out.of_some, c_eqN, c_eqS, c, c2, ho, c3, s_grant, s_deny, s_doubt, n3, n4, Fl.res, big]
theorem part2_len (a b : List Int) : (meetF a b).length + (restF a b).length = a.length := by
  induction a with
  | nil => rfl
  | cons w a ih =>
    unfold meetF restF at *
    by_cases c : w ∈ b <;> simp [c] at ih ⊢ <;> omega
/-- the contrary answer -/
def Ans.con : Ans → Ans
  | .grant => .deny
  | .deny => .grant
  | .doubt => .doubt
theorem con_meet {a q o : List Int} (h : ∀ w ∈ a, w ∈ o ↔ ¬ w ∈ q) : meetF a o = restF a q := List.filter_congr fun w hw => by
  have := h w hw
  by_cases c : w ∈ q <;> simp [c, this]
theorem con_rest {a q o : List Int} (h : ∀ w ∈ a, w ∈ o ↔ ¬ w ∈ q) : restF a o = meetF a q := List.filter_congr fun w hw => by
  have := h w hw
  by_cases c : w ∈ q <;> simp [c, this]
theorem con_plain {a q o : List Int} (ha : a ≠ []) (h : ∀ w ∈ a, w ∈ o ↔ ¬ w ∈ q) : plainF a o = (plainF a q).con := by
  have p := part2_len a q
  have hp : 0 < a.length := List.length_pos_iff.mpr ha
  unfold plainF
  rw [con_meet h]
  by_cases c1 : meetF a q = []
  · have : (restF a q).length = a.length := by rw [c1] at p; simpa using p
    rw [if_pos this, c1, if_neg (by simp; omega), if_pos rfl]
    rfl
  · have c1' : 0 < (meetF a q).length := List.length_pos_iff.mpr c1
    rw [if_neg (by omega)]
    by_cases c2 : restF a q = []
    · have : (meetF a q).length = a.length := by rw [c2] at p; simpa using p
      rw [if_pos c2, if_pos this]
      rfl
    · have c2' : 0 < (restF a q).length := List.length_pos_iff.mpr c2
      rw [if_neg c2, if_neg (by omega), if_neg c1]
      rfl
theorem con_answer {sides : List (List Int)} {a seen q o : List Int} (ha : a ≠ []) (hs : seen ≠ []) (h : ∀ w ∈ a, w ∈ o ↔ ¬ w ∈ q) (h2 : ∀ w ∈ seen, w ∈ o ↔ ¬ w ∈ q) : answerF sides a seen o = (answerF sides a seen q).con := by
  have p := part2_len a q
  have hp : 0 < a.length := List.length_pos_iff.mpr ha
  unfold answerF
  rw [con_meet h, con_rest h, con_plain hs h2]
  by_cases c1 : restF a q = []
  · have : meetF a q ≠ [] := fun e => by rw [c1, e] at p; simp at p; omega
    rw [if_pos c1, if_neg this, if_pos c1]
    rfl
  · by_cases c2 : meetF a q = []
    · rw [if_pos c2, if_pos c2, if_neg c1]
      rfl
    · rw [if_neg c1, if_neg c1, if_neg c2, if_neg c2]
      cases plainF seen q
      · show (if standsF sides (meetF a q) = true then Ans.deny else .doubt) = Ans.con (if standsF sides (meetF a q) = true then .grant else .doubt)
        cases standsF sides (meetF a q) <;> rfl
      · show (if standsF sides (restF a q) = true then Ans.grant else .doubt) = Ans.con (if standsF sides (restF a q) = true then .deny else .doubt)
        cases standsF sides (restF a q) <;> rfl
      · rfl
theorem flats_rows (n : Nat) : ∀ rs : List (List Int), D.flatsTo (rows rs) (n + 1) = true
  | [] => rfl
  | r :: rs => by simp [rows_cons, D.flatsTo, D.flatTo, flats_row, flats_rows n rs]
theorem ev_copies {Γ : Ctx} {j k : Nat} {ρ : Env} {S : Store} {sd : List (List Int)} (hj : j < ρ.length) (hk : gt ρ k = .v (.lst (rows sd))) (hl : sd.length ≤ 100) : ev Γ (.comp [] (.list (.slot j)) j (.e (.slot k)) none) ρ S = .ok (.fr (rows sd)) ρ S := by
  have e : evSrc Γ (.e (.slot k)) ρ S = .ok (rows sd) ρ S := src_e (x := .sh (.lst (rows sd))) (by simp only [ev, hk]) rfl
  simp only [ev, e, Out.bind_ok, Out.bindB_ok, Out.chk_ok, shareAt]
  rw [compL_map id (rows sd) (fun d hd => ?_) (by rw [rows_len]; unfold big; omega)]
  · simp
  · obtain ⟨s, hs, rfl⟩ := List.mem_map.mp hd
    have h1 : gt (st (ρ.map Sl.mask) j (.v (.lst (row s)))) j = .v (.lst (row s)) := gt_st (by simpa using hj)
    exact ⟨st (ρ.map Sl.mask) j (.v (.lst (row s))), by simp only [evc, ev, h1, Out.bind_ok, Out.bindB_ok, Out.chk_ok, d_sh, list_row, Out.of_some, if_true, d_fr, id]⟩
theorem rows_get {rs : List (List Int)} {k : Nat} {r : List Int} (h : rs[k]? = some r) : (rows rs)[k]? = some (.lst (row r)) := by
  rw [rows, List.getElem?_map, h]
  rfl
theorem idx_rows {rs : List (List Int)} {k : Nat} {r : List Int} (h : rs[k]? = some r) : idxD (.lst (rows rs)) (.int k) = some (.lst (row r)) := by
  have hl := (List.getElem?_eq_some_iff.mp h).1
  simp only [idxD, ixN, rows_len]
  rw [if_pos (by omega), if_pos (by omega), Int.toNat_natCast]
  exact rows_get h
theorem idx_rows_last {rs : List (List Int)} {r : List Int} (h : rs[rs.length - 1]? = some r) : idxD (.lst (rows rs)) (.int (-1)) = some (.lst (row r)) := by
  have hl := (List.getElem?_eq_some_iff.mp h).1
  have e : (-1 + (rs.length : Int)).toNat = rs.length - 1 := by omega
  simp only [idxD, ixN, rows_len]
  rw [if_neg (by omega), if_pos (by omega), e]
  exact rows_get h
theorem pick_or {Γ : Ctx} {i j k l : Nat} {ρ : Env} {S : Store} {a b c : List Int} (hi : i < ρ.length) (hik : i ≠ k) (hil : i ≠ l) (ha : gt ρ j = .v (.lst (row a))) (hb : gt ρ k = .v (.lst (row b))) (hc : gt ρ l = .v (.lst (row c))) (hl : a.length ≤ 100) : ev Γ (.comp [] (.slot i) i (.e (.slot j)) (some (.or (.e (.cmp .In (.slot i) (.slot k))) (.e (.cmp .In (.slot i) (.slot l)))))) ρ S = .ok (.fr (row (a.filter fun w => decide (w ∈ b) || decide (w ∈ c)))) ρ S := by
  refine ev_pick hi (src_e (x := .sh (.lst (row a))) (by simp only [ev, ha]) rfl) (fun w _ => ?_) (by unfold big; omega)
  have h1 : gt (st (ρ.map Sl.mask) i (.v (.int w))) i = .v (.int w) := gt_st (by simpa using hi)
  have h2 : gt (st (ρ.map Sl.mask) i (.v (.int w))) k = .v (.lst (row b)) := by
    rw [lw_gt_ne hik, lw_gt_mask, hb]
    rfl
  have h3 : gt (st (ρ.map Sl.mask) i (.v (.int w))) l = .v (.lst (row c)) := by
    rw [lw_gt_ne hil, lw_gt_mask, hc]
    rfl
  cases q : decide (w ∈ b)
  · simp only [evT, ev, h1, h2, h3, Out.bind_ok, Out.bindB_ok, Out.chk_ok, d_sh, c_in, Out.of_some, isB, q, Bool.false_eq_true, if_false, Bool.false_or]
  · simp only [evT, ev, h1, h2, h3, Out.bind_ok, Out.bindB_ok, Out.chk_ok, d_sh, c_in, Out.of_some, isB, q, if_true, Bool.true_or]
end Ht

set_option linter.all false
set_option maxRecDepth 100000
set_option maxHeartbeats 1000000
namespace Ht
open PySem
def Sen.has : Sen → Int → Bool
  | .lt k, i => decide ((k : Int) = i)
  | .nt s, i => s.has i
  | .j2 _ s t, i => s.has i || t.has i
def fn_has_letter : Fn := ⟨2, 2, [
  .ite (.e (.cmp .Eq (.idx (.slot 0) (.int 0)) (.str "let"))) [
    .ret (.cmp .Eq (.idx (.slot 0) (.int 1)) (.slot 1))] [],
  .ite (.e (.cmp .Eq (.idx (.slot 0) (.int 0)) (.str "not"))) [
    .ret (.call "has_letter" [(.idx (.slot 0) (.int 1)), (.slot 1)])] [],
  .ret (.bor (.call "has_letter" [(.idx (.slot 0) (.int 1)), (.slot 1)]) (.call "has_letter" [(.idx (.slot 0) (.int 2)), (.slot 1)]))]⟩
theorem ok_has {T : Tab} (h : T.fn "has_letter" = some fn_has_letter) (i : Int) : ∀ (s : Sen) (f : Nat) (S : Store), s.depth < f → callF T f "has_letter" [s.d, .int i] S = .ok (.sh (.bl (s.has i))) S
  | .lt k, f + 1, S, _ => by
    rw [call_eq h rfl]
    simp [fn_has_letter, evSs, evS, evT, ev, evs, gt, st, d_sh, isB, Fl.res, Sen.d, idxD, ixN, c_eqS, c_eqI, s_let, Sen.has]
  | .nt s, f + 1, S, hd => by
    have ih := ok_has h i s f S (by simp only [Sen.depth] at hd; omega)
    rw [call_eq h rfl]
    simp [fn_has_letter, evSs, evS, evT, ev, evs, gt, st, d_sh, isB, Fl.res, Sen.d, idxD, ixN, c_eqS, s_let, s_not, not_ne_let, Sen.has, ih]
  | .j2 j s t, f + 1, S, hd => by
    have ih := ok_has h i s f S (by simp only [Sen.depth] at hd; omega)
    have ih2 := ok_has h i t f S (by simp only [Sen.depth] at hd; omega)
    rw [call_eq h rfl]
    simp [fn_has_letter, evSs, evS, evT, ev, evs, gt, st, d_sh, isB, Fl.res, Sen.d, idxD, ixN, c_eqS, s_let, s_not, j.ne_let, j.ne_not, Sen.has, ih, ih2]
    cases Sen.has s i <;> cases Sen.has t i <;> rfl
def fn_letters : Fn := ⟨1, 2, [
  .ret (.comp [] (.slot 1) 1 (.rng1 (.len (.glob "LETTERS"))) (some (.e (.call "has_letter" [(.slot 0), (.slot 1)]))))]⟩
theorem ok_letters {T : Tab} (h : T.fn "letters" = some fn_letters) (h1 : T.fn "has_letter" = some fn_has_letter) (g : T.gl "LETTERS" = some (.str [97, 98, 99, 100, 101])) {s : Sen} {f : Nat} (hd : s.depth < f) (S : Store) : callF T (f + 1) "letters" [s.d] S = .ok (.fr (row ((wl 5).filter s.has))) S := by
  rw [call_eq h rfl]
  simp only [fn_letters, evSs, evS, List.map_cons, List.map_nil, List.cons_append, List.nil_append, List.replicate, Nat.reduceSub]
  rw [ev_pick (r := wl 5) (p := s.has) (by simp) (src_rng1 (x := .sh (.int 5)) (by simp [ev, g, d_sh, lenD, big]) (rng_row (n := 5) (by decide) (by decide))) (fun w _ => by simp [evT, ev, evs, gt, st, Sl.mask, d_sh, isB, ok_has h1 w s f S hd]) (by simp [wl_len, big])]
  rfl
theorem insI_comm (x y : Int) : ∀ l : List Int, insI x (insI y l) = insI y (insI x l)
  | [] => by
    by_cases h : x ≤ y <;> by_cases h2 : y ≤ x <;> simp [insI, h, h2] <;> omega
  | z :: l => by
    have ih := insI_comm x y l
    by_cases h1 : x ≤ z <;> by_cases h2 : y ≤ z <;> by_cases h3 : x ≤ y <;> by_cases h4 : y ≤ x <;> simp [insI, h1, h2, h3, h4, ih] <;> omega
theorem sortI_mid (w : Int) (b : List Int) : ∀ a : List Int, sortI (a ++ w :: b) = insI w (sortI (a ++ b))
  | [] => rfl
  | x :: a => by
    show insI x (sortI (a ++ w :: b)) = insI w (insI x (sortI (a ++ b)))
    rw [sortI_mid w b a, insI_comm]
theorem insI_low {w : Int} : ∀ {r : List Int}, (∀ x ∈ r, w < x) → insI w r = w :: r
  | [], _ => rfl
  | x :: r, h => by
    have := h x (by simp)
    rw [insI, if_pos (by omega)]
theorem sortI_part (p : Int → Bool) : ∀ {r : List Int}, r.Pairwise (· < ·) → sortI (r.filter p ++ r.filter fun w => !p w) = r
  | [], _ => rfl
  | w :: r, h => by
    have ih := sortI_part p (List.pairwise_cons.mp h).2
    have lo := insI_low (List.pairwise_cons.mp h).1
    cases c : p w
    · simp only [List.filter_cons, c, Bool.false_eq_true, if_false, Bool.not_false, if_true]
      rw [sortI_mid, ih, lo]
    · simp only [List.filter_cons, c, if_true, Bool.not_true, Bool.false_eq_true, if_false, List.cons_append]
      show insI w (sortI _) = _
      rw [ih, lo]
theorem sortI_id : ∀ {r : List Int}, r.Pairwise (· < ·) → sortI r = r
  | [], _ => rfl
  | w :: r, h => by
    show insI w (sortI r) = _
    rw [sortI_id (List.pairwise_cons.mp h).2, insI_low (List.pairwise_cons.mp h).1]
theorem base_sorted (k : Kd) {r : List Int} (h : r.Pairwise (· < ·)) (s : Sen) : sortI (sidesF k r s).flatten = baseF r (sidesF k r s) := by
  have e1 : sortI (insF s r) = insF s r := sortI_id (h.sublist List.filter_sublist)
  have e2 : sortI (outsF s r) = outsF s r := sortI_id (h.sublist List.filter_sublist)
  cases k
  · simp only [sidesF, List.flatten_cons, List.flatten_nil, List.append_nil, e1, baseF, List.any_cons, List.any_nil, Bool.or_false]
    refine List.filter_congr fun w hw => ?_
    cases c : s.tr w <;> simp [insF, List.mem_filter, hw, c]
  · simp only [sidesF, List.flatten_cons, List.flatten_nil, List.append_nil, e2, baseF, List.any_cons, List.any_nil, Bool.or_false]
    refine List.filter_congr fun w hw => ?_
    cases c : s.tr w <;> simp [outsF, List.mem_filter, hw, c]
  · simp only [sidesF, List.flatten_cons, List.flatten_nil, List.append_nil]
    rw [show sortI (insF s r ++ outsF s r) = r from sortI_part s.tr h]
    symm
    refine List.filter_eq_self.mpr fun w hw => ?_
    cases c : s.tr w <;> simp [insF, outsF, List.mem_filter, hw, c]
theorem ints_row : ∀ r : List Int, intsOf (row r) = some r
  | [] => rfl
  | w :: r => by
    show (intsOf (row r)).map (w :: ·) = _
    rw [ints_row r]
    rfl
theorem sorted_row (r : List Int) : sortedD (.lst (row r)) = some (row (sortI r)) := by
  simp only [sortedD, ints_row, Option.map_some]
  rfl
def b1_base_of : List CS := [
    .asg false 1 (.bin .Add (.slot 1) (.slot 2))]
def fn_base_of : Fn := ⟨1, 3, [
  .asg false 1 (.lst []),
  .for1 2 (.e (.slot 0)) b1_base_of,
  .ret (.sorted (.slot 1))]⟩
theorem base_loop (Γ : Ctx) {S : Store} (x0 : Sl) : ∀ (sd : List (List Int)) (acc : List Int) (x2 : Sl), acc.length + sd.flatten.length ≤ big →
    ∃ y2, loopS (fun d ρ S => evSs Γ b1_base_of (st ρ 2 (.v d)) S) (rows sd) [x0, .v (.lst (row acc)), x2] S = .ok .nx [x0, .v (.lst (row (acc ++ sd.flatten))), y2] S
  | [], acc, x2, _ => ⟨x2, by simp [rows_nil, loopS]⟩
  | s :: sd, acc, x2, hl => by
    simp only [List.flatten_cons, List.length_append] at hl
    obtain ⟨y2, e⟩ := base_loop Γ (S := S) x0 sd (acc ++ s) (.v (.lst (row s))) (by simp only [List.length_append]; omega)
    refine ⟨y2, ?_⟩
    rw [rows_cons, loop_nx (ρ' := [x0, .v (.lst (row (acc ++ s))), .v (.lst (row s))]) (S' := S)]
    · rw [e, List.flatten_cons, List.append_assoc]
    · have : acc.length + s.length ≤ big := by omega
      simp [ev.eq_1, ev.eq_2, ev.eq_3, ev.eq_4, ev.eq_5, ev.eq_6, ev.eq_7, ev.eq_8, ev.eq_9, ev.eq_10, ev.eq_11, ev.eq_12, ev.eq_13, ev.eq_14, ev.eq_15, ev.eq_16, ev.eq_17, ev.eq_18, ev.eq_19, ev.eq_20, ev.eq_21, ev.eq_22, ev.eq_23, ev.eq_24, ev.eq_25, ev.eq_26, ev.eq_27, ev.eq_28, ev.eq_29, ev.eq_30, ev.eq_31, ev.eq_33, ev.eq_34, ev.eq_35, ev.eq_36, ev.eq_37, ev.eq_38, ev.eq_39, ev.eq_40, ev.eq_41, ev.eq_42, ev.eq_43, ev.eq_44, ev.eq_45, cx_cf, cx_cm, cx_gl, cx_dc, cx_ci, evSs, evS, evT, evs, evSrc, evo, gt, st, d_sh, d_fr, isB, isI, Out.bind_ok, Out.bindB_ok, Out.chk_ok, Out.of_some, b1_base_of, binD, row_len, this, row_app]
theorem ok_base_of {T : Tab} (h : T.fn "base_of" = some fn_base_of) (f : Nat) {sd : List (List Int)} (hl : sd.flatten.length ≤ big) (S : Store) : callF T (f + 1) "base_of" [.lst (rows sd)] S = .ok (.fr (row (sortI sd.flatten))) S := by
  rw [call_eq h rfl]
  obtain ⟨y2, e⟩ := base_loop (cx T f) (S := S) (.v (.lst (rows sd))) sd [] .no (by simpa using hl)
  simp only [fn_base_of, List.map_cons, List.map_nil, List.cons_append, List.nil_append, List.replicate, Nat.reduceSub]
  rw [evSs_nx (ρ' := [.v (.lst (rows sd)), .v (.lst (row [])), .no]) (S' := S) (by simp [ev.eq_1, ev.eq_2, ev.eq_3, ev.eq_4, ev.eq_5, ev.eq_6, ev.eq_7, ev.eq_8, ev.eq_9, ev.eq_10, ev.eq_11, ev.eq_12, ev.eq_13, ev.eq_14, ev.eq_15, ev.eq_16, ev.eq_17, ev.eq_18, ev.eq_19, ev.eq_20, ev.eq_21, ev.eq_22, ev.eq_23, ev.eq_24, ev.eq_25, ev.eq_26, ev.eq_27, ev.eq_28, ev.eq_29, ev.eq_30, ev.eq_31, ev.eq_33, ev.eq_34, ev.eq_35, ev.eq_36, ev.eq_37, ev.eq_38, ev.eq_39, ev.eq_40, ev.eq_41, ev.eq_42, ev.eq_43, ev.eq_44, ev.eq_45, cx_cf, cx_cm, cx_gl, cx_dc, cx_ci, evSs, evS, evT, evs, evSrc, evo, gt, st, d_sh, d_fr, isB, isI, Out.bind_ok, Out.bindB_ok, Out.chk_ok, Out.of_some, row_nil, big]), evSs_nx ((for1_eq (src_e (x := .sh (.lst (rows sd))) (by simp only [ev, gt]) rfl)).trans e)]
  simp [ev.eq_1, ev.eq_2, ev.eq_3, ev.eq_4, ev.eq_5, ev.eq_6, ev.eq_7, ev.eq_8, ev.eq_9, ev.eq_10, ev.eq_11, ev.eq_12, ev.eq_13, ev.eq_14, ev.eq_15, ev.eq_16, ev.eq_17, ev.eq_18, ev.eq_19, ev.eq_20, ev.eq_21, ev.eq_22, ev.eq_23, ev.eq_24, ev.eq_25, ev.eq_26, ev.eq_27, ev.eq_28, ev.eq_29, ev.eq_30, ev.eq_31, ev.eq_33, ev.eq_34, ev.eq_35, ev.eq_36, ev.eq_37, ev.eq_38, ev.eq_39, ev.eq_40, ev.eq_41, ev.eq_42, ev.eq_43, ev.eq_44, ev.eq_45, cx_cf, cx_cm, cx_gl, cx_dc, cx_ci, evSs, evS, evT, evs, evSrc, evo, gt, st, d_sh, d_fr, isB, isI, Out.bind_ok, Out.bindB_ok, Out.chk_ok, Out.of_some, sorted_row, Fl.res]
theorem rfrees_rows : ∀ rs : List (List Int), D.rfrees (rows rs) = true
  | [] => rfl
  | r :: rs => by simp [rows_cons, D.rfrees, rfree_row, rfrees_rows rs]
theorem rfree_rows (rs : List (List Int)) : D.rfree (.lst (rows rs)) = true := rfrees_rows rs
theorem rfree_bl (b : Bool) : D.rfree (.bl b) = true := rfl

/-! strange -/
theorem Sen.has_ok {m : Nat} (i : Int) : ∀ s : Sen, s.ok m → s.has i = true → 0 ≤ i ∧ i < m
  | .lt k, h, e => by
    simp only [Sen.has, decide_eq_true_eq] at e
    simp only [Sen.ok] at h
    omega
  | .nt s, h, e => Sen.has_ok i s h e
  | .j2 _ s t, h, e => by
    simp only [Sen.has, Bool.or_eq_true] at e
    rcases e with e | e
    · exact Sen.has_ok i s h.1 e
    · exact Sen.has_ok i t h.2 e
theorem Sen.has_one {m : Nat} : ∀ s : Sen, s.ok m → ∃ i : Int, s.has i = true ∧ 0 ≤ i ∧ i < m
  | .lt k, h => ⟨k, by simp [Sen.has], by omega, by simp only [Sen.ok] at h; omega⟩
  | .nt s, h => Sen.has_one s h
  | .j2 _ s t, h => by
    obtain ⟨i, h1, h2⟩ := Sen.has_one s h.1
    exact ⟨i, by simp [Sen.has, h1], h2⟩
theorem idx_last {r : List Int} (h : r ≠ []) : ∃ w ∈ r, idxD (.lst (row r)) (.int (-1)) = some (.int w) := by
  have hl : 0 < r.length := List.length_pos_iff.mpr h
  have e1 : (-1 + (r.length : Int)).toNat = r.length - 1 := by omega
  refine ⟨r[r.length - 1]'(by omega), List.getElem_mem _, ?_⟩
  have c : ¬ ((0 : Int) ≤ -1) := by decide
  have c2 : -(r.length : Int) ≤ -1 := by omega
  have e2 : (row r)[r.length - 1]? = some (.int (r[r.length - 1]'(by omega))) := by
    rw [row, List.getElem?_map, List.getElem?_eq_getElem (by omega)]
    rfl
  simp only [idxD, ixN, row_len, if_neg c, if_pos c2, Option.bind_some, e1, e2]
def fn_strange : Fn := ⟨2, 2, [
  .ret (.cmp .GtE (.idx (.call "letters" [(.slot 0)]) (.neg (.int 1))) (.slot 1))]⟩
theorem ok_strange {T : Tab} (h : T.fn "strange" = some fn_strange) (h0 : T.fn "letters" = some fn_letters) (h1 : T.fn "has_letter" = some fn_has_letter) (g : T.gl "LETTERS" = some (.str [97, 98, 99, 100, 101])) {s : Sen} {f : Nat} {m : Int} (hm : 0 ≤ m) (hm5 : m ≤ 5) (ho : s.ok m.toNat) (hd : s.depth < f) (S : Store) : callF T (f + 2) "strange" [s.d, .int m] S = .ok (.sh (.bl false)) S := by
  have hne : (wl 5).filter s.has ≠ [] := by
    obtain ⟨i, h1, h2, h3⟩ := s.has_one ho
    intro e
    have : i ∈ (wl 5).filter s.has := List.mem_filter.mpr ⟨mem_wl.mpr ⟨h2, by omega⟩, h1⟩
    rw [e] at this
    cases this
  obtain ⟨w, hw, e⟩ := idx_last hne
  have hw2 := (s.has_ok w ho (List.mem_filter.mp hw).2).2
  have c : ¬ m ≤ w := by omega
  rw [call_eq h rfl]
  simp [fn_strange, evSs, evS, ev, evs, gt, d_sh, d_fr, ok_letters h0 h1 g hd, e, c_ge, c, Fl.res]
/-! sides -/
def fn_sides_of : Fn := ⟨3, 6, [
  .ite (.e (.cmp .NotIn (.slot 1) (.glob "KINDS"))) [
    .rais "BadWord"] [],
  .asg false 3 (.call "worlds_of" [(.slot 2), (.slot 0)]),
  .asg false 4 (.call "rest" [(.slot 0), (.slot 3)]),
  .asg false 5 (.lst [(.slot 3), (.slot 4)]),
  .ite (.e (.cmp .Eq (.slot 1) (.str "true"))) [
    .asg false 5 (.lst [(.slot 3)])] [],
  .ite (.e (.cmp .Eq (.slot 1) (.str "false"))) [
    .asg false 5 (.lst [(.slot 4)])] [],
  .ite (.e (.cmp .In (.lst []) (.slot 5))) [
    .rais "NoStanding"] [],
  .retS 5]⟩
def dKinds : D := .tup [.str [116, 114, 117, 101], .str [102, 97, 108, 115, 101], .str [100, 111, 117, 98, 116]]
theorem rest_ins (s : Sen) (r : List Int) : restF r (insF s r) = outsF s r := List.filter_congr fun w hw => by
  cases c : s.tr w <;> simp [insF, List.mem_filter, hw, c]
theorem nil_in {sd : List (List Int)} (hne : sd ≠ []) (h : ∀ x ∈ sd, x ≠ []) : cmpD .In (.lst []) (.lst (rows sd)) = some false := by
  have e1 : (D.flat (.lst []) && (rows sd).all D.flat) = false := rfl
  have e2 : ((D.flatTo (.lst []) 62) && D.flatsTo (rows sd) 61) = true := by rw [flats_rows]; rfl
  have e3 : ((rows sd).any fun d => d.eqv (.lst [])) = false := by
    rw [List.any_eq_false]
    intro d hd
    obtain ⟨r, hr, rfl⟩ := List.mem_map.mp hd
    have := h r hr
    cases r with
    | nil => exact absurd rfl this
    | cons w r => simp [row_cons, D.eqv, D.eqvs]
  simp only [cmpD, e1, e2, e3, Bool.false_eq_true, if_false, if_true]
theorem kind_in (k : Kd) : cmpD .NotIn (.str k.s) dKinds = some false := by cases k <;> rfl
theorem kd_ne : Kd.s .fa ≠ Kd.s .tr ∧ Kd.s .db ≠ Kd.s .tr ∧ Kd.s .db ≠ Kd.s .fa ∧ Kd.s .tr ≠ Kd.s .fa := by decide
theorem ok_sides_of {T : Tab} (h : T.fn "sides_of" = some fn_sides_of) (h0 : T.fn "worlds_of" = some fn_worlds_of) (h1 : T.fn "true_in" = some fn_true_in) (h2 : T.fn "letter_true" = some fn_letter_true) (h3 : T.fn "rest" = some fn_rest) (g : T.gl "POWERS" = some dPowers) (g2 : T.gl "KINDS" = some dKinds)
    {s : Sen} {f : Nat} (ho : s.ok 5) (hd : s.depth + 1 < f) (k : Kd) {r : List Int} (hr : r.length ≤ 100) (hne : ∀ x ∈ sidesF k r s, x ≠ []) (S : Store) : callF T (f + 2) "sides_of" [.lst (row r), .str k.s, s.d] S = .ok (.sh (.lst (rows (sidesF k r s)))) S := by
  have e1 := ok_worlds_of h0 h1 h2 g ho hd (r := r) (by unfold big; omega) S
  have e2 := ok_rest h3 f (a := r) (b := insF s r) hr S
  rw [rest_ins] at e2
  obtain ⟨n1, n2, n3, n4⟩ := kd_ne
  have n5 : sidesF k r s ≠ [] := by cases k <;> simp [sidesF]
  have e3 := nil_in n5 hne
  rw [call_eq h rfl]
  rw [show r.filter s.tr = insF s r from rfl] at e1
  cases k <;> simp only [sidesF, rows_cons, rows_nil] at e3 ⊢ <;>
  simp [fn_sides_of, ev.eq_1, ev.eq_2, ev.eq_3, ev.eq_4, ev.eq_5, ev.eq_6, ev.eq_7, ev.eq_8, ev.eq_9, ev.eq_10, ev.eq_11, ev.eq_12, ev.eq_13, ev.eq_14, ev.eq_15, ev.eq_16, ev.eq_17, ev.eq_18, ev.eq_19, ev.eq_20, ev.eq_21, ev.eq_22, ev.eq_23, ev.eq_24, ev.eq_25, ev.eq_26, ev.eq_27, ev.eq_28, ev.eq_29, ev.eq_30, ev.eq_31, ev.eq_33, ev.eq_34, ev.eq_35, ev.eq_36, ev.eq_37, ev.eq_38, ev.eq_39, ev.eq_40, ev.eq_41, ev.eq_42, ev.eq_43, ev.eq_44, ev.eq_45, cx_cf, cx_cm, cx_gl, cx_dc, cx_ci, evSs, evS, evT, evs, evSrc, evo, gt, st, d_sh, d_fr, isB, isI, Out.bind_ok, Out.bindB_ok, Out.chk_ok, Out.of_some, g2, kind_in, e1, e2, big, c_eqS, s_tr, s_fa, n1, n2, n3, n4, e3, Fl.res]
def fn_leaves : Fn := ⟨3, 4, [
  .ite (.e (.cmp .NotIn (.slot 2) (.glob "ANSWERS"))) [
    .rais "BadWord"] [],
  .asg false 3 (.call "worlds_of" [(.slot 1), (.slot 0)]),
  .ite (.e (.cmp .Eq (.slot 2) (.str "grant"))) [
    .retS 3] [],
  .ite (.e (.cmp .Eq (.slot 2) (.str "deny"))) [
    .ret (.call "rest" [(.slot 0), (.slot 3)])] [],
  .ret (.list (.slot 0))]⟩
def dAnswers : D := .tup [.str [103, 114, 97, 110, 116], .str [100, 101, 110, 121], .str [100, 111, 117, 98, 116]]
theorem ans_in (k : Ans) : cmpD .NotIn (.str k.s) dAnswers = some false := by cases k <;> rfl
theorem an_ne : Ans.s .grant ≠ Ans.s .deny ∧ Ans.s .deny ≠ Ans.s .grant ∧ Ans.s .doubt ≠ Ans.s .grant ∧ Ans.s .doubt ≠ Ans.s .deny := by decide
/-- what an answer leaves of a row -/
def leftF (r : List Int) (s : Sen) : Ans → List Int
  | .grant => insF s r
  | .deny => outsF s r
  | .doubt => r
theorem left_sub (r : List Int) (s : Sen) (a : Ans) : (leftF r s a).Sublist r := by
  cases a
  · exact List.filter_sublist
  · exact List.filter_sublist
  · exact List.Sublist.refl _
theorem ok_leaves {T : Tab} (h : T.fn "leaves" = some fn_leaves) (h0 : T.fn "worlds_of" = some fn_worlds_of) (h1 : T.fn "true_in" = some fn_true_in) (h2 : T.fn "letter_true" = some fn_letter_true) (h3 : T.fn "rest" = some fn_rest) (g : T.gl "POWERS" = some dPowers) (g2 : T.gl "ANSWERS" = some dAnswers)
    {s : Sen} {f : Nat} (ho : s.ok 5) (hd : s.depth + 1 < f) (a : Ans) {r : List Int} (hr : r.length ≤ 100) (S : Store) : ∃ v, callF T (f + 2) "leaves" [.lst (row r), s.d, .str a.s] S = .ok v S ∧ v.d = .lst (row (leftF r s a)) := by
  have e1 := ok_worlds_of h0 h1 h2 g ho hd (r := r) (by unfold big; omega) S
  have e2 := ok_rest h3 f (a := r) (b := insF s r) hr S
  rw [rest_ins] at e2
  obtain ⟨n1, n2, n3, n4⟩ := an_ne
  rw [call_eq h rfl]
  rw [show r.filter s.tr = insF s r from rfl] at e1
  cases a
  · exact ⟨.sh (.lst (row (insF s r))), by simp [fn_leaves, ev.eq_1, ev.eq_2, ev.eq_3, ev.eq_4, ev.eq_5, ev.eq_6, ev.eq_7, ev.eq_8, ev.eq_9, ev.eq_10, ev.eq_11, ev.eq_12, ev.eq_13, ev.eq_14, ev.eq_15, ev.eq_16, ev.eq_17, ev.eq_18, ev.eq_19, ev.eq_20, ev.eq_21, ev.eq_22, ev.eq_23, ev.eq_24, ev.eq_25, ev.eq_26, ev.eq_27, ev.eq_28, ev.eq_29, ev.eq_30, ev.eq_31, ev.eq_33, ev.eq_34, ev.eq_35, ev.eq_36, ev.eq_37, ev.eq_38, ev.eq_39, ev.eq_40, ev.eq_41, ev.eq_42, ev.eq_43, ev.eq_44, ev.eq_45, cx_cf, cx_cm, cx_gl, cx_dc, cx_ci, evSs, evS, evT, evs, evSrc, evo, gt, st, d_sh, d_fr, isB, isI, Out.bind_ok, Out.bindB_ok, Out.chk_ok, Out.of_some, g2, ans_in, e1, e2, c_eqS, s_grant, s_deny, n1, n2, n3, n4, list_row, Fl.res], rfl⟩
  · exact ⟨.fr (row (outsF s r)), by simp [fn_leaves, ev.eq_1, ev.eq_2, ev.eq_3, ev.eq_4, ev.eq_5, ev.eq_6, ev.eq_7, ev.eq_8, ev.eq_9, ev.eq_10, ev.eq_11, ev.eq_12, ev.eq_13, ev.eq_14, ev.eq_15, ev.eq_16, ev.eq_17, ev.eq_18, ev.eq_19, ev.eq_20, ev.eq_21, ev.eq_22, ev.eq_23, ev.eq_24, ev.eq_25, ev.eq_26, ev.eq_27, ev.eq_28, ev.eq_29, ev.eq_30, ev.eq_31, ev.eq_33, ev.eq_34, ev.eq_35, ev.eq_36, ev.eq_37, ev.eq_38, ev.eq_39, ev.eq_40, ev.eq_41, ev.eq_42, ev.eq_43, ev.eq_44, ev.eq_45, cx_cf, cx_cm, cx_gl, cx_dc, cx_ci, evSs, evS, evT, evs, evSrc, evo, gt, st, d_sh, d_fr, isB, isI, Out.bind_ok, Out.bindB_ok, Out.chk_ok, Out.of_some, g2, ans_in, e1, e2, c_eqS, s_grant, s_deny, n1, n2, n3, n4, list_row, Fl.res], rfl⟩
  · exact ⟨.fr (row r), by simp [fn_leaves, ev.eq_1, ev.eq_2, ev.eq_3, ev.eq_4, ev.eq_5, ev.eq_6, ev.eq_7, ev.eq_8, ev.eq_9, ev.eq_10, ev.eq_11, ev.eq_12, ev.eq_13, ev.eq_14, ev.eq_15, ev.eq_16, ev.eq_17, ev.eq_18, ev.eq_19, ev.eq_20, ev.eq_21, ev.eq_22, ev.eq_23, ev.eq_24, ev.eq_25, ev.eq_26, ev.eq_27, ev.eq_28, ev.eq_29, ev.eq_30, ev.eq_31, ev.eq_33, ev.eq_34, ev.eq_35, ev.eq_36, ev.eq_37, ev.eq_38, ev.eq_39, ev.eq_40, ev.eq_41, ev.eq_42, ev.eq_43, ev.eq_44, ev.eq_45, cx_cf, cx_cm, cx_gl, cx_dc, cx_ci, evSs, evS, evT, evs, evSrc, evo, gt, st, d_sh, d_fr, isB, isI, Out.bind_ok, Out.bindB_ok, Out.chk_ok, Out.of_some, g2, ans_in, e1, e2, c_eqS, s_grant, s_deny, n1, n2, n3, n4, list_row, Fl.res], rfl⟩
end Ht

set_option linter.all false
set_option maxRecDepth 100000
set_option maxHeartbeats 1000000
namespace Ht
open PySem
theorem ev_comp {Γ : Ctx} {sh : List Nat} {elt : CE} {i : Nat} {src : Src} {cond : Option CT} {ρ ρ1 ρ2 : Env} {S S1 S2 : Store} {ds r : List D} (h1 : evSrc Γ src ρ S = .ok ds ρ1 S1)
    (h2 : compL (fun d S => (evc Γ cond (st ((shareAt ρ1 sh).map Sl.mask) i (.v d)) S).bind fun c ρ S => if c then (ev Γ elt ρ S).bind fun y ρ S => .ok (some y.d) ρ S else .ok none ρ S) ds S1 [] = .ok r ρ2 S2) : ev Γ (.comp sh elt i src cond) ρ S = .ok (.fr r) (shareAt ρ1 sh) S2 := by
  rw [ev, h1]
  simp only [Out.bind_ok, Out.bindB_ok, Out.chk_ok]
  rw [h2]
/-! ### a talk, and its methods -/
structure Tk where
  m : Int
  kd : Kd
  sen : Sen
  el : Bool
  room : List Int
  left : List Int
  said : List (Sen × Ans)
  elders : List (List Int)
  ended : Bool
def ruleS : Bool → List Nat
  | true => [101, 108, 100, 101, 114]
  | false => [110, 101, 119, 101, 114]
theorem s_elder : (Str.ofString "elder").cps.toList = ruleS true := by decide +kernel
theorem s_newer : (Str.ofString "newer").cps.toList = ruleS false := by decide +kernel
theorem rule_ne : ruleS false ≠ ruleS true ∧ ruleS true ≠ ruleS false := by decide
theorem rule_el (b : Bool) : decide (ruleS b = ruleS true) = b := by cases b <;> decide
def sayD (p : Sen × Ans) : D := .tup [p.1.d, .str p.2.s]
def Tk.sides (t : Tk) : List (List Int) := sidesF t.kd t.room t.sen
def Tk.base (t : Tk) : List Int := baseF t.room t.sides
def Tk.going (t : Tk) : List Int := if t.el then t.left else t.base
def Tk.fs (t : Tk) : List (Str × Sl) := [("many", .v (.int t.m)), ("kind", .v (.str t.kd.s)), ("sentence", .v t.sen.d), ("rule", .v (.str (ruleS t.el))), ("place", .v (.lst (row t.room))), ("parts", .v (.lst (rows t.sides))), ("left", .v (.lst (row t.left))),
  ("said", .own (t.said.map sayD)), ("elders", .own (t.elders.map fun r => .lst (row r))), ("ended", .v (.bl t.ended))]
abbrev Tk.cell (t : Tk) : Cell := .obj "Talk" t.fs
theorem fl_many {S : Store} {k : Nat} {t : Tk} (h : S[k]? = some t.cell) : fldAt S k "many" = .v (.int t.m) := by simp only [fldAt, h]; rfl
theorem fl_kind {S : Store} {k : Nat} {t : Tk} (h : S[k]? = some t.cell) : fldAt S k "kind" = .v (.str t.kd.s) := by simp only [fldAt, h]; rfl
theorem fl_sentence {S : Store} {k : Nat} {t : Tk} (h : S[k]? = some t.cell) : fldAt S k "sentence" = .v t.sen.d := by simp only [fldAt, h]; rfl
theorem fl_rule {S : Store} {k : Nat} {t : Tk} (h : S[k]? = some t.cell) : fldAt S k "rule" = .v (.str (ruleS t.el)) := by simp only [fldAt, h]; rfl
theorem fl_place {S : Store} {k : Nat} {t : Tk} (h : S[k]? = some t.cell) : fldAt S k "place" = .v (.lst (row t.room)) := by simp only [fldAt, h]; rfl
theorem fl_parts {S : Store} {k : Nat} {t : Tk} (h : S[k]? = some t.cell) : fldAt S k "parts" = .v (.lst (rows t.sides)) := by simp only [fldAt, h]; rfl
theorem fl_left {S : Store} {k : Nat} {t : Tk} (h : S[k]? = some t.cell) : fldAt S k "left" = .v (.lst (row t.left)) := by simp only [fldAt, h]; rfl
theorem fl_said {S : Store} {k : Nat} {t : Tk} (h : S[k]? = some t.cell) : fldAt S k "said" = .own (t.said.map sayD) := by simp only [fldAt, h]; rfl
theorem fl_elders {S : Store} {k : Nat} {t : Tk} (h : S[k]? = some t.cell) : fldAt S k "elders" = .own (t.elders.map fun r => .lst (row r)) := by simp only [fldAt, h]; rfl
theorem fl_ended {S : Store} {k : Nat} {t : Tk} (h : S[k]? = some t.cell) : fldAt S k "ended" = .v (.bl t.ended) := by simp only [fldAt, h]; rfl
theorem st_left {S : Store} {k : Nat} {t : Tk} (h : S[k]? = some t.cell) (r : List Int) : setFld S k "left" (.v (.lst (row r))) = S.set k { t with left := r }.cell := by simp only [setFld, h]; rfl
theorem st_said {S : Store} {k : Nat} {t : Tk} (h : S[k]? = some t.cell) (l : List (Sen × Ans)) : setFld S k "said" (.own (l.map sayD)) = S.set k { t with said := l }.cell := by simp only [setFld, h]; rfl
theorem st_elders {S : Store} {k : Nat} {t : Tk} (h : S[k]? = some t.cell) (l : List (List Int)) : setFld S k "elders" (.own (l.map fun r => .lst (row r))) = S.set k { t with elders := l }.cell := by simp only [setFld, h]; rfl
theorem st_ended {S : Store} {k : Nat} {t : Tk} (h : S[k]? = some t.cell) (b : Bool) : setFld S k "ended" (.v (.bl b)) = S.set k { t with ended := b }.cell := by simp only [setFld, h]; rfl
theorem fs_len (t : Tk) : t.fs.length = 10 := rfl
theorem nf_room (t : Tk) : hasF t.fs "room" = false := rfl
theorem nf_sides (t : Tk) : hasF t.fs "sides" = false := rfl
theorem nf_base (t : Tk) : hasF t.fs "base" = false := rfl
theorem nf_held (t : Tk) : hasF t.fs "held" = false := rfl
theorem nf_going (t : Tk) : hasF t.fs "going" = false := rfl
theorem nf_entries (t : Tk) : hasF t.fs "entries" = false := rfl
theorem nf_caught (t : Tk) : hasF t.fs "caught" = false := rfl
theorem nf_over (t : Tk) : hasF t.fs "over" = false := rfl
theorem nf_open (t : Tk) : hasF t.fs "open_for" = false := rfl
theorem nf_ask (t : Tk) : hasF t.fs "ask" = false := rfl
theorem nf_say (t : Tk) : hasF t.fs "say" = false := rfl
theorem nf_back (t : Tk) : hasF t.fs "back" = false := rfl
theorem nf_fork (t : Tk) : hasF t.fs "fork" = false := rfl
theorem nf_end (t : Tk) : hasF t.fs "end" = false := rfl
theorem callM_eq {T : Tab} {c m : Str} {fn : Fn} {ds : List D} {S : Store} {n : Nat} (h : T.mt c m = some fn) (hl : ds.length = fn.np) : callM T (n + 1) c m ds S = Fl.res (evSs (cx T n) fn.body (ds.map .v ++ List.replicate (fn.nl - fn.np) .no) S) := by simp only [callM_succ, h, runF, hl, if_true]
theorem get_set_self {S : Store} {k : Nat} {c d : Cell} (h : S[k]? = some c) : (S.set k d)[k]? = some d := List.getElem?_set_self (List.getElem?_eq_some_iff.mp h).1
theorem get_set_ne {S : Store} {j k : Nat} {d : Cell} (h : k ≠ j) : (S.set k d)[j]? = S[j]? := List.getElem?_set_ne h
theorem set_set (S : Store) (k : Nat) (c d : Cell) : (S.set k c).set k d = S.set k d := List.set_set ..

/-! making -/
theorem fl_new {S : Store} {fs : List (Str × Sl)} {f : Str} : fldAt (S ++ [.obj "Talk" fs]) S.length f = fget fs f := by simp [fldAt]
theorem st_new {S : Store} {fs : List (Str × Sl)} {f : Str} {y : Sl} : setFld (S ++ [.obj "Talk" fs]) S.length f y = S ++ [.obj "Talk" (fput f y fs)] := by simp [setFld]
theorem at_new {S : Store} {c : Cell} : (S ++ [c])[S.length]? = some c := by simp
theorem ev_fset_new {Γ : Ctx} {own : Bool} {f : Str} {e : CE} {S : Store} {fs : List (Str × Sl)} {ρ : Env} {y : Rv} (he : ev Γ e ρ (S ++ [.obj "Talk" fs]) = .ok y ρ (S ++ [.obj "Talk" fs])) (ha : gt ρ 0 = .v (.ref S.length)) (hl : fs.length < 999) : evS Γ (.fset own (.slot 0) f e) ρ (S ++ [.obj "Talk" fs]) = .ok .nx ρ (S ++ [.obj "Talk" (fput f (ownSl own y) fs)]) := by
  simp only [evS, he, Out.bind_ok, Out.bindB_ok, Out.chk_ok, ev, ha, at_new, hl, if_true, st_new]
def dRules : D := .tup [.str [101, 108, 100, 101, 114], .str [110, 101, 119, 101, 114]]
theorem rule_in (b : Bool) : cmpD .NotIn (.str (ruleS b)) dRules = some false := by cases b <;> rfl
def fn_Talk___init__ : Fn := ⟨6, 6, [
  .ite (.e (.call "strange" [(.slot 4), (.slot 1)])) [
    .rais "StrangeLetter"] [],
  .ite (.e (.cmp .NotIn (.slot 5) (.glob "RULES"))) [
    .rais "BadWord"] [],
  .fset false (.slot 0) "many" (.slot 1),
  .fset false (.slot 0) "kind" (.slot 3),
  .fset false (.slot 0) "sentence" (.slot 4),
  .fset false (.slot 0) "rule" (.slot 5),
  .fset false (.slot 0) "place" (.list (.slot 2)),
  .fset false (.slot 0) "parts" (.call "sides_of" [(.slot 2), (.slot 3), (.slot 4)]),
  .fset false (.slot 0) "left" (.call "base_of" [(.fld (.slot 0) "parts")]),
  .fset true (.slot 0) "said" (.lst []),
  .fset true (.slot 0) "elders" (.lst []),
  .fset false (.slot 0) "ended" (.bl false)]⟩
/-- what the program has for making a talk -/
structure PInit (T : Tab) : Prop where
  strange : T.fn "strange" = some fn_strange
  letters : T.fn "letters" = some fn_letters
  has_letter : T.fn "has_letter" = some fn_has_letter
  worlds_of : T.fn "worlds_of" = some fn_worlds_of
  true_in : T.fn "true_in" = some fn_true_in
  letter_true : T.fn "letter_true" = some fn_letter_true
  rest : T.fn "rest" = some fn_rest
  sides_of : T.fn "sides_of" = some fn_sides_of
  base_of : T.fn "base_of" = some fn_base_of
  m_init : T.mt "Talk" "__init__" = some fn_Talk___init__
  g_LETTERS : T.gl "LETTERS" = some (.str [97, 98, 99, 100, 101])
  g_POWERS : T.gl "POWERS" = some dPowers
  g_KINDS : T.gl "KINDS" = some dKinds
  g_RULES : T.gl "RULES" = some dRules
/-- what is true of a talk's fields at all times -/
structure Tk.ok (t : Tk) : Prop where
  m1 : 1 ≤ t.m
  m5 : t.m ≤ 5
  so : t.sen.ok t.m.toNat
  sd : t.sen.depth ≤ 29
  rl : t.room.length ≤ 32
  rs : t.room.Pairwise (· < ·)
  ne : ∀ x ∈ t.sides, x ≠ []
  ll : t.left.Sublist t.base
theorem sides_each (k : Kd) (r : List Int) (s : Sen) : ∀ x ∈ sidesF k r s, x.Sublist r := by
  intro x hx
  cases k <;> simp only [sidesF, List.mem_cons, List.not_mem_nil, or_false] at hx
  · subst hx; exact List.filter_sublist
  · subst hx; exact List.filter_sublist
  · rcases hx with h | h <;> (subst h; exact List.filter_sublist)
theorem sides_flat (k : Kd) (r : List Int) (s : Sen) : (sidesF k r s).flatten.length ≤ 2 * r.length := by
  have h1 := ins_len s r
  have h2 := outs_len s r
  cases k <;> simp [sidesF] <;> omega
def mkTk (m : Int) (k : Kd) (s : Sen) (el : Bool) (r : List Int) : Tk := ⟨m, k, s, el, r, baseF r (sidesF k r s), [], [], false⟩
theorem Sen.ok5 {s : Sen} {m : Int} (h5 : m ≤ 5) (h : s.ok m.toNat) : s.ok 5 := s.ok_mono (by omega) h
theorem ok_init {T : Tab} (P : PInit T) {m : Int} {k : Kd} {s : Sen} {el : Bool} {r : List Int} {f : Nat} (h1 : 1 ≤ m) (h5 : m ≤ 5) (ho : s.ok m.toNat) (hd : s.depth + 2 < f) (hr : r.length ≤ 100) (hs : r.Pairwise (· < ·)) (hne : ∀ x ∈ sidesF k r s, x ≠ []) (S : Store) :
    callM T (f + 3) "Talk" "__init__" [.ref S.length, .int m, .lst (row r), .str k.s, s.d, .str (ruleS el)] (S ++ [.obj "Talk" []]) = .ok (.sh .non) (S ++ [(mkTk m k s el r).cell]) := by
  have o5 := s.ok5 h5 ho
  have a1 := fun S => ok_strange P.strange P.letters P.has_letter P.g_LETTERS (s := s) (f := f) (m := m) (by omega) h5 ho (by omega) S
  have a2 := fun S => ok_sides_of P.sides_of P.worlds_of P.true_in P.letter_true P.rest P.g_POWERS P.g_KINDS o5 (f := f) (by omega) k (r := r) (by omega) hne S
  have sf := sides_flat k r s
  have a3 := fun S => ok_base_of P.base_of (f + 1) (sd := sidesF k r s) (by unfold big; omega) S
  rw [base_sorted k hs s] at a3
  rw [callM_eq P.m_init rfl]
  simp only [fn_Talk___init__, List.map_cons, List.map_nil, List.cons_append, List.nil_append, List.replicate, Nat.reduceSub]
  rw [evSs_nx (ρ' := [.v (.ref S.length), .v (.int m), .v (.lst (row r)), .v (.str k.s), .v s.d, .v (.str (ruleS el))]) (S' := S ++ [.obj "Talk" []]) (by simp [ev.eq_1, ev.eq_2, ev.eq_3, ev.eq_4, ev.eq_5, ev.eq_6, ev.eq_7, ev.eq_8, ev.eq_9, ev.eq_10, ev.eq_11, ev.eq_12, ev.eq_13, ev.eq_14, ev.eq_15, ev.eq_16, ev.eq_17, ev.eq_18, ev.eq_19, ev.eq_20, ev.eq_21, ev.eq_22, ev.eq_23, ev.eq_24, ev.eq_25, ev.eq_26, ev.eq_27, ev.eq_28, ev.eq_29, ev.eq_30, ev.eq_31, ev.eq_33, ev.eq_34, ev.eq_35, ev.eq_36, ev.eq_37, ev.eq_38, ev.eq_39, ev.eq_40, ev.eq_41, ev.eq_42, ev.eq_43, ev.eq_44, ev.eq_45, cx_cf, cx_cm, cx_gl, cx_dc, cx_ci, evSs, evS, evT, evs, evSrc, evo, gt, st, d_sh, d_fr, isB, isI, Out.bind_ok, Out.bindB_ok, Out.chk_ok, Out.of_some, a1])]
  rw [evSs_nx (ρ' := [.v (.ref S.length), .v (.int m), .v (.lst (row r)), .v (.str k.s), .v s.d, .v (.str (ruleS el))]) (S' := S ++ [.obj "Talk" []]) (by simp [ev.eq_1, ev.eq_2, ev.eq_3, ev.eq_4, ev.eq_5, ev.eq_6, ev.eq_7, ev.eq_8, ev.eq_9, ev.eq_10, ev.eq_11, ev.eq_12, ev.eq_13, ev.eq_14, ev.eq_15, ev.eq_16, ev.eq_17, ev.eq_18, ev.eq_19, ev.eq_20, ev.eq_21, ev.eq_22, ev.eq_23, ev.eq_24, ev.eq_25, ev.eq_26, ev.eq_27, ev.eq_28, ev.eq_29, ev.eq_30, ev.eq_31, ev.eq_33, ev.eq_34, ev.eq_35, ev.eq_36, ev.eq_37, ev.eq_38, ev.eq_39, ev.eq_40, ev.eq_41, ev.eq_42, ev.eq_43, ev.eq_44, ev.eq_45, cx_cf, cx_cm, cx_gl, cx_dc, cx_ci, evSs, evS, evT, evs, evSrc, evo, gt, st, d_sh, d_fr, isB, isI, Out.bind_ok, Out.bindB_ok, Out.chk_ok, Out.of_some, P.g_RULES, rule_in])]
  rw [evSs_nx (ρ' := [.v (.ref S.length), .v (.int m), .v (.lst (row r)), .v (.str k.s), .v s.d, .v (.str (ruleS el))]) (S' := S ++ [.obj "Talk" [("many", .v (.int m))]]) (ev_fset_new (fs := []) (y := .sh (.int m)) (by simp only [ev, gt]) rfl (by simp))]
  rw [evSs_nx (ρ' := [.v (.ref S.length), .v (.int m), .v (.lst (row r)), .v (.str k.s), .v s.d, .v (.str (ruleS el))]) (S' := S ++ [.obj "Talk" [("many", .v (.int m)), ("kind", .v (.str k.s))]]) (ev_fset_new (fs := [("many", .v (.int m))]) (y := .sh (.str k.s)) (by simp only [ev, gt]) rfl (by simp))]
  rw [evSs_nx (ρ' := [.v (.ref S.length), .v (.int m), .v (.lst (row r)), .v (.str k.s), .v s.d, .v (.str (ruleS el))]) (S' := S ++ [.obj "Talk" [("many", .v (.int m)), ("kind", .v (.str k.s)), ("sentence", .v s.d)]]) (ev_fset_new (fs := [("many", .v (.int m)), ("kind", .v (.str k.s))]) (y := .sh s.d) (by simp only [ev, gt]) rfl (by simp))]
  rw [evSs_nx (ρ' := [.v (.ref S.length), .v (.int m), .v (.lst (row r)), .v (.str k.s), .v s.d, .v (.str (ruleS el))]) (S' := S ++ [.obj "Talk" [("many", .v (.int m)), ("kind", .v (.str k.s)), ("sentence", .v s.d), ("rule", .v (.str (ruleS el)))]]) (ev_fset_new (fs := [("many", .v (.int m)), ("kind", .v (.str k.s)), ("sentence", .v s.d)]) (y := .sh (.str (ruleS el))) (by simp only [ev, gt]) rfl (by simp))]
  rw [evSs_nx (ρ' := [.v (.ref S.length), .v (.int m), .v (.lst (row r)), .v (.str k.s), .v s.d, .v (.str (ruleS el))]) (S' := S ++ [.obj "Talk" [("many", .v (.int m)), ("kind", .v (.str k.s)), ("sentence", .v s.d), ("rule", .v (.str (ruleS el))), ("place", .v (.lst (row r)))]]) (ev_fset_new (fs := [("many", .v (.int m)), ("kind", .v (.str k.s)), ("sentence", .v s.d), ("rule", .v (.str (ruleS el)))]) (y := .fr (row r)) (by simp only [ev, gt, Out.bind_ok, Out.bindB_ok, Out.chk_ok, d_sh, list_row, Out.of_some]) rfl (by simp))]
  rw [evSs_nx (ρ' := [.v (.ref S.length), .v (.int m), .v (.lst (row r)), .v (.str k.s), .v s.d, .v (.str (ruleS el))]) (S' := S ++ [.obj "Talk" [("many", .v (.int m)), ("kind", .v (.str k.s)), ("sentence", .v s.d), ("rule", .v (.str (ruleS el))), ("place", .v (.lst (row r))), ("parts", .v (.lst (rows (sidesF k r s))))]]) (ev_fset_new (fs := [("many", .v (.int m)), ("kind", .v (.str k.s)), ("sentence", .v s.d), ("rule", .v (.str (ruleS el))), ("place", .v (.lst (row r)))]) (y := .sh (.lst (rows (sidesF k r s)))) (by simp only [ev, evs, gt, Out.bind_ok, Out.bindB_ok, Out.chk_ok, d_sh, a2]) rfl (by simp))]
  rw [evSs_nx (ρ' := [.v (.ref S.length), .v (.int m), .v (.lst (row r)), .v (.str k.s), .v s.d, .v (.str (ruleS el))]) (S' := S ++ [.obj "Talk" [("many", .v (.int m)), ("kind", .v (.str k.s)), ("sentence", .v s.d), ("rule", .v (.str (ruleS el))), ("place", .v (.lst (row r))), ("parts", .v (.lst (rows (sidesF k r s)))), ("left", .v (.lst (row (baseF r (sidesF k r s)))))]]) (ev_fset_new (fs := [("many", .v (.int m)), ("kind", .v (.str k.s)), ("sentence", .v s.d), ("rule", .v (.str (ruleS el))), ("place", .v (.lst (row r))), ("parts", .v (.lst (rows (sidesF k r s))))]) (y := .fr (row (baseF r (sidesF k r s)))) (by simp only [ev, evs, gt, Out.bind_ok, Out.bindB_ok, Out.chk_ok, d_sh, fl_new]; rw [show fget ([("many", .v (.int m)), ("kind", .v (.str k.s)), ("sentence", .v s.d), ("rule", .v (.str (ruleS el))), ("place", .v (.lst (row r))), ("parts", .v (.lst (rows (sidesF k r s))))] : List (Str × Sl)) "parts" = .v (.lst (rows (sidesF k r s))) from rfl]; simp only [Out.bind_ok, Out.bindB_ok, Out.chk_ok, d_sh, a3]) rfl (by simp))]
  rw [evSs_nx (ρ' := [.v (.ref S.length), .v (.int m), .v (.lst (row r)), .v (.str k.s), .v s.d, .v (.str (ruleS el))]) (S' := S ++ [.obj "Talk" [("many", .v (.int m)), ("kind", .v (.str k.s)), ("sentence", .v s.d), ("rule", .v (.str (ruleS el))), ("place", .v (.lst (row r))), ("parts", .v (.lst (rows (sidesF k r s)))), ("left", .v (.lst (row (baseF r (sidesF k r s))))), ("said", .own [])]]) (ev_fset_new (fs := [("many", .v (.int m)), ("kind", .v (.str k.s)), ("sentence", .v s.d), ("rule", .v (.str (ruleS el))), ("place", .v (.lst (row r))), ("parts", .v (.lst (rows (sidesF k r s)))), ("left", .v (.lst (row (baseF r (sidesF k r s)))))]) (y := .fr []) (by simp [ev, evs, big]) rfl (by simp))]
  rw [evSs_nx (ρ' := [.v (.ref S.length), .v (.int m), .v (.lst (row r)), .v (.str k.s), .v s.d, .v (.str (ruleS el))]) (S' := S ++ [.obj "Talk" [("many", .v (.int m)), ("kind", .v (.str k.s)), ("sentence", .v s.d), ("rule", .v (.str (ruleS el))), ("place", .v (.lst (row r))), ("parts", .v (.lst (rows (sidesF k r s)))), ("left", .v (.lst (row (baseF r (sidesF k r s))))), ("said", .own []), ("elders", .own [])]]) (ev_fset_new (fs := [("many", .v (.int m)), ("kind", .v (.str k.s)), ("sentence", .v s.d), ("rule", .v (.str (ruleS el))), ("place", .v (.lst (row r))), ("parts", .v (.lst (rows (sidesF k r s)))), ("left", .v (.lst (row (baseF r (sidesF k r s))))), ("said", .own [])]) (y := .fr []) (by simp [ev, evs, big]) rfl (by simp))]
  rw [evSs_nx (ρ' := [.v (.ref S.length), .v (.int m), .v (.lst (row r)), .v (.str k.s), .v s.d, .v (.str (ruleS el))]) (S' := S ++ [.obj "Talk" [("many", .v (.int m)), ("kind", .v (.str k.s)), ("sentence", .v s.d), ("rule", .v (.str (ruleS el))), ("place", .v (.lst (row r))), ("parts", .v (.lst (rows (sidesF k r s)))), ("left", .v (.lst (row (baseF r (sidesF k r s))))), ("said", .own []), ("elders", .own []), ("ended", .v (.bl false))]]) (ev_fset_new (fs := [("many", .v (.int m)), ("kind", .v (.str k.s)), ("sentence", .v s.d), ("rule", .v (.str (ruleS el))), ("place", .v (.lst (row r))), ("parts", .v (.lst (rows (sidesF k r s)))), ("left", .v (.lst (row (baseF r (sidesF k r s))))), ("said", .own []), ("elders", .own [])]) (y := .sh (.bl false)) (by simp only [ev]) rfl (by simp))]
  rfl
/-- Talk(..) -/
theorem ev_make {T : Tab} (P : PInit T) {m : Int} {k : Kd} {s : Sen} {el : Bool} {r : List Int} {f : Nat} (h1 : 1 ≤ m) (h5 : m ≤ 5) (ho : s.ok m.toNat) (hd : s.depth + 2 < f) (hr : r.length ≤ 100) (hs : r.Pairwise (· < ·)) (hne : ∀ x ∈ sidesF k r s, x ≠ []) {as : List CE} {ρ ρ' : Env} {S S' : Store}
    (ha : evs (cx T (f + 4)) as ρ S = .ok [.int m, .lst (row r), .str k.s, s.d, .str (ruleS el)] ρ' S') : ev (cx T (f + 4)) (.make "Talk" as) ρ S = .ok (.sh (.ref S'.length)) ρ' (S' ++ [(mkTk m k s el r).cell]) := by
  have e : (callP T (f + 4)).snd (.m "Talk" "__init__") [.ref S'.length, .int m, .lst (row r), .str k.s, s.d, .str (ruleS el)] (S' ++ [.obj "Talk" []]) = .ok (.sh .non) (S' ++ [(mkTk m k s el r).cell]) := ok_init P (el := el) h1 h5 ho hd hr hs hne S'
  simp only [ev, ha, Out.bind_ok, Out.bindB_ok, Out.chk_ok, e]

end Ht

set_option linter.all false
set_option maxRecDepth 100000
set_option maxHeartbeats 400000
namespace Ht
open PySem
/-! looking -/
def fn_Talk_room : Fn := ⟨1, 1, [
  .ret (.list (.fld (.slot 0) "place"))]⟩
def fn_Talk_sides : Fn := ⟨1, 2, [
  .ret (.comp [] (.list (.slot 1)) 1 (.e (.fld (.slot 0) "parts")) none)]⟩
def fn_Talk_base : Fn := ⟨1, 1, [
  .ret (.call "base_of" [(.fld (.slot 0) "parts")])]⟩
def fn_Talk_held : Fn := ⟨1, 1, [
  .ret (.list (.fld (.slot 0) "left"))]⟩
def fn_Talk_going : Fn := ⟨1, 1, [
  .ite (.e (.cmp .Eq (.fld (.slot 0) "rule") (.str "elder"))) [
    .ret (.meth (.slot 0) "held" [])] [],
  .ret (.meth (.slot 0) "base" [])]⟩
def fn_Talk_entries : Fn := ⟨1, 1, [
  .ret (.flist (.slot 0) "said")]⟩
def fn_Talk_caught : Fn := ⟨1, 1, [
  .ret (.nt (.call "stands" [(.fld (.slot 0) "parts"), (.fld (.slot 0) "left")]))]⟩
def fn_Talk_over : Fn := ⟨1, 1, [
  .ret (.fld (.slot 0) "ended")]⟩
section
variable {T : Tab} {S : Store} {k : Nat} {t : Tk}
theorem m_room (h : T.mt "Talk" "room" = some fn_Talk_room) (f : Nat) (hk : S[k]? = some t.cell) : callM T (f + 1) "Talk" "room" [.ref k] S = .ok (.fr (row t.room)) S := by
  rw [callM_eq h rfl]
  simp [fn_Talk_room, ev.eq_1, ev.eq_2, ev.eq_3, ev.eq_4, ev.eq_5, ev.eq_6, ev.eq_7, ev.eq_8, ev.eq_9, ev.eq_10, ev.eq_11, ev.eq_12, ev.eq_13, ev.eq_14, ev.eq_15, ev.eq_16, ev.eq_17, ev.eq_18, ev.eq_19, ev.eq_20, ev.eq_21, ev.eq_22, ev.eq_23, ev.eq_24, ev.eq_25, ev.eq_26, ev.eq_27, ev.eq_28, ev.eq_29, ev.eq_30, ev.eq_31, ev.eq_33, ev.eq_34, ev.eq_35, ev.eq_36, ev.eq_37, ev.eq_38, ev.eq_39, ev.eq_40, ev.eq_41, ev.eq_42, ev.eq_43, ev.eq_44, ev.eq_45, cx_cf, cx_cm, cx_gl, cx_dc, cx_ci, evSs, evS, evT, evs, evSrc, evo, gt, st, d_sh, d_fr, isB, isI, Out.bind_ok, Out.bindB_ok, Out.chk_ok, Out.of_some, fl_place hk, list_row, Fl.res]
theorem m_held (h : T.mt "Talk" "held" = some fn_Talk_held) (f : Nat) (hk : S[k]? = some t.cell) : callM T (f + 1) "Talk" "held" [.ref k] S = .ok (.fr (row t.left)) S := by
  rw [callM_eq h rfl]
  simp [fn_Talk_held, ev.eq_1, ev.eq_2, ev.eq_3, ev.eq_4, ev.eq_5, ev.eq_6, ev.eq_7, ev.eq_8, ev.eq_9, ev.eq_10, ev.eq_11, ev.eq_12, ev.eq_13, ev.eq_14, ev.eq_15, ev.eq_16, ev.eq_17, ev.eq_18, ev.eq_19, ev.eq_20, ev.eq_21, ev.eq_22, ev.eq_23, ev.eq_24, ev.eq_25, ev.eq_26, ev.eq_27, ev.eq_28, ev.eq_29, ev.eq_30, ev.eq_31, ev.eq_33, ev.eq_34, ev.eq_35, ev.eq_36, ev.eq_37, ev.eq_38, ev.eq_39, ev.eq_40, ev.eq_41, ev.eq_42, ev.eq_43, ev.eq_44, ev.eq_45, cx_cf, cx_cm, cx_gl, cx_dc, cx_ci, evSs, evS, evT, evs, evSrc, evo, gt, st, d_sh, d_fr, isB, isI, Out.bind_ok, Out.bindB_ok, Out.chk_ok, Out.of_some, fl_left hk, list_row, Fl.res]
theorem m_entries (h : T.mt "Talk" "entries" = some fn_Talk_entries) (f : Nat) (hk : S[k]? = some t.cell) : callM T (f + 1) "Talk" "entries" [.ref k] S = .ok (.fr (t.said.map sayD)) S := by
  rw [callM_eq h rfl]
  simp [fn_Talk_entries, ev.eq_1, ev.eq_2, ev.eq_3, ev.eq_4, ev.eq_5, ev.eq_6, ev.eq_7, ev.eq_8, ev.eq_9, ev.eq_10, ev.eq_11, ev.eq_12, ev.eq_13, ev.eq_14, ev.eq_15, ev.eq_16, ev.eq_17, ev.eq_18, ev.eq_19, ev.eq_20, ev.eq_21, ev.eq_22, ev.eq_23, ev.eq_24, ev.eq_25, ev.eq_26, ev.eq_27, ev.eq_28, ev.eq_29, ev.eq_30, ev.eq_31, ev.eq_33, ev.eq_34, ev.eq_35, ev.eq_36, ev.eq_37, ev.eq_38, ev.eq_39, ev.eq_40, ev.eq_41, ev.eq_42, ev.eq_43, ev.eq_44, ev.eq_45, cx_cf, cx_cm, cx_gl, cx_dc, cx_ci, evSs, evS, evT, evs, evSrc, evo, gt, st, d_sh, d_fr, isB, isI, Out.bind_ok, Out.bindB_ok, Out.chk_ok, Out.of_some, fl_said hk, Fl.res]
theorem m_over (h : T.mt "Talk" "over" = some fn_Talk_over) (f : Nat) (hk : S[k]? = some t.cell) : callM T (f + 1) "Talk" "over" [.ref k] S = .ok (.sh (.bl t.ended)) S := by
  rw [callM_eq h rfl]
  simp [fn_Talk_over, ev.eq_1, ev.eq_2, ev.eq_3, ev.eq_4, ev.eq_5, ev.eq_6, ev.eq_7, ev.eq_8, ev.eq_9, ev.eq_10, ev.eq_11, ev.eq_12, ev.eq_13, ev.eq_14, ev.eq_15, ev.eq_16, ev.eq_17, ev.eq_18, ev.eq_19, ev.eq_20, ev.eq_21, ev.eq_22, ev.eq_23, ev.eq_24, ev.eq_25, ev.eq_26, ev.eq_27, ev.eq_28, ev.eq_29, ev.eq_30, ev.eq_31, ev.eq_33, ev.eq_34, ev.eq_35, ev.eq_36, ev.eq_37, ev.eq_38, ev.eq_39, ev.eq_40, ev.eq_41, ev.eq_42, ev.eq_43, ev.eq_44, ev.eq_45, cx_cf, cx_cm, cx_gl, cx_dc, cx_ci, evSs, evS, evT, evs, evSrc, evo, gt, st, d_sh, d_fr, isB, isI, Out.bind_ok, Out.bindB_ok, Out.chk_ok, Out.of_some, fl_ended hk, Fl.res]
theorem m_base (h : T.mt "Talk" "base" = some fn_Talk_base) (h2 : T.fn "base_of" = some fn_base_of) (o : t.ok) (f : Nat) (hk : S[k]? = some t.cell) : callM T (f + 2) "Talk" "base" [.ref k] S = .ok (.fr (row t.base)) S := by
  have sf := sides_flat t.kd t.room t.sen
  have rl := o.rl
  have a3 := ok_base_of h2 f (sd := t.sides) (by unfold big Tk.sides; omega) S
  rw [show t.sides = sidesF t.kd t.room t.sen from rfl, base_sorted t.kd o.rs t.sen] at a3
  rw [callM_eq h rfl]
  simp [fn_Talk_base, ev.eq_1, ev.eq_2, ev.eq_3, ev.eq_4, ev.eq_5, ev.eq_6, ev.eq_7, ev.eq_8, ev.eq_9, ev.eq_10, ev.eq_11, ev.eq_12, ev.eq_13, ev.eq_14, ev.eq_15, ev.eq_16, ev.eq_17, ev.eq_18, ev.eq_19, ev.eq_20, ev.eq_21, ev.eq_22, ev.eq_23, ev.eq_24, ev.eq_25, ev.eq_26, ev.eq_27, ev.eq_28, ev.eq_29, ev.eq_30, ev.eq_31, ev.eq_33, ev.eq_34, ev.eq_35, ev.eq_36, ev.eq_37, ev.eq_38, ev.eq_39, ev.eq_40, ev.eq_41, ev.eq_42, ev.eq_43, ev.eq_44, ev.eq_45, cx_cf, cx_cm, cx_gl, cx_dc, cx_ci, evSs, evS, evT, evs, evSrc, evo, gt, st, d_sh, d_fr, isB, isI, Out.bind_ok, Out.bindB_ok, Out.chk_ok, Out.of_some, fl_parts hk, Tk.sides, Fl.res, a3, Tk.base]
theorem m_going (h : T.mt "Talk" "going" = some fn_Talk_going) (h1 : T.mt "Talk" "held" = some fn_Talk_held) (h3 : T.mt "Talk" "base" = some fn_Talk_base) (h2 : T.fn "base_of" = some fn_base_of) (o : t.ok) (f : Nat) (hk : S[k]? = some t.cell) : callM T (f + 3) "Talk" "going" [.ref k] S = .ok (.fr (row t.going)) S := by
  have a1 := m_held h1 (f + 1) hk
  have a2 := m_base h3 h2 o f hk
  rw [callM_eq h rfl]
  cases c : t.el <;> simp [fn_Talk_going, ev.eq_1, ev.eq_2, ev.eq_3, ev.eq_4, ev.eq_5, ev.eq_6, ev.eq_7, ev.eq_8, ev.eq_9, ev.eq_10, ev.eq_11, ev.eq_12, ev.eq_13, ev.eq_14, ev.eq_15, ev.eq_16, ev.eq_17, ev.eq_18, ev.eq_19, ev.eq_20, ev.eq_21, ev.eq_22, ev.eq_23, ev.eq_24, ev.eq_25, ev.eq_26, ev.eq_27, ev.eq_28, ev.eq_29, ev.eq_30, ev.eq_31, ev.eq_33, ev.eq_34, ev.eq_35, ev.eq_36, ev.eq_37, ev.eq_38, ev.eq_39, ev.eq_40, ev.eq_41, ev.eq_42, ev.eq_43, ev.eq_44, ev.eq_45, cx_cf, cx_cm, cx_gl, cx_dc, cx_ci, evSs, evS, evT, evs, evSrc, evo, gt, st, d_sh, d_fr, isB, isI, Out.bind_ok, Out.bindB_ok, Out.chk_ok, Out.of_some, fl_rule hk, c, c_eqS, s_elder, rule_ne, hk, nf_held, nf_base, a1, a2, Tk.going, Fl.res]
theorem m_sides (h : T.mt "Talk" "sides" = some fn_Talk_sides) (o : t.ok) (f : Nat) (hk : S[k]? = some t.cell) : callM T (f + 1) "Talk" "sides" [.ref k] S = .ok (.fr (rows t.sides)) S := by
  have hl : t.sides.length ≤ 100 := Nat.le_trans (sides_len t.kd t.room t.sen) (by decide)
  rw [callM_eq h rfl]
  have e := compL_map (f := fun d S => (evc (cx T f) none (st ([Sl.v (.ref k), .no].map Sl.mask) 1 (.v d)) S).bind fun c ρ S => if c then (ev (cx T f) (.list (.slot 1)) ρ S).bind fun y ρ S => .ok (some y.d) ρ S else .ok none ρ S) (fun d => d) (S := S) (rows t.sides) (fun d hd => by
    obtain ⟨r, _, rfl⟩ := List.mem_map.mp hd
    exact ⟨_, by simp [evc, ev, gt, st, Sl.mask, d_sh, d_fr, list_row]; rfl⟩) (by rw [rows_len]; unfold big; omega)
  rw [List.map_id'] at e
  have e1 : evSrc (cx T f) (.e (.fld (.slot 0) "parts")) [.v (.ref k), .no] S = .ok (rows t.sides) [.v (.ref k), .no] S := by
    simp [evSrc, ev, gt, fl_parts hk, d_sh, walkD]
  simp only [fn_Talk_sides, List.map_cons, List.map_nil, List.cons_append, List.nil_append, List.replicate, Nat.reduceSub]
  simp only [evSs, evS]
  rw [ev_comp (sh := []) e1 e]
  rfl
theorem sides_100 (o : t.ok) : ∀ s ∈ t.sides, s.length ≤ 100 := fun s hs => Nat.le_trans (sides_each _ _ _ s hs).length_le (Nat.le_trans o.rl (by decide))
theorem m_caught (h : T.mt "Talk" "caught" = some fn_Talk_caught) (h0 : T.fn "stands" = some fn_stands) (h1 : T.fn "lost_side" = some fn_lost_side) (h2 : T.fn "touches" = some fn_touches) (h3 : T.fn "meet" = some fn_meet) (o : t.ok) (f : Nat) (hk : S[k]? = some t.cell) : callM T (f + 5) "Talk" "caught" [.ref k] S = .ok (.sh (.bl (!standsF t.sides t.left))) S := by
  have a := ok_stands h0 h1 h2 h3 f (held := t.left) (sides_100 o) S
  rw [callM_eq h rfl]
  simp [fn_Talk_caught, ev.eq_1, ev.eq_2, ev.eq_3, ev.eq_4, ev.eq_5, ev.eq_6, ev.eq_7, ev.eq_8, ev.eq_9, ev.eq_10, ev.eq_11, ev.eq_12, ev.eq_13, ev.eq_14, ev.eq_15, ev.eq_16, ev.eq_17, ev.eq_18, ev.eq_19, ev.eq_20, ev.eq_21, ev.eq_22, ev.eq_23, ev.eq_24, ev.eq_25, ev.eq_26, ev.eq_27, ev.eq_28, ev.eq_29, ev.eq_30, ev.eq_31, ev.eq_33, ev.eq_34, ev.eq_35, ev.eq_36, ev.eq_37, ev.eq_38, ev.eq_39, ev.eq_40, ev.eq_41, ev.eq_42, ev.eq_43, ev.eq_44, ev.eq_45, cx_cf, cx_cm, cx_gl, cx_dc, cx_ci, evSs, evS, evT, evs, evSrc, evo, gt, st, d_sh, d_fr, isB, isI, Out.bind_ok, Out.bindB_ok, Out.chk_ok, Out.of_some, fl_parts hk, fl_left hk, a, Fl.res]
end
end Ht

set_option linter.all false
set_option maxRecDepth 100000
set_option maxHeartbeats 400000
namespace Ht
open PySem
/-! answering -/
def fn_Talk_open_for : Fn := ⟨2, 2, [
  .ite (.e (.fld (.slot 0) "ended")) [
    .rais "TalkOver"] [],
  .ite (.e (.call "strange" [(.slot 1), (.fld (.slot 0) "many")])) [
    .rais "StrangeLetter"] []]⟩
def fn_Talk_ask : Fn := ⟨3, 4, [
  .ite (.e (.call "strange" [(.slot 1), (.fld (.slot 0) "many")])) [
    .rais "StrangeLetter"] [],
  .asg false 3 (.call "worlds_of" [(.slot 1), (.fld (.slot 0) "place")]),
  .ite (.e (.fld (.slot 0) "ended")) [
    .ret (.call "plain" [(.slot 2), (.slot 3)])] [],
  .ret (.call "answer" [(.fld (.slot 0) "parts"), (.meth (.slot 0) "going" []), (.slot 2), (.slot 3)])]⟩
def fn_Talk_say : Fn := ⟨3, 4, [
  .exp (.meth (.slot 0) "open_for" [(.slot 1)]),
  .asg false 3 (.meth (.slot 0) "ask" [(.slot 1), (.slot 2)]),
  .fappF 0 "elders" 0 "left",
  .fset false (.slot 0) "left" (.call "leaves" [(.fld (.slot 0) "left"), (.slot 1), (.slot 3)]),
  .fapp (.slot 0) "said" (.tup [(.slot 1), (.slot 3)]),
  .retS 3]⟩
structure PAsk (T : Tab) : Prop extends PInit T where
  answer : T.fn "answer" = some fn_answer
  stands : T.fn "stands" = some fn_stands
  lost_side : T.fn "lost_side" = some fn_lost_side
  touches : T.fn "touches" = some fn_touches
  meet : T.fn "meet" = some fn_meet
  plain : T.fn "plain" = some fn_plain
  m_held : T.mt "Talk" "held" = some fn_Talk_held
  m_base : T.mt "Talk" "base" = some fn_Talk_base
  m_going : T.mt "Talk" "going" = some fn_Talk_going
  m_ask : T.mt "Talk" "ask" = some fn_Talk_ask
structure PSay (T : Tab) : Prop extends PAsk T where
  leaves : T.fn "leaves" = some fn_leaves
  m_open_for : T.mt "Talk" "open_for" = some fn_Talk_open_for
  m_say : T.mt "Talk" "say" = some fn_Talk_say
  g_ANSWERS : T.gl "ANSWERS" = some dAnswers
/-- the answer due to what is true of a sentence's worlds -/
def Tk.due (t : Tk) (s : Sen) (seen : List Int) : Ans := answerF t.sides t.going seen (insF s t.room)
def Tk.told (t : Tk) (s : Sen) (seen : List Int) : Ans := if t.ended then plainF seen (insF s t.room) else t.due s seen
def Tk.put (t : Tk) (s : Sen) (a : Ans) : Tk := { t with left := leftF t.left s a, said := t.said ++ [(s, a)], elders := t.elders ++ [t.left] }
theorem base_sub (r : List Int) (sd : List (List Int)) : (baseF r sd).Sublist r := List.filter_sublist
theorem Tk.ok.going_len {t : Tk} (o : t.ok) : t.going.length ≤ 32 := by
  have h1 := o.rl
  have h2 := base_len t.room t.sides
  have h3 := o.ll.length_le
  unfold Tk.going
  split <;> (unfold Tk.base at *; omega)
theorem Tk.ok.put {t : Tk} (o : t.ok) (s : Sen) (a : Ans) : (t.put s a).ok := ⟨o.m1, o.m5, o.so, o.sd, o.rl, o.rs, o.ne, (left_sub _ _ _).trans o.ll⟩
section
variable {T : Tab} {S : Store} {k : Nat} {t : Tk} {s : Sen} {seen : List Int} {f : Nat}
theorem m_open (P : PSay T) (o : t.ok) (he : t.ended = false) (ho : s.ok t.m.toNat) (hd : s.depth < f) (hk : S[k]? = some t.cell) : callM T (f + 3) "Talk" "open_for" [.ref k, s.d] S = .ok (.sh .non) S := by
  have a1 := fun S => ok_strange P.strange P.letters P.has_letter P.g_LETTERS (s := s) (f := f) (m := t.m) (by have := o.m1; omega) o.m5 ho hd S
  rw [callM_eq P.m_open_for rfl]
  simp [fn_Talk_open_for, ev.eq_1, ev.eq_2, ev.eq_3, ev.eq_4, ev.eq_5, ev.eq_6, ev.eq_7, ev.eq_8, ev.eq_9, ev.eq_10, ev.eq_11, ev.eq_12, ev.eq_13, ev.eq_14, ev.eq_15, ev.eq_16, ev.eq_17, ev.eq_18, ev.eq_19, ev.eq_20, ev.eq_21, ev.eq_22, ev.eq_23, ev.eq_24, ev.eq_25, ev.eq_26, ev.eq_27, ev.eq_28, ev.eq_29, ev.eq_30, ev.eq_31, ev.eq_33, ev.eq_34, ev.eq_35, ev.eq_36, ev.eq_37, ev.eq_38, ev.eq_39, ev.eq_40, ev.eq_41, ev.eq_42, ev.eq_43, ev.eq_44, ev.eq_45, cx_cf, cx_cm, cx_gl, cx_dc, cx_ci, evSs, evS, evT, evs, evSrc, evo, gt, st, d_sh, d_fr, isB, isI, Out.bind_ok, Out.bindB_ok, Out.chk_ok, Out.of_some, fl_ended hk, he, fl_many hk, a1, Fl.res]
theorem m_ask (P : PAsk T) (o : t.ok) (ho : s.ok t.m.toNat) (hd : s.depth + 6 < f) (hs : seen.length ≤ 100) (hk : S[k]? = some t.cell) : callM T (f + 3) "Talk" "ask" [.ref k, s.d, .lst (row seen)] S = .ok (.sh (.str (t.told s seen).s)) S := by
  have a1 := fun S => ok_strange P.strange P.letters P.has_letter P.g_LETTERS (s := s) (f := f) (m := t.m) (by have := o.m1; omega) o.m5 ho (by omega) S
  have a2 := ok_worlds_of P.worlds_of P.true_in P.letter_true P.g_POWERS (s.ok5 o.m5 ho) (f := f + 1) (by omega) (r := t.room) (by have := o.rl; unfold big; omega) S
  rw [show t.room.filter s.tr = insF s t.room from rfl] at a2
  have a3 := ok_plain P.plain (f + 1) (seen := seen) (r := insF s t.room) hs S
  have a4 := m_going P.m_going P.m_held P.m_base P.base_of o (f - 1) hk
  have a5 := ok_answer P.answer P.stands P.lost_side P.touches P.meet P.rest P.plain (f - 3) (sides := t.sides) (going := t.going) (seen := seen) (r := insF s t.room) (sides_100 o) (by have := o.going_len; omega) hs S
  have e1 : f - 1 + 3 = f + 2 := by omega
  have e2 : f - 3 + 5 = f + 2 := by omega
  rw [e1] at a4
  rw [e2] at a5
  rw [callM_eq P.m_ask rfl]
  simp only [fn_Talk_ask, List.map_cons, List.map_nil, List.cons_append, List.nil_append, List.replicate, Nat.reduceSub]
  rw [evSs_nx (ρ' := [.v (.ref k), .v s.d, .v (.lst (row seen)), .no]) (S' := S) (by simp [ev.eq_1, ev.eq_2, ev.eq_3, ev.eq_4, ev.eq_5, ev.eq_6, ev.eq_7, ev.eq_8, ev.eq_9, ev.eq_10, ev.eq_11, ev.eq_12, ev.eq_13, ev.eq_14, ev.eq_15, ev.eq_16, ev.eq_17, ev.eq_18, ev.eq_19, ev.eq_20, ev.eq_21, ev.eq_22, ev.eq_23, ev.eq_24, ev.eq_25, ev.eq_26, ev.eq_27, ev.eq_28, ev.eq_29, ev.eq_30, ev.eq_31, ev.eq_33, ev.eq_34, ev.eq_35, ev.eq_36, ev.eq_37, ev.eq_38, ev.eq_39, ev.eq_40, ev.eq_41, ev.eq_42, ev.eq_43, ev.eq_44, ev.eq_45, cx_cf, cx_cm, cx_gl, cx_dc, cx_ci, evSs, evS, evT, evs, evSrc, evo, gt, st, d_sh, d_fr, isB, isI, Out.bind_ok, Out.bindB_ok, Out.chk_ok, Out.of_some, fl_many hk, a1])]
  rw [evSs_nx (ρ' := [.v (.ref k), .v s.d, .v (.lst (row seen)), .v (.lst (row (insF s t.room)))]) (S' := S) (by simp [ev.eq_1, ev.eq_2, ev.eq_3, ev.eq_4, ev.eq_5, ev.eq_6, ev.eq_7, ev.eq_8, ev.eq_9, ev.eq_10, ev.eq_11, ev.eq_12, ev.eq_13, ev.eq_14, ev.eq_15, ev.eq_16, ev.eq_17, ev.eq_18, ev.eq_19, ev.eq_20, ev.eq_21, ev.eq_22, ev.eq_23, ev.eq_24, ev.eq_25, ev.eq_26, ev.eq_27, ev.eq_28, ev.eq_29, ev.eq_30, ev.eq_31, ev.eq_33, ev.eq_34, ev.eq_35, ev.eq_36, ev.eq_37, ev.eq_38, ev.eq_39, ev.eq_40, ev.eq_41, ev.eq_42, ev.eq_43, ev.eq_44, ev.eq_45, cx_cf, cx_cm, cx_gl, cx_dc, cx_ci, evSs, evS, evT, evs, evSrc, evo, gt, st, d_sh, d_fr, isB, isI, Out.bind_ok, Out.bindB_ok, Out.chk_ok, Out.of_some, fl_place hk, a2])]
  unfold Tk.told Tk.due
  cases c : t.ended
  · simp [ev.eq_1, ev.eq_2, ev.eq_3, ev.eq_4, ev.eq_5, ev.eq_6, ev.eq_7, ev.eq_8, ev.eq_9, ev.eq_10, ev.eq_11, ev.eq_12, ev.eq_13, ev.eq_14, ev.eq_15, ev.eq_16, ev.eq_17, ev.eq_18, ev.eq_19, ev.eq_20, ev.eq_21, ev.eq_22, ev.eq_23, ev.eq_24, ev.eq_25, ev.eq_26, ev.eq_27, ev.eq_28, ev.eq_29, ev.eq_30, ev.eq_31, ev.eq_33, ev.eq_34, ev.eq_35, ev.eq_36, ev.eq_37, ev.eq_38, ev.eq_39, ev.eq_40, ev.eq_41, ev.eq_42, ev.eq_43, ev.eq_44, ev.eq_45, cx_cf, cx_cm, cx_gl, cx_dc, cx_ci, evSs, evS, evT, evs, evSrc, evo, gt, st, d_sh, d_fr, isB, isI, Out.bind_ok, Out.bindB_ok, Out.chk_ok, Out.of_some, fl_ended hk, c, fl_parts hk, hk, nf_going, a4, a5, Fl.res]
  · simp [ev.eq_1, ev.eq_2, ev.eq_3, ev.eq_4, ev.eq_5, ev.eq_6, ev.eq_7, ev.eq_8, ev.eq_9, ev.eq_10, ev.eq_11, ev.eq_12, ev.eq_13, ev.eq_14, ev.eq_15, ev.eq_16, ev.eq_17, ev.eq_18, ev.eq_19, ev.eq_20, ev.eq_21, ev.eq_22, ev.eq_23, ev.eq_24, ev.eq_25, ev.eq_26, ev.eq_27, ev.eq_28, ev.eq_29, ev.eq_30, ev.eq_31, ev.eq_33, ev.eq_34, ev.eq_35, ev.eq_36, ev.eq_37, ev.eq_38, ev.eq_39, ev.eq_40, ev.eq_41, ev.eq_42, ev.eq_43, ev.eq_44, ev.eq_45, cx_cf, cx_cm, cx_gl, cx_dc, cx_ci, evSs, evS, evT, evs, evSrc, evo, gt, st, d_sh, d_fr, isB, isI, Out.bind_ok, Out.bindB_ok, Out.chk_ok, Out.of_some, fl_ended hk, c, a3, Fl.res]
theorem m_say (P : PSay T) (o : t.ok) (he : t.ended = false) (ho : s.ok t.m.toNat) (hd : s.depth + 7 < f) (hs : seen.length ≤ 100) (hl : t.said.length + 10 < 1000) (hl2 : t.elders.length + 10 < 1000) (hk : S[k]? = some t.cell) :
    callM T (f + 4) "Talk" "say" [.ref k, s.d, .lst (row seen)] S = .ok (.sh (.str (t.due s seen).s)) (S.set k (t.put s (t.due s seen)).cell) := by
  have a1 := m_open P o he ho (f := f) (by omega) hk
  have a2 := m_ask P.toPAsk o ho (f := f) (by omega) hs hk
  have c0 : t.told s seen = t.due s seen := by unfold Tk.told; rw [he]; rfl
  rw [c0] at a2
  generalize hA : t.due s seen = a at *
  have k1 : (S.set k { t with elders := t.elders ++ [t.left] }.cell)[k]? = some { t with elders := t.elders ++ [t.left] }.cell := get_set_self hk
  obtain ⟨v, a3, a4⟩ := ok_leaves P.leaves P.worlds_of P.true_in P.letter_true P.rest P.g_POWERS P.g_ANSWERS (s.ok5 o.m5 ho) (f := f + 1) (by omega) a (r := t.left) (by have := o.ll.length_le; have := base_len t.room t.sides; have := o.rl; unfold Tk.base at *; omega) (S.set k { t with elders := t.elders ++ [t.left] }.cell)
  have k2 : (S.set k { t with elders := t.elders ++ [t.left], left := leftF t.left s a }.cell)[k]? = some { t with elders := t.elders ++ [t.left], left := leftF t.left s a }.cell := get_set_self hk
  rw [callM_eq P.m_say rfl]
  simp only [fn_Talk_say, List.map_cons, List.map_nil, List.cons_append, List.nil_append, List.replicate, Nat.reduceSub]
  rw [evSs_nx (ρ' := [.v (.ref k), .v s.d, .v (.lst (row seen)), .no]) (S' := S) (by simp [ev.eq_1, ev.eq_2, ev.eq_3, ev.eq_4, ev.eq_5, ev.eq_6, ev.eq_7, ev.eq_8, ev.eq_9, ev.eq_10, ev.eq_11, ev.eq_12, ev.eq_13, ev.eq_14, ev.eq_15, ev.eq_16, ev.eq_17, ev.eq_18, ev.eq_19, ev.eq_20, ev.eq_21, ev.eq_22, ev.eq_23, ev.eq_24, ev.eq_25, ev.eq_26, ev.eq_27, ev.eq_28, ev.eq_29, ev.eq_30, ev.eq_31, ev.eq_33, ev.eq_34, ev.eq_35, ev.eq_36, ev.eq_37, ev.eq_38, ev.eq_39, ev.eq_40, ev.eq_41, ev.eq_42, ev.eq_43, ev.eq_44, ev.eq_45, cx_cf, cx_cm, cx_gl, cx_dc, cx_ci, evSs, evS, evT, evs, evSrc, evo, gt, st, d_sh, d_fr, isB, isI, Out.bind_ok, Out.bindB_ok, Out.chk_ok, Out.of_some, hk, nf_open, a1])]
  rw [evSs_nx (ρ' := [.v (.ref k), .v s.d, .v (.lst (row seen)), .v (.str a.s)]) (S' := S) (by simp [ev.eq_1, ev.eq_2, ev.eq_3, ev.eq_4, ev.eq_5, ev.eq_6, ev.eq_7, ev.eq_8, ev.eq_9, ev.eq_10, ev.eq_11, ev.eq_12, ev.eq_13, ev.eq_14, ev.eq_15, ev.eq_16, ev.eq_17, ev.eq_18, ev.eq_19, ev.eq_20, ev.eq_21, ev.eq_22, ev.eq_23, ev.eq_24, ev.eq_25, ev.eq_26, ev.eq_27, ev.eq_28, ev.eq_29, ev.eq_30, ev.eq_31, ev.eq_33, ev.eq_34, ev.eq_35, ev.eq_36, ev.eq_37, ev.eq_38, ev.eq_39, ev.eq_40, ev.eq_41, ev.eq_42, ev.eq_43, ev.eq_44, ev.eq_45, cx_cf, cx_cm, cx_gl, cx_dc, cx_ci, evSs, evS, evT, evs, evSrc, evo, gt, st, d_sh, d_fr, isB, isI, Out.bind_ok, Out.bindB_ok, Out.chk_ok, Out.of_some, hk, nf_ask, a2])]
  rw [evSs_nx (ρ' := [.v (.ref k), .v s.d, .v (.lst (row seen)), .v (.str a.s)]) (S' := S.set k { t with elders := t.elders ++ [t.left] }.cell) (by
    have z := st_elders hk (t.elders ++ [t.left])
    have hb : t.elders.length < big := by unfold big; omega
    simp only [List.map_append, List.map_cons, List.map_nil] at z
    simp only [evS, gt, fl_elders hk, fl_left hk, List.length_map, hb, if_true, z])]
  rw [evSs_nx (ρ' := [.v (.ref k), .v s.d, .v (.lst (row seen)), .v (.str a.s)]) (S' := S.set k { t with elders := t.elders ++ [t.left], left := leftF t.left s a }.cell) (by
    have z := st_left k1 (leftF t.left s a)
    rw [set_set] at z
    simp only [evS, ev, evs, gt, Out.bind_ok, Out.bindB_ok, Out.chk_ok, d_sh, fl_left k1, a3, k1, fs_len, ownSl, a4]
    simp only [show (10 : Nat) < 999 from by decide, if_true, z])]
  have hb : t.said.length < big := by unfold big; omega
  have z := st_said k2 (t.said ++ [(s, a)])
  simp only [List.map_append, List.map_cons, List.map_nil, set_set] at z
  have lf : D.lfree (.tup [s.d, .str a.s]) = true := by simp [D.lfree, D.lfrees, lfree_sen]
  rw [evSs_nx (ρ' := [.v (.ref k), .v s.d, .v (.lst (row seen)), .v (.str a.s)]) (S' := S.set k (t.put s a).cell) (by
    simp only [evS, ev, evs, gt, Out.bind_ok, Out.bindB_ok, Out.chk_ok, d_sh, fl_said k2, shareAt, List.map_cons, List.map_nil, Sl.pure, rfree_str, if_true, D.rfree, List.length_cons, List.length_nil, lf, List.length_map, hb, sayD] at z ⊢
    simp only [show ((0 + 1 + 1 : Nat) ≤ big) = True from by unfold big; simp, if_true, lf, Out.bind_ok, Out.bindB_ok, Out.chk_ok, d_sh]
    rw [z]
    rfl)]
  simp [evSs, evS, gt, Fl.res]
end
end Ht

set_option linter.all false
set_option maxRecDepth 100000
set_option maxHeartbeats 400000
namespace Ht
open PySem
/-! ### the laws' own helpers for talks -/
def fn__law_few : Fn := ⟨1, 1, [
  .ret (.idx (.lst [(.int 3), (.int 2), (.int 3), (.int 1), (.int 3), (.int 2), (.int 4), (.int 5)]) (.bin .Mod (.slot 0) (.int 8)))]⟩

def fewF (n : Int) : Int := if n % 8 = 0 then 3 else if n % 8 = 1 then 2 else if n % 8 = 2 then 3 else if n % 8 = 3 then 1 else if n % 8 = 4 then 3 else if n % 8 = 5 then 2 else if n % 8 = 6 then 4 else 5
theorem fewF_lo (n : Int) : 1 ≤ fewF n := by unfold fewF; split <;> (try split) <;> (try split) <;> (try split) <;> (try split) <;> (try split) <;> (try split) <;> decide
theorem fewF_hi (n : Int) : fewF n ≤ 5 := by unfold fewF; split <;> (try split) <;> (try split) <;> (try split) <;> (try split) <;> (try split) <;> (try split) <;> decide
theorem ok_few {T : Tab} (h : T.fn "_law_few" = some fn__law_few) (f : Nat) (n : Int) (S : Store) : callF T (f + 1) "_law_few" [.int n] S = .ok (.sh (.int (fewF n))) S := by
  have c : n % 8 = 0 ∨ n % 8 = 1 ∨ n % 8 = 2 ∨ n % 8 = 3 ∨ n % 8 = 4 ∨ n % 8 = 5 ∨ n % 8 = 6 ∨ n % 8 = 7 := by omega
  rw [call_eq h rfl]
  rcases c with c | c | c | c | c | c | c | c <;> simp [fn__law_few, ev.eq_1, ev.eq_2, ev.eq_3, ev.eq_4, ev.eq_5, ev.eq_6, ev.eq_7, ev.eq_8, ev.eq_9, ev.eq_10, ev.eq_11, ev.eq_12, ev.eq_13, ev.eq_14, ev.eq_15, ev.eq_16, ev.eq_17, ev.eq_18, ev.eq_19, ev.eq_20, ev.eq_21, ev.eq_22, ev.eq_23, ev.eq_24, ev.eq_25, ev.eq_26, ev.eq_27, ev.eq_28, ev.eq_29, ev.eq_30, ev.eq_31, ev.eq_33, ev.eq_34, ev.eq_35, ev.eq_36, ev.eq_37, ev.eq_38, ev.eq_39, ev.eq_40, ev.eq_41, ev.eq_42, ev.eq_43, ev.eq_44, ev.eq_45, cx_cf, cx_cm, cx_gl, cx_dc, cx_ci, evSs, evS, evT, evs, evSrc, evo, gt, st, d_sh, d_fr, isB, isI, Out.bind_ok, Out.bindB_ok, Out.chk_ok, Out.of_some, binD, c, idxD, ixN, fewF, big, Fl.res]
def fn__law_rule : Fn := ⟨1, 1, [
  .ret (.idx (.lst [(.str "elder"), (.str "newer")]) (.bin .Mod (.bin .FloorDiv (.call "_law_num" [(.slot 0), (.int 3)]) (.int 3)) (.int 2)))]⟩

def ruleF (ns : List Int) : Bool := decide (lawNum ns 3 / 3 % 2 = 0)
theorem ok_rule {T : Tab} (h : T.fn "_law_rule" = some fn__law_rule) (h1 : T.fn "_law_num" = some fn__law_num) (f : Nat) (ns : List Int) (S : Store) : callF T (f + 2) "_law_rule" [.scr ns] S = .ok (.sh (.str (ruleS (ruleF ns)))) S := by
  have c : lawNum ns 3 / 3 % 2 = 0 ∨ lawNum ns 3 / 3 % 2 = 1 := by omega
  have a := ok_num h1 f ns 3 (by decide) S
  rw [call_eq h rfl]
  rcases c with c | c <;> simp [fn__law_rule, ev.eq_1, ev.eq_2, ev.eq_3, ev.eq_4, ev.eq_5, ev.eq_6, ev.eq_7, ev.eq_8, ev.eq_9, ev.eq_10, ev.eq_11, ev.eq_12, ev.eq_13, ev.eq_14, ev.eq_15, ev.eq_16, ev.eq_17, ev.eq_18, ev.eq_19, ev.eq_20, ev.eq_21, ev.eq_22, ev.eq_23, ev.eq_24, ev.eq_25, ev.eq_26, ev.eq_27, ev.eq_28, ev.eq_29, ev.eq_30, ev.eq_31, ev.eq_33, ev.eq_34, ev.eq_35, ev.eq_36, ev.eq_37, ev.eq_38, ev.eq_39, ev.eq_40, ev.eq_41, ev.eq_42, ev.eq_43, ev.eq_44, ev.eq_45, cx_cf, cx_cm, cx_gl, cx_dc, cx_ci, evSs, evS, evT, evs, evSrc, evo, gt, st, d_sh, d_fr, isB, isI, Out.bind_ok, Out.bindB_ok, Out.chk_ok, Out.of_some, a, binD, c, idxD, ixN, ruleF, big, Fl.res, s_elder, s_newer]
def fn__law_start : Fn := ⟨2, 4, [
  .asg false 2 (.call "_law_room" [(.call "_law_num" [(.slot 0), (.int 1)]), (.slot 1)]),
  .asg false 3 (.call "_law_sentence" [(.call "_law_num" [(.slot 0), (.int 2)]), (.int 8), (.slot 1)]),
  .ret (.tup [(.slot 2), (.call "_law_kind" [(.call "_law_num" [(.slot 0), (.int 3)]), (.slot 2), (.slot 3)]), (.slot 3)])]⟩

structure Start where
  r : List Int
  k : Kd
  s : Sen
def startF (ns : List Int) (m : Int) : Start := ⟨roomF (lawNum ns 1) m, kindF (lawNum ns 3) (roomF (lawNum ns 1) m) (senF (lawNum ns 2) 8 m), senF (lawNum ns 2) 8 m⟩
def Start.d (a : Start) : D := .tup [.lst (row a.r), .str a.k.s, a.s.d]
/-- what the laws' first lines give -/
structure Start.ok (a : Start) (m : Int) : Prop where
  rne : a.r ≠ []
  rl : a.r.length ≤ 32
  rs : a.r.Pairwise (· < ·)
  so : a.s.ok m.toNat
  sz : a.s.size < 16
  sd : a.s.depth ≤ 14
  sides : Sides a.r (sidesF a.k a.r a.s)
theorem startF_ok (ns : List Int) {m : Int} (h1 : 1 ≤ m) (h5 : m ≤ 5) : (startF ns m).ok m := by
  obtain ⟨o1, z1⟩ := senF_facts (lawNum_nonneg ns 2) (most := 8) (m := m) (by omega) (by omega)
  have d1 := (senF (lawNum ns 2) 8 m).depth_lt
  have rne := roomF_ne (n := lawNum ns 1) h1 h5
  refine ⟨rne, roomF_len h1 h5, roomF_sorted h1 h5, o1, ?_, ?_, sides_ok rne⟩
  · show (senF (lawNum ns 2) 8 m).size < 16
    omega
  · show (senF (lawNum ns 2) 8 m).depth ≤ 14
    omega
theorem Start.ok.ne {a : Start} {m : Int} (h : a.ok m) : ∀ x ∈ sidesF a.k a.r a.s, x ≠ [] := fun x hx => (h.sides.each x hx).1
theorem Start.ok.tk {a : Start} {m : Int} (h : a.ok m) (h1 : 1 ≤ m) (h5 : m ≤ 5) (el : Bool) : (mkTk m a.k a.s el a.r).ok := ⟨h1, h5, h.so, Nat.le_trans h.sd (by decide), h.rl, h.rs, h.ne, List.Sublist.refl _⟩
structure LStart (T : Tab) : Prop where
  l_num : T.fn "_law_num" = some fn__law_num
  l_some : T.fn "_law_some" = some fn__law_some
  l_some_one : T.fn "_law_some_one" = some fn__law_some_one
  l_worlds : T.fn "_law_worlds" = some fn__law_worlds
  l_room : T.fn "_law_room" = some fn__law_room
  l_sentence : T.fn "_law_sentence" = some fn__law_sentence
  l_true : T.fn "_law_true" = some fn__law_true
  l_ins : T.fn "_law_ins" = some fn__law_ins
  l_kind : T.fn "_law_kind" = some fn__law_kind
  l_start : T.fn "_law_start" = some fn__law_start
theorem ok_start {T : Tab} (L : LStart T) (ns : List Int) {m : Int} (h1 : 1 ≤ m) (h5 : m ≤ 5) {f : Nat} (hf : 30 ≤ f) (S : Store) : callF T (f + 4) "_law_start" [.scr ns, .int m] S = .ok (.sh (startF ns m).d) S := by
  have A := startF_ok ns h1 h5
  have so := A.so
  have sd := A.sd
  have rl := A.rl
  obtain ⟨v1, e1, ev1⟩ := ok_room L.l_room L.l_worlds L.l_some_one L.l_some f (lawNum ns 1) h1 h5 S
  have eS := ok_sentence L.l_sentence (f + 2) (lawNum_nonneg ns 2) (most := 8) (m := m) (by omega) (by omega) (by omega) S
  have eK := ok_kind L.l_kind L.l_ins L.l_true (s := (startF ns m).s) ((startF ns m).s.ok5 h5 so) (f := f + 1) (by omega) (lawNum ns 3) (r := (startF ns m).r) (by omega) S
  have a1 := ok_num L.l_num (f + 2) ns 1 (by decide) S
  have a2 := ok_num L.l_num (f + 2) ns 2 (by decide) S
  have a3 := ok_num L.l_num (f + 2) ns 3 (by decide) S
  rw [call_eq L.l_start rfl]
  simp only [startF] at eK
  simp only [fn__law_start, List.map_cons, List.map_nil, List.cons_append, List.nil_append, List.replicate, Nat.reduceSub]
  rw [evSs_nx (by simp [ev.eq_1, ev.eq_2, ev.eq_3, ev.eq_4, ev.eq_5, ev.eq_6, ev.eq_7, ev.eq_8, ev.eq_9, ev.eq_10, ev.eq_11, ev.eq_12, ev.eq_13, ev.eq_14, ev.eq_15, ev.eq_16, ev.eq_17, ev.eq_18, ev.eq_19, ev.eq_20, ev.eq_21, ev.eq_22, ev.eq_23, ev.eq_24, ev.eq_25, ev.eq_26, ev.eq_27, ev.eq_28, ev.eq_29, ev.eq_30, ev.eq_31, ev.eq_33, ev.eq_34, ev.eq_35, ev.eq_36, ev.eq_37, ev.eq_38, ev.eq_39, ev.eq_40, ev.eq_41, ev.eq_42, ev.eq_43, ev.eq_44, ev.eq_45, cx_cf, cx_cm, cx_gl, cx_dc, cx_ci, evSs, evS, evT, evs, evSrc, evo, gt, st, d_sh, d_fr, isB, isI, Out.bind_ok, Out.bindB_ok, Out.chk_ok, Out.of_some, a1, e1, ev1]; exact ⟨rfl, rfl⟩), evSs_nx (by simp [ev.eq_1, ev.eq_2, ev.eq_3, ev.eq_4, ev.eq_5, ev.eq_6, ev.eq_7, ev.eq_8, ev.eq_9, ev.eq_10, ev.eq_11, ev.eq_12, ev.eq_13, ev.eq_14, ev.eq_15, ev.eq_16, ev.eq_17, ev.eq_18, ev.eq_19, ev.eq_20, ev.eq_21, ev.eq_22, ev.eq_23, ev.eq_24, ev.eq_25, ev.eq_26, ev.eq_27, ev.eq_28, ev.eq_29, ev.eq_30, ev.eq_31, ev.eq_33, ev.eq_34, ev.eq_35, ev.eq_36, ev.eq_37, ev.eq_38, ev.eq_39, ev.eq_40, ev.eq_41, ev.eq_42, ev.eq_43, ev.eq_44, ev.eq_45, cx_cf, cx_cm, cx_gl, cx_dc, cx_ci, evSs, evS, evT, evs, evSrc, evo, gt, st, d_sh, d_fr, isB, isI, Out.bind_ok, Out.bindB_ok, Out.chk_ok, Out.of_some, a2, eS]; exact ⟨rfl, rfl⟩)]
  simp [ev.eq_1, ev.eq_2, ev.eq_3, ev.eq_4, ev.eq_5, ev.eq_6, ev.eq_7, ev.eq_8, ev.eq_9, ev.eq_10, ev.eq_11, ev.eq_12, ev.eq_13, ev.eq_14, ev.eq_15, ev.eq_16, ev.eq_17, ev.eq_18, ev.eq_19, ev.eq_20, ev.eq_21, ev.eq_22, ev.eq_23, ev.eq_24, ev.eq_25, ev.eq_26, ev.eq_27, ev.eq_28, ev.eq_29, ev.eq_30, ev.eq_31, ev.eq_33, ev.eq_34, ev.eq_35, ev.eq_36, ev.eq_37, ev.eq_38, ev.eq_39, ev.eq_40, ev.eq_41, ev.eq_42, ev.eq_43, ev.eq_44, ev.eq_45, cx_cf, cx_cm, cx_gl, cx_dc, cx_ci, evSs, evS, evT, evs, evSrc, evo, gt, st, d_sh, d_fr, isB, isI, Out.bind_ok, Out.bindB_ok, Out.chk_ok, Out.of_some, a3, eK, big, Fl.res, startF, Start.d]
def fn__law_plain : Fn := ⟨2, 3, [
  .ite (.e (.all (.comp [] (.call "_law_true" [(.slot 1), (.slot 2)]) 2 (.e (.slot 0)) none))) [
    .ret (.str "grant")] [],
  .ite (.e (.any (.comp [] (.call "_law_true" [(.slot 1), (.slot 2)]) 2 (.e (.slot 0)) none))) [
    .ret (.str "doubt")] [],
  .ret (.str "deny")]⟩
def fn__law_due : Fn := ⟨4, 7, [
  .asg false 4 (.call "_law_ins" [(.slot 3), (.slot 1)]),
  .asg false 5 (.call "_law_outs" [(.slot 3), (.slot 1)]),
  .ite (.e (.cmp .Eq (.slot 5) (.lst []))) [
    .ret (.str "grant")] [],
  .ite (.e (.cmp .Eq (.slot 4) (.lst []))) [
    .ret (.str "deny")] [],
  .asg false 6 (.call "_law_plain" [(.slot 2), (.slot 3)]),
  .ite (.and (.e (.cmp .Eq (.slot 6) (.str "grant"))) (.e (.call "_law_stands" [(.slot 0), (.slot 4)]))) [
    .ret (.str "grant")] [],
  .ite (.and (.e (.cmp .Eq (.slot 6) (.str "deny"))) (.e (.call "_law_stands" [(.slot 0), (.slot 5)]))) [
    .ret (.str "deny")] [],
  .ret (.str "doubt")]⟩
def fn__law_left : Fn := ⟨3, 3, [
  .ite (.e (.cmp .Eq (.slot 2) (.str "grant"))) [
    .ret (.call "_law_ins" [(.slot 1), (.slot 0)])] [],
  .ite (.e (.cmp .Eq (.slot 2) (.str "deny"))) [
    .ret (.call "_law_outs" [(.slot 1), (.slot 0)])] [],
  .ret (.list (.slot 0))]⟩

theorem ev_alls {T : Tab} (h : T.fn "_law_true" = some fn__law_true) {s : Sen} {f : Nat} (ho : s.ok 5) (hd : s.depth < f) {seen : List Int} (hl : seen.length ≤ 100) (S : Store) : ev (cx T f) (.comp [] (.call "_law_true" [(.slot 1), (.slot 2)]) 2 (.e (.slot 0)) none) [.v (.lst (row seen)), .v s.d, .no] S = .ok (.fr (bls (seen.map s.tr))) [.v (.lst (row seen)), .v s.d, .no] S := by
  refine ev_comp (sh := []) (ρ1 := [.v (.lst (row seen)), .v s.d, .no]) (S1 := S) (ds := row seen) (ρ2 := []) (src_e (x := .sh (.lst (row seen))) (by simp only [ev, gt]) rfl) ?_
  have e := compL_map (f := fun d S => (evc (cx T f) none (st ((shareAt [Sl.v (.lst (row seen)), .v s.d, .no] []).map Sl.mask) 2 (.v d)) S).bind fun c ρ S => if c then (ev (cx T f) (.call "_law_true" [(.slot 1), (.slot 2)]) ρ S).bind fun y ρ S => .ok (some y.d) ρ S else .ok none ρ S)
    (fun d => match d with | .int w => .bl (s.tr w) | _ => .non) (S := S) (row seen) (fun d hd2 => by
      obtain ⟨w, _, rfl⟩ := List.mem_map.mp hd2
      have q := ok_ltrue h w s f S ho hd
      exact ⟨[.v (.lst (row seen)), .v s.d, .v (.int w)], by simp [evc, ev, evs, gt, st, shareAt, Sl.mask, d_sh, q]⟩) (by rw [row_len]; unfold big; omega)
  rw [e]
  simp only [row, bls, List.map_map]
  rfl
theorem plain_all {seen room : List Int} (s : Sen) (hs : ∀ w ∈ seen, w ∈ room) : plainF seen (insF s room) = if (seen.map s.tr).all id then .grant else if (seen.map s.tr).any id then .doubt else .deny := by
  have e : meetF seen (insF s room) = insF s seen := List.filter_congr fun w hw => by
    have := hs w hw
    cases c : s.tr w <;> simp [insF, List.mem_filter, this, c]
  unfold plainF
  rw [e]
  by_cases c : (insF s seen).length = seen.length
  · have : insF s seen = seen := List.filter_sublist.eq_of_length c
    have h2 : (seen.map s.tr).all id = true := by
      rw [List.all_map]
      refine List.all_eq_true.mpr fun w hw => ?_
      rw [← this] at hw
      exact (List.mem_filter.mp hw).2
    rw [if_pos c, if_pos h2]
  · have h2 : ¬ (seen.map s.tr).all id = true := fun h => c (by
      rw [List.all_map] at h
      have := List.filter_eq_self.mpr fun w hw => List.all_eq_true.mp h w hw
      unfold insF
      rw [show (seen.filter s.tr) = seen from this])
    rw [if_neg c, if_neg h2]
    by_cases d : insF s seen = []
    · have h3 : ¬ (seen.map s.tr).any id = true := fun h => by
        rw [List.any_map] at h
        obtain ⟨w, h1, h2⟩ := List.any_eq_true.mp h
        have : w ∈ insF s seen := List.mem_filter.mpr ⟨h1, h2⟩
        rw [d] at this
        cases this
      rw [if_pos d, if_neg h3]
    · have h3 : (seen.map s.tr).any id = true := by
        obtain ⟨w, hw⟩ := List.exists_mem_of_ne_nil _ d
        rw [List.any_map]
        exact List.any_eq_true.mpr ⟨w, (List.mem_filter.mp hw).1, (List.mem_filter.mp hw).2⟩
      rw [if_neg d, if_pos h3]
theorem all_bls (bs : List Bool) : allD (.lst (bls bs)) = some (.bl (bs.all id)) := by simp only [allD, bools_bls, Option.map_some]
theorem ok_lplain {T : Tab} (h : T.fn "_law_plain" = some fn__law_plain) (h1 : T.fn "_law_true" = some fn__law_true) {s : Sen} {f : Nat} (ho : s.ok 5) (hd : s.depth < f) {seen room : List Int} (hl : seen.length ≤ 100) (hs : ∀ w ∈ seen, w ∈ room) (S : Store) : callF T (f + 1) "_law_plain" [.lst (row seen), s.d] S = .ok (.sh (.str (plainF seen (insF s room)).s)) S := by
  rw [call_eq h rfl, plain_all s hs]
  have e := ev_alls h1 ho hd hl S
  cases c : (seen.map s.tr).all id
  · cases d : (seen.map s.tr).any id <;> simp [fn__law_plain, ev.eq_1, ev.eq_2, ev.eq_3, ev.eq_4, ev.eq_5, ev.eq_6, ev.eq_7, ev.eq_8, ev.eq_9, ev.eq_10, ev.eq_11, ev.eq_12, ev.eq_13, ev.eq_14, ev.eq_15, ev.eq_16, ev.eq_17, ev.eq_18, ev.eq_19, ev.eq_20, ev.eq_21, ev.eq_22, ev.eq_23, ev.eq_24, ev.eq_25, ev.eq_26, ev.eq_27, ev.eq_28, ev.eq_29, ev.eq_30, ev.eq_31, ev.eq_33, ev.eq_34, ev.eq_35, ev.eq_36, ev.eq_37, ev.eq_38, ev.eq_39, ev.eq_40, ev.eq_41, ev.eq_42, ev.eq_43, ev.eq_44, ev.eq_45, cx_cf, cx_cm, cx_gl, cx_dc, cx_ci, evSs, evS, evT, evs, evSrc, evo, gt, st, d_sh, d_fr, isB, isI, Out.bind_ok, Out.bindB_ok, Out.chk_ok, Out.of_some, e, all_bls, any_bls, c, d, s_grant, s_deny, s_doubt, Fl.res]
  · simp [fn__law_plain, ev.eq_1, ev.eq_2, ev.eq_3, ev.eq_4, ev.eq_5, ev.eq_6, ev.eq_7, ev.eq_8, ev.eq_9, ev.eq_10, ev.eq_11, ev.eq_12, ev.eq_13, ev.eq_14, ev.eq_15, ev.eq_16, ev.eq_17, ev.eq_18, ev.eq_19, ev.eq_20, ev.eq_21, ev.eq_22, ev.eq_23, ev.eq_24, ev.eq_25, ev.eq_26, ev.eq_27, ev.eq_28, ev.eq_29, ev.eq_30, ev.eq_31, ev.eq_33, ev.eq_34, ev.eq_35, ev.eq_36, ev.eq_37, ev.eq_38, ev.eq_39, ev.eq_40, ev.eq_41, ev.eq_42, ev.eq_43, ev.eq_44, ev.eq_45, cx_cf, cx_cm, cx_gl, cx_dc, cx_ci, evSs, evS, evT, evs, evSrc, evo, gt, st, d_sh, d_fr, isB, isI, Out.bind_ok, Out.bindB_ok, Out.chk_ok, Out.of_some, e, all_bls, any_bls, c, s_grant, s_deny, s_doubt, Fl.res]
theorem meet_ins {going room : List Int} (s : Sen) (hg : ∀ w ∈ going, w ∈ room) : meetF going (insF s room) = insF s going := List.filter_congr fun w hw => by
  have := hg w hw
  cases c : s.tr w <;> simp [insF, List.mem_filter, this, c]
theorem rest_ins2 {going room : List Int} (s : Sen) (hg : ∀ w ∈ going, w ∈ room) : restF going (insF s room) = outsF s going := List.filter_congr fun w hw => by
  have := hg w hw
  cases c : s.tr w <;> simp [insF, List.mem_filter, this, c]
structure LDue (T : Tab) : Prop where
  l_true : T.fn "_law_true" = some fn__law_true
  l_ins : T.fn "_law_ins" = some fn__law_ins
  l_outs : T.fn "_law_outs" = some fn__law_outs
  l_plain : T.fn "_law_plain" = some fn__law_plain
  l_stands : T.fn "_law_stands" = some fn__law_stands
  l_due : T.fn "_law_due" = some fn__law_due
theorem ok_due {T : Tab} (L : LDue T) {s : Sen} {f : Nat} (ho : s.ok 5) (hd : s.depth < f) {sides : List (List Int)} {going seen room : List Int} (hsd : ∀ x ∈ sides, x.length ≤ 100) (hgl : going.length ≤ 100) (hl : seen.length ≤ 100) (hg : ∀ w ∈ going, w ∈ room) (hs : ∀ w ∈ seen, w ∈ room) (S : Store) :
    callF T (f + 2) "_law_due" [.lst (rows sides), .lst (row going), .lst (row seen), s.d] S = .ok (.sh (.str (answerF sides going seen (insF s room)).s)) S := by
  have e1 := ok_ins L.l_ins L.l_true ho (f := f) hd (r := going) (by unfold big; omega) S
  have e2 := ok_outs L.l_outs L.l_true ho (f := f) hd (r := going) (by unfold big; omega) S
  have e3 := ok_lplain L.l_plain L.l_true ho hd (seen := seen) (room := room) hl hs S
  rw [show going.filter s.tr = insF s going from rfl, ← meet_ins s hg] at e1
  rw [show (going.filter fun w => !s.tr w) = outsF s going from rfl, ← rest_ins2 s hg] at e2
  have t1 := ok_lstands L.l_stands f (row0 := meetF going (insF s room)) hsd S
  have t2 := ok_lstands L.l_stands f (row0 := restF going (insF s room)) hsd S
  obtain ⟨n1, n2, n3, n4⟩ := an_ne
  rw [call_eq L.l_due rfl]
  simp only [fn__law_due, List.map_cons, List.map_nil, List.cons_append, List.nil_append, List.replicate, Nat.reduceSub]
  rw [evSs_nx (by simp [ev.eq_1, ev.eq_2, ev.eq_3, ev.eq_4, ev.eq_5, ev.eq_6, ev.eq_7, ev.eq_8, ev.eq_9, ev.eq_10, ev.eq_11, ev.eq_12, ev.eq_13, ev.eq_14, ev.eq_15, ev.eq_16, ev.eq_17, ev.eq_18, ev.eq_19, ev.eq_20, ev.eq_21, ev.eq_22, ev.eq_23, ev.eq_24, ev.eq_25, ev.eq_26, ev.eq_27, ev.eq_28, ev.eq_29, ev.eq_30, ev.eq_31, ev.eq_33, ev.eq_34, ev.eq_35, ev.eq_36, ev.eq_37, ev.eq_38, ev.eq_39, ev.eq_40, ev.eq_41, ev.eq_42, ev.eq_43, ev.eq_44, ev.eq_45, cx_cf, cx_cm, cx_gl, cx_dc, cx_ci, evSs, evS, evT, evs, evSrc, evo, gt, st, d_sh, d_fr, isB, isI, Out.bind_ok, Out.bindB_ok, Out.chk_ok, Out.of_some, e1]; exact ⟨rfl, rfl⟩), evSs_nx (by simp [ev.eq_1, ev.eq_2, ev.eq_3, ev.eq_4, ev.eq_5, ev.eq_6, ev.eq_7, ev.eq_8, ev.eq_9, ev.eq_10, ev.eq_11, ev.eq_12, ev.eq_13, ev.eq_14, ev.eq_15, ev.eq_16, ev.eq_17, ev.eq_18, ev.eq_19, ev.eq_20, ev.eq_21, ev.eq_22, ev.eq_23, ev.eq_24, ev.eq_25, ev.eq_26, ev.eq_27, ev.eq_28, ev.eq_29, ev.eq_30, ev.eq_31, ev.eq_33, ev.eq_34, ev.eq_35, ev.eq_36, ev.eq_37, ev.eq_38, ev.eq_39, ev.eq_40, ev.eq_41, ev.eq_42, ev.eq_43, ev.eq_44, ev.eq_45, cx_cf, cx_cm, cx_gl, cx_dc, cx_ci, evSs, evS, evT, evs, evSrc, evo, gt, st, d_sh, d_fr, isB, isI, Out.bind_ok, Out.bindB_ok, Out.chk_ok, Out.of_some, e2]; exact ⟨rfl, rfl⟩)]
  unfold answerF
  generalize insF s room = r at *
  by_cases c : restF going r = []
  · simp [ev.eq_1, ev.eq_2, ev.eq_3, ev.eq_4, ev.eq_5, ev.eq_6, ev.eq_7, ev.eq_8, ev.eq_9, ev.eq_10, ev.eq_11, ev.eq_12, ev.eq_13, ev.eq_14, ev.eq_15, ev.eq_16, ev.eq_17, ev.eq_18, ev.eq_19, ev.eq_20, ev.eq_21, ev.eq_22, ev.eq_23, ev.eq_24, ev.eq_25, ev.eq_26, ev.eq_27, ev.eq_28, ev.eq_29, ev.eq_30, ev.eq_31, ev.eq_33, ev.eq_34, ev.eq_35, ev.eq_36, ev.eq_37, ev.eq_38, ev.eq_39, ev.eq_40, ev.eq_41, ev.eq_42, ev.eq_43, ev.eq_44, ev.eq_45, cx_cf, cx_cm, cx_gl, cx_dc, cx_ci, evSs, evS, evT, evs, evSrc, evo, gt, st, d_sh, d_fr, isB, isI, Out.bind_ok, Out.bindB_ok, Out.chk_ok, Out.of_some, c_eqN, c, s_grant, Fl.res, big]
  · by_cases c2 : meetF going r = []
    · simp [ev.eq_1, ev.eq_2, ev.eq_3, ev.eq_4, ev.eq_5, ev.eq_6, ev.eq_7, ev.eq_8, ev.eq_9, ev.eq_10, ev.eq_11, ev.eq_12, ev.eq_13, ev.eq_14, ev.eq_15, ev.eq_16, ev.eq_17, ev.eq_18, ev.eq_19, ev.eq_20, ev.eq_21, ev.eq_22, ev.eq_23, ev.eq_24, ev.eq_25, ev.eq_26, ev.eq_27, ev.eq_28, ev.eq_29, ev.eq_30, ev.eq_31, ev.eq_33, ev.eq_34, ev.eq_35, ev.eq_36, ev.eq_37, ev.eq_38, ev.eq_39, ev.eq_40, ev.eq_41, ev.eq_42, ev.eq_43, ev.eq_44, ev.eq_45, cx_cf, cx_cm, cx_gl, cx_dc, cx_ci, evSs, evS, evT, evs, evSrc, evo, gt, st, d_sh, d_fr, isB, isI, Out.bind_ok, Out.bindB_ok, Out.chk_ok, Out.of_some, c_eqN, c, c2, s_deny, Fl.res, big]
    · cases c3 : plainF seen r
      · rw [c3] at e3
        cases c4 : standsF sides (meetF going r) <;> simp [ev.eq_1, ev.eq_2, ev.eq_3, ev.eq_4, ev.eq_5, ev.eq_6, ev.eq_7, ev.eq_8, ev.eq_9, ev.eq_10, ev.eq_11, ev.eq_12, ev.eq_13, ev.eq_14, ev.eq_15, ev.eq_16, ev.eq_17, ev.eq_18, ev.eq_19, ev.eq_20, ev.eq_21, ev.eq_22, ev.eq_23, ev.eq_24, ev.eq_25, ev.eq_26, ev.eq_27, ev.eq_28, ev.eq_29, ev.eq_30, ev.eq_31, ev.eq_33, ev.eq_34, ev.eq_35, ev.eq_36, ev.eq_37, ev.eq_38, ev.eq_39, ev.eq_40, ev.eq_41, ev.eq_42, ev.eq_43, ev.eq_44, ev.eq_45, cx_cf, cx_cm, cx_gl, cx_dc, cx_ci, evSs, evS, evT, evs, evSrc, evo, gt, st, d_sh, d_fr, isB, isI, Out.bind_ok, Out.bindB_ok, Out.chk_ok, Out.of_some, c_eqN, c_eqS, c, c2, e3, t1, c4, s_grant, s_deny, s_doubt, n1, Fl.res, big]
      · rw [c3] at e3
        cases c4 : standsF sides (restF going r) <;> simp [ev.eq_1, ev.eq_2, ev.eq_3, ev.eq_4, ev.eq_5, ev.eq_6, ev.eq_7, ev.eq_8, ev.eq_9, ev.eq_10, ev.eq_11, ev.eq_12, ev.eq_13, ev.eq_14, ev.eq_15, ev.eq_16, ev.eq_17, ev.eq_18, ev.eq_19, ev.eq_20, ev.eq_21, ev.eq_22, ev.eq_23, ev.eq_24, ev.eq_25, ev.eq_26, ev.eq_27, ev.eq_28, ev.eq_29, ev.eq_30, ev.eq_31, ev.eq_33, ev.eq_34, ev.eq_35, ev.eq_36, ev.eq_37, ev.eq_38, ev.eq_39, ev.eq_40, ev.eq_41, ev.eq_42, ev.eq_43, ev.eq_44, ev.eq_45, cx_cf, cx_cm, cx_gl, cx_dc, cx_ci, evSs, evS, evT, evs, evSrc, evo, gt, st, d_sh, d_fr, isB, isI, Out.bind_ok, Out.bindB_ok, Out.chk_ok, Out.of_some, c_eqN, c_eqS, c, c2, e3, t2, c4, s_grant, s_deny, s_doubt, n2, Fl.res, big]
      · rw [c3] at e3
        simp [ev.eq_1, ev.eq_2, ev.eq_3, ev.eq_4, ev.eq_5, ev.eq_6, ev.eq_7, ev.eq_8, ev.eq_9, ev.eq_10, ev.eq_11, ev.eq_12, ev.eq_13, ev.eq_14, ev.eq_15, ev.eq_16, ev.eq_17, ev.eq_18, ev.eq_19, ev.eq_20, ev.eq_21, ev.eq_22, ev.eq_23, ev.eq_24, ev.eq_25, ev.eq_26, ev.eq_27, ev.eq_28, ev.eq_29, ev.eq_30, ev.eq_31, ev.eq_33, ev.eq_34, ev.eq_35, ev.eq_36, ev.eq_37, ev.eq_38, ev.eq_39, ev.eq_40, ev.eq_41, ev.eq_42, ev.eq_43, ev.eq_44, ev.eq_45, cx_cf, cx_cm, cx_gl, cx_dc, cx_ci, evSs, evS, evT, evs, evSrc, evo, gt, st, d_sh, d_fr, isB, isI, Out.bind_ok, Out.bindB_ok, Out.chk_ok, Out.of_some, c_eqN, c_eqS, c, c2, e3, s_grant, s_deny, s_doubt, n3, n4, Fl.res, big]
theorem ok_left {T : Tab} (h : T.fn "_law_left" = some fn__law_left) (h1 : T.fn "_law_true" = some fn__law_true) (h2 : T.fn "_law_ins" = some fn__law_ins) (h3 : T.fn "_law_outs" = some fn__law_outs) {s : Sen} {f : Nat} (ho : s.ok 5) (hd : s.depth < f) (a : Ans) {r : List Int} (hr : r.length ≤ 100) (S : Store) : callF T (f + 2) "_law_left" [.lst (row r), s.d, .str a.s] S = .ok (.fr (row (leftF r s a))) S := by
  have e1 := ok_ins h2 h1 ho (f := f) hd (r := r) (by unfold big; omega) S
  have e2 := ok_outs h3 h1 ho (f := f) hd (r := r) (by unfold big; omega) S
  obtain ⟨n1, n2, n3, n4⟩ := an_ne
  rw [call_eq h rfl]
  cases a <;> simp [fn__law_left, ev.eq_1, ev.eq_2, ev.eq_3, ev.eq_4, ev.eq_5, ev.eq_6, ev.eq_7, ev.eq_8, ev.eq_9, ev.eq_10, ev.eq_11, ev.eq_12, ev.eq_13, ev.eq_14, ev.eq_15, ev.eq_16, ev.eq_17, ev.eq_18, ev.eq_19, ev.eq_20, ev.eq_21, ev.eq_22, ev.eq_23, ev.eq_24, ev.eq_25, ev.eq_26, ev.eq_27, ev.eq_28, ev.eq_29, ev.eq_30, ev.eq_31, ev.eq_33, ev.eq_34, ev.eq_35, ev.eq_36, ev.eq_37, ev.eq_38, ev.eq_39, ev.eq_40, ev.eq_41, ev.eq_42, ev.eq_43, ev.eq_44, ev.eq_45, cx_cf, cx_cm, cx_gl, cx_dc, cx_ci, evSs, evS, evT, evs, evSrc, evo, gt, st, d_sh, d_fr, isB, isI, Out.bind_ok, Out.bindB_ok, Out.chk_ok, Out.of_some, e1, e2, c_eqS, s_grant, s_deny, n1, n2, n3, n4, list_row, Fl.res, leftF, insF, outsF]
end Ht

set_option linter.all false
set_option maxRecDepth 100000
set_option maxHeartbeats 60000
namespace Ht
open PySem
/-! ### rows of asks -/
def fn__law_seen_at : Fn := ⟨3, 4, [
  .asg false 3 (.call "_law_num" [(.slot 0), (.int 4)]),
  .ite (.e (.cmp .Eq (.bin .Mod (.slot 3) (.int 2)) (.int 0))) [
    .ret (.call "_law_seen" [(.bin .FloorDiv (.slot 3) (.int 2)), (.slot 2)])] [],
  .ret (.call "_law_seen" [(.bin .FloorDiv (.call "_law_num" [(.slot 0), (.slot 1)]) (.bin .Pow (.int 10) (.int 12))), (.slot 2)])]⟩

def seenAtF (ns : List Int) (k : Int) (r : List Int) : List Int := if lawNum ns 4 % 2 = 0 then seenF (lawNum ns 4 / 2) r else seenF (lawNum ns k / 10 ^ 12) r
theorem seenAt_sub {ns : List Int} {k : Int} {r : List Int} (hr : r ≠ []) : (seenAtF ns k r).Sublist r := by
  unfold seenAtF
  split <;> exact seenF_sub hr
theorem seenAt_ne {ns : List Int} {k : Int} {r : List Int} (hr : r ≠ []) : seenAtF ns k r ≠ [] := by
  unfold seenAtF
  split <;> exact seenF_ne hr
theorem ok_seen_at {T : Tab} (h : T.fn "_law_seen_at" = some fn__law_seen_at) (h0 : T.fn "_law_num" = some fn__law_num) (h2 : T.fn "_law_seen" = some fn__law_seen) (h3 : T.fn "_law_some_one" = some fn__law_some_one) (h4 : T.fn "_law_some" = some fn__law_some) (f : Nat) (ns : List Int) {k : Int} (hk : 0 ≤ k) {r : List Int} (hr : r ≠ []) (hl : r.length ≤ 100) (S : Store) :
    ∃ v, callF T (f + 4) "_law_seen_at" [.scr ns, .int k, .lst (row r)] S = .ok v S ∧ v.d = .lst (row (seenAtF ns k r)) := by
  have a1 := ok_num h0 (f + 2) ns 4 (by decide) S
  have a2 := ok_num h0 (f + 2) ns k hk S
  obtain ⟨v1, b1, b2⟩ := ok_seen h2 h3 h4 f (lawNum ns 4 / 2) hr hl S
  obtain ⟨v2, b3, b4⟩ := ok_seen h2 h3 h4 f (lawNum ns k / 10 ^ 12) hr hl S
  rw [call_eq h rfl]
  by_cases c : lawNum ns 4 % 2 = 0
  · exact ⟨v1, by simp [fn__law_seen_at, ev.eq_1, ev.eq_2, ev.eq_3, ev.eq_4, ev.eq_5, ev.eq_6, ev.eq_7, ev.eq_8, ev.eq_9, ev.eq_10, ev.eq_11, ev.eq_12, ev.eq_13, ev.eq_14, ev.eq_15, ev.eq_16, ev.eq_17, ev.eq_18, ev.eq_19, ev.eq_20, ev.eq_21, ev.eq_22, ev.eq_23, ev.eq_24, ev.eq_25, ev.eq_26, ev.eq_27, ev.eq_28, ev.eq_29, ev.eq_30, ev.eq_31, ev.eq_33, ev.eq_34, ev.eq_35, ev.eq_36, ev.eq_37, ev.eq_38, ev.eq_39, ev.eq_40, ev.eq_41, ev.eq_42, ev.eq_43, ev.eq_44, ev.eq_45, cx_cf, cx_cm, cx_gl, cx_dc, cx_ci, evSs, evS, evT, evs, evSrc, evo, gt, st, d_sh, d_fr, isB, isI, Out.bind_ok, Out.bindB_ok, Out.chk_ok, Out.of_some, a1, binD, c_eqI, c, b1, Fl.res], by rw [b2, seenAtF, if_pos c]⟩
  · have sm : smallI 10 = true := by decide
    have b3' : callF T (f + 3) "_law_seen" [.int (lawNum ns k / 1000000000000), .lst (row r)] S = .ok v2 S := b3
    exact ⟨v2, by simp [fn__law_seen_at, ev.eq_1, ev.eq_2, ev.eq_3, ev.eq_4, ev.eq_5, ev.eq_6, ev.eq_7, ev.eq_8, ev.eq_9, ev.eq_10, ev.eq_11, ev.eq_12, ev.eq_13, ev.eq_14, ev.eq_15, ev.eq_16, ev.eq_17, ev.eq_18, ev.eq_19, ev.eq_20, ev.eq_21, ev.eq_22, ev.eq_23, ev.eq_24, ev.eq_25, ev.eq_26, ev.eq_27, ev.eq_28, ev.eq_29, ev.eq_30, ev.eq_31, ev.eq_33, ev.eq_34, ev.eq_35, ev.eq_36, ev.eq_37, ev.eq_38, ev.eq_39, ev.eq_40, ev.eq_41, ev.eq_42, ev.eq_43, ev.eq_44, ev.eq_45, cx_cf, cx_cm, cx_gl, cx_dc, cx_ci, evSs, evS, evT, evs, evSrc, evo, gt, st, d_sh, d_fr, isB, isI, Out.bind_ok, Out.bindB_ok, Out.chk_ok, Out.of_some, a1, a2, binD, c_eqI, c, sm, b3', Fl.res], by rw [b4, seenAtF, if_neg c]⟩
def fn__law_asked : Fn := ⟨3, 3, [
  .ite (.e (.cmp .Eq (.bin .Mod (.slot 0) (.int 6)) (.int 0))) [
    .ret (.idx (.slot 1) (.bin .Mod (.bin .FloorDiv (.slot 0) (.int 6)) (.len (.slot 1))))] [],
  .ite (.e (.cmp .Eq (.bin .Mod (.slot 0) (.int 6)) (.int 1))) [
    .ret (.tup [(.str "not"), (.idx (.slot 1) (.bin .Mod (.bin .FloorDiv (.slot 0) (.int 6)) (.len (.slot 1))))])] [],
  .ret (.call "_law_sentence" [(.bin .FloorDiv (.slot 0) (.int 6)), (.int 6), (.slot 2)])]⟩

def sens (l : List Sen) : List D := l.map Sen.d
theorem sens_len (l : List Sen) : (sens l).length = l.length := List.length_map _
theorem idx_sens {l : List Sen} {i : Int} (h0 : 0 ≤ i) (h1 : i < l.length) : ∃ s ∈ l, idxD (.lst (sens l)) (.int i) = some s.d ∧ l[i.toNat]? = some s := by
  have hl : i.toNat < l.length := by omega
  refine ⟨l[i.toNat], List.getElem_mem _, ?_, List.getElem?_eq_getElem hl⟩
  have e : (sens l)[i.toNat]? = some (l[i.toNat]).d := by rw [sens, List.getElem?_map, List.getElem?_eq_getElem hl]; rfl
  simp only [idxD, ixN, sens_len, if_pos h0, if_pos h1, Option.bind_some, e]
def askF (n : Int) (fresh : List Sen) (m : Int) : Sen :=
  if n % 6 = 0 then (fresh[(n / 6 % fresh.length).toNat]?).getD (.lt 0)
  else if n % 6 = 1 then .nt ((fresh[(n / 6 % fresh.length).toNat]?).getD (.lt 0))
  else senF (n / 6) 6 m
theorem ok_asked {T : Tab} (h : T.fn "_law_asked" = some fn__law_asked) (h1 : T.fn "_law_sentence" = some fn__law_sentence) (f : Nat) {n : Int} (hn : 0 ≤ n) {fresh : List Sen} (hf : fresh ≠ []) {m : Int} (hm : 1 ≤ m) (S : Store) : callF T (f + 2) "_law_asked" [.int n, .lst (sens fresh), .int m] S = .ok (.sh (askF n fresh m).d) S := by
  have hl : 0 < fresh.length := List.length_pos_iff.mpr hf
  have hl' : (0 : Int) < fresh.length := by omega
  obtain ⟨s, hs, e1, e2⟩ := idx_sens (l := fresh) (i := n / 6 % fresh.length) (Int.emod_nonneg _ (by omega)) (Int.emod_lt_of_pos _ hl')
  have e3 := ok_sentence h1 f (n := n / 6) (most := 6) (m := m) (by omega) (by omega) (by omega) (by omega) S
  have ln : lenD (.lst (sens fresh)) = some (.int fresh.length) := by simp only [lenD, sens_len]
  rw [call_eq h rfl]
  unfold askF
  by_cases c : n % 6 = 0
  · simp [fn__law_asked, ev.eq_1, ev.eq_2, ev.eq_3, ev.eq_4, ev.eq_5, ev.eq_6, ev.eq_7, ev.eq_8, ev.eq_9, ev.eq_10, ev.eq_11, ev.eq_12, ev.eq_13, ev.eq_14, ev.eq_15, ev.eq_16, ev.eq_17, ev.eq_18, ev.eq_19, ev.eq_20, ev.eq_21, ev.eq_22, ev.eq_23, ev.eq_24, ev.eq_25, ev.eq_26, ev.eq_27, ev.eq_28, ev.eq_29, ev.eq_30, ev.eq_31, ev.eq_33, ev.eq_34, ev.eq_35, ev.eq_36, ev.eq_37, ev.eq_38, ev.eq_39, ev.eq_40, ev.eq_41, ev.eq_42, ev.eq_43, ev.eq_44, ev.eq_45, cx_cf, cx_cm, cx_gl, cx_dc, cx_ci, evSs, evS, evT, evs, evSrc, evo, gt, st, d_sh, d_fr, isB, isI, Out.bind_ok, Out.bindB_ok, Out.chk_ok, Out.of_some, binD, c_eqI, c, ln, hl, e1, e2, Fl.res]
  · by_cases c2 : n % 6 = 1
    · simp [fn__law_asked, ev.eq_1, ev.eq_2, ev.eq_3, ev.eq_4, ev.eq_5, ev.eq_6, ev.eq_7, ev.eq_8, ev.eq_9, ev.eq_10, ev.eq_11, ev.eq_12, ev.eq_13, ev.eq_14, ev.eq_15, ev.eq_16, ev.eq_17, ev.eq_18, ev.eq_19, ev.eq_20, ev.eq_21, ev.eq_22, ev.eq_23, ev.eq_24, ev.eq_25, ev.eq_26, ev.eq_27, ev.eq_28, ev.eq_29, ev.eq_30, ev.eq_31, ev.eq_33, ev.eq_34, ev.eq_35, ev.eq_36, ev.eq_37, ev.eq_38, ev.eq_39, ev.eq_40, ev.eq_41, ev.eq_42, ev.eq_43, ev.eq_44, ev.eq_45, cx_cf, cx_cm, cx_gl, cx_dc, cx_ci, evSs, evS, evT, evs, evSrc, evo, gt, st, d_sh, d_fr, isB, isI, Out.bind_ok, Out.bindB_ok, Out.chk_ok, Out.of_some, binD, c_eqI, c, c2, ln, hl, e1, e2, Fl.res, s_not, Sen.d, big]
    · simp [fn__law_asked, ev.eq_1, ev.eq_2, ev.eq_3, ev.eq_4, ev.eq_5, ev.eq_6, ev.eq_7, ev.eq_8, ev.eq_9, ev.eq_10, ev.eq_11, ev.eq_12, ev.eq_13, ev.eq_14, ev.eq_15, ev.eq_16, ev.eq_17, ev.eq_18, ev.eq_19, ev.eq_20, ev.eq_21, ev.eq_22, ev.eq_23, ev.eq_24, ev.eq_25, ev.eq_26, ev.eq_27, ev.eq_28, ev.eq_29, ev.eq_30, ev.eq_31, ev.eq_33, ev.eq_34, ev.eq_35, ev.eq_36, ev.eq_37, ev.eq_38, ev.eq_39, ev.eq_40, ev.eq_41, ev.eq_42, ev.eq_43, ev.eq_44, ev.eq_45, cx_cf, cx_cm, cx_gl, cx_dc, cx_ci, evSs, evS, evT, evs, evSrc, evo, gt, st, d_sh, d_fr, isB, isI, Out.bind_ok, Out.bindB_ok, Out.chk_ok, Out.of_some, binD, c_eqI, c, c2, e3, Fl.res]
theorem askF_facts {n : Int} (hn : 0 ≤ n) {fresh : List Sen} (hf : fresh ≠ []) {m : Int} (hm : 1 ≤ m) (h : ∀ s ∈ fresh, s.ok m.toNat ∧ s.size < 16) : (askF n fresh m).ok m.toNat ∧ (askF n fresh m).size < 17 ∧ (1 < n % 6 → (askF n fresh m).size < 16) := by
  have hl : 0 < fresh.length := List.length_pos_iff.mpr hf
  obtain ⟨s, hs, _, e2⟩ := idx_sens (l := fresh) (i := n / 6 % fresh.length) (Int.emod_nonneg _ (by omega)) (Int.emod_lt_of_pos _ (by omega))
  obtain ⟨o1, z1⟩ := senF_facts (n := n / 6) (most := 6) (m := m) (by omega) (by omega) (by omega)
  obtain ⟨k1, k2⟩ := h s hs
  unfold askF
  rw [e2]
  by_cases c : n % 6 = 0
  · rw [if_pos c]
    exact ⟨k1, by simp only [Option.getD_some]; omega, by omega⟩
  · by_cases c2 : n % 6 = 1
    · rw [if_neg c, if_pos c2]
      exact ⟨k1, by simp only [Option.getD_some, Sen.size]; omega, by omega⟩
    · rw [if_neg c, if_neg c2]
      exact ⟨o1, by omega, fun _ => by omega⟩
def fn__law_last : Fn := ⟨3, 3, [
  .ite (.e (.cmp .Gt (.len (.slot 0)) (.slot 1))) [
    .ret (.len (.slot 0))] [],
  .ret (.bin .Add (.slot 1) (.bin .Mod (.slot 2) (.int 6)))]⟩

def lastF (ns : List Int) (a n : Int) : Int := if a < ns.length then ns.length else a + n % 6
theorem ok_last {T : Tab} (h : T.fn "_law_last" = some fn__law_last) (f : Nat) (ns : List Int) (a n : Int) (S : Store) : callF T (f + 1) "_law_last" [.scr ns, .int a, .int n] S = .ok (.sh (.int (lastF ns a n))) S := by
  rw [call_eq h rfl]
  unfold lastF
  by_cases c : a < ns.length <;> simp [fn__law_last, ev.eq_1, ev.eq_2, ev.eq_3, ev.eq_4, ev.eq_5, ev.eq_6, ev.eq_7, ev.eq_8, ev.eq_9, ev.eq_10, ev.eq_11, ev.eq_12, ev.eq_13, ev.eq_14, ev.eq_15, ev.eq_16, ev.eq_17, ev.eq_18, ev.eq_19, ev.eq_20, ev.eq_21, ev.eq_22, ev.eq_23, ev.eq_24, ev.eq_25, ev.eq_26, ev.eq_27, ev.eq_28, ev.eq_29, ev.eq_30, ev.eq_31, ev.eq_33, ev.eq_34, ev.eq_35, ev.eq_36, ev.eq_37, ev.eq_38, ev.eq_39, ev.eq_40, ev.eq_41, ev.eq_42, ev.eq_43, ev.eq_44, ev.eq_45, cx_cf, cx_cm, cx_gl, cx_dc, cx_ci, evSs, evS, evT, evs, evSrc, evo, gt, st, d_sh, d_fr, isB, isI, Out.bind_ok, Out.bindB_ok, Out.chk_ok, Out.of_some, lenD, c_gt, c, binD, Fl.res]
def b1__law_asks : List CS := [
    .asg false 8 (.guard [4] (.call "_law_asked" [(.call "_law_num" [(.slot 0), (.slot 7)]), (.slot 4), (.slot 2)])),
    .ite (.e (.cmp .Gt (.bin .Mod (.call "_law_num" [(.slot 0), (.slot 7)]) (.int 6)) (.int 1))) [
      .app 4 (.slot 8)] [],
    .app 5 (.slot 8)]
def fn__law_asks : Fn := ⟨4, 9, [
  .asg true 4 (.lst [(.slot 3)]),
  .asg true 5 (.lst []),
  .asg false 6 (.call "_law_last" [(.slot 0), (.slot 1), (.bin .FloorDiv (.call "_law_num" [(.slot 0), (.int 0)]) (.int 512))]),
  .ite (.e (.cmp .Gt (.slot 2) (.int 3))) [
    .asg false 6 (.min2 (.slot 6) (.bin .Add (.slot 1) (.idx (.lst [(.int 24), (.int 16)]) (.bin .Sub (.slot 2) (.int 4)))))] [],
  .for1 7 (.rng (.slot 1) (.slot 6)) b1__law_asks,
  .retS 5]⟩

/-- the asks for the places of a row: with the fresh ones, and what was asked so far -/
def askRun (ns : List Int) (m : Int) : List Int → List Sen → List Sen → List Sen × List Sen
  | [], fresh, acc => (fresh, acc)
  | k :: ks, fresh, acc => askRun ns m ks (if 1 < lawNum ns k % 6 then fresh ++ [askF (lawNum ns k) fresh m] else fresh) (acc ++ [askF (lawNum ns k) fresh m])
def asksLast (ns : List Int) (a m : Int) : Int := if 3 < m then min (lastF ns a (lawNum ns 0 / 512)) (a + if m = 4 then 24 else 16) else lastF ns a (lawNum ns 0 / 512)
def places (a b : Int) : List Int := (List.range (b - a).toNat).map fun (k : Nat) => a + k
def asksF (ns : List Int) (a m : Int) (first : Sen) : List Sen := (askRun ns m (places a (asksLast ns a m)) [first] []).2
theorem rng_places {a b : Int} (h1 : 0 ≤ a) (h2 : a < 1000) (h3 : 0 ≤ b) (h4 : b < 1000) : rangeD (.int a) (.int b) = some (row (places a b)) := by
  have c : -(2 ^ 60) ≤ a ∧ a < 2 ^ 60 ∧ -(2 ^ 60) ≤ b ∧ b < 2 ^ 60 ∧ (b - a).toNat ≤ 1000000 := by omega
  simp only [rangeD, rangeL, if_pos c, places, row, List.map_map]
  rfl
theorem rfrees_sens : ∀ R : List Sen, D.rfrees (sens R) = true := rfrees_map
theorem asks_loop {T : Tab} (h1 : T.fn "_law_asked" = some fn__law_asked) (h2 : T.fn "_law_sentence" = some fn__law_sentence) (h3 : T.fn "_law_num" = some fn__law_num) (f : Nat) (ns : List Int) {m : Int} (hm : 1 ≤ m) (S : Store) (x1 x3 x6 : Sl) : ∀ (ks : List Int) (fresh acc : List Sen) (x7 x8 : Sl), (∀ k ∈ ks, 0 ≤ k) → fresh ≠ [] → fresh.length + ks.length < 1000 → acc.length + ks.length < 1000 →
    ∃ y7 y8, loopS (fun d ρ S => evSs (cx T (f + 2)) b1__law_asks (st ρ 7 (.v d)) S) (row ks) [.v (.scr ns), x1, .v (.int m), x3, .own (sens fresh), .own (sens acc), x6, x7, x8] S =
      .ok .nx [.v (.scr ns), x1, .v (.int m), x3, .own (sens (askRun ns m ks fresh acc).1), .own (sens (askRun ns m ks fresh acc).2), x6, y7, y8] S
  | [], fresh, acc, x7, x8, _, _, _, _ => ⟨x7, x8, rfl⟩
  | k :: ks, fresh, acc, x7, x8, hk, hf, l1, l2 => by
    simp only [List.length_cons] at l1 l2
    have a1 := ok_num h3 (f + 1) ns k (hk k (by simp))
    have a2 := ok_asked h1 h2 f (lawNum_nonneg ns k) hf hm []
    have b1 : fresh.length < big := by unfold big; omega
    have b2 : acc.length < big := by unfold big; omega
    have rf : D.rfree (.lst (sens fresh)) = true := rfrees_sens fresh
    have fin : ∀ fr, (fr = if 1 < lawNum ns k % 6 then fresh ++ [askF (lawNum ns k) fresh m] else fresh) → evSs (cx T (f + 2)) b1__law_asks [.v (.scr ns), x1, .v (.int m), x3, .own (sens fresh), .own (sens acc), x6, .v (.int k), x8] S =
        .ok .nx [.v (.scr ns), x1, .v (.int m), x3, .own (sens fr), .own (sens (acc ++ [askF (lawNum ns k) fresh m])), x6, .v (.int k), .v (askF (lawNum ns k) fresh m).d] S := fun fr hfr => by
      simp only [b1__law_asks]
      rw [evSs_nx (ρ' := [.v (.scr ns), x1, .v (.int m), x3, .own (sens fresh), .own (sens acc), x6, .v (.int k), .v (askF (lawNum ns k) fresh m).d]) (S' := S) (by
        have px1 : ∀ x : Sl, True := fun _ => trivial
        simp [evS, ev, evs, gt, st, shareAt, Sl.share, Sl.pure, rf, rfree_scr, rfree_int, a1, d_sh, a2, lfree_sen])]
      subst hfr
      by_cases c : 1 < lawNum ns k % 6
      · simp [ev.eq_1, ev.eq_2, ev.eq_3, ev.eq_4, ev.eq_5, ev.eq_6, ev.eq_7, ev.eq_8, ev.eq_9, ev.eq_10, ev.eq_11, ev.eq_12, ev.eq_13, ev.eq_14, ev.eq_15, ev.eq_16, ev.eq_17, ev.eq_18, ev.eq_19, ev.eq_20, ev.eq_21, ev.eq_22, ev.eq_23, ev.eq_24, ev.eq_25, ev.eq_26, ev.eq_27, ev.eq_28, ev.eq_29, ev.eq_30, ev.eq_31, ev.eq_33, ev.eq_34, ev.eq_35, ev.eq_36, ev.eq_37, ev.eq_38, ev.eq_39, ev.eq_40, ev.eq_41, ev.eq_42, ev.eq_43, ev.eq_44, ev.eq_45, cx_cf, cx_cm, cx_gl, cx_dc, cx_ci, evSs, evS, evT, evs, evSrc, evo, gt, st, d_sh, d_fr, isB, isI, Out.bind_ok, Out.bindB_ok, Out.chk_ok, Out.of_some, a1, binD, c_gt, c, b1, b2, sens]
      · simp [ev.eq_1, ev.eq_2, ev.eq_3, ev.eq_4, ev.eq_5, ev.eq_6, ev.eq_7, ev.eq_8, ev.eq_9, ev.eq_10, ev.eq_11, ev.eq_12, ev.eq_13, ev.eq_14, ev.eq_15, ev.eq_16, ev.eq_17, ev.eq_18, ev.eq_19, ev.eq_20, ev.eq_21, ev.eq_22, ev.eq_23, ev.eq_24, ev.eq_25, ev.eq_26, ev.eq_27, ev.eq_28, ev.eq_29, ev.eq_30, ev.eq_31, ev.eq_33, ev.eq_34, ev.eq_35, ev.eq_36, ev.eq_37, ev.eq_38, ev.eq_39, ev.eq_40, ev.eq_41, ev.eq_42, ev.eq_43, ev.eq_44, ev.eq_45, cx_cf, cx_cm, cx_gl, cx_dc, cx_ci, evSs, evS, evT, evs, evSrc, evo, gt, st, d_sh, d_fr, isB, isI, Out.bind_ok, Out.bindB_ok, Out.chk_ok, Out.of_some, a1, binD, c_gt, c, b1, b2, sens]
    have st1 : st [Sl.v (.scr ns), x1, .v (.int m), x3, .own (sens fresh), .own (sens acc), x6, x7, x8] 7 (.v (.int k)) = [.v (.scr ns), x1, .v (.int m), x3, .own (sens fresh), .own (sens acc), x6, .v (.int k), x8] := rfl
    rw [row_cons]
    by_cases c : 1 < lawNum ns k % 6
    · obtain ⟨y7, y8, e⟩ := asks_loop h1 h2 h3 f ns hm S x1 x3 x6 ks (fresh ++ [askF (lawNum ns k) fresh m]) (acc ++ [askF (lawNum ns k) fresh m]) (.v (.int k)) (.v (askF (lawNum ns k) fresh m).d) (fun x hx => hk x (by simp [hx])) (by simp) (by simp; omega) (by simp; omega)
      refine ⟨y7, y8, ?_⟩
      rw [loop_nx (by rw [st1]; exact fin _ (if_pos c).symm), e]
      simp only [askRun, if_pos c]
    · obtain ⟨y7, y8, e⟩ := asks_loop h1 h2 h3 f ns hm S x1 x3 x6 ks fresh (acc ++ [askF (lawNum ns k) fresh m]) (.v (.int k)) (.v (askF (lawNum ns k) fresh m).d) (fun x hx => hk x (by simp [hx])) hf (by omega) (by simp; omega)
      refine ⟨y7, y8, ?_⟩
      rw [loop_nx (by rw [st1]; exact fin _ (if_neg c).symm), e]
      simp only [askRun, if_neg c]
structure LAsks (T : Tab) : Prop where
  l_num : T.fn "_law_num" = some fn__law_num
  l_sentence : T.fn "_law_sentence" = some fn__law_sentence
  l_asked : T.fn "_law_asked" = some fn__law_asked
  l_last : T.fn "_law_last" = some fn__law_last
  l_asks : T.fn "_law_asks" = some fn__law_asks
theorem asksLast_hi {ns : List Int} (hn : ns.length ≤ 63) {a m : Int} (h0 : 0 ≤ a) (ha : a ≤ 60) : 0 ≤ asksLast ns a m ∧ asksLast ns a m ≤ 90 := by
  unfold asksLast lastF
  have : 0 ≤ lawNum ns 0 / 512 % 6 ∧ lawNum ns 0 / 512 % 6 < 6 := by omega
  repeat' split
  all_goals omega
theorem ok_asks {T : Tab} (L : LAsks T) (f : Nat) {ns : List Int} (hn : ns.length ≤ 63) {a m : Int} (h0 : 0 ≤ a) (ha : a ≤ 60) (hm : 1 ≤ m) (hm5 : m ≤ 5) (first : Sen) (S : Store) : callF T (f + 3) "_law_asks" [.scr ns, .int a, .int m, first.d] S = .ok (.fr (sens (asksF ns a m first))) S := by
  have a1 := ok_num L.l_num (f + 1) ns 0 (by decide) S
  have a2 := ok_last L.l_last (f + 1) ns a (lawNum ns 0 / 512) S
  obtain ⟨q1, q2⟩ := asksLast_hi hn (m := m) h0 ha
  have pl : (places a (asksLast ns a m)).length ≤ 90 := by simp [places]; omega
  have hp : ∀ k ∈ places a (asksLast ns a m), 0 ≤ k := by
    intro k hk
    simp only [places, List.mem_map, List.mem_range] at hk
    obtain ⟨j, _, rfl⟩ := hk
    omega
  obtain ⟨y7, y8, e⟩ := asks_loop L.l_asked L.l_sentence L.l_num f ns hm S (.v (.int a)) (.v first.d) (.v (.int (asksLast ns a m))) (places a (asksLast ns a m)) [first] [] .no .no hp (by simp) (by simp; omega) (by simp; omega)
  rw [call_eq L.l_asks rfl]
  simp only [fn__law_asks, List.map_cons, List.map_nil, List.cons_append, List.nil_append, List.replicate, Nat.reduceSub]
  rw [evSs_nx (ρ' := [.v (.scr ns), .v (.int a), .v (.int m), .v first.d, .own (sens [first]), .no, .no, .no, .no]) (S' := S) (by simp [ev.eq_1, ev.eq_2, ev.eq_3, ev.eq_4, ev.eq_5, ev.eq_6, ev.eq_7, ev.eq_8, ev.eq_9, ev.eq_10, ev.eq_11, ev.eq_12, ev.eq_13, ev.eq_14, ev.eq_15, ev.eq_16, ev.eq_17, ev.eq_18, ev.eq_19, ev.eq_20, ev.eq_21, ev.eq_22, ev.eq_23, ev.eq_24, ev.eq_25, ev.eq_26, ev.eq_27, ev.eq_28, ev.eq_29, ev.eq_30, ev.eq_31, ev.eq_33, ev.eq_34, ev.eq_35, ev.eq_36, ev.eq_37, ev.eq_38, ev.eq_39, ev.eq_40, ev.eq_41, ev.eq_42, ev.eq_43, ev.eq_44, ev.eq_45, cx_cf, cx_cm, cx_gl, cx_dc, cx_ci, evSs, evS, evT, evs, evSrc, evo, gt, st, d_sh, d_fr, isB, isI, Out.bind_ok, Out.bindB_ok, Out.chk_ok, Out.of_some, big, sens]), evSs_nx (ρ' := [.v (.scr ns), .v (.int a), .v (.int m), .v first.d, .own (sens [first]), .own (sens []), .no, .no, .no]) (S' := S) (by simp [ev.eq_1, ev.eq_2, ev.eq_3, ev.eq_4, ev.eq_5, ev.eq_6, ev.eq_7, ev.eq_8, ev.eq_9, ev.eq_10, ev.eq_11, ev.eq_12, ev.eq_13, ev.eq_14, ev.eq_15, ev.eq_16, ev.eq_17, ev.eq_18, ev.eq_19, ev.eq_20, ev.eq_21, ev.eq_22, ev.eq_23, ev.eq_24, ev.eq_25, ev.eq_26, ev.eq_27, ev.eq_28, ev.eq_29, ev.eq_30, ev.eq_31, ev.eq_33, ev.eq_34, ev.eq_35, ev.eq_36, ev.eq_37, ev.eq_38, ev.eq_39, ev.eq_40, ev.eq_41, ev.eq_42, ev.eq_43, ev.eq_44, ev.eq_45, cx_cf, cx_cm, cx_gl, cx_dc, cx_ci, evSs, evS, evT, evs, evSrc, evo, gt, st, d_sh, d_fr, isB, isI, Out.bind_ok, Out.bindB_ok, Out.chk_ok, Out.of_some, big, sens]),
    evSs_nx (ρ' := [.v (.scr ns), .v (.int a), .v (.int m), .v first.d, .own (sens [first]), .own (sens []), .v (.int (lastF ns a (lawNum ns 0 / 512))), .no, .no]) (S' := S) (by simp [ev.eq_1, ev.eq_2, ev.eq_3, ev.eq_4, ev.eq_5, ev.eq_6, ev.eq_7, ev.eq_8, ev.eq_9, ev.eq_10, ev.eq_11, ev.eq_12, ev.eq_13, ev.eq_14, ev.eq_15, ev.eq_16, ev.eq_17, ev.eq_18, ev.eq_19, ev.eq_20, ev.eq_21, ev.eq_22, ev.eq_23, ev.eq_24, ev.eq_25, ev.eq_26, ev.eq_27, ev.eq_28, ev.eq_29, ev.eq_30, ev.eq_31, ev.eq_33, ev.eq_34, ev.eq_35, ev.eq_36, ev.eq_37, ev.eq_38, ev.eq_39, ev.eq_40, ev.eq_41, ev.eq_42, ev.eq_43, ev.eq_44, ev.eq_45, cx_cf, cx_cm, cx_gl, cx_dc, cx_ci, evSs, evS, evT, evs, evSrc, evo, gt, st, d_sh, d_fr, isB, isI, Out.bind_ok, Out.bindB_ok, Out.chk_ok, Out.of_some, a1, binD, a2])]
  rw [evSs_nx (ρ' := [.v (.scr ns), .v (.int a), .v (.int m), .v first.d, .own (sens [first]), .own (sens []), .v (.int (asksLast ns a m)), .no, .no]) (S' := S) (by
    unfold asksLast
    by_cases c : 3 < m
    · have mm : m = 4 ∨ m = 5 := by omega
      rcases mm with rfl | rfl
      · by_cases c2 : a + 24 < lastF ns a (lawNum ns 0 / 512)
        · have : min (lastF ns a (lawNum ns 0 / 512)) (a + 24) = a + 24 := by omega
          simp [ev.eq_1, ev.eq_2, ev.eq_3, ev.eq_4, ev.eq_5, ev.eq_6, ev.eq_7, ev.eq_8, ev.eq_9, ev.eq_10, ev.eq_11, ev.eq_12, ev.eq_13, ev.eq_14, ev.eq_15, ev.eq_16, ev.eq_17, ev.eq_18, ev.eq_19, ev.eq_20, ev.eq_21, ev.eq_22, ev.eq_23, ev.eq_24, ev.eq_25, ev.eq_26, ev.eq_27, ev.eq_28, ev.eq_29, ev.eq_30, ev.eq_31, ev.eq_33, ev.eq_34, ev.eq_35, ev.eq_36, ev.eq_37, ev.eq_38, ev.eq_39, ev.eq_40, ev.eq_41, ev.eq_42, ev.eq_43, ev.eq_44, ev.eq_45, cx_cf, cx_cm, cx_gl, cx_dc, cx_ci, evSs, evS, evT, evs, evSrc, evo, gt, st, d_sh, d_fr, isB, isI, Out.bind_ok, Out.bindB_ok, Out.chk_ok, Out.of_some, c_gt, binD, idxD, ixN, min2D, big, c2, this]
        · have : min (lastF ns a (lawNum ns 0 / 512)) (a + 24) = lastF ns a (lawNum ns 0 / 512) := by omega
          simp [ev.eq_1, ev.eq_2, ev.eq_3, ev.eq_4, ev.eq_5, ev.eq_6, ev.eq_7, ev.eq_8, ev.eq_9, ev.eq_10, ev.eq_11, ev.eq_12, ev.eq_13, ev.eq_14, ev.eq_15, ev.eq_16, ev.eq_17, ev.eq_18, ev.eq_19, ev.eq_20, ev.eq_21, ev.eq_22, ev.eq_23, ev.eq_24, ev.eq_25, ev.eq_26, ev.eq_27, ev.eq_28, ev.eq_29, ev.eq_30, ev.eq_31, ev.eq_33, ev.eq_34, ev.eq_35, ev.eq_36, ev.eq_37, ev.eq_38, ev.eq_39, ev.eq_40, ev.eq_41, ev.eq_42, ev.eq_43, ev.eq_44, ev.eq_45, cx_cf, cx_cm, cx_gl, cx_dc, cx_ci, evSs, evS, evT, evs, evSrc, evo, gt, st, d_sh, d_fr, isB, isI, Out.bind_ok, Out.bindB_ok, Out.chk_ok, Out.of_some, c_gt, binD, idxD, ixN, min2D, big, c2, this]
      · by_cases c2 : a + 16 < lastF ns a (lawNum ns 0 / 512)
        · have : min (lastF ns a (lawNum ns 0 / 512)) (a + 16) = a + 16 := by omega
          simp [ev.eq_1, ev.eq_2, ev.eq_3, ev.eq_4, ev.eq_5, ev.eq_6, ev.eq_7, ev.eq_8, ev.eq_9, ev.eq_10, ev.eq_11, ev.eq_12, ev.eq_13, ev.eq_14, ev.eq_15, ev.eq_16, ev.eq_17, ev.eq_18, ev.eq_19, ev.eq_20, ev.eq_21, ev.eq_22, ev.eq_23, ev.eq_24, ev.eq_25, ev.eq_26, ev.eq_27, ev.eq_28, ev.eq_29, ev.eq_30, ev.eq_31, ev.eq_33, ev.eq_34, ev.eq_35, ev.eq_36, ev.eq_37, ev.eq_38, ev.eq_39, ev.eq_40, ev.eq_41, ev.eq_42, ev.eq_43, ev.eq_44, ev.eq_45, cx_cf, cx_cm, cx_gl, cx_dc, cx_ci, evSs, evS, evT, evs, evSrc, evo, gt, st, d_sh, d_fr, isB, isI, Out.bind_ok, Out.bindB_ok, Out.chk_ok, Out.of_some, c_gt, binD, idxD, ixN, min2D, big, c2, this]
        · have : min (lastF ns a (lawNum ns 0 / 512)) (a + 16) = lastF ns a (lawNum ns 0 / 512) := by omega
          simp [ev.eq_1, ev.eq_2, ev.eq_3, ev.eq_4, ev.eq_5, ev.eq_6, ev.eq_7, ev.eq_8, ev.eq_9, ev.eq_10, ev.eq_11, ev.eq_12, ev.eq_13, ev.eq_14, ev.eq_15, ev.eq_16, ev.eq_17, ev.eq_18, ev.eq_19, ev.eq_20, ev.eq_21, ev.eq_22, ev.eq_23, ev.eq_24, ev.eq_25, ev.eq_26, ev.eq_27, ev.eq_28, ev.eq_29, ev.eq_30, ev.eq_31, ev.eq_33, ev.eq_34, ev.eq_35, ev.eq_36, ev.eq_37, ev.eq_38, ev.eq_39, ev.eq_40, ev.eq_41, ev.eq_42, ev.eq_43, ev.eq_44, ev.eq_45, cx_cf, cx_cm, cx_gl, cx_dc, cx_ci, evSs, evS, evT, evs, evSrc, evo, gt, st, d_sh, d_fr, isB, isI, Out.bind_ok, Out.bindB_ok, Out.chk_ok, Out.of_some, c_gt, binD, idxD, ixN, min2D, big, c2, this]
    · simp [ev.eq_1, ev.eq_2, ev.eq_3, ev.eq_4, ev.eq_5, ev.eq_6, ev.eq_7, ev.eq_8, ev.eq_9, ev.eq_10, ev.eq_11, ev.eq_12, ev.eq_13, ev.eq_14, ev.eq_15, ev.eq_16, ev.eq_17, ev.eq_18, ev.eq_19, ev.eq_20, ev.eq_21, ev.eq_22, ev.eq_23, ev.eq_24, ev.eq_25, ev.eq_26, ev.eq_27, ev.eq_28, ev.eq_29, ev.eq_30, ev.eq_31, ev.eq_33, ev.eq_34, ev.eq_35, ev.eq_36, ev.eq_37, ev.eq_38, ev.eq_39, ev.eq_40, ev.eq_41, ev.eq_42, ev.eq_43, ev.eq_44, ev.eq_45, cx_cf, cx_cm, cx_gl, cx_dc, cx_ci, evSs, evS, evT, evs, evSrc, evo, gt, st, d_sh, d_fr, isB, isI, Out.bind_ok, Out.bindB_ok, Out.chk_ok, Out.of_some, c_gt, c])]
  rw [evSs_nx ((for1_eq (src := .rng (.slot 1) (.slot 6)) (ds := row (places a (asksLast ns a m))) (ρ' := [.v (.scr ns), .v (.int a), .v (.int m), .v first.d, .own (sens [first]), .own (sens []), .v (.int (asksLast ns a m)), .no, .no]) (S' := S) (by
    simp only [evSrc, ev, gt, Out.bind_ok, Out.bindB_ok, Out.chk_ok, d_sh, rng_places h0 (by omega) q1 (by omega), Out.of_some])).trans e)]
  simp [evSs, evS, gt, Fl.res, asksF]
theorem askRun_facts {ns : List Int} {m : Int} (hm : 1 ≤ m) : ∀ (ks : List Int) (fresh acc : List Sen), fresh ≠ [] → (∀ s ∈ fresh, s.ok m.toNat ∧ s.size < 16) → (∀ s ∈ acc, s.ok m.toNat ∧ s.size < 17) → (∀ s ∈ (askRun ns m ks fresh acc).2, s.ok m.toNat ∧ s.size < 17) ∧ (askRun ns m ks fresh acc).2.length = acc.length + ks.length
  | [], fresh, acc, _, _, h => ⟨h, by simp [askRun]⟩
  | k :: ks, fresh, acc, hf, h1, h2 => by
    obtain ⟨q1, q2, q3⟩ := askF_facts (lawNum_nonneg ns k) hf hm h1
    have hacc : ∀ s ∈ acc ++ [askF (lawNum ns k) fresh m], s.ok m.toNat ∧ s.size < 17 := by
      intro s hs
      rcases List.mem_append.mp hs with hs | hs
      · exact h2 s hs
      · have : s = askF (lawNum ns k) fresh m := by simpa using hs
        subst this
        exact ⟨q1, q2⟩
    unfold askRun
    by_cases c : 1 < lawNum ns k % 6
    · rw [if_pos c]
      have := askRun_facts (ns := ns) hm ks (fresh ++ [askF (lawNum ns k) fresh m]) (acc ++ [askF (lawNum ns k) fresh m]) (by simp) (by
        intro s hs
        rcases List.mem_append.mp hs with hs | hs
        · exact h1 s hs
        · have : s = askF (lawNum ns k) fresh m := by simpa using hs
          subst this
          exact ⟨q1, q3 c⟩) hacc
      refine ⟨this.1, by rw [this.2]; simp; omega⟩
    · rw [if_neg c]
      have := askRun_facts (ns := ns) hm ks fresh (acc ++ [askF (lawNum ns k) fresh m]) hf h1 hacc
      refine ⟨this.1, by rw [this.2]; simp; omega⟩
theorem asksF_facts {ns : List Int} (hn : ns.length ≤ 63) {a m : Int} (h0 : 0 ≤ a) (ha : a ≤ 60) (hm : 1 ≤ m) {first : Sen} (h : first.ok m.toNat) (hz : first.size < 16) : (∀ s ∈ asksF ns a m first, s.ok m.toNat ∧ s.depth ≤ 15) ∧ (asksF ns a m first).length ≤ 90 := by
  obtain ⟨q1, q2⟩ := asksLast_hi hn (m := m) h0 ha
  obtain ⟨k1, k2⟩ := askRun_facts (ns := ns) hm (places a (asksLast ns a m)) [first] [] (by simp) (by simpa using ⟨h, hz⟩) (by simp)
  refine ⟨fun s hs => ?_, ?_⟩
  · obtain ⟨k3, k4⟩ := k1 s hs
    have := s.depth_lt
    exact ⟨k3, by omega⟩
  · show (askRun ns m (places a (asksLast ns a m)) [first] []).2.length ≤ 90
    rw [k2]
    simp [places]
    omega
def b1__law_tree_is : List CS := [
    .ite (.nt (.e (.call "_law_tree_is" [(.idx (.slot 0) (.slot 2)), (.idx (.slot 1) (.slot 2))]))) [
      .ret (.bl false)] []]
def fn__law_tree_is : Fn := ⟨2, 3, [
  .ite (.or (.nt (.e (.isin (.slot 0) .tuple))) (.e (.cmp .NotEq (.len (.slot 0)) (.len (.slot 1))))) [
    .ret (.bl false)] [],
  .ite (.or (.nt (.e (.isin (.idx (.slot 0) (.int 0)) .str))) (.e (.cmp .NotEq (.idx (.slot 0) (.int 0)) (.idx (.slot 1) (.int 0))))) [
    .ret (.bl false)] [],
  .ite (.e (.cmp .Eq (.idx (.slot 1) (.int 0)) (.str "let"))) [
    .ret (.band (.call "_law_whole" [(.idx (.slot 0) (.int 1))]) (.cmp .Eq (.idx (.slot 0) (.int 1)) (.idx (.slot 1) (.int 1))))] [],
  .for1 2 (.rng (.int 1) (.len (.slot 1))) b1__law_tree_is,
  .ret (.bl true)]⟩
def fn__law_pair_is : Fn := ⟨2, 2, [
  .ite (.or (.nt (.e (.isin (.slot 0) .tuple))) (.e (.cmp .NotEq (.len (.slot 0)) (.int 2)))) [
    .ret (.bl false)] [],
  .ret (.band (.call "_law_tree_is" [(.idx (.slot 0) (.int 0)), (.idx (.slot 1) (.int 0))]) (.call "_law_says" [(.idx (.slot 0) (.int 1)), (.idx (.slot 1) (.int 1))]))]⟩
def b1__law_pairs_are : List CS := [
    .ite (.nt (.e (.call "_law_pair_is" [(.idx (.slot 0) (.slot 2)), (.idx (.slot 1) (.slot 2))]))) [
      .ret (.bl false)] []]
def fn__law_pairs_are : Fn := ⟨2, 3, [
  .ite (.or (.nt (.e (.isin (.slot 0) .list))) (.e (.cmp .NotEq (.len (.slot 0)) (.len (.slot 1))))) [
    .ret (.bl false)] [],
  .for1 2 (.rng1 (.len (.slot 1))) b1__law_pairs_are,
  .ret (.bl true)]⟩

theorem rng_13 : rangeD (.int 1) (.int 3) = some [.int 1, .int 2] := rfl
theorem rng_12 : rangeD (.int 1) (.int 2) = some [.int 1] := rfl
theorem ok_tree_is {T : Tab} (h : T.fn "_law_tree_is" = some fn__law_tree_is) (h1 : T.fn "_law_whole" = some fn__law_whole) : ∀ (s : Sen) (f : Nat) (S : Store), s.depth + 1 < f → callF T f "_law_tree_is" [s.d, s.d] S = .ok (.sh (.bl true)) S
  | .lt k, f + 2, S, _ => by
    rw [call_eq h rfl]
    simp [fn__law_tree_is, ev.eq_1, ev.eq_2, ev.eq_3, ev.eq_4, ev.eq_5, ev.eq_6, ev.eq_7, ev.eq_8, ev.eq_9, ev.eq_10, ev.eq_11, ev.eq_12, ev.eq_13, ev.eq_14, ev.eq_15, ev.eq_16, ev.eq_17, ev.eq_18, ev.eq_19, ev.eq_20, ev.eq_21, ev.eq_22, ev.eq_23, ev.eq_24, ev.eq_25, ev.eq_26, ev.eq_27, ev.eq_28, ev.eq_29, ev.eq_30, ev.eq_31, ev.eq_33, ev.eq_34, ev.eq_35, ev.eq_36, ev.eq_37, ev.eq_38, ev.eq_39, ev.eq_40, ev.eq_41, ev.eq_42, ev.eq_43, ev.eq_44, ev.eq_45, cx_cf, cx_cm, cx_gl, cx_dc, cx_ci, evSs, evS, evT, evs, evSrc, evo, gt, st, d_sh, d_fr, isB, isI, Out.bind_ok, Out.bindB_ok, Out.chk_ok, Out.of_some, Sen.d, isinD, lenD, c_neI, idxD, ixN, c_neS, c_eqS, s_let, ok_whole h1, c_eqI, Fl.res]
  | .nt s, f + 1, S, hd => by
    have ih := ok_tree_is h h1 s f S (by simp only [Sen.depth] at hd; omega)
    rw [call_eq h rfl]
    simp [fn__law_tree_is, ev.eq_1, ev.eq_2, ev.eq_3, ev.eq_4, ev.eq_5, ev.eq_6, ev.eq_7, ev.eq_8, ev.eq_9, ev.eq_10, ev.eq_11, ev.eq_12, ev.eq_13, ev.eq_14, ev.eq_15, ev.eq_16, ev.eq_17, ev.eq_18, ev.eq_19, ev.eq_20, ev.eq_21, ev.eq_22, ev.eq_23, ev.eq_24, ev.eq_25, ev.eq_26, ev.eq_27, ev.eq_28, ev.eq_29, ev.eq_30, ev.eq_31, ev.eq_33, ev.eq_34, ev.eq_35, ev.eq_36, ev.eq_37, ev.eq_38, ev.eq_39, ev.eq_40, ev.eq_41, ev.eq_42, ev.eq_43, ev.eq_44, ev.eq_45, cx_cf, cx_cm, cx_gl, cx_dc, cx_ci, evSs, evS, evT, evs, evSrc, evo, gt, st, d_sh, d_fr, isB, isI, Out.bind_ok, Out.bindB_ok, Out.chk_ok, Out.of_some, Sen.d, isinD, lenD, c_neI, idxD, ixN, c_neS, c_eqS, s_let, not_ne_let, rng_12, loopS, b1__law_tree_is, ih, Fl.res]
  | .j2 j s t, f + 1, S, hd => by
    have ih := ok_tree_is h h1 s f S (by simp only [Sen.depth] at hd; omega)
    have ih2 := ok_tree_is h h1 t f S (by simp only [Sen.depth] at hd; omega)
    rw [call_eq h rfl]
    simp [fn__law_tree_is, ev.eq_1, ev.eq_2, ev.eq_3, ev.eq_4, ev.eq_5, ev.eq_6, ev.eq_7, ev.eq_8, ev.eq_9, ev.eq_10, ev.eq_11, ev.eq_12, ev.eq_13, ev.eq_14, ev.eq_15, ev.eq_16, ev.eq_17, ev.eq_18, ev.eq_19, ev.eq_20, ev.eq_21, ev.eq_22, ev.eq_23, ev.eq_24, ev.eq_25, ev.eq_26, ev.eq_27, ev.eq_28, ev.eq_29, ev.eq_30, ev.eq_31, ev.eq_33, ev.eq_34, ev.eq_35, ev.eq_36, ev.eq_37, ev.eq_38, ev.eq_39, ev.eq_40, ev.eq_41, ev.eq_42, ev.eq_43, ev.eq_44, ev.eq_45, cx_cf, cx_cm, cx_gl, cx_dc, cx_ci, evSs, evS, evT, evs, evSrc, evo, gt, st, d_sh, d_fr, isB, isI, Out.bind_ok, Out.bindB_ok, Out.chk_ok, Out.of_some, Sen.d, isinD, lenD, c_neI, idxD, ixN, c_neS, c_eqS, s_let, j.ne_let, rng_13, loopS, b1__law_tree_is, ih, ih2, Fl.res]
structure LPairs (T : Tab) : Prop where
  l_whole : T.fn "_law_whole" = some fn__law_whole
  l_says : T.fn "_law_says" = some fn__law_says
  l_tree_is : T.fn "_law_tree_is" = some fn__law_tree_is
  l_pair_is : T.fn "_law_pair_is" = some fn__law_pair_is
  l_pairs_are : T.fn "_law_pairs_are" = some fn__law_pairs_are
theorem ok_pair_is {T : Tab} (L : LPairs T) (p : Sen × Ans) {f : Nat} (hf : p.1.depth + 1 < f) (S : Store) : callF T (f + 1) "_law_pair_is" [sayD p, sayD p] S = .ok (.sh (.bl true)) S := by
  obtain ⟨s, a⟩ := p
  have e1 := ok_tree_is L.l_tree_is L.l_whole s f S hf
  have hf' : s.depth + 1 < f := hf
  obtain ⟨g, rfl⟩ : ∃ g, f = g + 1 := ⟨f - 1, by omega⟩
  have e2 := ok_says L.l_says g a.s a.s S
  rw [call_eq L.l_pair_is rfl]
  simp [fn__law_pair_is, ev.eq_1, ev.eq_2, ev.eq_3, ev.eq_4, ev.eq_5, ev.eq_6, ev.eq_7, ev.eq_8, ev.eq_9, ev.eq_10, ev.eq_11, ev.eq_12, ev.eq_13, ev.eq_14, ev.eq_15, ev.eq_16, ev.eq_17, ev.eq_18, ev.eq_19, ev.eq_20, ev.eq_21, ev.eq_22, ev.eq_23, ev.eq_24, ev.eq_25, ev.eq_26, ev.eq_27, ev.eq_28, ev.eq_29, ev.eq_30, ev.eq_31, ev.eq_33, ev.eq_34, ev.eq_35, ev.eq_36, ev.eq_37, ev.eq_38, ev.eq_39, ev.eq_40, ev.eq_41, ev.eq_42, ev.eq_43, ev.eq_44, ev.eq_45, cx_cf, cx_cm, cx_gl, cx_dc, cx_ci, evSs, evS, evT, evs, evSrc, evo, gt, st, d_sh, d_fr, isB, isI, Out.bind_ok, Out.bindB_ok, Out.chk_ok, Out.of_some, sayD, isinD, lenD, c_neI, idxD, ixN, e1, e2, Fl.res]
theorem pairs_loop {T : Tab} (L : LPairs T) {f : Nat} (l : List (Sen × Ans)) (hd : ∀ p ∈ l, p.1.depth + 1 < f) (S : Store) : ∀ (ds : List Int) (x2 : Sl), (∀ i ∈ ds, 0 ≤ i ∧ i < l.length) →
    ∃ y2, loopS (fun d ρ S => evSs (cx T (f + 1)) b1__law_pairs_are (st ρ 2 (.v d)) S) (row ds) [.v (.lst (l.map sayD)), .v (.lst (l.map sayD)), x2] S = .ok .nx [.v (.lst (l.map sayD)), .v (.lst (l.map sayD)), y2] S
  | [], x2, _ => ⟨x2, rfl⟩
  | i :: ds, x2, hi => by
    obtain ⟨h0, h1⟩ := hi i (by simp)
    obtain ⟨y2, e⟩ := pairs_loop L l hd S ds (.v (.int i)) fun j hj => hi j (by simp [hj])
    have hl : i.toNat < l.length := by omega
    have e1 : idxD (.lst (l.map sayD)) (.int i) = some (sayD l[i.toNat]) := by
      have : (l.map sayD)[i.toNat]? = some (sayD l[i.toNat]) := by rw [List.getElem?_map, List.getElem?_eq_getElem hl]; rfl
      simp only [idxD, ixN, List.length_map, if_pos h0, if_pos h1, Option.bind_some, this]
    have e2 := ok_pair_is L l[i.toNat] (hd _ (List.getElem_mem _)) S
    refine ⟨y2, ?_⟩
    rw [row_cons, loop_nx (ρ' := [.v (.lst (l.map sayD)), .v (.lst (l.map sayD)), .v (.int i)]) (S' := S) (by simp [b1__law_pairs_are, ev.eq_1, ev.eq_2, ev.eq_3, ev.eq_4, ev.eq_5, ev.eq_6, ev.eq_7, ev.eq_8, ev.eq_9, ev.eq_10, ev.eq_11, ev.eq_12, ev.eq_13, ev.eq_14, ev.eq_15, ev.eq_16, ev.eq_17, ev.eq_18, ev.eq_19, ev.eq_20, ev.eq_21, ev.eq_22, ev.eq_23, ev.eq_24, ev.eq_25, ev.eq_26, ev.eq_27, ev.eq_28, ev.eq_29, ev.eq_30, ev.eq_31, ev.eq_33, ev.eq_34, ev.eq_35, ev.eq_36, ev.eq_37, ev.eq_38, ev.eq_39, ev.eq_40, ev.eq_41, ev.eq_42, ev.eq_43, ev.eq_44, ev.eq_45, cx_cf, cx_cm, cx_gl, cx_dc, cx_ci, evSs, evS, evT, evs, evSrc, evo, gt, st, d_sh, d_fr, isB, isI, Out.bind_ok, Out.bindB_ok, Out.chk_ok, Out.of_some, e1, e2]), e]
theorem ok_pairs_are {T : Tab} (L : LPairs T) {f : Nat} (l : List (Sen × Ans)) (hd : ∀ p ∈ l, p.1.depth + 1 < f) (hl : l.length ≤ 1000) (S : Store) : callF T (f + 2) "_law_pairs_are" [.lst (l.map sayD), .lst (l.map sayD)] S = .ok (.sh (.bl true)) S := by
  obtain ⟨y2, e⟩ := pairs_loop L l hd S (wl l.length) .no fun i hi => mem_wl.mp hi
  have ln : lenD (.lst (l.map sayD)) = some (.int l.length) := by simp only [lenD, List.length_map]
  rw [call_eq L.l_pairs_are rfl]
  simp only [fn__law_pairs_are, List.map_cons, List.map_nil, List.cons_append, List.nil_append, List.replicate, Nat.reduceSub]
  rw [evSs_nx (ρ' := [.v (.lst (l.map sayD)), .v (.lst (l.map sayD)), .no]) (S' := S) (by simp [ev.eq_1, ev.eq_2, ev.eq_3, ev.eq_4, ev.eq_5, ev.eq_6, ev.eq_7, ev.eq_8, ev.eq_9, ev.eq_10, ev.eq_11, ev.eq_12, ev.eq_13, ev.eq_14, ev.eq_15, ev.eq_16, ev.eq_17, ev.eq_18, ev.eq_19, ev.eq_20, ev.eq_21, ev.eq_22, ev.eq_23, ev.eq_24, ev.eq_25, ev.eq_26, ev.eq_27, ev.eq_28, ev.eq_29, ev.eq_30, ev.eq_31, ev.eq_33, ev.eq_34, ev.eq_35, ev.eq_36, ev.eq_37, ev.eq_38, ev.eq_39, ev.eq_40, ev.eq_41, ev.eq_42, ev.eq_43, ev.eq_44, ev.eq_45, cx_cf, cx_cm, cx_gl, cx_dc, cx_ci, evSs, evS, evT, evs, evSrc, evo, gt, st, d_sh, d_fr, isB, isI, Out.bind_ok, Out.bindB_ok, Out.chk_ok, Out.of_some, isinD, ln, c_neI])]
  rw [evSs_nx ((for1_eq (src_rng1 (x := .sh (.int l.length)) (by simp only [ev, gt, Out.bind_ok, Out.bindB_ok, Out.chk_ok, d_sh, ln, Out.of_some]) (rng_len (by omega)))).trans e)]
  simp [evSs, evS, ev, Fl.res]
end Ht

set_option linter.all false
set_option maxRecDepth 100000
set_option maxHeartbeats 200000
namespace Ht
open PySem
/-! ### a talk as it goes on -/
structure Run (m : Int) (A : Start) (el : Bool) (t : Tk) : Prop where
  ok : t.ok
  hm : t.m = m
  hk : t.kd = A.k
  hs : t.sen = A.s
  hr : t.room = A.r
  he : t.el = el
  hn : t.ended = false
  el2 : t.elders.length = t.said.length
section
variable {m : Int} {A : Start} {el : Bool} {t : Tk}
theorem Run.put (R : Run m A el t) (s : Sen) (a : Ans) : Run m A el (t.put s a) := ⟨R.ok.put s a, R.hm, R.hk, R.hs, R.hr, R.he, R.hn, by simp [Tk.put, R.el2]⟩
theorem Run.sides (R : Run m A el t) : t.sides = sidesF A.k A.r A.s := by unfold Tk.sides; rw [R.hk, R.hr, R.hs]
theorem Run.base (R : Run m A el t) : t.base = baseF A.r (sidesF A.k A.r A.s) := by unfold Tk.base; rw [R.sides, R.hr]
theorem Run.start {el : Bool} (hA : A.ok m) (h1 : 1 ≤ m) (h5 : m ≤ 5) : Run m A el (mkTk m A.k A.s el A.r) := ⟨hA.tk h1 h5 el, rfl, rfl, rfl, rfl, rfl, rfl, rfl⟩
theorem Run.go (R : Run m A el t) : t.going = if el = true then t.left else baseF A.r (sidesF A.k A.r A.s) := by unfold Tk.going; rw [R.he, R.base]
theorem Tk.ok.left_room (o : t.ok) : t.left.Sublist t.room := o.ll.trans (base_sub _ _)
theorem Tk.ok.going_room (o : t.ok) : t.going.Sublist t.room := by
  unfold Tk.going
  split
  · exact o.left_room
  · exact base_sub _ _
theorem Run.left_sub (R : Run m A el t) : t.left.Sublist A.r := R.hr ▸ R.ok.left_room
theorem Run.going_sub (R : Run m A el t) : t.going.Sublist A.r := R.hr ▸ R.ok.going_room
theorem Run.told (R : Run m A el t) (s : Sen) (seen : List Int) : t.told s seen = t.due s seen := by unfold Tk.told; rw [R.hn]; rfl
theorem Run.due (R : Run m A el t) (s : Sen) (seen : List Int) : t.due s seen = answerF (sidesF A.k A.r A.s) t.going seen (insF s A.r) := by unfold Tk.due; rw [R.sides, R.hr]
theorem Run.rl (R : Run m A el t) : A.r.length ≤ 32 := R.hr ▸ R.ok.rl
theorem Run.ll (R : Run m A el t) : t.left.length ≤ 32 := Nat.le_trans R.left_sub.length_le R.rl
theorem Run.gl (R : Run m A el t) : t.going.length ≤ 32 := Nat.le_trans R.going_sub.length_le R.rl
variable {T : Tab} {S : Store} {k : Nat} {s : Sen} {seen : List Int} {f : Nat}
theorem Run.ask (R : Run m A el t) (P : PAsk T) (so : s.ok m.toNat) (hd : s.depth + 6 < f) (hs : seen.length ≤ 100) (hk : S[k]? = some t.cell) : callM T (f + 3) "Talk" "ask" [.ref k, s.d, .lst (row seen)] S = .ok (.sh (.str (t.due s seen).s)) S := by
  have e := m_ask P R.ok (s := s) (seen := seen) (f := f) (by rw [R.hm]; exact so) hd hs hk
  rw [R.told] at e
  exact e
theorem Run.say (R : Run m A el t) (P : PSay T) (so : s.ok m.toNat) (hd : s.depth + 7 < f) (hs : seen.length ≤ 100) (hl : t.said.length ≤ 900) (hk : S[k]? = some t.cell) : callM T (f + 4) "Talk" "say" [.ref k, s.d, .lst (row seen)] S = .ok (.sh (.str (t.due s seen).s)) (S.set k (t.put s (t.due s seen)).cell) :=
  m_say P R.ok R.hn (by rw [R.hm]; exact so) hd hs (by omega) (by rw [R.el2]; omega) hk
end
/-! forks -/
def fn_Talk_fork : Fn := ⟨1, 2, [
  .asg false 1 (.make "Talk" [(.fld (.slot 0) "many"), (.fld (.slot 0) "place"), (.fld (.slot 0) "kind"), (.fld (.slot 0) "sentence"), (.fld (.slot 0) "rule")]),
  .fset false (.slot 1) "left" (.list (.fld (.slot 0) "left")),
  .fset true (.slot 1) "said" (.flist (.slot 0) "said"),
  .fset true (.slot 1) "elders" (.flist (.slot 0) "elders"),
  .fset false (.slot 1) "ended" (.fld (.slot 0) "ended"),
  .retS 1]⟩
theorem at_old {S : Store} {k : Nat} {c d : Cell} (h : S[k]? = some c) : (S ++ [d])[k]? = some c := by
  rw [List.getElem?_append_left (List.getElem?_eq_some_iff.mp h).1]
  exact h
theorem set_last {S : Store} {c d : Cell} : (S ++ [c]).set S.length d = S ++ [d] := by simp
theorem ev_fsetT {Γ : Ctx} {own : Bool} {f : Str} {e : CE} {S S1 : Store} {ρ : Env} {y : Rv} {i n : Nat} {t : Tk} (he : ev Γ e ρ S = .ok y ρ S) (ha : gt ρ i = .v (.ref n)) (hk : S[n]? = some t.cell) (h2 : setFld S n f (ownSl own y) = S1) : evS Γ (.fset own (.slot i) f e) ρ S = .ok .nx ρ S1 := by
  simp only [evS, he, Out.bind_ok, Out.bindB_ok, Out.chk_ok, ev, ha, hk, fs_len, show (10 : Nat) < 999 from by decide, if_true, h2]
theorem m_fork {T : Tab} {S : Store} {k : Nat} {t : Tk} {f : Nat} (P : PInit T) (h : T.mt "Talk" "fork" = some fn_Talk_fork) (o : t.ok) (hd : 32 ≤ f) (hk : S[k]? = some t.cell) : callM T (f + 5) "Talk" "fork" [.ref k] S = .ok (.sh (.ref S.length)) (S ++ [t.cell]) := by
  have sd := o.sd
  have rl := o.rl
  let t0 := mkTk t.m t.kd t.sen t.el t.room
  let t1 : Tk := { t0 with left := t.left }
  let t2 : Tk := { t1 with said := t.said }
  let t3 : Tk := { t2 with elders := t.elders }
  have k0 : (S ++ [t0.cell])[k]? = some t.cell := at_old hk
  have k1 : (S ++ [t1.cell])[k]? = some t.cell := at_old hk
  have k2 : (S ++ [t2.cell])[k]? = some t.cell := at_old hk
  have k3 : (S ++ [t3.cell])[k]? = some t.cell := at_old hk
  rw [callM_eq h rfl]
  simp only [fn_Talk_fork, List.map_cons, List.map_nil, List.cons_append, List.nil_append, List.replicate, Nat.reduceSub]
  rw [evSs_nx (ρ' := [.v (.ref k), .v (.ref S.length)]) (S' := S ++ [t0.cell]) (by
    simp only [evS]
    rw [ev_make P (S' := S) (ρ' := [.v (.ref k), .no]) (f := f) (m := t.m) (k := t.kd) (s := t.sen) (el := t.el) (r := t.room) o.m1 o.m5 o.so (by omega) (by omega) o.rs o.ne (by
      simp only [evs, ev, gt, Out.bind_ok, Out.bindB_ok, Out.chk_ok, d_sh, fl_many hk, fl_place hk, fl_kind hk, fl_sentence hk, fl_rule hk])]
    rfl)]
  rw [evSs_nx (ev_fsetT (i := 1) (n := S.length) (t := t0) (y := .fr (row t.left)) (S1 := S ++ [t1.cell]) (by simp only [ev, gt, Out.bind_ok, Out.bindB_ok, Out.chk_ok, d_sh, fl_left k0, list_row, Out.of_some]) rfl at_new (by
    rw [show ownSl false (.fr (row t.left)) = .v (.lst (row t.left)) from rfl, st_left at_new, set_last]))]
  rw [evSs_nx (ev_fsetT (i := 1) (n := S.length) (t := t1) (y := .fr (t.said.map sayD)) (S1 := S ++ [t2.cell]) (by simp only [ev, gt, Out.bind_ok, Out.bindB_ok, Out.chk_ok, fl_said k1]) rfl at_new (by
    rw [show ownSl true (.fr (t.said.map sayD)) = .own (t.said.map sayD) from rfl, st_said at_new, set_last]))]
  rw [evSs_nx (ev_fsetT (i := 1) (n := S.length) (t := t2) (y := .fr (t.elders.map fun r => .lst (row r))) (S1 := S ++ [t3.cell]) (by simp only [ev, gt, Out.bind_ok, Out.bindB_ok, Out.chk_ok, fl_elders k2]) rfl at_new (by
    rw [show ownSl true (.fr (t.elders.map fun r => .lst (row r))) = .own (t.elders.map fun r => .lst (row r)) from rfl, st_elders at_new, set_last]))]
  rw [evSs_nx (ev_fsetT (i := 1) (n := S.length) (t := t3) (y := .sh (.bl t.ended)) (S1 := S ++ [t.cell]) (by simp only [ev, gt, Out.bind_ok, Out.bindB_ok, Out.chk_ok, fl_ended k3]) rfl at_new (by
    rw [show ownSl false (.sh (.bl t.ended)) = .v (.bl t.ended) from rfl, st_ended at_new, set_last]; rfl))]
  simp [evSs, evS, gt, Fl.res]
/-! what the elder rule keeps -/
theorem stands_base {r : List Int} {sd : List (List Int)} (h : ∀ x ∈ sd, x ≠ [] ∧ x.Sublist r) : standsF sd (baseF r sd) = true := by
  refine List.all_eq_true.mpr fun x hx => ?_
  obtain ⟨h1, h2⟩ := h x hx
  obtain ⟨w, hw⟩ := List.exists_mem_of_ne_nil _ h1
  refine List.any_eq_true.mpr ⟨w, hw, ?_⟩
  refine decide_eq_true (List.mem_filter.mpr ⟨h2.subset hw, List.any_eq_true.mpr ⟨x, hx, decide_eq_true hw⟩⟩)
theorem stands_put {m : Int} {A : Start} {t : Tk} (R : Run m A true t) (s : Sen) (seen : List Int) (h : standsF (sidesF A.k A.r A.s) t.left = true) : standsF (sidesF A.k A.r A.s) (t.put s (t.due s seen)).left = true := by
  have g : t.going = t.left := by rw [R.go, if_pos rfl]
  have hl : ∀ w ∈ t.left, w ∈ A.r := fun w hw => R.left_sub.subset hw
  rw [R.due, g]
  show standsF _ (leftF t.left s _) = true
  have e1 := meet_ins s hl
  have e2 := rest_ins2 s hl
  unfold answerF
  rw [e1, e2]
  by_cases c : outsF s t.left = []
  · rw [if_pos c]
    have : insF s t.left = t.left := List.filter_eq_self.mpr fun w hw => by
      cases c2 : s.tr w
      · have : w ∈ outsF s t.left := List.mem_filter.mpr ⟨hw, by simp [c2]⟩
        rw [c] at this
        cases this
      · rfl
    show standsF _ (insF s t.left) = true
    rw [this]
    exact h
  · rw [if_neg c]
    by_cases c2 : insF s t.left = []
    · rw [if_pos c2]
      have : outsF s t.left = t.left := List.filter_eq_self.mpr fun w hw => by
        cases c3 : s.tr w
        · rfl
        · have : w ∈ insF s t.left := List.mem_filter.mpr ⟨hw, c3⟩
          rw [c2] at this
          cases this
      show standsF _ (outsF s t.left) = true
      rw [this]
      exact h
    · rw [if_neg c2]
      cases plainF seen (insF s A.r)
      · simp only
        split
        · assumption
        · exact h
      · simp only
        split
        · assumption
        · exact h
      · exact h
end Ht

set_option linter.all false
set_option maxRecDepth 100000
set_option maxHeartbeats 400000
/-! refusals: what Talk(..), its methods and sides_of raise -/
namespace Ht
open PySem
theorem evSs_ex {Γ : Ctx} {s : CS} {r : List CS} {ρ ρ' : Env} {S S' : Store} {x : Xn} (h : evS Γ s ρ S = .exc x ρ' S') : evSs Γ (s :: r) ρ S = .exc x ρ' S' := by simp only [evSs, h, Out.bind_exc]
/-! the names of the exceptions, two by two -/
theorem xne_ValueError : ¬ (Str.ofString "ValueError" = Str.ofString "TalkError") ∧ ¬ (Str.ofString "ValueError" = Str.ofString "StrangeLetter") ∧ ¬ (Str.ofString "ValueError" = Str.ofString "BadWord") ∧ ¬ (Str.ofString "ValueError" = Str.ofString "NoStanding") ∧ ¬ (Str.ofString "ValueError" = Str.ofString "TalkOver") ∧ ¬ (Str.ofString "ValueError" = Str.ofString "NothingSaid") ∧ ¬ (Str.ofString "ValueError" = Str.ofString "NoLetter") ∧ ¬ (Str.ofString "ValueError" = Str.ofString "NoWorld") ∧ ¬ (Str.ofString "ValueError" = Str.ofString "BadName") ∧ ¬ (Str.ofString "ValueError" = Str.ofString "NameTaken") ∧ ¬ (Str.ofString "ValueError" = Str.ofString "NoTalk") ∧ ¬ (Str.ofString "ValueError" = Str.ofString "NoBook") ∧ ¬ (Str.ofString "ValueError" = Str.ofString "NoSentence") := by decide +kernel
theorem xne_TalkError : ¬ (Str.ofString "TalkError" = Str.ofString "ValueError") ∧ ¬ (Str.ofString "TalkError" = Str.ofString "StrangeLetter") ∧ ¬ (Str.ofString "TalkError" = Str.ofString "BadWord") ∧ ¬ (Str.ofString "TalkError" = Str.ofString "NoStanding") ∧ ¬ (Str.ofString "TalkError" = Str.ofString "TalkOver") ∧ ¬ (Str.ofString "TalkError" = Str.ofString "NothingSaid") ∧ ¬ (Str.ofString "TalkError" = Str.ofString "NoLetter") ∧ ¬ (Str.ofString "TalkError" = Str.ofString "NoWorld") ∧ ¬ (Str.ofString "TalkError" = Str.ofString "BadName") ∧ ¬ (Str.ofString "TalkError" = Str.ofString "NameTaken") ∧ ¬ (Str.ofString "TalkError" = Str.ofString "NoTalk") ∧ ¬ (Str.ofString "TalkError" = Str.ofString "NoBook") ∧ ¬ (Str.ofString "TalkError" = Str.ofString "NoSentence") := by decide +kernel
theorem xne_StrangeLetter : ¬ (Str.ofString "StrangeLetter" = Str.ofString "ValueError") ∧ ¬ (Str.ofString "StrangeLetter" = Str.ofString "TalkError") ∧ ¬ (Str.ofString "StrangeLetter" = Str.ofString "BadWord") ∧ ¬ (Str.ofString "StrangeLetter" = Str.ofString "NoStanding") ∧ ¬ (Str.ofString "StrangeLetter" = Str.ofString "TalkOver") ∧ ¬ (Str.ofString "StrangeLetter" = Str.ofString "NothingSaid") ∧ ¬ (Str.ofString "StrangeLetter" = Str.ofString "NoLetter") ∧ ¬ (Str.ofString "StrangeLetter" = Str.ofString "NoWorld") ∧ ¬ (Str.ofString "StrangeLetter" = Str.ofString "BadName") ∧ ¬ (Str.ofString "StrangeLetter" = Str.ofString "NameTaken") ∧ ¬ (Str.ofString "StrangeLetter" = Str.ofString "NoTalk") ∧ ¬ (Str.ofString "StrangeLetter" = Str.ofString "NoBook") ∧ ¬ (Str.ofString "StrangeLetter" = Str.ofString "NoSentence") := by decide +kernel
theorem xne_BadWord : ¬ (Str.ofString "BadWord" = Str.ofString "ValueError") ∧ ¬ (Str.ofString "BadWord" = Str.ofString "TalkError") ∧ ¬ (Str.ofString "BadWord" = Str.ofString "StrangeLetter") ∧ ¬ (Str.ofString "BadWord" = Str.ofString "NoStanding") ∧ ¬ (Str.ofString "BadWord" = Str.ofString "TalkOver") ∧ ¬ (Str.ofString "BadWord" = Str.ofString "NothingSaid") ∧ ¬ (Str.ofString "BadWord" = Str.ofString "NoLetter") ∧ ¬ (Str.ofString "BadWord" = Str.ofString "NoWorld") ∧ ¬ (Str.ofString "BadWord" = Str.ofString "BadName") ∧ ¬ (Str.ofString "BadWord" = Str.ofString "NameTaken") ∧ ¬ (Str.ofString "BadWord" = Str.ofString "NoTalk") ∧ ¬ (Str.ofString "BadWord" = Str.ofString "NoBook") ∧ ¬ (Str.ofString "BadWord" = Str.ofString "NoSentence") := by decide +kernel
theorem xne_NoStanding : ¬ (Str.ofString "NoStanding" = Str.ofString "ValueError") ∧ ¬ (Str.ofString "NoStanding" = Str.ofString "TalkError") ∧ ¬ (Str.ofString "NoStanding" = Str.ofString "StrangeLetter") ∧ ¬ (Str.ofString "NoStanding" = Str.ofString "BadWord") ∧ ¬ (Str.ofString "NoStanding" = Str.ofString "TalkOver") ∧ ¬ (Str.ofString "NoStanding" = Str.ofString "NothingSaid") ∧ ¬ (Str.ofString "NoStanding" = Str.ofString "NoLetter") ∧ ¬ (Str.ofString "NoStanding" = Str.ofString "NoWorld") ∧ ¬ (Str.ofString "NoStanding" = Str.ofString "BadName") ∧ ¬ (Str.ofString "NoStanding" = Str.ofString "NameTaken") ∧ ¬ (Str.ofString "NoStanding" = Str.ofString "NoTalk") ∧ ¬ (Str.ofString "NoStanding" = Str.ofString "NoBook") ∧ ¬ (Str.ofString "NoStanding" = Str.ofString "NoSentence") := by decide +kernel
theorem xne_TalkOver : ¬ (Str.ofString "TalkOver" = Str.ofString "ValueError") ∧ ¬ (Str.ofString "TalkOver" = Str.ofString "TalkError") ∧ ¬ (Str.ofString "TalkOver" = Str.ofString "StrangeLetter") ∧ ¬ (Str.ofString "TalkOver" = Str.ofString "BadWord") ∧ ¬ (Str.ofString "TalkOver" = Str.ofString "NoStanding") ∧ ¬ (Str.ofString "TalkOver" = Str.ofString "NothingSaid") ∧ ¬ (Str.ofString "TalkOver" = Str.ofString "NoLetter") ∧ ¬ (Str.ofString "TalkOver" = Str.ofString "NoWorld") ∧ ¬ (Str.ofString "TalkOver" = Str.ofString "BadName") ∧ ¬ (Str.ofString "TalkOver" = Str.ofString "NameTaken") ∧ ¬ (Str.ofString "TalkOver" = Str.ofString "NoTalk") ∧ ¬ (Str.ofString "TalkOver" = Str.ofString "NoBook") ∧ ¬ (Str.ofString "TalkOver" = Str.ofString "NoSentence") := by decide +kernel
theorem xne_NothingSaid : ¬ (Str.ofString "NothingSaid" = Str.ofString "ValueError") ∧ ¬ (Str.ofString "NothingSaid" = Str.ofString "TalkError") ∧ ¬ (Str.ofString "NothingSaid" = Str.ofString "StrangeLetter") ∧ ¬ (Str.ofString "NothingSaid" = Str.ofString "BadWord") ∧ ¬ (Str.ofString "NothingSaid" = Str.ofString "NoStanding") ∧ ¬ (Str.ofString "NothingSaid" = Str.ofString "TalkOver") ∧ ¬ (Str.ofString "NothingSaid" = Str.ofString "NoLetter") ∧ ¬ (Str.ofString "NothingSaid" = Str.ofString "NoWorld") ∧ ¬ (Str.ofString "NothingSaid" = Str.ofString "BadName") ∧ ¬ (Str.ofString "NothingSaid" = Str.ofString "NameTaken") ∧ ¬ (Str.ofString "NothingSaid" = Str.ofString "NoTalk") ∧ ¬ (Str.ofString "NothingSaid" = Str.ofString "NoBook") ∧ ¬ (Str.ofString "NothingSaid" = Str.ofString "NoSentence") := by decide +kernel
theorem xne_NoLetter : ¬ (Str.ofString "NoLetter" = Str.ofString "ValueError") ∧ ¬ (Str.ofString "NoLetter" = Str.ofString "TalkError") ∧ ¬ (Str.ofString "NoLetter" = Str.ofString "StrangeLetter") ∧ ¬ (Str.ofString "NoLetter" = Str.ofString "BadWord") ∧ ¬ (Str.ofString "NoLetter" = Str.ofString "NoStanding") ∧ ¬ (Str.ofString "NoLetter" = Str.ofString "TalkOver") ∧ ¬ (Str.ofString "NoLetter" = Str.ofString "NothingSaid") ∧ ¬ (Str.ofString "NoLetter" = Str.ofString "NoWorld") ∧ ¬ (Str.ofString "NoLetter" = Str.ofString "BadName") ∧ ¬ (Str.ofString "NoLetter" = Str.ofString "NameTaken") ∧ ¬ (Str.ofString "NoLetter" = Str.ofString "NoTalk") ∧ ¬ (Str.ofString "NoLetter" = Str.ofString "NoBook") ∧ ¬ (Str.ofString "NoLetter" = Str.ofString "NoSentence") := by decide +kernel
theorem xne_NoWorld : ¬ (Str.ofString "NoWorld" = Str.ofString "ValueError") ∧ ¬ (Str.ofString "NoWorld" = Str.ofString "TalkError") ∧ ¬ (Str.ofString "NoWorld" = Str.ofString "StrangeLetter") ∧ ¬ (Str.ofString "NoWorld" = Str.ofString "BadWord") ∧ ¬ (Str.ofString "NoWorld" = Str.ofString "NoStanding") ∧ ¬ (Str.ofString "NoWorld" = Str.ofString "TalkOver") ∧ ¬ (Str.ofString "NoWorld" = Str.ofString "NothingSaid") ∧ ¬ (Str.ofString "NoWorld" = Str.ofString "NoLetter") ∧ ¬ (Str.ofString "NoWorld" = Str.ofString "BadName") ∧ ¬ (Str.ofString "NoWorld" = Str.ofString "NameTaken") ∧ ¬ (Str.ofString "NoWorld" = Str.ofString "NoTalk") ∧ ¬ (Str.ofString "NoWorld" = Str.ofString "NoBook") ∧ ¬ (Str.ofString "NoWorld" = Str.ofString "NoSentence") := by decide +kernel
theorem xne_BadName : ¬ (Str.ofString "BadName" = Str.ofString "ValueError") ∧ ¬ (Str.ofString "BadName" = Str.ofString "TalkError") ∧ ¬ (Str.ofString "BadName" = Str.ofString "StrangeLetter") ∧ ¬ (Str.ofString "BadName" = Str.ofString "BadWord") ∧ ¬ (Str.ofString "BadName" = Str.ofString "NoStanding") ∧ ¬ (Str.ofString "BadName" = Str.ofString "TalkOver") ∧ ¬ (Str.ofString "BadName" = Str.ofString "NothingSaid") ∧ ¬ (Str.ofString "BadName" = Str.ofString "NoLetter") ∧ ¬ (Str.ofString "BadName" = Str.ofString "NoWorld") ∧ ¬ (Str.ofString "BadName" = Str.ofString "NameTaken") ∧ ¬ (Str.ofString "BadName" = Str.ofString "NoTalk") ∧ ¬ (Str.ofString "BadName" = Str.ofString "NoBook") ∧ ¬ (Str.ofString "BadName" = Str.ofString "NoSentence") := by decide +kernel
theorem xne_NameTaken : ¬ (Str.ofString "NameTaken" = Str.ofString "ValueError") ∧ ¬ (Str.ofString "NameTaken" = Str.ofString "TalkError") ∧ ¬ (Str.ofString "NameTaken" = Str.ofString "StrangeLetter") ∧ ¬ (Str.ofString "NameTaken" = Str.ofString "BadWord") ∧ ¬ (Str.ofString "NameTaken" = Str.ofString "NoStanding") ∧ ¬ (Str.ofString "NameTaken" = Str.ofString "TalkOver") ∧ ¬ (Str.ofString "NameTaken" = Str.ofString "NothingSaid") ∧ ¬ (Str.ofString "NameTaken" = Str.ofString "NoLetter") ∧ ¬ (Str.ofString "NameTaken" = Str.ofString "NoWorld") ∧ ¬ (Str.ofString "NameTaken" = Str.ofString "BadName") ∧ ¬ (Str.ofString "NameTaken" = Str.ofString "NoTalk") ∧ ¬ (Str.ofString "NameTaken" = Str.ofString "NoBook") ∧ ¬ (Str.ofString "NameTaken" = Str.ofString "NoSentence") := by decide +kernel
theorem xne_NoTalk : ¬ (Str.ofString "NoTalk" = Str.ofString "ValueError") ∧ ¬ (Str.ofString "NoTalk" = Str.ofString "TalkError") ∧ ¬ (Str.ofString "NoTalk" = Str.ofString "StrangeLetter") ∧ ¬ (Str.ofString "NoTalk" = Str.ofString "BadWord") ∧ ¬ (Str.ofString "NoTalk" = Str.ofString "NoStanding") ∧ ¬ (Str.ofString "NoTalk" = Str.ofString "TalkOver") ∧ ¬ (Str.ofString "NoTalk" = Str.ofString "NothingSaid") ∧ ¬ (Str.ofString "NoTalk" = Str.ofString "NoLetter") ∧ ¬ (Str.ofString "NoTalk" = Str.ofString "NoWorld") ∧ ¬ (Str.ofString "NoTalk" = Str.ofString "BadName") ∧ ¬ (Str.ofString "NoTalk" = Str.ofString "NameTaken") ∧ ¬ (Str.ofString "NoTalk" = Str.ofString "NoBook") ∧ ¬ (Str.ofString "NoTalk" = Str.ofString "NoSentence") := by decide +kernel
theorem xne_NoBook : ¬ (Str.ofString "NoBook" = Str.ofString "ValueError") ∧ ¬ (Str.ofString "NoBook" = Str.ofString "TalkError") ∧ ¬ (Str.ofString "NoBook" = Str.ofString "StrangeLetter") ∧ ¬ (Str.ofString "NoBook" = Str.ofString "BadWord") ∧ ¬ (Str.ofString "NoBook" = Str.ofString "NoStanding") ∧ ¬ (Str.ofString "NoBook" = Str.ofString "TalkOver") ∧ ¬ (Str.ofString "NoBook" = Str.ofString "NothingSaid") ∧ ¬ (Str.ofString "NoBook" = Str.ofString "NoLetter") ∧ ¬ (Str.ofString "NoBook" = Str.ofString "NoWorld") ∧ ¬ (Str.ofString "NoBook" = Str.ofString "BadName") ∧ ¬ (Str.ofString "NoBook" = Str.ofString "NameTaken") ∧ ¬ (Str.ofString "NoBook" = Str.ofString "NoTalk") ∧ ¬ (Str.ofString "NoBook" = Str.ofString "NoSentence") := by decide +kernel
theorem xne_NoSentence : ¬ (Str.ofString "NoSentence" = Str.ofString "ValueError") ∧ ¬ (Str.ofString "NoSentence" = Str.ofString "TalkError") ∧ ¬ (Str.ofString "NoSentence" = Str.ofString "StrangeLetter") ∧ ¬ (Str.ofString "NoSentence" = Str.ofString "BadWord") ∧ ¬ (Str.ofString "NoSentence" = Str.ofString "NoStanding") ∧ ¬ (Str.ofString "NoSentence" = Str.ofString "TalkOver") ∧ ¬ (Str.ofString "NoSentence" = Str.ofString "NothingSaid") ∧ ¬ (Str.ofString "NoSentence" = Str.ofString "NoLetter") ∧ ¬ (Str.ofString "NoSentence" = Str.ofString "NoWorld") ∧ ¬ (Str.ofString "NoSentence" = Str.ofString "BadName") ∧ ¬ (Str.ofString "NoSentence" = Str.ofString "NameTaken") ∧ ¬ (Str.ofString "NoSentence" = Str.ofString "NoTalk") ∧ ¬ (Str.ofString "NoSentence" = Str.ofString "NoBook") := by decide +kernel
def Sen.okB (m : Nat) : Sen → Bool
  | .lt k => decide (k < m)
  | .nt s => s.okB m
  | .j2 _ s t => s.okB m && t.okB m
theorem Sen.okB_iff {m : Nat} : ∀ s : Sen, s.okB m = true ↔ s.ok m
  | .lt k => by simp [Sen.okB, Sen.ok]
  | .nt s => by simpa [Sen.okB, Sen.ok] using s.okB_iff
  | .j2 _ s t => by simp [Sen.okB, Sen.ok, s.okB_iff, t.okB_iff]
theorem Sen.far {m : Nat} : ∀ s : Sen, s.okB m = false → ∃ i : Int, s.has i = true ∧ (m : Int) ≤ i
  | .lt k, h => ⟨k, by simp [Sen.has], by simp [Sen.okB] at h; omega⟩
  | .nt s, h => by
    obtain ⟨i, h1, h2⟩ := s.far (by simpa [Sen.okB] using h)
    exact ⟨i, by simpa [Sen.has] using h1, h2⟩
  | .j2 _ s t, h => by
    simp only [Sen.okB, Bool.and_eq_false_iff] at h
    rcases h with h | h
    · obtain ⟨i, h1, h2⟩ := s.far h
      exact ⟨i, by simp [Sen.has, h1], h2⟩
    · obtain ⟨i, h1, h2⟩ := t.far h
      exact ⟨i, by simp [Sen.has, h1], h2⟩
theorem idx_lastM {r : List Int} (h : r ≠ []) (hs : r.Pairwise (· < ·)) : ∃ w ∈ r, (∀ x ∈ r, x ≤ w) ∧ idxD (.lst (row r)) (.int (-1)) = some (.int w) := by
  have hl : 0 < r.length := List.length_pos_iff.mpr h
  have e1 : (-1 + (r.length : Int)).toNat = r.length - 1 := by omega
  refine ⟨r[r.length - 1]'(by omega), List.getElem_mem _, fun x hx => ?_, ?_⟩
  · obtain ⟨i, hi, rfl⟩ := List.getElem_of_mem hx
    by_cases c : i = r.length - 1
    · subst c
      exact Int.le_refl _
    · exact Int.le_of_lt (List.pairwise_iff_getElem.mp hs i (r.length - 1) hi (by omega) (by omega))
  have c : ¬ ((0 : Int) ≤ -1) := by decide
  have c2 : -(r.length : Int) ≤ -1 := by omega
  have e2 : (row r)[r.length - 1]? = some (.int (r[r.length - 1]'(by omega))) := by
    rw [row, List.getElem?_map, List.getElem?_eq_getElem (by omega)]
    rfl
  simp only [idxD, ixN, row_len, if_neg c, if_pos c2, Option.bind_some, e1, e2]
theorem ok_strangeG {T : Tab} (h : T.fn "strange" = some fn_strange) (h0 : T.fn "letters" = some fn_letters) (h1 : T.fn "has_letter" = some fn_has_letter) (g : T.gl "LETTERS" = some (.str [97, 98, 99, 100, 101])) {s : Sen} {f : Nat} {m : Int} (hm : 0 ≤ m) (hm5 : m ≤ 5) (ho : s.ok 5) (hd : s.depth < f) (S : Store) : callF T (f + 2) "strange" [s.d, .int m] S = .ok (.sh (.bl (!s.okB m.toNat))) S := by
  cases hb : s.okB m.toNat with
  | true => exact ok_strange h h0 h1 g hm hm5 (s.okB_iff.mp hb) hd S
  | false =>
    obtain ⟨i, i1, i2⟩ := s.far hb
    have i3 := s.has_ok i ho i1
    have him : i ∈ (wl 5).filter s.has := List.mem_filter.mpr ⟨mem_wl.mpr ⟨i3.1, i3.2⟩, i1⟩
    obtain ⟨w, hw, hmx, e⟩ := idx_lastM (List.ne_nil_of_mem him) ((wl_sorted 5).filter _)
    have := hmx i him
    have c : m ≤ w := by omega
    rw [call_eq h rfl]
    simp [fn_strange, evSs, evS, ev, evs, gt, d_sh, d_fr, ok_letters h0 h1 g hd, e, c_ge, c, Fl.res]
/-! kinds and rules as words -/
def kdOf (w : List Nat) : Option Kd := if w = Kd.s .tr then some .tr else if w = Kd.s .fa then some .fa else if w = Kd.s .db then some .db else none
def ruOf (w : List Nat) : Option Bool := if w = ruleS true then some true else if w = ruleS false then some false else none
theorem kdOf_s (k : Kd) : kdOf k.s = some k := by cases k <;> decide
theorem ruOf_s (b : Bool) : ruOf (ruleS b) = some b := by cases b <;> decide
theorem kdOf_some {w : List Nat} {k : Kd} (h : kdOf w = some k) : w = k.s := by
  unfold kdOf at h
  split at h
  · cases h; assumption
  · split at h
    · cases h; assumption
    · split at h
      · cases h; assumption
      · cases h
theorem ruOf_some {w : List Nat} {b : Bool} (h : ruOf w = some b) : w = ruleS b := by
  unfold ruOf at h
  split at h
  · cases h; assumption
  · split at h
    · cases h; assumption
    · cases h
theorem kd_out {w : List Nat} (h : kdOf w = none) : cmpD .NotIn (.str w) dKinds = some true := by
  unfold kdOf at h
  split at h
  · cases h
  split at h
  · cases h
  split at h
  · cases h
  rename_i h1 h2 h3
  have e1 : ¬ [116, 114, 117, 101] = w := fun z => h1 z.symm
  have e2 : ¬ [102, 97, 108, 115, 101] = w := fun z => h2 z.symm
  have e3 : ¬ [100, 111, 117, 98, 116] = w := fun z => h3 z.symm
  simp [cmpD, dKinds, D.flat, D.eqv, e1, e2, e3]
theorem ru_out {w : List Nat} (h : ruOf w = none) : cmpD .NotIn (.str w) dRules = some true := by
  unfold ruOf at h
  split at h
  · cases h
  split at h
  · cases h
  rename_i h1 h2
  have e1 : ¬ [101, 108, 100, 101, 114] = w := fun z => h1 z.symm
  have e2 : ¬ [110, 101, 119, 101, 114] = w := fun z => h2 z.symm
  simp [cmpD, dRules, D.flat, D.eqv, e1, e2]
theorem nil_inT : ∀ {sd : List (List Int)}, [] ∈ sd → ((rows sd).any fun d => d.eqv (.lst [])) = true
  | x :: sd, h => by
    rw [rows_cons, List.any_cons]
    rcases List.mem_cons.mp h with h | h
    · subst h
      rfl
    · rw [nil_inT h, Bool.or_true]
theorem c_inN {sd : List (List Int)} (h : [] ∈ sd) : cmpD .In (.lst []) (.lst (rows sd)) = some true := by
  have e := nil_inT h
  simp only [cmpD, D.flat, Bool.false_and, Bool.false_eq_true, if_false, flats_rows, D.flatTo, D.flatsTo, Bool.and_self, if_true, e]
/-- sides_of: a word that is none -/
theorem sides_bad {T : Tab} (h : T.fn "sides_of" = some fn_sides_of) (g2 : T.gl "KINDS" = some dKinds) (x : T.xc "BadWord" = some 1) {w : List Nat} (hw : kdOf w = none) (f : Nat) (a b : D) (S : Store) : callF T (f + 1) "sides_of" [a, .str w, b] S = .exc ⟨"BadWord", none⟩ S := by
  have e := kd_out hw
  rw [call_eq h rfl]
  simp [fn_sides_of, ev.eq_1, ev.eq_2, ev.eq_3, ev.eq_4, ev.eq_5, ev.eq_6, ev.eq_7, ev.eq_8, ev.eq_9, ev.eq_10, ev.eq_11, ev.eq_12, ev.eq_13, ev.eq_14, ev.eq_15, ev.eq_16, ev.eq_17, ev.eq_18, ev.eq_19, ev.eq_20, ev.eq_21, ev.eq_22, ev.eq_23, ev.eq_24, ev.eq_25, ev.eq_26, ev.eq_27, ev.eq_28, ev.eq_29, ev.eq_30, ev.eq_31, ev.eq_33, ev.eq_34, ev.eq_35, ev.eq_36, ev.eq_37, ev.eq_38, ev.eq_39, ev.eq_40, ev.eq_41, ev.eq_42, ev.eq_43, ev.eq_44, ev.eq_45, cx_cf, cx_cm, cx_gl, cx_dc, cx_ci, evSs, evS, evT, evs, evSrc, evo, gt, st, d_sh, d_fr, isB, isI, Out.bind_ok, Out.bindB_ok, Out.chk_ok, Out.of_some, g2, e, cx_xc, x, Fl.res]
/-- sides_of: a side is empty -/
theorem sides_none {T : Tab} (h : T.fn "sides_of" = some fn_sides_of) (h0 : T.fn "worlds_of" = some fn_worlds_of) (h1 : T.fn "true_in" = some fn_true_in) (h2 : T.fn "letter_true" = some fn_letter_true) (h3 : T.fn "rest" = some fn_rest) (g : T.gl "POWERS" = some dPowers) (g2 : T.gl "KINDS" = some dKinds) (x : T.xc "NoStanding" = some 1)
    {s : Sen} {f : Nat} (ho : s.ok 5) (hd : s.depth + 1 < f) (k : Kd) {r : List Int} (hr : r.length ≤ 100) (hne : [] ∈ sidesF k r s) (S : Store) : callF T (f + 2) "sides_of" [.lst (row r), .str k.s, s.d] S = .exc ⟨"NoStanding", none⟩ S := by
  have e1 := ok_worlds_of h0 h1 h2 g ho hd (r := r) (by unfold big; omega) S
  have e2 := ok_rest h3 f (a := r) (b := insF s r) hr S
  rw [rest_ins] at e2
  obtain ⟨n1, n2, n3, n4⟩ := kd_ne
  have e3 := c_inN hne
  rw [call_eq h rfl]
  rw [show r.filter s.tr = insF s r from rfl] at e1
  cases k <;> simp only [sidesF, rows_cons, rows_nil] at e3 ⊢ <;>
  simp [fn_sides_of, ev.eq_1, ev.eq_2, ev.eq_3, ev.eq_4, ev.eq_5, ev.eq_6, ev.eq_7, ev.eq_8, ev.eq_9, ev.eq_10, ev.eq_11, ev.eq_12, ev.eq_13, ev.eq_14, ev.eq_15, ev.eq_16, ev.eq_17, ev.eq_18, ev.eq_19, ev.eq_20, ev.eq_21, ev.eq_22, ev.eq_23, ev.eq_24, ev.eq_25, ev.eq_26, ev.eq_27, ev.eq_28, ev.eq_29, ev.eq_30, ev.eq_31, ev.eq_33, ev.eq_34, ev.eq_35, ev.eq_36, ev.eq_37, ev.eq_38, ev.eq_39, ev.eq_40, ev.eq_41, ev.eq_42, ev.eq_43, ev.eq_44, ev.eq_45, cx_cf, cx_cm, cx_gl, cx_dc, cx_ci, evSs, evS, evT, evs, evSrc, evo, gt, st, d_sh, d_fr, isB, isI, Out.bind_ok, Out.bindB_ok, Out.chk_ok, Out.of_some, g2, kind_in, e1, e2, big, c_eqS, s_tr, s_fa, n1, n2, n3, n4, e3, cx_xc, x, Fl.res]
/-! Talk(..) -/
structure PInitX (T : Tab) : Prop extends PInit T where
  x_StrangeLetter : T.xc "StrangeLetter" = some 1
  x_BadWord : T.xc "BadWord" = some 1
  x_NoStanding : T.xc "NoStanding" = some 1
inductive Foot where
  | no (c : Str) | yes (k : Kd) (el : Bool)
def footF (m : Int) (r : List Int) (kd : List Nat) (s : Sen) (rl : List Nat) : Foot :=
  if s.okB m.toNat = false then .no "StrangeLetter" else match ruOf rl with
    | none => .no "BadWord"
    | some el => match kdOf kd with
      | none => .no "BadWord"
      | some k => if [] ∈ sidesF k r s then .no "NoStanding" else .yes k el
theorem init_exc {T : Tab} (P : PInitX T) {m : Int} {kd rl : List Nat} {s : Sen} {r : List Int} {f : Nat} (h1 : 1 ≤ m) (h5 : m ≤ 5) (ho : s.ok 5) (hd : s.depth + 2 < f) (hr : r.length ≤ 100) {c : Str} (hc : footF m r kd s rl = .no c) (S : Store) :
    ∃ S', callM T (f + 3) "Talk" "__init__" [.ref S.length, .int m, .lst (row r), .str kd, s.d, .str rl] (S ++ [.obj "Talk" []]) = .exc ⟨c, none⟩ S' := by
  have a1 := fun S => ok_strangeG P.strange P.letters P.has_letter P.g_LETTERS (s := s) (f := f) (m := m) (by omega) h5 ho (by omega) S
  rw [callM_eq P.m_init rfl]
  simp only [fn_Talk___init__, List.map_cons, List.map_nil, List.cons_append, List.nil_append, List.replicate, Nat.reduceSub]
  unfold footF at hc
  cases hb : s.okB m.toNat with
  | false =>
    rw [if_pos hb] at hc
    cases hc
    refine ⟨S ++ [.obj "Talk" []], ?_⟩
    rw [evSs_ex (x := ⟨"StrangeLetter", none⟩) (ρ' := [.v (.ref S.length), .v (.int m), .v (.lst (row r)), .v (.str kd), .v s.d, .v (.str rl)]) (S' := S ++ [.obj "Talk" []]) (by simp [ev.eq_1, ev.eq_2, ev.eq_3, ev.eq_4, ev.eq_5, ev.eq_6, ev.eq_7, ev.eq_8, ev.eq_9, ev.eq_10, ev.eq_11, ev.eq_12, ev.eq_13, ev.eq_14, ev.eq_15, ev.eq_16, ev.eq_17, ev.eq_18, ev.eq_19, ev.eq_20, ev.eq_21, ev.eq_22, ev.eq_23, ev.eq_24, ev.eq_25, ev.eq_26, ev.eq_27, ev.eq_28, ev.eq_29, ev.eq_30, ev.eq_31, ev.eq_33, ev.eq_34, ev.eq_35, ev.eq_36, ev.eq_37, ev.eq_38, ev.eq_39, ev.eq_40, ev.eq_41, ev.eq_42, ev.eq_43, ev.eq_44, ev.eq_45, cx_cf, cx_cm, cx_gl, cx_dc, cx_ci, evSs, evS, evT, evs, evSrc, evo, gt, st, d_sh, d_fr, isB, isI, Out.bind_ok, Out.bindB_ok, Out.chk_ok, Out.of_some, a1, hb, cx_xc, P.x_StrangeLetter])]
    rfl
  | true =>
    rw [if_neg (by simp [hb])] at hc
    rw [evSs_nx (ρ' := [.v (.ref S.length), .v (.int m), .v (.lst (row r)), .v (.str kd), .v s.d, .v (.str rl)]) (S' := S ++ [.obj "Talk" []]) (by simp [ev.eq_1, ev.eq_2, ev.eq_3, ev.eq_4, ev.eq_5, ev.eq_6, ev.eq_7, ev.eq_8, ev.eq_9, ev.eq_10, ev.eq_11, ev.eq_12, ev.eq_13, ev.eq_14, ev.eq_15, ev.eq_16, ev.eq_17, ev.eq_18, ev.eq_19, ev.eq_20, ev.eq_21, ev.eq_22, ev.eq_23, ev.eq_24, ev.eq_25, ev.eq_26, ev.eq_27, ev.eq_28, ev.eq_29, ev.eq_30, ev.eq_31, ev.eq_33, ev.eq_34, ev.eq_35, ev.eq_36, ev.eq_37, ev.eq_38, ev.eq_39, ev.eq_40, ev.eq_41, ev.eq_42, ev.eq_43, ev.eq_44, ev.eq_45, cx_cf, cx_cm, cx_gl, cx_dc, cx_ci, evSs, evS, evT, evs, evSrc, evo, gt, st, d_sh, d_fr, isB, isI, Out.bind_ok, Out.bindB_ok, Out.chk_ok, Out.of_some, a1, hb])]
    cases hru : ruOf rl with
    | none =>
      rw [hru] at hc
      cases hc
      have e := ru_out hru
      refine ⟨S ++ [.obj "Talk" []], ?_⟩
      rw [evSs_ex (x := ⟨"BadWord", none⟩) (ρ' := [.v (.ref S.length), .v (.int m), .v (.lst (row r)), .v (.str kd), .v s.d, .v (.str rl)]) (S' := S ++ [.obj "Talk" []]) (by simp [ev.eq_1, ev.eq_2, ev.eq_3, ev.eq_4, ev.eq_5, ev.eq_6, ev.eq_7, ev.eq_8, ev.eq_9, ev.eq_10, ev.eq_11, ev.eq_12, ev.eq_13, ev.eq_14, ev.eq_15, ev.eq_16, ev.eq_17, ev.eq_18, ev.eq_19, ev.eq_20, ev.eq_21, ev.eq_22, ev.eq_23, ev.eq_24, ev.eq_25, ev.eq_26, ev.eq_27, ev.eq_28, ev.eq_29, ev.eq_30, ev.eq_31, ev.eq_33, ev.eq_34, ev.eq_35, ev.eq_36, ev.eq_37, ev.eq_38, ev.eq_39, ev.eq_40, ev.eq_41, ev.eq_42, ev.eq_43, ev.eq_44, ev.eq_45, cx_cf, cx_cm, cx_gl, cx_dc, cx_ci, evSs, evS, evT, evs, evSrc, evo, gt, st, d_sh, d_fr, isB, isI, Out.bind_ok, Out.bindB_ok, Out.chk_ok, Out.of_some, P.g_RULES, e, cx_xc, P.x_BadWord])]
      rfl
    | some el =>
      rw [hru] at hc
      have er := ruOf_some hru
      subst er
      have sx : ∃ c', c = c' ∧ ∀ S, callF T (f + 2) "sides_of" [.lst (row r), .str kd, s.d] S = .exc ⟨c', none⟩ S := by
        cases hkd : kdOf kd with
        | none =>
          rw [hkd] at hc
          cases hc
          exact ⟨_, rfl, fun S => sides_bad P.sides_of P.g_KINDS P.x_BadWord hkd (f + 1) _ _ S⟩
        | some k =>
          rw [hkd] at hc
          have ek := kdOf_some hkd
          subst ek
          simp only at hc
          split at hc
          · rename_i hn
            cases hc
            exact ⟨_, rfl, fun S => sides_none P.sides_of P.worlds_of P.true_in P.letter_true P.rest P.g_POWERS P.g_KINDS P.x_NoStanding ho (by omega) k hr hn S⟩
          · cases hc
      obtain ⟨c', rfl, a2⟩ := sx
      refine ⟨S ++ [.obj "Talk" [("many", .v (.int m)), ("kind", .v (.str kd)), ("sentence", .v s.d), ("rule", .v (.str (ruleS el))), ("place", .v (.lst (row r)))]], ?_⟩
      rw [evSs_nx (ρ' := [.v (.ref S.length), .v (.int m), .v (.lst (row r)), .v (.str kd), .v s.d, .v (.str (ruleS el))]) (S' := S ++ [.obj "Talk" []]) (by simp [ev.eq_1, ev.eq_2, ev.eq_3, ev.eq_4, ev.eq_5, ev.eq_6, ev.eq_7, ev.eq_8, ev.eq_9, ev.eq_10, ev.eq_11, ev.eq_12, ev.eq_13, ev.eq_14, ev.eq_15, ev.eq_16, ev.eq_17, ev.eq_18, ev.eq_19, ev.eq_20, ev.eq_21, ev.eq_22, ev.eq_23, ev.eq_24, ev.eq_25, ev.eq_26, ev.eq_27, ev.eq_28, ev.eq_29, ev.eq_30, ev.eq_31, ev.eq_33, ev.eq_34, ev.eq_35, ev.eq_36, ev.eq_37, ev.eq_38, ev.eq_39, ev.eq_40, ev.eq_41, ev.eq_42, ev.eq_43, ev.eq_44, ev.eq_45, cx_cf, cx_cm, cx_gl, cx_dc, cx_ci, evSs, evS, evT, evs, evSrc, evo, gt, st, d_sh, d_fr, isB, isI, Out.bind_ok, Out.bindB_ok, Out.chk_ok, Out.of_some, P.g_RULES, rule_in])]
      rw [evSs_nx (ρ' := [.v (.ref S.length), .v (.int m), .v (.lst (row r)), .v (.str kd), .v s.d, .v (.str (ruleS el))]) (S' := S ++ [.obj "Talk" [("many", .v (.int m))]]) (ev_fset_new (fs := []) (y := .sh (.int m)) (by simp only [ev, gt]) rfl (by simp))]
      rw [evSs_nx (ρ' := [.v (.ref S.length), .v (.int m), .v (.lst (row r)), .v (.str kd), .v s.d, .v (.str (ruleS el))]) (S' := S ++ [.obj "Talk" [("many", .v (.int m)), ("kind", .v (.str kd))]]) (ev_fset_new (fs := [("many", .v (.int m))]) (y := .sh (.str kd)) (by simp only [ev, gt]) rfl (by simp))]
      rw [evSs_nx (ρ' := [.v (.ref S.length), .v (.int m), .v (.lst (row r)), .v (.str kd), .v s.d, .v (.str (ruleS el))]) (S' := S ++ [.obj "Talk" [("many", .v (.int m)), ("kind", .v (.str kd)), ("sentence", .v s.d)]]) (ev_fset_new (fs := [("many", .v (.int m)), ("kind", .v (.str kd))]) (y := .sh s.d) (by simp only [ev, gt]) rfl (by simp))]
      rw [evSs_nx (ρ' := [.v (.ref S.length), .v (.int m), .v (.lst (row r)), .v (.str kd), .v s.d, .v (.str (ruleS el))]) (S' := S ++ [.obj "Talk" [("many", .v (.int m)), ("kind", .v (.str kd)), ("sentence", .v s.d), ("rule", .v (.str (ruleS el)))]]) (ev_fset_new (fs := [("many", .v (.int m)), ("kind", .v (.str kd)), ("sentence", .v s.d)]) (y := .sh (.str (ruleS el))) (by simp only [ev, gt]) rfl (by simp))]
      rw [evSs_nx (ρ' := [.v (.ref S.length), .v (.int m), .v (.lst (row r)), .v (.str kd), .v s.d, .v (.str (ruleS el))]) (S' := S ++ [.obj "Talk" [("many", .v (.int m)), ("kind", .v (.str kd)), ("sentence", .v s.d), ("rule", .v (.str (ruleS el))), ("place", .v (.lst (row r)))]]) (ev_fset_new (fs := [("many", .v (.int m)), ("kind", .v (.str kd)), ("sentence", .v s.d), ("rule", .v (.str (ruleS el)))]) (y := .fr (row r)) (by simp only [ev, gt, Out.bind_ok, Out.bindB_ok, Out.chk_ok, d_sh, list_row, Out.of_some]) rfl (by simp))]
      rw [evSs_ex (x := ⟨c, none⟩) (ρ' := [.v (.ref S.length), .v (.int m), .v (.lst (row r)), .v (.str kd), .v s.d, .v (.str (ruleS el))]) (S' := S ++ [.obj "Talk" [("many", .v (.int m)), ("kind", .v (.str kd)), ("sentence", .v s.d), ("rule", .v (.str (ruleS el))), ("place", .v (.lst (row r)))]]) (by simp only [evS, ev, evs, gt, Out.bind_ok, Out.bindB_ok, Out.chk_ok, d_sh, a2, Out.bind_exc])]
      rfl
/-- Talk(..), whatever is handed in -/
theorem ev_makeX {T : Tab} (P : PInitX T) {m : Int} {kd rl : List Nat} {s : Sen} {r : List Int} {f : Nat} (h1 : 1 ≤ m) (h5 : m ≤ 5) (ho : s.ok 5) (hd : s.depth + 2 < f) (hr : r.length ≤ 100) (hs : r.Pairwise (· < ·)) {as : List CE} {ρ ρ' : Env} {S S' : Store}
    (ha : evs (cx T (f + 4)) as ρ S = .ok [.int m, .lst (row r), .str kd, s.d, .str rl] ρ' S') : ∃ S'', ev (cx T (f + 4)) (.make "Talk" as) ρ S = match footF m r kd s rl with
      | .no c => .exc ⟨c, none⟩ ρ' S''
      | .yes k el => .ok (.sh (.ref S'.length)) ρ' (S' ++ [(mkTk m k s el r).cell]) := by
  cases hf : footF m r kd s rl with
  | no c =>
    obtain ⟨S2, e⟩ := init_exc P h1 h5 ho hd hr hf S'
    refine ⟨S2, ?_⟩
    have e2 : (callP T (f + 4)).snd (.m "Talk" "__init__") [.ref S'.length, .int m, .lst (row r), .str kd, s.d, .str rl] (S' ++ [.obj "Talk" []]) = .exc ⟨c, none⟩ S2 := e
    simp only [ev, ha, Out.bind_ok, Out.bindB_ok, Out.chk_ok, e2]
  | yes k el =>
    refine ⟨S', ?_⟩
    unfold footF at hf
    split at hf
    · cases hf
    rename_i hb
    split at hf
    · cases hf
    rename_i el' hru
    split at hf
    · cases hf
    rename_i k' hkd
    split at hf
    · cases hf
    rename_i hn
    cases hf
    have er := ruOf_some hru
    have ek := kdOf_some hkd
    subst er
    subst ek
    exact ev_make P.toPInit h1 h5 (s.okB_iff.mp (by simpa using hb)) hd hr hs (fun x hx z => hn (z ▸ hx)) ha
/-! back, end -/
def fn_Talk_back : Fn := ⟨1, 1, [
  .ite (.e (.fld (.slot 0) "ended")) [
    .rais "TalkOver"] [],
  .ite (.e (.fnil (.slot 0) "said")) [
    .rais "NothingSaid"] [],
  .fset false (.slot 0) "left" (.fpop (.slot 0) "elders"),
  .ret (.fpop (.slot 0) "said")]⟩
def fn_Talk_end : Fn := ⟨1, 1, [
  .ite (.e (.fld (.slot 0) "ended")) [
    .rais "TalkOver"] [],
  .fset false (.slot 0) "ended" (.bl true)]⟩
section
variable {T : Tab} {S : Store} {k : Nat} {t : Tk}
theorem m_back_over (h : T.mt "Talk" "back" = some fn_Talk_back) (x : T.xc "TalkOver" = some 1) (he : t.ended = true) (f : Nat) (hk : S[k]? = some t.cell) : callM T (f + 1) "Talk" "back" [.ref k] S = .exc ⟨"TalkOver", none⟩ S := by
  rw [callM_eq h rfl]
  simp [fn_Talk_back, ev.eq_1, ev.eq_2, ev.eq_3, ev.eq_4, ev.eq_5, ev.eq_6, ev.eq_7, ev.eq_8, ev.eq_9, ev.eq_10, ev.eq_11, ev.eq_12, ev.eq_13, ev.eq_14, ev.eq_15, ev.eq_16, ev.eq_17, ev.eq_18, ev.eq_19, ev.eq_20, ev.eq_21, ev.eq_22, ev.eq_23, ev.eq_24, ev.eq_25, ev.eq_26, ev.eq_27, ev.eq_28, ev.eq_29, ev.eq_30, ev.eq_31, ev.eq_33, ev.eq_34, ev.eq_35, ev.eq_36, ev.eq_37, ev.eq_38, ev.eq_39, ev.eq_40, ev.eq_41, ev.eq_42, ev.eq_43, ev.eq_44, ev.eq_45, cx_cf, cx_cm, cx_gl, cx_dc, cx_ci, evSs, evS, evT, evs, evSrc, evo, gt, st, d_sh, d_fr, isB, isI, Out.bind_ok, Out.bindB_ok, Out.chk_ok, Out.of_some, fl_ended hk, he, cx_xc, x, Fl.res]
theorem flats_saidB {l : List (Sen × Ans)} (h : ∀ p ∈ l, p.1.depth < 60) : D.flatsTo (l.map sayD) 61 = true := by
  induction l with
  | nil => rfl
  | cons p l ih =>
    have h1 := flat_sen p.1 60 (h p (by simp))
    have h2 : p.2.s.all (· < 128) = true := by cases p.2 <;> decide
    simp only [List.map_cons, D.flatsTo, sayD, D.flatTo, h1, h2, Bool.and_self, Bool.true_and]
    exact ih fun q hq => h q (by simp [hq])
theorem m_back_no (h : T.mt "Talk" "back" = some fn_Talk_back) (x : T.xc "NothingSaid" = some 1) (he : t.ended = false) (hs : t.said = []) (f : Nat) (hk : S[k]? = some t.cell) : callM T (f + 1) "Talk" "back" [.ref k] S = .exc ⟨"NothingSaid", none⟩ S := by
  rw [callM_eq h rfl]
  simp [fn_Talk_back, ev.eq_1, ev.eq_2, ev.eq_3, ev.eq_4, ev.eq_5, ev.eq_6, ev.eq_7, ev.eq_8, ev.eq_9, ev.eq_10, ev.eq_11, ev.eq_12, ev.eq_13, ev.eq_14, ev.eq_15, ev.eq_16, ev.eq_17, ev.eq_18, ev.eq_19, ev.eq_20, ev.eq_21, ev.eq_22, ev.eq_23, ev.eq_24, ev.eq_25, ev.eq_26, ev.eq_27, ev.eq_28, ev.eq_29, ev.eq_30, ev.eq_31, ev.eq_33, ev.eq_34, ev.eq_35, ev.eq_36, ev.eq_37, ev.eq_38, ev.eq_39, ev.eq_40, ev.eq_41, ev.eq_42, ev.eq_43, ev.eq_44, ev.eq_45, cx_cf, cx_cm, cx_gl, cx_dc, cx_ci, evSs, evS, evT, evs, evSrc, evo, gt, st, d_sh, d_fr, isB, isI, Out.bind_ok, Out.bindB_ok, Out.chk_ok, Out.of_some, fl_ended hk, he, fl_said hk, hs, D.flatsTo, cx_xc, x, Fl.res]
/-- the talk as it stood ahead of its last answer -/
def Tk.undo (t : Tk) (l : List (Sen × Ans)) (e : List (List Int)) (r : List Int) : Tk := { t with said := l, elders := e, left := r }
theorem m_back (h : T.mt "Talk" "back" = some fn_Talk_back) (he : t.ended = false) {l : List (Sen × Ans)} {p : Sen × Ans} {e : List (List Int)} {r : List Int} (hs : t.said = l ++ [p]) (hl : t.elders = e ++ [r]) (hd : ∀ q ∈ t.said, q.1.depth < 60) (f : Nat) (hk : S[k]? = some t.cell) : callM T (f + 1) "Talk" "back" [.ref k] S = .ok (.sh (sayD p)) (S.set k (t.undo l e r).cell) := by
  have hf := flats_saidB hd
  have hne : (t.said.map sayD).isEmpty = false := by rw [hs]; simp
  have g1 : (t.elders.map fun r => D.lst (row r)).getLast? = some (.lst (row r)) := by rw [hl]; simp
  have g2 : (t.elders.map fun r => D.lst (row r)).dropLast = e.map fun r => D.lst (row r) := by rw [hl]; simp
  have g3 : (t.said.map sayD).getLast? = some (sayD p) := by rw [hs]; simp
  have g4 : (t.said.map sayD).dropLast = l.map sayD := by rw [hs]; simp
  have k1 : (S.set k { t with elders := e }.cell)[k]? = some { t with elders := e }.cell := get_set_self hk
  have k2 : (S.set k { t with elders := e, left := r }.cell)[k]? = some { t with elders := e, left := r }.cell := get_set_self hk
  have z1 := st_elders hk e
  have z2 := st_left k1 r
  have z3 := st_said k2 l
  rw [set_set] at z2 z3
  rw [callM_eq h rfl]
  simp only [fn_Talk_back, List.map_cons, List.map_nil, List.cons_append, List.nil_append, List.replicate, Nat.reduceSub]
  rw [evSs_nx (ρ' := [.v (.ref k)]) (S' := S) (by simp [ev.eq_1, ev.eq_2, ev.eq_3, ev.eq_4, ev.eq_5, ev.eq_6, ev.eq_7, ev.eq_8, ev.eq_9, ev.eq_10, ev.eq_11, ev.eq_12, ev.eq_13, ev.eq_14, ev.eq_15, ev.eq_16, ev.eq_17, ev.eq_18, ev.eq_19, ev.eq_20, ev.eq_21, ev.eq_22, ev.eq_23, ev.eq_24, ev.eq_25, ev.eq_26, ev.eq_27, ev.eq_28, ev.eq_29, ev.eq_30, ev.eq_31, ev.eq_33, ev.eq_34, ev.eq_35, ev.eq_36, ev.eq_37, ev.eq_38, ev.eq_39, ev.eq_40, ev.eq_41, ev.eq_42, ev.eq_43, ev.eq_44, ev.eq_45, cx_cf, cx_cm, cx_gl, cx_dc, cx_ci, evSs, evS, evT, evs, evSrc, evo, gt, st, d_sh, d_fr, isB, isI, Out.bind_ok, Out.bindB_ok, Out.chk_ok, Out.of_some, fl_ended hk, he])]
  rw [evSs_nx (ρ' := [.v (.ref k)]) (S' := S) (by simp only [evS, evT, ev, gt, Out.bind_ok, Out.bindB_ok, Out.chk_ok, d_sh, fl_said hk, hf, if_true, hne, isB, Out.of_some, Bool.false_eq_true, if_false, evSs])]
  rw [evSs_nx (ρ' := [.v (.ref k)]) (S' := S.set k { t with elders := e, left := r }.cell) (by
    simp only [evS, ev, gt, Out.bind_ok, Out.bindB_ok, Out.chk_ok, d_sh, fl_elders hk, g1, g2, z1, k1, fs_len, ownSl, Rv.d, show (10 : Nat) < 999 from by decide, if_true, z2])]
  simp only [evSs, evS, ev, gt, Out.bind_ok, Out.bindB_ok, Out.chk_ok, fl_said k2, g3, g4, z3, Fl.res]
  rfl
theorem m_end_over (h : T.mt "Talk" "end" = some fn_Talk_end) (x : T.xc "TalkOver" = some 1) (he : t.ended = true) (f : Nat) (hk : S[k]? = some t.cell) : callM T (f + 1) "Talk" "end" [.ref k] S = .exc ⟨"TalkOver", none⟩ S := by
  rw [callM_eq h rfl]
  simp [fn_Talk_end, ev.eq_1, ev.eq_2, ev.eq_3, ev.eq_4, ev.eq_5, ev.eq_6, ev.eq_7, ev.eq_8, ev.eq_9, ev.eq_10, ev.eq_11, ev.eq_12, ev.eq_13, ev.eq_14, ev.eq_15, ev.eq_16, ev.eq_17, ev.eq_18, ev.eq_19, ev.eq_20, ev.eq_21, ev.eq_22, ev.eq_23, ev.eq_24, ev.eq_25, ev.eq_26, ev.eq_27, ev.eq_28, ev.eq_29, ev.eq_30, ev.eq_31, ev.eq_33, ev.eq_34, ev.eq_35, ev.eq_36, ev.eq_37, ev.eq_38, ev.eq_39, ev.eq_40, ev.eq_41, ev.eq_42, ev.eq_43, ev.eq_44, ev.eq_45, cx_cf, cx_cm, cx_gl, cx_dc, cx_ci, evSs, evS, evT, evs, evSrc, evo, gt, st, d_sh, d_fr, isB, isI, Out.bind_ok, Out.bindB_ok, Out.chk_ok, Out.of_some, fl_ended hk, he, cx_xc, x, Fl.res]
theorem m_end (h : T.mt "Talk" "end" = some fn_Talk_end) (he : t.ended = false) (f : Nat) (hk : S[k]? = some t.cell) : callM T (f + 1) "Talk" "end" [.ref k] S = .ok (.sh .non) (S.set k { t with ended := true }.cell) := by
  have z := st_ended hk true
  rw [callM_eq h rfl]
  simp only [fn_Talk_end, List.map_cons, List.map_nil, List.cons_append, List.nil_append, List.replicate, Nat.reduceSub]
  rw [evSs_nx (ρ' := [.v (.ref k)]) (S' := S) (by simp [ev.eq_1, ev.eq_2, ev.eq_3, ev.eq_4, ev.eq_5, ev.eq_6, ev.eq_7, ev.eq_8, ev.eq_9, ev.eq_10, ev.eq_11, ev.eq_12, ev.eq_13, ev.eq_14, ev.eq_15, ev.eq_16, ev.eq_17, ev.eq_18, ev.eq_19, ev.eq_20, ev.eq_21, ev.eq_22, ev.eq_23, ev.eq_24, ev.eq_25, ev.eq_26, ev.eq_27, ev.eq_28, ev.eq_29, ev.eq_30, ev.eq_31, ev.eq_33, ev.eq_34, ev.eq_35, ev.eq_36, ev.eq_37, ev.eq_38, ev.eq_39, ev.eq_40, ev.eq_41, ev.eq_42, ev.eq_43, ev.eq_44, ev.eq_45, cx_cf, cx_cm, cx_gl, cx_dc, cx_ci, evSs, evS, evT, evs, evSrc, evo, gt, st, d_sh, d_fr, isB, isI, Out.bind_ok, Out.bindB_ok, Out.chk_ok, Out.of_some, fl_ended hk, he])]
  rw [evSs_nx (ρ' := [.v (.ref k)]) (S' := S.set k { t with ended := true }.cell) (by
    simp only [evS, ev, gt, Out.bind_ok, Out.bindB_ok, Out.chk_ok, hk, fs_len, ownSl, Rv.d, show (10 : Nat) < 999 from by decide, if_true, z])]
  simp only [evSs, Fl.res]
theorem m_open_over {s : Sen} (h : T.mt "Talk" "open_for" = some fn_Talk_open_for) (x : T.xc "TalkOver" = some 1) (he : t.ended = true) (f : Nat) (d : D) (hk : S[k]? = some t.cell) : callM T (f + 1) "Talk" "open_for" [.ref k, d] S = .exc ⟨"TalkOver", none⟩ S := by
  rw [callM_eq h rfl]
  simp [fn_Talk_open_for, ev.eq_1, ev.eq_2, ev.eq_3, ev.eq_4, ev.eq_5, ev.eq_6, ev.eq_7, ev.eq_8, ev.eq_9, ev.eq_10, ev.eq_11, ev.eq_12, ev.eq_13, ev.eq_14, ev.eq_15, ev.eq_16, ev.eq_17, ev.eq_18, ev.eq_19, ev.eq_20, ev.eq_21, ev.eq_22, ev.eq_23, ev.eq_24, ev.eq_25, ev.eq_26, ev.eq_27, ev.eq_28, ev.eq_29, ev.eq_30, ev.eq_31, ev.eq_33, ev.eq_34, ev.eq_35, ev.eq_36, ev.eq_37, ev.eq_38, ev.eq_39, ev.eq_40, ev.eq_41, ev.eq_42, ev.eq_43, ev.eq_44, ev.eq_45, cx_cf, cx_cm, cx_gl, cx_dc, cx_ci, evSs, evS, evT, evs, evSrc, evo, gt, st, d_sh, d_fr, isB, isI, Out.bind_ok, Out.bindB_ok, Out.chk_ok, Out.of_some, fl_ended hk, he, cx_xc, x, Fl.res]
theorem m_say_over (h : T.mt "Talk" "say" = some fn_Talk_say) (h1 : T.mt "Talk" "open_for" = some fn_Talk_open_for) (x : T.xc "TalkOver" = some 1) (he : t.ended = true) (f : Nat) (a b : D) (hk : S[k]? = some t.cell) : callM T (f + 2) "Talk" "say" [.ref k, a, b] S = .exc ⟨"TalkOver", none⟩ S := by
  have e := m_open_over (s := .lt 0) h1 x he f a hk
  rw [callM_eq h rfl]
  simp only [fn_Talk_say, List.map_cons, List.map_nil, List.cons_append, List.nil_append, List.replicate, Nat.reduceSub]
  rw [evSs_ex (x := ⟨"TalkOver", none⟩) (ρ' := [.v (.ref k), .v a, .v b, .no]) (S' := S) (by simp only [evS, ev, evs, gt, Out.bind_ok, Out.bindB_ok, Out.chk_ok, hk, nf_open, Bool.false_eq_true, if_false, d_sh, e, Out.bind_exc])]
  rfl
end
theorem ev_fldR {Γ : Ctx} {a : CE} {g : Str} {ρ ρ' : Env} {S S' : Store} {k : Nat} {d : D} (h : ev Γ a ρ S = .ok (.sh (.ref k)) ρ' S') (h2 : fldAt S' k g = .v d) : ev Γ (.fld a g) ρ S = .ok (.sh d) ρ' S' := by simp only [ev, h, Out.bind_ok, Out.bindB_ok, Out.chk_ok, h2]
theorem ev_fldX {Γ : Ctx} {a : CE} {g : Str} {ρ ρ' : Env} {S S' : Store} {x : Xn} (h : ev Γ a ρ S = .exc x ρ' S') : ev Γ (.fld a g) ρ S = .exc x ρ' S' := by simp only [ev, h, Out.bind_exc]
end Ht

set_option linter.all false
set_option maxRecDepth 100000
set_option maxHeartbeats 1000000
/-! the shown form -/
namespace Ht
open PySem
def Jt.sg : Jt → Nat
  | .and => 38 | .or => 124 | .ifj => 62 | .same => 61
/-- the shown form -/
def Sen.sh : Sen → List Nat
  | .lt k => [97 + k]
  | .nt s => 45 :: s.sh
  | .j2 j s t => 40 :: (s.sh ++ j.sg :: (t.sh ++ [41]))
theorem sh_len : ∀ s : Sen, s.sh.length ≤ 3 * s.size
  | .lt _ => by simp [Sen.sh, Sen.size]
  | .nt s => by have := sh_len s; simp [Sen.sh, Sen.size]; omega
  | .j2 _ s t => by have := sh_len s; have := sh_len t; simp [Sen.sh, Sen.size]; omega
def dLetters : D := .str [97, 98, 99, 100, 101]
def dSigns : List (List Nat × D) := [([97, 110, 100], .str [38]), ([111, 114], .str [124]), ([105, 102], .str [62]), ([115, 97, 109, 101], .str [61])]
theorem dlk_sign (j : Jt) : dlk dSigns j.s = some (.str [j.sg]) := by cases j <;> rfl
theorem idx_letters {k : Nat} (h : k < 5) : idxD (.str [97, 98, 99, 100, 101]) (.int k) = some (.str [97 + k]) := by
  have : k = 0 ∨ k = 1 ∨ k = 2 ∨ k = 3 ∨ k = 4 := by omega
  rcases this with rfl | rfl | rfl | rfl | rfl <;> rfl
theorem s_abc : (Str.ofString "abcde").cps.toList = [97, 98, 99, 100, 101] := by decide +kernel
theorem s_min : (Str.ofString "-").cps.toList = [45] := by decide +kernel
theorem s_opn : (Str.ofString "(").cps.toList = [40] := by decide +kernel
theorem s_cls : (Str.ofString ")").cps.toList = [41] := by decide +kernel
theorem s_sgs : (Str.ofString "&|>=").cps.toList = [38, 124, 62, 61] := by decide +kernel
theorem idx_sign (j : Jt) : (indexD (.lst [.str (Jt.s .and), .str (Jt.s .or), .str (Jt.s .ifj), .str (Jt.s .same)]) (.str j.s)).bind (fun d => idxD (.str [38, 124, 62, 61]) d) = some (.str [j.sg]) := by cases j <;> rfl
theorem idx_sign2 (j : Jt) : ∃ i, indexD (.lst [.str (Jt.s .and), .str (Jt.s .or), .str (Jt.s .ifj), .str (Jt.s .same)]) (.str j.s) = some i ∧ idxD (.str [38, 124, 62, 61]) i = some (.str [j.sg]) := by cases j <;> exact ⟨_, rfl, rfl⟩
theorem i3_0 (x y z : D) : idxD (.tup [x, y, z]) (.int 0) = some x := rfl
theorem i3_1 (x y z : D) : idxD (.tup [x, y, z]) (.int 1) = some y := rfl
theorem i3_2 (x y z : D) : idxD (.tup [x, y, z]) (.int 2) = some z := rfl
theorem i2_0 (x y : D) : idxD (.tup [x, y]) (.int 0) = some x := rfl
theorem i2_1 (x y : D) : idxD (.tup [x, y]) (.int 1) = some y := rfl
def fn__law_shown : Fn := ⟨1, 2, [
  .ite (.e (.cmp .Eq (.idx (.slot 0) (.int 0)) (.str "let"))) [
    .ret (.idx (.str "abcde") (.idx (.slot 0) (.int 1)))] [],
  .ite (.e (.cmp .Eq (.idx (.slot 0) (.int 0)) (.str "not"))) [
    .ret (.bin .Add (.str "-") (.call "_law_shown" [(.idx (.slot 0) (.int 1))]))] [],
  .asg false 1 (.idx (.str "&|>=") (.index (.lst [(.str "and"), (.str "or"), (.str "if"), (.str "same")]) (.idx (.slot 0) (.int 0)))),
  .ret (.bin .Add (.bin .Add (.bin .Add (.bin .Add (.str "(") (.call "_law_shown" [(.idx (.slot 0) (.int 1))])) (.slot 1)) (.call "_law_shown" [(.idx (.slot 0) (.int 2))])) (.str ")"))]⟩
theorem ok_lshown {T : Tab} (h : T.fn "_law_shown" = some fn__law_shown) : ∀ (s : Sen) (f : Nat) (S : Store), s.ok 5 → s.depth < f → s.size < 100000 → callF T f "_law_shown" [s.d] S = .ok (.sh (.str s.sh)) S
  | .lt k, f + 1, S, ho, _, _ => by
    rw [call_eq h rfl]
    simp [fn__law_shown, ev.eq_1, ev.eq_2, ev.eq_3, ev.eq_4, ev.eq_5, ev.eq_6, ev.eq_7, ev.eq_8, ev.eq_9, ev.eq_10, ev.eq_11, ev.eq_12, ev.eq_13, ev.eq_14, ev.eq_15, ev.eq_16, ev.eq_17, ev.eq_18, ev.eq_19, ev.eq_20, ev.eq_21, ev.eq_22, ev.eq_23, ev.eq_24, ev.eq_25, ev.eq_26, ev.eq_27, ev.eq_28, ev.eq_29, ev.eq_30, ev.eq_31, ev.eq_33, ev.eq_34, ev.eq_35, ev.eq_36, ev.eq_37, ev.eq_38, ev.eq_39, ev.eq_40, ev.eq_41, ev.eq_42, ev.eq_43, ev.eq_44, ev.eq_45, cx_cf, cx_cm, cx_gl, cx_dc, cx_ci, evSs, evS, evT, evs, evSrc, evo, gt, st, d_sh, d_fr, isB, isI, Out.bind_ok, Out.bindB_ok, Out.chk_ok, Out.of_some, Sen.d, i2_0, i2_1, c_eqS, s_let, s_abc, idx_letters ho, Fl.res, Sen.sh]
  | .nt s, f + 1, S, ho, hd, hz => by
    simp only [Sen.depth] at hd
    simp only [Sen.size] at hz
    have ih := ok_lshown h s f S ho (by omega) (by omega)
    have hl := sh_len s
    have z : 1 + s.sh.length ≤ 16777216 := by omega
    rw [call_eq h rfl]
    simp [fn__law_shown, ev.eq_1, ev.eq_2, ev.eq_3, ev.eq_4, ev.eq_5, ev.eq_6, ev.eq_7, ev.eq_8, ev.eq_9, ev.eq_10, ev.eq_11, ev.eq_12, ev.eq_13, ev.eq_14, ev.eq_15, ev.eq_16, ev.eq_17, ev.eq_18, ev.eq_19, ev.eq_20, ev.eq_21, ev.eq_22, ev.eq_23, ev.eq_24, ev.eq_25, ev.eq_26, ev.eq_27, ev.eq_28, ev.eq_29, ev.eq_30, ev.eq_31, ev.eq_33, ev.eq_34, ev.eq_35, ev.eq_36, ev.eq_37, ev.eq_38, ev.eq_39, ev.eq_40, ev.eq_41, ev.eq_42, ev.eq_43, ev.eq_44, ev.eq_45, cx_cf, cx_cm, cx_gl, cx_dc, cx_ci, evSs, evS, evT, evs, evSrc, evo, gt, st, d_sh, d_fr, isB, isI, Out.bind_ok, Out.bindB_ok, Out.chk_ok, Out.of_some, Sen.d, i2_0, i2_1, c_eqS, s_let, s_not, not_ne_let, s_min, ih, binD, big, z, Fl.res, Sen.sh]
  | .j2 j s t, f + 1, S, ho, hd, hz => by
    simp only [Sen.depth] at hd
    simp only [Sen.size] at hz
    have ih := ok_lshown h s f S ho.1 (by omega) (by omega)
    have ih2 := ok_lshown h t f S ho.2 (by omega) (by omega)
    have hl := sh_len s
    have hl2 := sh_len t
    obtain ⟨i, hi, hi2⟩ := idx_sign2 j
    have z1 : 1 + s.sh.length ≤ 16777216 := by omega
    have z2 : s.sh.length + 1 + 1 ≤ 16777216 := by omega
    have z3 : s.sh.length + 1 + 1 + t.sh.length ≤ 16777216 := by omega
    have z4 : s.sh.length + 1 + 1 + t.sh.length + 1 ≤ 16777216 := by omega
    have z5 : s.sh.length + (t.sh.length + 1) + 1 + 1 ≤ 16777216 := by omega
    have z6 : s.sh.length + (t.sh.length + 1) + 1 ≤ 16777216 := by omega
    rw [call_eq h rfl]
    simp [fn__law_shown, ev.eq_1, ev.eq_2, ev.eq_3, ev.eq_4, ev.eq_5, ev.eq_6, ev.eq_7, ev.eq_8, ev.eq_9, ev.eq_10, ev.eq_11, ev.eq_12, ev.eq_13, ev.eq_14, ev.eq_15, ev.eq_16, ev.eq_17, ev.eq_18, ev.eq_19, ev.eq_20, ev.eq_21, ev.eq_22, ev.eq_23, ev.eq_24, ev.eq_25, ev.eq_26, ev.eq_27, ev.eq_28, ev.eq_29, ev.eq_30, ev.eq_31, ev.eq_33, ev.eq_34, ev.eq_35, ev.eq_36, ev.eq_37, ev.eq_38, ev.eq_39, ev.eq_40, ev.eq_41, ev.eq_42, ev.eq_43, ev.eq_44, ev.eq_45, cx_cf, cx_cm, cx_gl, cx_dc, cx_ci, evSs, evS, evT, evs, evSrc, evo, gt, st, d_sh, d_fr, isB, isI, Out.bind_ok, Out.bindB_ok, Out.chk_ok, Out.of_some, ev.eq_35, Sen.d, i3_0, i3_1, i3_2, c_eqS, s_let, s_not, s_and, s_or, s_if, s_same, s_sgs, j.ne_let, j.ne_not, s_opn, s_cls, ih, ih2, hi, hi2, binD, big, z1, z2, z3, z4, z5, z6, Fl.res, Sen.sh]
    all_goals omega
end Ht

set_option linter.all false
set_option maxRecDepth 100000
set_option maxHeartbeats 400000
/-! reading -/
namespace Ht
open PySem
def b1_past_blanks : List CS := [
    .aug 1 .Add (.int 1)]
def fn_past_blanks : Fn := ⟨2, 2, [
  .whl (.and (.e (.cmp .Lt (.slot 1) (.len (.slot 0)))) (.e (.cmp .Eq (.idx (.slot 0) (.slot 1)) (.str " ")))) b1_past_blanks,
  .retS 1]⟩
def fn_sign_at : Fn := ⟨2, 2, [
  .ite (.e (.cmp .Eq (.slot 1) (.len (.slot 0)))) [
    .raisAt "NoSentence" (.slot 1)] [],
  .ret (.idx (.slot 0) (.slot 1))]⟩
def fn_part_from : Fn := ⟨2, 8, [
  .asg false 2 (.call "past_blanks" [(.slot 0), (.slot 1)]),
  .asg false 3 (.call "sign_at" [(.slot 0), (.slot 2)]),
  .ite (.e (.cmp .In (.slot 3) (.glob "LETTERS"))) [
    .ret (.tup [(.tup [(.str "let"), (.index (.glob "LETTERS") (.slot 3))]), (.bin .Add (.slot 2) (.int 1))])] [],
  .ite (.e (.cmp .Eq (.slot 3) (.str "-"))) [
    .asgT [4, 5] (.call "part_from" [(.slot 0), (.bin .Add (.slot 2) (.int 1))]),
    .ret (.tup [(.tup [(.str "not"), (.slot 4)]), (.slot 5)])] [],
  .ite (.e (.cmp .NotEq (.slot 3) (.str "("))) [
    .raisAt "NoSentence" (.slot 2)] [],
  .asgT [6, 5] (.call "part_from" [(.slot 0), (.bin .Add (.slot 2) (.int 1))]),
  .asg false 2 (.call "past_blanks" [(.slot 0), (.slot 5)]),
  .asg false 3 (.call "sign_at" [(.slot 0), (.slot 2)]),
  .ite (.e (.din true "JOINTS" (.slot 3))) [
    .raisAt "NoSentence" (.slot 2)] [],
  .asgT [7, 5] (.call "part_from" [(.slot 0), (.bin .Add (.slot 2) (.int 1))]),
  .asg false 2 (.call "past_blanks" [(.slot 0), (.slot 5)]),
  .ite (.e (.cmp .NotEq (.call "sign_at" [(.slot 0), (.slot 2)]) (.str ")"))) [
    .raisAt "NoSentence" (.slot 2)] [],
  .ret (.tup [(.tup [(.dget "JOINTS" (.slot 3)), (.slot 6), (.slot 7)]), (.bin .Add (.slot 2) (.int 1))])]⟩
def fn_read : Fn := ⟨1, 4, [
  .asgT [1, 2] (.call "part_from" [(.slot 0), (.int 0)]),
  .asg false 3 (.call "past_blanks" [(.slot 0), (.slot 2)]),
  .ite (.e (.cmp .Lt (.slot 3) (.len (.slot 0)))) [
    .raisAt "NoSentence" (.slot 3)] [],
  .retS 1]⟩
def dJts : List (List Nat × D) := [([38], .str [97, 110, 100]), ([124], .str [111, 114]), ([62], .str [105, 102]), ([61], .str [115, 97, 109, 101])]
theorem dlk_joint (j : Jt) : dlk dJts [j.sg] = some (.str j.s) := by cases j <;> rfl
/-- a written form of a sentence: blanks may stand ahead of each sign -/
inductive Sp : Sen → List Nat → Prop
  | lt (n k : Nat) : Sp (.lt k) (List.replicate n 32 ++ [97 + k])
  | nt (n : Nat) {s : Sen} {w : List Nat} : Sp s w → Sp (.nt s) (List.replicate n 32 ++ 45 :: w)
  | j2 (n a b : Nat) (j : Jt) {s t : Sen} {w v : List Nat} : Sp s w → Sp t v → Sp (.j2 j s t) (List.replicate n 32 ++ 40 :: (w ++ (List.replicate a 32 ++ j.sg :: (v ++ (List.replicate b 32 ++ [41])))))
/-- w stands in t at i -/
def At (t : List Nat) (i : Nat) (w : List Nat) : Prop := ∀ (k c : Nat), w[k]? = some c → t[i + k]? = some c
theorem At.app {t w v : List Nat} {i : Nat} (h : At t i (w ++ v)) : At t i w ∧ At t (i + w.length) v := by
  constructor
  · intro k c hc
    refine h k c ?_
    have := (List.getElem?_eq_some_iff.mp hc).1
    rw [List.getElem?_append_left this]
    exact hc
  · intro k c hc
    have := h (w.length + k) c (by rw [List.getElem?_append_right (by omega)]; simpa using hc)
    rw [← this]
    congr 1
    omega
theorem At.cons {t v : List Nat} {i c : Nat} (h : At t i (c :: v)) : t[i]? = some c ∧ At t (i + 1) v := by
  constructor
  · exact h 0 c rfl
  · intro k d hd
    have := h (k + 1) d (by simpa using hd)
    rw [← this]
    congr 1
    omega
theorem idx_str {t : List Nat} {i c : Nat} (h : t[i]? = some c) (hl : t.length ≤ 1000) : idxD (.str t) (.int i) = some (.str [c]) := by
  have hi := (List.getElem?_eq_some_iff.mp h).1
  have hb : t.length ≤ big := by unfold big; omega
  simp only [idxD, if_pos hb, ixN, if_pos (Int.natCast_nonneg i), if_pos (show (i : Int) < t.length by omega), Option.bind_some, Int.toNat_natCast, h, Option.map_some]
theorem len_str {t : List Nat} (hl : t.length ≤ 1000) : lenD (.str t) = some (.int t.length) := by
  have hb : t.length ≤ big := by unfold big; omega
  simp only [lenD, if_pos hb]
theorem s_blank : (Str.ofString " ").cps.toList = [32] := by decide +kernel
section
variable {T : Tab}
theorem past_loop {f : Nat} {t : List Nat} (hl : t.length ≤ 1000) (S : Store) : ∀ (n i k : Nat), n < k → At t i (List.replicate n 32) → i + n ≤ t.length → t[i + n]? ≠ some 32 →
    whileS (evT (cx T f) (.and (.e (.cmp .Lt (.slot 1) (.len (.slot 0)))) (.e (.cmp .Eq (.idx (.slot 0) (.slot 1)) (.str " "))))) (evSs (cx T f) b1_past_blanks) k [.v (.str t), .v (.int i)] S = .ok .nx [.v (.str t), .v (.int (i + n : Nat))] S
  | 0, i, k + 1, _, _, hi, hne => by
    have ln := len_str hl
    rw [Nat.add_zero] at hi hne
    by_cases c : i < t.length
    · have hc : t[i]? = some t[i] := List.getElem?_eq_getElem c
      have c' : (i : Int) < t.length := by omega
      have ix := idx_str hc hl
      have ne : ¬ [t[i]] = [32] := fun z => by
        have z2 : t[i] = 32 := by simpa using z
        rw [hc, z2] at hne
        exact hne rfl
      generalize t[i] = x at *
      simp [whileS, evT, ev, gt, d_sh, ln, c_lt, c, ix, s_blank, c_eqS, isB]
      intro z
      exact absurd (by rw [z]) ne
    · have c' : ¬ ((i : Int) < t.length) := by omega
      simp [whileS, evT, ev, gt, d_sh, ln, c_lt, c, isB]
  | n + 1, i, k + 1, hk, ha, hi, hne => by
    have ln := len_str hl
    obtain ⟨h1, h2⟩ := At.cons (by simpa [List.replicate_succ] using ha)
    have ih := past_loop (f := f) hl S n (i + 1) k (by omega) h2 (by omega) (by rw [show i + 1 + n = i + (n + 1) by omega]; exact hne)
    have ix := idx_str h1 hl
    have c : i < t.length := by omega
    have c' : (i : Int) < t.length := by omega
    have st1 : evSs (cx T f) b1_past_blanks [.v (.str t), .v (.int i)] S = .ok .nx [.v (.str t), .v (.int (i + 1 : Nat))] S := by
      simp [b1_past_blanks, evSs, evS, ev, gt, st, d_sh, binD]
    have tt : evT (cx T f) (.and (.e (.cmp .Lt (.slot 1) (.len (.slot 0)))) (.e (.cmp .Eq (.idx (.slot 0) (.slot 1)) (.str " ")))) [.v (.str t), .v (.int i)] S = .ok true [.v (.str t), .v (.int i)] S := by
      simp [evT, ev, gt, d_sh, ln, c_lt, c, ix, s_blank, c_eqS, isB]
    rw [whileS, tt]
    simp only [Out.bind_ok, Out.bindB_ok, Out.chk_ok, if_true, st1]
    rw [ih]
    congr 3
    rw [show i + 1 + n = i + (n + 1) by omega]
theorem ok_past (h : T.fn "past_blanks" = some fn_past_blanks) (f : Nat) {t : List Nat} (hl : t.length ≤ 1000) {i n : Nat} (ha : At t i (List.replicate n 32)) (hi : i + n ≤ t.length) (hne : t[i + n]? ≠ some 32) (S : Store) : callF T (f + 1) "past_blanks" [.str t, .int i] S = .ok (.sh (.int (i + n : Nat))) S := by
  have e := past_loop (T := T) (f := f) hl S n i turns (by unfold turns; omega) ha hi hne
  rw [call_eq h rfl]
  simp only [fn_past_blanks, List.map_cons, List.map_nil, List.cons_append, List.nil_append, List.replicate, Nat.reduceSub]
  rw [evSs_nx (ρ' := [.v (.str t), .v (.int (i + n : Nat))]) (S' := S) (by simp only [evS]; exact e)]
  simp [evSs, evS, gt, Fl.res]
theorem ok_sign (h : T.fn "sign_at" = some fn_sign_at) (f : Nat) {t : List Nat} (hl : t.length ≤ 1000) {i c : Nat} (hc : t[i]? = some c) (S : Store) : callF T (f + 1) "sign_at" [.str t, .int i] S = .ok (.sh (.str [c])) S := by
  have hi := (List.getElem?_eq_some_iff.mp hc).1
  have ln := len_str hl
  have ix := idx_str hc hl
  have ne : ¬ ((i : Int) = t.length) := by omega
  rw [call_eq h rfl]
  simp [fn_sign_at, evSs, evS, evT, ev, gt, d_sh, ln, ix, c_eqI, isB, ne, Fl.res]
theorem Sp.not_blank {s : Sen} {w : List Nat} (h : Sp s w) : ∃ n c v, w = List.replicate n 32 ++ c :: v ∧ c ≠ 32 := by
  cases h with
  | lt n k => exact ⟨n, 97 + k, [], rfl, by omega⟩
  | nt n h => exact ⟨n, 45, _, rfl, by decide⟩
  | j2 n a b j h1 h2 => exact ⟨n, 40, _, rfl, by decide⟩
structure PRead (T : Tab) : Prop where
  past_blanks : T.fn "past_blanks" = some fn_past_blanks
  sign_at : T.fn "sign_at" = some fn_sign_at
  part_from : T.fn "part_from" = some fn_part_from
  read : T.fn "read" = some fn_read
  g_LETTERS : T.gl "LETTERS" = some dLetters
  d_JOINTS : T.dc "JOINTS" = some dJts
theorem in_letters {c : Nat} : cmpD .In (.str [c]) dLetters = some (decide (c ∈ [97, 98, 99, 100, 101])) := rfl
theorem index_letter {k : Nat} (h : k < 5) : indexD dLetters (.str [97 + k]) = some (.int k) := by
  have : k = 0 ∨ k = 1 ∨ k = 2 ∨ k = 3 ∨ k = 4 := by omega
  rcases this with rfl | rfl | rfl | rfl | rfl <;> rfl
theorem at_blanks {t v : List Nat} {i n c : Nat} (h : At t i (List.replicate n 32 ++ c :: v)) (hc : c ≠ 32) : At t i (List.replicate n 32) ∧ t[i + n]? = some c ∧ i + n ≤ t.length ∧ t[i + n]? ≠ some 32 ∧ At t (i + n + 1) v := by
  obtain ⟨h1, h2⟩ := h.app
  rw [List.length_replicate] at h2
  obtain ⟨h3, h4⟩ := h2.cons
  have := (List.getElem?_eq_some_iff.mp h3).1
  exact ⟨h1, h3, by omega, by rw [h3]; simpa using hc, h4⟩
theorem ok_part (P : PRead T) {t : List Nat} (hl : t.length ≤ 1000) (S : Store) : ∀ {s : Sen} {w : List Nat}, Sp s w → ∀ {f i : Nat}, s.ok 5 → s.depth < f → At t i w → callF T (f + 1) "part_from" [.str t, .int i] S = .ok (.sh (.tup [s.d, .int (i + w.length : Nat)])) S
  | _, _, .lt n k, f + 1, i, ho, hd, ha => by
    obtain ⟨h1, h2, h3, h4, _⟩ := at_blanks ha (by omega)
    have e1 := ok_past P.past_blanks f hl h1 h3 h4 S
    have e2 := ok_sign P.sign_at f hl h2 S
    have hk : k < 5 := ho
    have e3 := index_letter hk
    have e4 : decide (97 + k ∈ [97, 98, 99, 100, 101]) = true := by
      have : k = 0 ∨ k = 1 ∨ k = 2 ∨ k = 3 ∨ k = 4 := by omega
      rcases this with rfl | rfl | rfl | rfl | rfl <;> decide
    have lw : i + (List.replicate n 32 ++ [97 + k]).length = i + n + 1 := by simp; omega
    rw [lw]
    have gi : binD .Add (.int (i + n : Nat)) (.int 1) = some (.sh (.int (i + n + 1 : Nat))) := rfl
    rw [call_eq P.part_from rfl]
    generalize i + n = p at *
    simp only [fn_part_from, List.map_cons, List.map_nil, List.cons_append, List.nil_append, List.replicate, Nat.reduceSub]
    rw [evSs_nx (ρ' := [.v (.str t), .v (.int i), .v (.int p), .no, .no, .no, .no, .no]) (S' := S) (by simp [evS, ev, evs, gt, st, d_sh, e1])]
    rw [evSs_nx (ρ' := [.v (.str t), .v (.int i), .v (.int p), .v (.str [97 + k]), .no, .no, .no, .no]) (S' := S) (by simp [evS, ev, evs, gt, st, d_sh, e2])]
    rw [evSs_rt (v := .sh (.tup [(Sen.lt k).d, .int (p + 1 : Nat)])) (ρ' := [.v (.str t), .v (.int i), .v (.int p), .v (.str [97 + k]), .no, .no, .no, .no]) (S' := S) (by
      have il := in_letters (c := 97 + k)
      rw [e4] at il
      simp [evS, evSs, evT, ev, evs, gt, st, d_sh, cx_gl, P.g_LETTERS, il, e3, gi, s_let, isB, big, Sen.d])]
    rfl
  | _, _, .nt n (s := s) (w := w) hs, f + 1, i, ho, hd, ha => by
    obtain ⟨h1, h2, h3, h4, h5⟩ := at_blanks ha (by decide)
    simp only [Sen.depth] at hd
    have e1 := ok_past P.past_blanks f hl h1 h3 h4 S
    have e2 := ok_sign P.sign_at f hl h2 S
    have e3 := ok_part P hl S hs (f := f) (i := i + n + 1) ho (by omega) h5
    have lw : i + (List.replicate n 32 ++ 45 :: w).length = i + n + 1 + w.length := by simp; omega
    rw [lw]
    have gi : binD .Add (.int (i + n : Nat)) (.int 1) = some (.sh (.int (i + n + 1 : Nat))) := rfl
    generalize i + n = p at *
    generalize p + 1 + w.length = q at *
    have il : cmpD .In (.str [45]) dLetters = some false := rfl
    rw [call_eq P.part_from rfl]
    simp only [fn_part_from, List.map_cons, List.map_nil, List.cons_append, List.nil_append, List.replicate, Nat.reduceSub]
    rw [evSs_nx (ρ' := [.v (.str t), .v (.int i), .v (.int p), .no, .no, .no, .no, .no]) (S' := S) (by simp [evS, ev, evs, gt, st, d_sh, e1])]
    rw [evSs_nx (ρ' := [.v (.str t), .v (.int i), .v (.int p), .v (.str [45]), .no, .no, .no, .no]) (S' := S) (by simp [evS, ev, evs, gt, st, d_sh, e2])]
    rw [evSs_nx (ρ' := [.v (.str t), .v (.int i), .v (.int p), .v (.str [45]), .no, .no, .no, .no]) (S' := S) (by simp [evS, evSs, evT, ev, evs, gt, st, d_sh, cx_gl, P.g_LETTERS, il, isB])]
    rw [evSs_rt (v := .sh (.tup [(Sen.nt s).d, .int q])) (ρ' := [.v (.str t), .v (.int i), .v (.int p), .v (.str [45]), .v s.d, .v (.int q), .no, .no]) (S' := S) (by
      generalize p + 1 = p1 at *
      simp [evS, evSs, evT, ev, evs, gt, st, d_sh, c_eqS, s_min, gi, e3, asgT, setT, s_not, isB, big, Sen.d])]
    rfl
  | _, _, .j2 n a b j (s := s) (t := u) (w := w) (v := v) hs hu, f + 1, i, ho, hd, ha => by
    obtain ⟨h1, h2, h3, h4, h5⟩ := at_blanks ha (by decide)
    simp only [Sen.depth] at hd
    obtain ⟨h6, h7⟩ := h5.app
    obtain ⟨k1, k2, k3, k4, k5⟩ := at_blanks h7 (by cases j <;> decide)
    obtain ⟨k6, k7⟩ := k5.app
    obtain ⟨m1, m2, m3, m4, _⟩ := at_blanks k7 (by decide)
    have e1 := ok_past P.past_blanks f hl h1 h3 h4 S
    have e2 := ok_sign P.sign_at f hl h2 S
    have e3 := ok_part P hl S hs (f := f) (i := i + n + 1) ho.1 (by omega) h6
    have e4 := ok_past P.past_blanks f hl k1 k3 k4 S
    have e5 := ok_sign P.sign_at f hl k2 S
    have e6 := ok_part P hl S hu (f := f) (i := i + n + 1 + w.length + a + 1) ho.2 (by omega) k6
    have e7 := ok_past P.past_blanks f hl m1 m3 m4 S
    have e8 := ok_sign P.sign_at f hl m2 S
    have lw : i + (List.replicate n 32 ++ 40 :: (w ++ (List.replicate a 32 ++ j.sg :: (v ++ (List.replicate b 32 ++ [41]))))).length = i + n + 1 + w.length + a + 1 + v.length + b + 1 := by simp; omega
    rw [lw]
    have gi : binD .Add (.int (i + n : Nat)) (.int 1) = some (.sh (.int (i + n + 1 : Nat))) := rfl
    generalize i + n = p at *
    have gi2 : binD .Add (.int (p + 1 + w.length + a : Nat)) (.int 1) = some (.sh (.int (p + 1 + w.length + a + 1 : Nat))) := rfl
    have gi3 : binD .Add (.int (p + 1 + w.length + a + 1 + v.length + b : Nat)) (.int 1) = some (.sh (.int (p + 1 + w.length + a + 1 + v.length + b + 1 : Nat))) := rfl
    generalize p + 1 + w.length + a + 1 + v.length + b + 1 = q5 at *
    generalize p + 1 + w.length + a + 1 + v.length + b = q4 at *
    generalize p + 1 + w.length + a + 1 + v.length = q3 at *
    generalize p + 1 + w.length + a + 1 = q2 at *
    generalize p + 1 + w.length + a = q1 at *
    generalize p + 1 + w.length = q0 at *
    generalize p + 1 = p1 at *
    have il : cmpD .In (.str [40]) dLetters = some false := rfl
    have dj := dlk_joint j
    have n1 : ¬ [40] = [45] := by decide
    rw [call_eq P.part_from rfl]
    simp only [fn_part_from, List.map_cons, List.map_nil, List.cons_append, List.nil_append, List.replicate, Nat.reduceSub]
    rw [evSs_nx (ρ' := [.v (.str t), .v (.int i), .v (.int p), .no, .no, .no, .no, .no]) (S' := S) (by simp [evS, ev, evs, gt, st, d_sh, e1])]
    rw [evSs_nx (ρ' := [.v (.str t), .v (.int i), .v (.int p), .v (.str [40]), .no, .no, .no, .no]) (S' := S) (by simp [evS, ev, evs, gt, st, d_sh, e2])]
    rw [evSs_nx (ρ' := [.v (.str t), .v (.int i), .v (.int p), .v (.str [40]), .no, .no, .no, .no]) (S' := S) (by simp [evS, evSs, evT, ev, evs, gt, st, d_sh, cx_gl, P.g_LETTERS, il, isB])]
    rw [evSs_nx (ρ' := [.v (.str t), .v (.int i), .v (.int p), .v (.str [40]), .no, .no, .no, .no]) (S' := S) (by simp [evS, evSs, evT, ev, evs, gt, st, d_sh, c_eqS, s_min, isB])]
    rw [evSs_nx (ρ' := [.v (.str t), .v (.int i), .v (.int p), .v (.str [40]), .no, .no, .no, .no]) (S' := S) (by simp [evS, evSs, evT, ev, evs, gt, st, d_sh, c_neS, s_opn, isB])]
    rw [evSs_nx (ρ' := [.v (.str t), .v (.int i), .v (.int p), .v (.str [40]), .no, .v (.int q0), .v s.d, .no]) (S' := S) (by simp [evS, ev, evs, gt, st, d_sh, gi, e3, asgT, setT])]
    rw [evSs_nx (ρ' := [.v (.str t), .v (.int i), .v (.int q1), .v (.str [40]), .no, .v (.int q0), .v s.d, .no]) (S' := S) (by simp [evS, ev, evs, gt, st, d_sh, e4])]
    rw [evSs_nx (ρ' := [.v (.str t), .v (.int i), .v (.int q1), .v (.str [j.sg]), .no, .v (.int q0), .v s.d, .no]) (S' := S) (by simp [evS, ev, evs, gt, st, d_sh, e5])]
    rw [evSs_nx (ρ' := [.v (.str t), .v (.int i), .v (.int q1), .v (.str [j.sg]), .no, .v (.int q0), .v s.d, .no]) (S' := S) (by simp [evS, evSs, evT, ev, evs, gt, st, d_sh, cx_dc, P.d_JOINTS, dj, isB])]
    rw [evSs_nx (ρ' := [.v (.str t), .v (.int i), .v (.int q1), .v (.str [j.sg]), .no, .v (.int q3), .v s.d, .v u.d]) (S' := S) (by simp [evS, ev, evs, gt, st, d_sh, gi2, e6, asgT, setT])]
    rw [evSs_nx (ρ' := [.v (.str t), .v (.int i), .v (.int q4), .v (.str [j.sg]), .no, .v (.int q3), .v s.d, .v u.d]) (S' := S) (by simp [evS, ev, evs, gt, st, d_sh, e7])]
    rw [evSs_nx (ρ' := [.v (.str t), .v (.int i), .v (.int q4), .v (.str [j.sg]), .no, .v (.int q3), .v s.d, .v u.d]) (S' := S) (by simp [evS, evSs, evT, ev, evs, gt, st, d_sh, e8, c_neS, s_cls, isB])]
    simp [evSs, evS, ev, evs, gt, st, d_sh, cx_dc, P.d_JOINTS, dj, gi3, big, Sen.d, Fl.res]
theorem ok_read (P : PRead T) {t : List Nat} (hl : t.length ≤ 1000) {s : Sen} {w : List Nat} {n : Nat} (hs : Sp s w) (ht : t = w ++ List.replicate n 32) {f : Nat} (ho : s.ok 5) (hd : s.depth < f) (S : Store) : callF T (f + 2) "read" [.str t] S = .ok (.sh s.d) S := by
  have ha : At t 0 (w ++ List.replicate n 32) := fun k c hc => by rw [Nat.zero_add, ht]; exact hc
  obtain ⟨h1, h2⟩ := ha.app
  have e1 := ok_part P hl S hs (f := f) ho hd h1
  rw [Nat.zero_add] at e1 h2
  have tl : t.length = w.length + n := by rw [ht]; simp
  have e2 := ok_past P.past_blanks f hl h2 (by omega) (by rw [List.getElem?_eq_none (by omega)]; simp) S
  have ln := len_str hl
  have c : ¬ (((w.length + n : Nat) : Int) < t.length) := by omega
  rw [call_eq P.read rfl]
  simp only [fn_read, List.map_cons, List.map_nil, List.cons_append, List.nil_append, List.replicate, Nat.reduceSub]
  generalize w.length + n = q at *
  generalize w.length = p at *
  have e1' : callF T (f + 1) "part_from" [.str t, .int 0] S = .ok (.sh (.tup [s.d, .int p])) S := e1
  rw [evSs_nx (ρ' := [.v (.str t), .v s.d, .v (.int p), .no]) (S' := S) (by simp [evS, ev, evs, gt, st, d_sh, e1', asgT, setT])]
  rw [evSs_nx (ρ' := [.v (.str t), .v s.d, .v (.int p), .v (.int q)]) (S' := S) (by simp [evS, ev, evs, gt, st, d_sh, e2])]
  rw [evSs_nx (ρ' := [.v (.str t), .v s.d, .v (.int p), .v (.int q)]) (S' := S) (by
    generalize (t.length : Int) = L at *
    simp only [evS, evT, evSs, ev, gt, Out.bind_ok, Out.bindB_ok, Out.chk_ok, d_sh, ln, Out.of_some, c_lt, c, decide_false, isB, Bool.false_eq_true, if_false])]
  simp [evSs, evS, gt, Fl.res]
end
end Ht

set_option linter.all false
set_option maxRecDepth 100000
set_option maxHeartbeats 400000
/-! reading any text -/
namespace Ht
open PySem
/-- past the blanks -/
def pb : List Nat → List Nat
  | [] => []
  | c :: v => if c = 32 then pb v else c :: v
theorem pb_len : ∀ w : List Nat, (pb w).length ≤ w.length
  | [] => Nat.le_refl _
  | c :: v => by
    unfold pb
    split
    · exact Nat.le_succ_of_le (pb_len v)
    · exact Nat.le_refl _
theorem pb_ne : ∀ (w : List Nat) {c : Nat} {v : List Nat}, pb w = c :: v → c ≠ 32
  | [], _, _, h => by cases h
  | d :: v', c, v, h => by
    unfold pb at h
    split at h
    · exact pb_ne v' h
    · rename_i hd
      cases h
      exact hd
/-- the blanks that were passed -/
theorem pb_app : ∀ w : List Nat, ∃ n, w = List.replicate n 32 ++ pb w
  | [] => ⟨0, rfl⟩
  | c :: v => by
    unfold pb
    split
    · rename_i h
      obtain ⟨n, e⟩ := pb_app v
      refine ⟨n + 1, ?_⟩
      rw [List.replicate_succ, List.cons_append, h, ← e]
    · exact ⟨0, rfl⟩
def jtOf (c : Nat) : Option Jt := if c = 38 then some .and else if c = 124 then some .or else if c = 62 then some .ifj else if c = 61 then some .same else none
inductive Pr where
  | ok (s : Sen) (w : List Nat) | no (w : List Nat)
/-- the sentence at the head of what is left, as the program reads it -/
def pf : Nat → List Nat → Pr
  | 0, w => .no w
  | f + 1, w => match pb w with
    | [] => .no []
    | c :: v => if 97 ≤ c ∧ c ≤ 101 then .ok (.lt (c - 97)) v
      else if c = 45 then (match pf f v with
        | .ok s u => .ok (.nt s) u
        | .no u => .no u)
      else if c = 40 then (match pf f v with
        | .no u => .no u
        | .ok s u => match pb u with
          | [] => .no []
          | d :: x => match jtOf d with
            | none => .no (d :: x)
            | some j => match pf f x with
              | .no y => .no y
              | .ok r y => match pb y with
                | [] => .no []
                | e :: z => if e = 41 then .ok (.j2 j s r) z else .no (e :: z))
      else .no (c :: v)
/-- what a pile holds -/
inductive Fr where
  | neg | opn | jn (j : Jt) (s : Sen)
def col : List Fr → Sen → List Fr × Sen
  | .neg :: p, s => col p (.nt s)
  | p, s => (p, s)
/-- the law's reader, from a pile on -/
def rd : List Nat → List Fr → Option Sen → Sum (List Nat) (List Fr × Option Sen)
  | [], p, d => .inr (p, d)
  | c :: v, p, d => if c = 32 then rd v p d else match d with
    | none => if 97 ≤ c ∧ c ≤ 101 then rd v (col p (.lt (c - 97))).1 (some (col p (.lt (c - 97))).2) else if c = 45 then rd v (.neg :: p) none else if c = 40 then rd v (.opn :: p) none else .inl (c :: v)
    | some s => match p with
      | [] => .inl (c :: v)
      | .neg :: _ => .inl (c :: v)
      | .opn :: p' => match jtOf c with
        | some j => rd v (.jn j s :: p') none
        | none => .inl (c :: v)
      | .jn j l :: p' => if c = 41 then rd v (col p' (.j2 j l s)).1 (some (col p' (.j2 j l s)).2) else .inl (c :: v)
theorem rd_pb : ∀ (w : List Nat) (p : List Fr) (d : Option Sen), rd w p d = rd (pb w) p d
  | [], _, _ => rfl
  | c :: v, p, d => by
    by_cases h : c = 32
    · subst h
      rw [show pb (32 :: v) = pb v by simp [pb], ← rd_pb v p d]
      simp [rd]
    · rw [show pb (c :: v) = c :: v by simp [pb, h]]
/-- what the reader tells of a refusal: no way on -/
def stopAt (w : List Nat) : Sum (List Nat) (List Fr × Option Sen) → Prop
  | .inl u => u = w
  | .inr (p, d) => w = [] ∧ (d = none ∨ p ≠ [])
theorem col_pile {p p' : List Fr} {s s' : Sen} (h : col p s = (p', s')) : ∀ q, p' ≠ .neg :: q := by
  induction p generalizing s with
  | nil =>
    simp only [col] at h
    cases h
    intro q z
    cases z
  | cons a p ih =>
    cases a with
    | neg => exact ih h
    | opn =>
      simp only [col] at h
      cases h
      intro q z
      cases z
    | jn j t =>
      simp only [col] at h
      cases h
      intro q z
      cases z
theorem pf_rd : ∀ (f : Nat) (w : List Nat) (p : List Fr), w.length < f → match pf f w with
    | .ok s u => u.length < w.length ∧ rd w p none = rd u (col p s).1 (some (col p s).2)
    | .no u => u.length ≤ w.length ∧ stopAt u (rd w p none)
  | f + 1, w, p, hf => by
    have hl := pb_len w
    rw [rd_pb w p none]
    unfold pf
    cases hw : pb w with
    | nil => exact ⟨Nat.zero_le _, rfl, .inl rfl⟩
    | cons c v =>
      have h32 := pb_ne w hw
      rw [hw] at hl
      simp only [List.length_cons] at hl
      simp only
      by_cases c1 : 97 ≤ c ∧ c ≤ 101
      · rw [if_pos c1]
        refine ⟨by omega, ?_⟩
        simp only [rd, if_neg h32, if_pos c1]
      · rw [if_neg c1]
        by_cases c2 : c = 45
        · rw [if_pos c2]
          have ih := pf_rd f v (.neg :: p) (by omega)
          have e : rd (c :: v) p none = rd v (.neg :: p) none := by simp only [rd, if_neg h32, if_neg c1, if_pos c2]
          rw [e]
          cases hp : pf f v with
          | ok s u =>
            rw [hp] at ih
            exact ⟨by have := ih.1; omega, ih.2⟩
          | no u =>
            rw [hp] at ih
            exact ⟨by have := ih.1; omega, ih.2⟩
        · rw [if_neg c2]
          by_cases c3 : c = 40
          · rw [if_pos c3]
            have ih := pf_rd f v (.opn :: p) (by omega)
            have e : rd (c :: v) p none = rd v (.opn :: p) none := by simp only [rd, if_neg h32, if_neg c1, if_neg c2, if_pos c3]
            rw [e]
            cases hp : pf f v with
            | no u =>
              rw [hp] at ih
              exact ⟨by have := ih.1; omega, ih.2⟩
            | ok s u =>
              rw [hp] at ih
              obtain ⟨i1, i2⟩ := ih
              have hl2 := pb_len u
              simp only
              rw [i2, rd_pb u]
              simp only [col]
              cases hu : pb u with
              | nil => exact ⟨Nat.zero_le _, rfl, .inr (by intro z; cases z)⟩
              | cons d x =>
                have h33 := pb_ne u hu
                rw [hu] at hl2
                simp only [List.length_cons] at hl2
                simp only
                cases hj : jtOf d with
                | none =>
                  refine ⟨by simp only [List.length_cons]; omega, ?_⟩
                  simp only [rd, if_neg h33, hj]
                  rfl
                | some j =>
                  have ih2 := pf_rd f x (.jn j s :: p) (by omega)
                  have e2 : rd (d :: x) (.opn :: p) (some s) = rd x (.jn j s :: p) none := by simp only [rd, if_neg h33, hj]
                  rw [e2]
                  simp only
                  cases hp2 : pf f x with
                  | no y =>
                    rw [hp2] at ih2
                    exact ⟨by have := ih2.1; omega, ih2.2⟩
                  | ok r y =>
                    rw [hp2] at ih2
                    obtain ⟨j1, j2⟩ := ih2
                    have hl3 := pb_len y
                    simp only
                    rw [j2, rd_pb y]
                    simp only [col]
                    cases hy : pb y with
                    | nil => exact ⟨Nat.zero_le _, rfl, .inr (by intro z; cases z)⟩
                    | cons e' z =>
                      have h34 := pb_ne y hy
                      rw [hy] at hl3
                      simp only [List.length_cons] at hl3
                      simp only
                      by_cases c4 : e' = 41
                      · rw [if_pos c4]
                        refine ⟨by omega, ?_⟩
                        simp only [rd, if_neg h34, if_pos c4]
                      · rw [if_neg c4]
                        refine ⟨by simp only [List.length_cons]; omega, ?_⟩
                        simp only [rd, if_neg h34, if_neg c4]
                        rfl
          · rw [if_neg c3]
            refine ⟨by simp only [List.length_cons]; omega, ?_⟩
            simp only [rd, if_neg h32, if_neg c1, if_neg c2, if_neg c3]
            rfl
/-- the whole text: the sentence, or what is left where it can't go on -/
def rdF (w : List Nat) : Pr := match pf (w.length + 1) w with
  | .no u => .no u
  | .ok s u => match pb u with
    | [] => .ok s []
    | c :: v => .no (c :: v)
theorem rdF_rd (w : List Nat) : match rdF w with
    | .ok s _ => rd w [] none = .inr ([], some s)
    | .no u => u.length ≤ w.length ∧ stopAt u (rd w [] none) := by
  have h := pf_rd (w.length + 1) w [] (by omega)
  unfold rdF
  cases hp : pf (w.length + 1) w with
  | no u =>
    rw [hp] at h
    exact h
  | ok s u =>
    rw [hp] at h
    obtain ⟨h1, h2⟩ := h
    have hl := pb_len u
    simp only
    rw [h2, rd_pb u]
    simp only [col]
    cases hu : pb u with
    | nil => rfl
    | cons c v =>
      have h33 := pb_ne u hu
      rw [hu] at hl
      simp only
      refine ⟨by omega, ?_⟩
      simp only [rd, if_neg h33]
      rfl
/-! sentences that were read -/
theorem pf_sen : ∀ (f : Nat) (w : List Nat) {s : Sen} {u : List Nat}, pf f w = .ok s u → s.ok 5 ∧ s.depth + u.length < w.length
  | f + 1, w, s, u, h => by
    have hl := pb_len w
    unfold pf at h
    cases hw : pb w with
    | nil => rw [hw] at h; cases h
    | cons c v =>
      rw [hw] at h hl
      simp only [List.length_cons] at hl
      simp only at h
      split at h
      · rename_i c1
        cases h
        refine ⟨?_, ?_⟩
        · show c - 97 < 5
          omega
        · simp only [Sen.depth]
          omega
      · split at h
        · cases hp : pf f v with
          | no y => rw [hp] at h; cases h
          | ok s' y =>
            rw [hp] at h
            cases h
            obtain ⟨i1, i2⟩ := pf_sen f v hp
            exact ⟨i1, by simp only [Sen.depth]; omega⟩
        · split at h
          · cases hp : pf f v with
            | no y => rw [hp] at h; cases h
            | ok s' y =>
              rw [hp] at h
              simp only at h
              obtain ⟨i1, i2⟩ := pf_sen f v hp
              have hl2 := pb_len y
              cases hy : pb y with
              | nil => rw [hy] at h; cases h
              | cons d x =>
                rw [hy] at h hl2
                simp only [List.length_cons] at hl2
                simp only at h
                cases hj : jtOf d with
                | none => rw [hj] at h; cases h
                | some j =>
                  rw [hj] at h
                  simp only at h
                  cases hp2 : pf f x with
                  | no z => rw [hp2] at h; cases h
                  | ok r z =>
                    rw [hp2] at h
                    simp only at h
                    obtain ⟨j1, j2⟩ := pf_sen f x hp2
                    have hl3 := pb_len z
                    cases hz : pb z with
                    | nil => rw [hz] at h; cases h
                    | cons e' q =>
                      rw [hz] at h hl3
                      simp only [List.length_cons] at hl3
                      simp only at h
                      split at h
                      · cases h
                        refine ⟨⟨i1, j1⟩, ?_⟩
                        simp only [Sen.depth]
                        omega
                      · cases h
          · cases h
theorem rdF_sen {w : List Nat} {s : Sen} {u : List Nat} (h : rdF w = .ok s u) : s.ok 5 ∧ s.depth < w.length := by
  unfold rdF at h
  cases hp : pf (w.length + 1) w with
  | no y => rw [hp] at h; cases h
  | ok s' y =>
    rw [hp] at h
    simp only at h
    obtain ⟨i1, i2⟩ := pf_sen _ w hp
    cases hy : pb y with
    | nil => rw [hy] at h; cases h; exact ⟨i1, by omega⟩
    | cons c v => rw [hy] at h; cases h
end Ht

set_option linter.all false
set_option maxRecDepth 100000
set_option maxHeartbeats 400000
/-! reading any text: the program -/
namespace Ht
open PySem
theorem pb_suf (w : List Nat) : pb w <:+ w := by
  obtain ⟨n, e⟩ := pb_app w
  exact ⟨_, e.symm⟩
/-- the place of what is left -/
def ps (t w : List Nat) : Nat := t.length - w.length
theorem suf_get {t v : List Nat} {c : Nat} (h : (c :: v) <:+ t) : t[ps t (c :: v)]? = some c ∧ v <:+ t ∧ ps t v = ps t (c :: v) + 1 ∧ ps t (c :: v) < t.length := by
  obtain ⟨u, rfl⟩ := h
  have e : ps (u ++ c :: v) (c :: v) = u.length := by simp [ps]
  refine ⟨?_, ⟨u ++ [c], by simp⟩, ?_, ?_⟩
  · rw [e, List.getElem?_append_right (Nat.le_refl _)]
    simp
  · rw [e]
    simp [ps]
    omega
  · rw [e]
    simp
theorem ps_nil (t : List Nat) : ps t [] = t.length := by simp [ps]
section
variable {T : Tab} {t : List Nat}
theorem ok_pastX (h : T.fn "past_blanks" = some fn_past_blanks) (f : Nat) (hl : t.length ≤ 1000) {w : List Nat} (hw : w <:+ t) (S : Store) : callF T (f + 1) "past_blanks" [.str t, .int (ps t w : Nat)] S = .ok (.sh (.int (ps t (pb w) : Nat))) S := by
  obtain ⟨n, e⟩ := pb_app w
  obtain ⟨u, rfl⟩ := hw
  have l1 : w.length = n + (pb w).length := by
    have := congrArg List.length e
    simpa using this
  have p1 : ps (u ++ w) w = u.length := by simp [ps]
  have p2 : ps (u ++ w) (pb w) = u.length + n := by simp [ps]; omega
  rw [p1, p2]
  refine ok_past h f hl (i := u.length) (n := n) ?_ (by simp; omega) ?_ S
  · intro k c hk
    rw [List.getElem?_append_right (by omega), Nat.add_sub_cancel_left, e]
    have hkl := (List.getElem?_eq_some_iff.mp hk).1
    rw [List.getElem?_append_left hkl]
    exact hk
  · rw [List.getElem?_append_right (by omega), Nat.add_sub_cancel_left, e, List.getElem?_append_right (by simp)]
    simp only [List.length_replicate, Nat.sub_self]
    cases hp : pb w with
    | nil => simp
    | cons c v =>
      have := pb_ne w hp
      simpa using this
theorem ok_signX (h : T.fn "sign_at" = some fn_sign_at) (x : T.xc "NoSentence" = some 2) (f : Nat) (hl : t.length ≤ 1000) (S : Store) : callF T (f + 1) "sign_at" [.str t, .int (t.length : Nat)] S = .exc ⟨"NoSentence", some (t.length : Nat)⟩ S := by
  have ln := len_str hl
  rw [call_eq h rfl]
  simp [fn_sign_at, evSs, evS, evT, ev, gt, d_sh, ln, c_eqI, isB, Fl.res, cx_xc, x]
structure PReadX (T : Tab) : Prop extends PRead T where
  x_NoSentence : T.xc "NoSentence" = some 2
def prRes (t : List Nat) (S : Store) : Pr → Res
  | .ok s u => .ok (.sh (.tup [s.d, .int (ps t u : Nat)])) S
  | .no u => .exc ⟨"NoSentence", some (ps t u : Nat)⟩ S
theorem jt_sg {d : Nat} {j : Jt} (h : jtOf d = some j) : d = j.sg := by
  unfold jtOf at h
  repeat' split at h
  all_goals first | (cases h; done) | skip
  all_goals (cases h; assumption)
theorem dlk_no {d : Nat} (h : jtOf d = none) : dlk dJts [d] = none := by
  unfold jtOf at h
  repeat' split at h
  all_goals first | (cases h; done) | skip
  rename_i h1 h2 h3 h4
  simp [dlk, dJts, h1, h2, h3, h4]
theorem let_in (c : Nat) : decide (c ∈ [97, 98, 99, 100, 101]) = decide (97 ≤ c ∧ c ≤ 101) := by
  apply decide_eq_decide.mpr
  simp
  omega
theorem pf_suf : ∀ (f : Nat) (w : List Nat) {s : Sen} {u : List Nat}, pf f w = .ok s u → u <:+ w
  | f + 1, w, s, u, h => by
    have hp := pb_suf w
    unfold pf at h
    cases hw : pb w with
    | nil => rw [hw] at h; cases h
    | cons c v =>
      rw [hw] at h hp
      have hv : v <:+ w := (List.suffix_cons c v).trans hp
      simp only at h
      split at h
      · cases h
        exact hv
      · split at h
        · cases hq : pf f v with
          | no y => rw [hq] at h; cases h
          | ok s' y =>
            rw [hq] at h
            cases h
            exact (pf_suf f v hq).trans hv
        · split at h
          · cases hq : pf f v with
            | no y => rw [hq] at h; cases h
            | ok s' y =>
              rw [hq] at h
              simp only at h
              have i1 := (pf_suf f v hq).trans hv
              have hy' := pb_suf y
              cases hy : pb y with
              | nil => rw [hy] at h; cases h
              | cons d x =>
                rw [hy] at h hy'
                simp only at h
                cases hj : jtOf d with
                | none => rw [hj] at h; cases h
                | some j =>
                  rw [hj] at h
                  simp only at h
                  have i2 := ((List.suffix_cons d x).trans hy').trans i1
                  cases hq2 : pf f x with
                  | no z => rw [hq2] at h; cases h
                  | ok r z =>
                    rw [hq2] at h
                    simp only at h
                    have i3 := (pf_suf f x hq2).trans i2
                    have hz' := pb_suf z
                    cases hz : pb z with
                    | nil => rw [hz] at h; cases h
                    | cons e' q =>
                      rw [hz] at h hz'
                      simp only at h
                      split at h
                      · cases h
                        exact ((List.suffix_cons _ _).trans hz').trans i3
                      · cases h
          · cases h
theorem ok_partX (P : PReadX T) (hl : t.length ≤ 1000) (S : Store) : ∀ (f : Nat) (w : List Nat), w.length < f → w <:+ t → callF T (f + 1) "part_from" [.str t, .int (ps t w : Nat)] S = prRes t S (pf f w)
  | f + 1, w, hf, hw => by
    have e1 := ok_pastX P.past_blanks f hl hw S
    have hl1 := pb_len w
    have hs1 := (pb_suf w).trans hw
    unfold pf
    rw [call_eq P.part_from rfl]
    simp only [fn_part_from, List.map_cons, List.map_nil, List.cons_append, List.nil_append, List.replicate, Nat.reduceSub]
    generalize ps t w = i0 at *
    rw [evSs_nx (ρ' := [.v (.str t), .v (.int i0), .v (.int (ps t (pb w))), .no, .no, .no, .no, .no]) (S' := S) (by simp [evS, ev, evs, gt, st, d_sh, e1])]
    cases hpw : pb w with
    | nil =>
      rw [ps_nil]
      have e2 := ok_signX P.sign_at P.x_NoSentence f hl S
      rw [evSs_ex (x := ⟨"NoSentence", some (t.length : Nat)⟩) (ρ' := [.v (.str t), .v (.int i0), .v (.int (t.length : Nat)), .no, .no, .no, .no, .no]) (S' := S) (by simp [evS, ev, evs, gt, st, d_sh, e2])]
      simp [Fl.res, prRes, ps_nil]
    | cons c v =>
      rw [hpw] at hl1 hs1
      have h32 := pb_ne w hpw
      simp only [List.length_cons] at hl1
      obtain ⟨g1, g2, g3, g4⟩ := suf_get hs1
      have e2 := ok_sign P.sign_at f hl g1 S
      have il := in_letters (c := c)
      rw [let_in] at il
      have gi : binD .Add (.int (ps t (c :: v) : Nat)) (.int 1) = some (.sh (.int (ps t v : Nat))) := by rw [g3]; rfl
      generalize hq0 : ps t (c :: v) = p at *
      rw [evSs_nx (ρ' := [.v (.str t), .v (.int i0), .v (.int p), .v (.str [c]), .no, .no, .no, .no]) (S' := S) (by simp [evS, ev, evs, gt, st, d_sh, e2])]
      simp only
      by_cases c1 : 97 ≤ c ∧ c ≤ 101
      · rw [if_pos c1]
        have e3 : indexD dLetters (.str [c]) = some (.int ((c - 97 : Nat) : Int)) := by
          have := index_letter (k := c - 97) (by omega)
          rw [show 97 + (c - 97) = c by omega] at this
          exact this
        rw [decide_eq_true c1] at il
        rw [evSs_rt (v := .sh (.tup [(Sen.lt (c - 97)).d, .int (ps t v : Nat)])) (ρ' := [.v (.str t), .v (.int i0), .v (.int p), .v (.str [c]), .no, .no, .no, .no]) (S' := S) (by
          simp [evS, evSs, evT, ev, evs, gt, st, d_sh, cx_gl, P.g_LETTERS, il, e3, gi, s_let, isB, big, Sen.d])]
        rfl
      · rw [if_neg c1]
        rw [decide_eq_false c1] at il
        rw [evSs_nx (ρ' := [.v (.str t), .v (.int i0), .v (.int p), .v (.str [c]), .no, .no, .no, .no]) (S' := S) (by simp [evS, evSs, evT, ev, evs, gt, st, d_sh, cx_gl, P.g_LETTERS, il, isB])]
        by_cases c2 : c = 45
        · rw [if_pos c2]
          have ih := ok_partX P hl S f v (by omega) g2
          cases hp : pf f v with
          | no u =>
            rw [hp] at ih
            simp only [prRes] at ih
            rw [evSs_ex (x := ⟨"NoSentence", some (ps t u : Nat)⟩) (ρ' := [.v (.str t), .v (.int i0), .v (.int p), .v (.str [c]), .no, .no, .no, .no]) (S' := S) (by
              simp [evS, evSs, evT, ev, evs, gt, st, d_sh, c_eqS, s_min, c2, gi, ih, isB])]
            simp [Fl.res, prRes]
          | ok s u =>
            rw [hp] at ih
            simp only [prRes] at ih
            generalize ps t v = p1 at *
            rw [evSs_rt (v := .sh (.tup [(Sen.nt s).d, .int (ps t u : Nat)])) (ρ' := [.v (.str t), .v (.int i0), .v (.int p), .v (.str [c]), .v s.d, .v (.int (ps t u : Nat)), .no, .no]) (S' := S) (by
              simp [evS, evSs, evT, ev, evs, gt, st, d_sh, c_eqS, s_min, c2, gi, ih, asgT, setT, s_not, isB, big, Sen.d])]
            rfl
        · rw [if_neg c2]
          rw [evSs_nx (ρ' := [.v (.str t), .v (.int i0), .v (.int p), .v (.str [c]), .no, .no, .no, .no]) (S' := S) (by simp [evS, evSs, evT, ev, evs, gt, st, d_sh, c_eqS, s_min, c2, isB])]
          by_cases c3 : c = 40
          · rw [if_pos c3]
            rw [evSs_nx (ρ' := [.v (.str t), .v (.int i0), .v (.int p), .v (.str [c]), .no, .no, .no, .no]) (S' := S) (by simp [evS, evSs, evT, ev, evs, gt, st, d_sh, c_neS, s_opn, c3, isB])]
            have ih := ok_partX P hl S f v (by omega) g2
            cases hp : pf f v with
            | no u =>
              rw [hp] at ih
              simp only [prRes] at ih
              rw [evSs_ex (x := ⟨"NoSentence", some (ps t u : Nat)⟩) (ρ' := [.v (.str t), .v (.int i0), .v (.int p), .v (.str [c]), .no, .no, .no, .no]) (S' := S) (by
                simp [evS, ev, evs, gt, st, d_sh, gi, ih])]
              simp [Fl.res, prRes]
            | ok s u =>
              rw [hp] at ih
              simp only [prRes] at ih
              have hu := (pf_suf f v hp).trans g2
              have hlu := (pf_sen f v hp).2
              have e4 := ok_pastX P.past_blanks f hl hu S
              have hl2 := pb_len u
              have hs2 := (pb_suf u).trans hu
              generalize ps t v = p1 at *
              generalize ps t u = p2 at *
              rw [evSs_nx (ρ' := [.v (.str t), .v (.int i0), .v (.int p), .v (.str [c]), .no, .v (.int p2), .v s.d, .no]) (S' := S) (by simp [evS, ev, evs, gt, st, d_sh, gi, ih, asgT, setT])]
              rw [evSs_nx (ρ' := [.v (.str t), .v (.int i0), .v (.int (ps t (pb u))), .v (.str [c]), .no, .v (.int p2), .v s.d, .no]) (S' := S) (by simp [evS, ev, evs, gt, st, d_sh, e4])]
              simp only
              cases hpu : pb u with
              | nil =>
                rw [ps_nil]
                have e2 := ok_signX P.sign_at P.x_NoSentence f hl S
                rw [evSs_ex (x := ⟨"NoSentence", some (t.length : Nat)⟩) (ρ' := [.v (.str t), .v (.int i0), .v (.int (t.length : Nat)), .v (.str [c]), .no, .v (.int p2), .v s.d, .no]) (S' := S) (by simp [evS, ev, evs, gt, st, d_sh, e2])]
                simp [Fl.res, prRes, ps_nil]
              | cons d x =>
                rw [hpu] at hl2 hs2
                simp only [List.length_cons] at hl2
                obtain ⟨k1, k2, k3, k4⟩ := suf_get hs2
                have e5 := ok_sign P.sign_at f hl k1 S
                have gi2 : binD .Add (.int (ps t (d :: x) : Nat)) (.int 1) = some (.sh (.int (ps t x : Nat))) := by rw [k3]; rfl
                simp only
                have q3 : ps t (d :: x) = ps t (d :: x) := rfl
                generalize hq3 : ps t (d :: x) = p3 at *
                rw [evSs_nx (ρ' := [.v (.str t), .v (.int i0), .v (.int p3), .v (.str [d]), .no, .v (.int p2), .v s.d, .no]) (S' := S) (by simp [evS, ev, evs, gt, st, d_sh, e5])]
                cases hj : jtOf d with
                | none =>
                  have dj := dlk_no hj
                  rw [evSs_ex (x := ⟨"NoSentence", some (p3 : Nat)⟩) (ρ' := [.v (.str t), .v (.int i0), .v (.int p3), .v (.str [d]), .no, .v (.int p2), .v s.d, .no]) (S' := S) (by simp [evS, evSs, evT, ev, evs, gt, st, d_sh, cx_dc, P.d_JOINTS, dj, isB, cx_xc, P.x_NoSentence])]
                  simp [Fl.res, prRes, hq3]
                | some j =>
                  have dj : dlk dJts [d] = some (.str j.s) := by
                    rw [jt_sg hj]
                    exact dlk_joint j
                  rw [evSs_nx (ρ' := [.v (.str t), .v (.int i0), .v (.int p3), .v (.str [d]), .no, .v (.int p2), .v s.d, .no]) (S' := S) (by simp [evS, evSs, evT, ev, evs, gt, st, d_sh, cx_dc, P.d_JOINTS, dj, isB])]
                  simp only
                  have ih2 := ok_partX P hl S f x (by omega) k2
                  cases hp2 : pf f x with
                  | no y =>
                    rw [hp2] at ih2
                    simp only [prRes] at ih2
                    rw [evSs_ex (x := ⟨"NoSentence", some (ps t y : Nat)⟩) (ρ' := [.v (.str t), .v (.int i0), .v (.int p3), .v (.str [d]), .no, .v (.int p2), .v s.d, .no]) (S' := S) (by
                      simp [evS, ev, evs, gt, st, d_sh, gi2, ih2])]
                    simp [Fl.res, prRes]
                  | ok r y =>
                    rw [hp2] at ih2
                    simp only [prRes] at ih2
                    have hy := (pf_suf f x hp2).trans k2
                    have e6 := ok_pastX P.past_blanks f hl hy S
                    have hs3 := (pb_suf y).trans hy
                    generalize ps t x = p4 at *
                    generalize ps t y = p5 at *
                    rw [evSs_nx (ρ' := [.v (.str t), .v (.int i0), .v (.int p3), .v (.str [d]), .no, .v (.int p5), .v s.d, .v r.d]) (S' := S) (by simp [evS, ev, evs, gt, st, d_sh, gi2, ih2, asgT, setT])]
                    rw [evSs_nx (ρ' := [.v (.str t), .v (.int i0), .v (.int (ps t (pb y))), .v (.str [d]), .no, .v (.int p5), .v s.d, .v r.d]) (S' := S) (by simp [evS, ev, evs, gt, st, d_sh, e6])]
                    simp only
                    cases hpy : pb y with
                    | nil =>
                      rw [ps_nil]
                      have e2 := ok_signX P.sign_at P.x_NoSentence f hl S
                      rw [evSs_ex (x := ⟨"NoSentence", some (t.length : Nat)⟩) (ρ' := [.v (.str t), .v (.int i0), .v (.int (t.length : Nat)), .v (.str [d]), .no, .v (.int p5), .v s.d, .v r.d]) (S' := S) (by simp [evS, evT, ev, evs, gt, st, d_sh, e2])]
                      simp [Fl.res, prRes, ps_nil]
                    | cons e' z =>
                      rw [hpy] at hs3
                      obtain ⟨m1, m2, m3, m4⟩ := suf_get hs3
                      have e8 := ok_sign P.sign_at f hl m1 S
                      have gi3 : binD .Add (.int (ps t (e' :: z) : Nat)) (.int 1) = some (.sh (.int (ps t z : Nat))) := by rw [m3]; rfl
                      simp only
                      generalize hq4 : ps t (e' :: z) = p6 at *
                      by_cases c4 : e' = 41
                      · rw [if_pos c4]
                        rw [evSs_nx (ρ' := [.v (.str t), .v (.int i0), .v (.int p6), .v (.str [d]), .no, .v (.int p5), .v s.d, .v r.d]) (S' := S) (by simp [evS, evSs, evT, ev, evs, gt, st, d_sh, e8, c_neS, s_cls, isB, c4])]
                        generalize hq7 : ps t z = p7 at *
                        simp [evSs, evS, ev, evs, gt, st, d_sh, cx_dc, P.d_JOINTS, dj, gi3, big, Sen.d, Fl.res, prRes, hq7]
                      · rw [if_neg c4]
                        rw [evSs_ex (x := ⟨"NoSentence", some (p6 : Nat)⟩) (ρ' := [.v (.str t), .v (.int i0), .v (.int p6), .v (.str [d]), .no, .v (.int p5), .v s.d, .v r.d]) (S' := S) (by simp [evS, evSs, evT, ev, evs, gt, st, d_sh, e8, c_neS, s_cls, isB, c4, cx_xc, P.x_NoSentence])]
                        simp [Fl.res, prRes, hq4]
          · rw [if_neg c3]
            rw [evSs_ex (x := ⟨"NoSentence", some (p : Nat)⟩) (ρ' := [.v (.str t), .v (.int i0), .v (.int p), .v (.str [c]), .no, .no, .no, .no]) (S' := S) (by simp [evS, evSs, evT, ev, evs, gt, st, d_sh, c_neS, s_opn, c3, isB, cx_xc, P.x_NoSentence])]
            simp only [Fl.res, prRes, hq0]
def rdRes (t : List Nat) (S : Store) : Pr → Res
  | .ok s _ => .ok (.sh s.d) S
  | .no u => .exc ⟨"NoSentence", some (ps t u : Nat)⟩ S
theorem pf_fuel : ∀ (f g : Nat) (w : List Nat), w.length < f → w.length < g → pf f w = pf g w
  | f + 1, g + 1, w, hf, hg => by
    have hl := pb_len w
    unfold pf
    cases hw : pb w with
    | nil => rfl
    | cons c v =>
      rw [hw] at hl
      simp only [List.length_cons] at hl
      simp only
      rw [pf_fuel f g v (by omega) (by omega)]
      cases hp : pf g v with
      | no u => rfl
      | ok s u =>
        have hlu := (pf_sen g v hp).2
        have hl2 := pb_len u
        simp only
        cases hu : pb u with
        | nil => rfl
        | cons d x =>
          rw [hu] at hl2
          simp only [List.length_cons] at hl2
          simp only
          rw [pf_fuel f g x (by omega) (by omega)]
theorem ok_readX (P : PReadX T) (hl : t.length ≤ 1000) {f : Nat} (hf : t.length < f) (S : Store) : callF T (f + 2) "read" [.str t] S = rdRes t S (rdF t) := by
  have e1 := ok_partX P hl S f t hf List.suffix_rfl
  rw [pf_fuel f (t.length + 1) t hf (by omega)] at e1
  have p0 : ps t t = 0 := by simp [ps]
  rw [p0] at e1
  rw [call_eq P.read rfl]
  unfold rdF
  simp only [fn_read, List.map_cons, List.map_nil, List.cons_append, List.nil_append, List.replicate, Nat.reduceSub]
  cases hp : pf (t.length + 1) t with
  | no u =>
    rw [hp] at e1
    have e1' : callF T (f + 1) "part_from" [.str t, .int 0] S = .exc ⟨"NoSentence", some (ps t u : Nat)⟩ S := e1
    rw [evSs_ex (x := ⟨"NoSentence", some (ps t u : Nat)⟩) (ρ' := [.v (.str t), .no, .no, .no]) (S' := S) (by simp [evS, ev, evs, gt, st, d_sh, e1'])]
    simp [Fl.res, rdRes]
  | ok s u =>
    rw [hp] at e1
    have e1' : callF T (f + 1) "part_from" [.str t, .int 0] S = .ok (.sh (.tup [s.d, .int (ps t u : Nat)])) S := e1
    have hu := pf_suf _ t hp
    have e2 := ok_pastX P.past_blanks f hl hu S
    have hs := (pb_suf u).trans hu
    have ln := len_str hl
    generalize ps t u = p1 at *
    rw [evSs_nx (ρ' := [.v (.str t), .v s.d, .v (.int p1), .no]) (S' := S) (by simp [evS, ev, evs, gt, st, d_sh, e1', asgT, setT])]
    rw [evSs_nx (ρ' := [.v (.str t), .v s.d, .v (.int p1), .v (.int (ps t (pb u)))]) (S' := S) (by simp [evS, ev, evs, gt, st, d_sh, e2])]
    simp only
    cases hpu : pb u with
    | nil =>
      rw [ps_nil]
      have c : ¬ ((t.length : Int) < t.length) := by omega
      rw [evSs_nx (ρ' := [.v (.str t), .v s.d, .v (.int p1), .v (.int t.length)]) (S' := S) (by
        simp only [evS, evT, evSs, ev, gt, Out.bind_ok, Out.bindB_ok, Out.chk_ok, d_sh, ln, Out.of_some, c_lt, c, decide_false, isB, Bool.false_eq_true, if_false])]
      simp [evSs, evS, gt, Fl.res, rdRes]
    | cons c v =>
      rw [hpu] at hs
      obtain ⟨g1, g2, g3, g4⟩ := suf_get hs
      simp only
      generalize hq : ps t (c :: v) = p2 at *
      have cc : (p2 : Int) < t.length := by omega
      rw [evSs_ex (x := ⟨"NoSentence", some (p2 : Nat)⟩) (ρ' := [.v (.str t), .v s.d, .v (.int p1), .v (.int p2)]) (S' := S) (by
        simp only [evS, evT, evSs, ev, gt, Out.bind_ok, Out.bindB_ok, Out.chk_ok, d_sh, ln, Out.of_some, c_lt, cc, decide_true, isB, if_true, Out.bind_exc, cx_xc, P.x_NoSentence])]
      simp [Fl.res, rdRes, hq]
end
end Ht

set_option linter.all false
set_option maxRecDepth 100000
set_option maxHeartbeats 400000
/-! reading any text: the law's reader, and both together -/
namespace Ht
open PySem
def b1__law_reading : List CS := [
      .exp (.pop 1),
      .asg false 2 (.tup [(.str "not"), (.slot 2)])]
def b2__law_reading : List CS := [
    .asg false 4 (.idx (.slot 0) (.slot 3)),
    .ite (.e (.cmp .Eq (.slot 4) (.str " "))) [
      .cnt] [],
    .ite (.and (.e (.cmp .Is (.slot 2) .non)) (.e (.cmp .In (.slot 4) (.str "abcde")))) [
      .asg false 2 (.tup [(.str "let"), (.index (.str "abcde") (.slot 4))])] [
      .ite (.and (.e (.cmp .Is (.slot 2) .non)) (.e (.cmp .In (.slot 4) (.str "-(")))) [
        .app 1 (.tup [(.slot 4), .non])] [
        .ite (.or (.e (.cmp .Is (.slot 2) .non)) (.e (.guard [1] (.cmp .Eq (.slot 1) (.lst []))))) [
          .ret (.tup [.non, (.slot 3)])] [
          .ite (.and (.e (.cmp .Eq (.idx (.guard [1] (.idx (.slot 1) (.neg (.int 1)))) (.int 0)) (.str "("))) (.e (.cmp .In (.slot 4) (.str "&|>=")))) [
            .seti 1 (.neg (.int 1)) (.tup [(.idx (.lst [(.str "and"), (.str "or"), (.str "if"), (.str "same")]) (.index (.str "&|>=") (.slot 4))), (.slot 2)]),
            .asg false 2 .non] [
            .ite (.and (.e (.cmp .NotEq (.idx (.guard [1] (.idx (.slot 1) (.neg (.int 1)))) (.int 0)) (.str "("))) (.e (.cmp .Eq (.slot 4) (.str ")")))) [
              .asg false 5 (.pop 1),
              .asg false 2 (.tup [(.idx (.slot 5) (.int 0)), (.idx (.slot 5) (.int 1)), (.slot 2)])] [
              .ret (.tup [.non, (.slot 3)])]]]]],
    .whl (.and (.e (.cmp .IsNot (.slot 2) .non)) (.and (.e (.guard [1] (.cmp .NotEq (.slot 1) (.lst [])))) (.e (.cmp .Eq (.idx (.guard [1] (.idx (.slot 1) (.neg (.int 1)))) (.int 0)) (.str "-"))))) b1__law_reading]
def fn__law_reading : Fn := ⟨1, 6, [
  .asg true 1 (.lst []),
  .asg false 2 .non,
  .for1 3 (.rng1 (.len (.slot 0))) b2__law_reading,
  .ite (.or (.e (.cmp .Is (.slot 2) .non)) (.e (.guard [1] (.cmp .NotEq (.slot 1) (.lst []))))) [
    .ret (.tup [.non, (.len (.slot 0))])] [],
  .ret (.tup [(.slot 2), (.neg (.int 1))])]⟩
def b1__law_told : List CS := [
    .ret (.tup [(.call "read" [(.slot 0)]), (.neg (.int 1))])]
def fn__law_told : Fn := ⟨1, 2, [
  .tri b1__law_told (.retAt "NoSentence" 1 .nil)]⟩
def b1__law_refused_by_any : List CS := [
    .exp (.call "read" [(.slot 0)])]
def b2__law_refused_by_any : List CS := [
    .ret (.band (.xis "ValueError") (.band (.nt (.xis "NoBook")) (.nt (.xis "StrangeLetter"))))]
def fn__law_refused_by_any : Fn := ⟨1, 2, [
  .tri b1__law_refused_by_any (.cons "TalkError" (some 1) b2__law_refused_by_any .nil),
  .ret (.bl false)]⟩
def fn__law_right : Fn := ⟨1, 3, [
  .asg false 1 (.call "_law_reading" [(.slot 0)]),
  .asg false 2 (.call "_law_told" [(.slot 0)]),
  .ite (.e (.cmp .Is (.idx (.slot 1) (.int 0)) .non)) [
    .ret (.band (.cmp .Is (.idx (.slot 2) (.int 0)) .non) (.band (.call "_law_whole" [(.idx (.slot 2) (.int 1))]) (.band (.cmp .Eq (.idx (.slot 2) (.int 1)) (.idx (.slot 1) (.int 1))) (.call "_law_refused_by_any" [(.slot 0)]))))] [],
  .ret (.band (.cmp .Eq (.idx (.slot 2) (.int 1)) (.neg (.int 1))) (.call "_law_tree_is" [(.idx (.slot 2) (.int 0)), (.idx (.slot 1) (.int 0))]))]⟩
def Fr.d : Fr → D
  | .neg => .tup [.str [45], .non]
  | .opn => .tup [.str [40], .non]
  | .jn j s => .tup [.str j.s, s.d]
def pileD (p : List Fr) : List D := (p.map Fr.d).reverse
def doneD : Option Sen → D
  | none => .non
  | some s => s.d
def Fr.bd (n : Nat) : Fr → Prop
  | .jn _ s => s.depth < n
  | _ => True
theorem fr_rfree : ∀ a : Fr, a.d.rfree = true
  | .neg => rfl
  | .opn => rfl
  | .jn j s => by simp [Fr.d, D.rfree, D.rfrees, rfree_str s]
theorem fr_lfree : ∀ a : Fr, a.d.lfree = true
  | .neg => rfl
  | .opn => rfl
  | .jn j s => by simp [Fr.d, D.lfree, D.lfrees, lfree_sen s]
theorem fr_flat : ∀ a : Fr, a.bd 60 → a.d.flatTo 61 = true
  | .neg, _ => by decide
  | .opn, _ => by decide
  | .jn j s, h => by
    have h1 := flat_sen s 60 h
    have h2 := j.ascii
    simp [Fr.d, D.flatTo, D.flatsTo, h1]
    simpa using h2
theorem rfrees_all : ∀ l : List D, (∀ d ∈ l, d.rfree = true) → D.rfrees l = true
  | [], _ => rfl
  | d :: l, h => by
    simp only [D.rfrees, Bool.and_eq_true]
    exact ⟨h d (by simp), rfrees_all l fun e he => h e (by simp [he])⟩
theorem flats_all (n : Nat) : ∀ l : List D, (∀ d ∈ l, d.flatTo n = true) → D.flatsTo l n = true
  | [], _ => rfl
  | d :: l, h => by
    simp only [D.flatsTo, Bool.and_eq_true]
    exact ⟨h d (by simp), flats_all n l fun e he => h e (by simp [he])⟩
theorem pile_rfree (p : List Fr) : D.rfrees (pileD p) = true := rfrees_all _ fun d hd => by
  simp only [pileD, List.mem_reverse, List.mem_map] at hd
  obtain ⟨a, _, rfl⟩ := hd
  exact fr_rfree a
theorem pile_flat {p : List Fr} (h : ∀ a ∈ p, a.bd 60) : D.flatsTo (pileD p) 61 = true := flats_all _ _ fun d hd => by
  simp only [pileD, List.mem_reverse, List.mem_map] at hd
  obtain ⟨a, ha, rfl⟩ := hd
  exact fr_flat a (h a ha)
theorem done_rfree : ∀ d : Option Sen, (doneD d).rfree = true
  | none => rfl
  | some s => rfree_str s
theorem pile_top (a : Fr) (p : List Fr) : idxD (.lst (pileD (a :: p))) (.int (-1)) = some a.d := by
  have e : pileD (a :: p) = pileD p ++ [a.d] := by simp [pileD]
  rw [e]
  have c : ¬ ((0 : Int) ≤ -1) := by decide
  have c2 : -(((pileD p ++ [a.d]).length : Nat) : Int) ≤ -1 := by simp; omega
  have e1 : (-1 + (((pileD p ++ [a.d]).length : Nat) : Int)).toNat = (pileD p).length := by simp; omega
  simp only [idxD, ixN, if_neg c, if_pos c2, Option.bind_some, e1]
  simp
theorem eqvs_nilP (l : List D) : D.eqvs l [] = l.isEmpty := by cases l <;> rfl
def rEnv (t : List Nat) (p : List Fr) (d : Option Sen) (x3 x4 x5 : Sl) : Env := [.v (.str t), .own (pileD p), .v (doneD d), x3, x4, x5]
section
variable {Γ : Ctx} {t : List Nat} {p : List Fr} {d : Option Sen} {x3 x4 x5 : Sl} {S : Store}
theorem g_eq (h : ∀ a ∈ p, a.bd 60) : ev Γ (.guard [1] (.cmp .Eq (.slot 1) (.lst []))) (rEnv t p d x3 x4 x5) S = .ok (.sh (.bl p.isEmpty)) (rEnv t p d x3 x4 x5) S := by
  have h1 := pile_rfree p
  have h2 := pile_flat h
  have e : (pileD p).isEmpty = p.isEmpty := by cases p <;> simp [pileD]
  simp [ev, evs, rEnv, shareAt, Sl.share, Sl.pure, st, gt, d_sh, d_fr, D.rfree, h1, cmpD, D.flatTo, h2, flatsNil, D.eqv, eqvs_nilP, D.lfree, e, big]
theorem g_ne (h : ∀ a ∈ p, a.bd 60) : ev Γ (.guard [1] (.cmp .NotEq (.slot 1) (.lst []))) (rEnv t p d x3 x4 x5) S = .ok (.sh (.bl (!p.isEmpty))) (rEnv t p d x3 x4 x5) S := by
  have h1 := pile_rfree p
  have h2 := pile_flat h
  have e : (pileD p).isEmpty = p.isEmpty := by cases p <;> simp [pileD]
  simp [ev, evs, rEnv, shareAt, Sl.share, Sl.pure, st, gt, d_sh, d_fr, D.rfree, h1, cmpD, D.flatTo, h2, flatsNil, D.eqv, eqvs_nilP, D.lfree, e, big]
theorem g_top (a : Fr) : ev Γ (.guard [1] (.idx (.slot 1) (.neg (.int 1)))) (rEnv t (a :: p) d x3 x4 x5) S = .ok (.sh a.d) (rEnv t (a :: p) d x3 x4 x5) S := by
  have h1 := pile_rfree (a :: p)
  have h2 := pile_top a p
  have h3 := fr_lfree a
  simp [ev, rEnv, shareAt, Sl.share, Sl.pure, st, gt, d_sh, D.rfree, h1, h2, h3]
theorem pile_pop (a : Fr) : ev Γ (.pop 1) (rEnv t (a :: p) d x3 x4 x5) S = .ok (.sh a.d) (rEnv t p d x3 x4 x5) S := by
  simp [ev, rEnv, gt, st, pileD]
theorem is_done : cmpD .Is (doneD d) .non = some d.isNone := by
  cases d with
  | none => rfl
  | some s => cases s <;> rfl
theorem isnot_done : cmpD .IsNot (doneD d) .non = some d.isSome := by
  cases d with
  | none => rfl
  | some s => cases s <;> rfl
theorem s_mo : (Str.ofString "-(").cps.toList = [45, 40] := by decide +kernel
theorem in_one {c : Nat} {l : List Nat} : cmpD .In (.str [c]) (.str l) = some (decide (c ∈ l)) := rfl
theorem jt_opn (j : Jt) : ¬ j.s = [40] := by cases j <;> decide
theorem jt_min (j : Jt) : ¬ j.s = [45] := by cases j <;> decide
/-- how many -/
def mx : List Fr → Nat
  | [] => 0
  | .jn _ s :: p => max (s.depth + 1) (mx p)
  | _ :: p => mx p
def dd : Option Sen → Nat
  | none => 0
  | some s => s.depth + 1
theorem mx_bd {n : Nat} : ∀ {p : List Fr}, mx p ≤ n → ∀ a ∈ p, a.bd n
  | b :: p, h, a, ha => by
    rcases List.mem_cons.mp ha with rfl | ha
    · cases a with
      | jn j s =>
        simp only [mx] at h
        show s.depth < n
        omega
      | neg => trivial
      | opn => trivial
    · refine mx_bd (p := p) ?_ a ha
      cases b <;> simp only [mx] at h <;> omega
theorem col_facts : ∀ (p : List Fr) (s : Sen), (col p s).1.length + (col p s).2.depth = p.length + s.depth ∧ mx (col p s).1 = mx p ∧ (col p s).1.length ≤ p.length
  | [], s => ⟨rfl, rfl, Nat.le_refl _⟩
  | .neg :: p, s => by
    have := col_facts p (.nt s)
    simp only [col, mx, List.length_cons, Sen.depth] at *
    omega
  | .opn :: p, s => ⟨rfl, rfl, Nat.le_refl _⟩
  | .jn _ _ :: p, s => ⟨rfl, rfl, Nat.le_refl _⟩
def rTest : CT := .and (.e (.cmp .IsNot (.slot 2) .non)) (.and (.e (.guard [1] (.cmp .NotEq (.slot 1) (.lst [])))) (.e (.cmp .Eq (.idx (.guard [1] (.idx (.slot 1) (.neg (.int 1)))) (.int 0)) (.str "-"))))
theorem w_none (n : Nat) : whileS (evT Γ rTest) (evSs Γ b1__law_reading) (n + 1) (rEnv t p none x3 x4 x5) S = .ok .nx (rEnv t p none x3 x4 x5) S := by
  have h := isnot_done (d := none)
  have e : evT Γ rTest (rEnv t p none x3 x4 x5) S = .ok false (rEnv t p none x3 x4 x5) S := by
    simp [rTest, ev.eq_1, ev.eq_2, ev.eq_3, ev.eq_4, ev.eq_5, ev.eq_6, ev.eq_7, ev.eq_8, ev.eq_9, ev.eq_10, ev.eq_11, ev.eq_12, ev.eq_13, ev.eq_14, ev.eq_15, ev.eq_16, ev.eq_17, ev.eq_18, ev.eq_19, ev.eq_20, ev.eq_21, ev.eq_22, ev.eq_23, ev.eq_24, ev.eq_25, ev.eq_26, ev.eq_27, ev.eq_28, ev.eq_29, ev.eq_30, ev.eq_31, ev.eq_33, ev.eq_35, ev.eq_36, ev.eq_37, ev.eq_38, ev.eq_39, ev.eq_40, ev.eq_41, ev.eq_42, ev.eq_43, ev.eq_44, ev.eq_45, cx_cf, cx_cm, cx_gl, cx_dc, cx_ci, evSs, evS, evT, evs, evSrc, evo, gt, st, d_sh, d_fr, isB, isI, Out.bind_ok, Out.bindB_ok, Out.chk_ok, Out.of_some, rEnv, h]
  rw [whileS, e]
  rfl
theorem fr_0 (a : Fr) : ∃ y, a.d = .tup [.str (match a with | .neg => [45] | .opn => [40] | .jn j _ => j.s), y] := by
  cases a <;> exact ⟨_, rfl⟩
theorem w_col : ∀ (p : List Fr) (s : Sen) (n : Nat), p.length < n → mx p ≤ 60 → whileS (evT Γ rTest) (evSs Γ b1__law_reading) n (rEnv t p (some s) x3 x4 x5) S = .ok .nx (rEnv t (col p s).1 (some (col p s).2) x3 x4 x5) S
  | [], s, n + 1, _, _ => by
    have h := isnot_done (d := some s)
    have g := g_ne (Γ := Γ) (t := t) (p := []) (d := some s) (x3 := x3) (x4 := x4) (x5 := x5) (S := S) (by simp)
    have e : evT Γ rTest (rEnv t [] (some s) x3 x4 x5) S = .ok false (rEnv t [] (some s) x3 x4 x5) S := by
      unfold rEnv at g ⊢
      simp [rTest, ev.eq_1, ev.eq_2, ev.eq_3, ev.eq_4, ev.eq_5, ev.eq_6, ev.eq_7, ev.eq_8, ev.eq_9, ev.eq_10, ev.eq_11, ev.eq_12, ev.eq_13, ev.eq_14, ev.eq_15, ev.eq_16, ev.eq_17, ev.eq_18, ev.eq_19, ev.eq_20, ev.eq_21, ev.eq_22, ev.eq_23, ev.eq_24, ev.eq_25, ev.eq_26, ev.eq_27, ev.eq_28, ev.eq_29, ev.eq_30, ev.eq_31, ev.eq_33, ev.eq_35, ev.eq_36, ev.eq_37, ev.eq_38, ev.eq_39, ev.eq_40, ev.eq_41, ev.eq_42, ev.eq_43, ev.eq_44, ev.eq_45, cx_cf, cx_cm, cx_gl, cx_dc, cx_ci, evSs, evS, evT, evs, evSrc, evo, gt, st, d_sh, d_fr, isB, isI, Out.bind_ok, Out.bindB_ok, Out.chk_ok, Out.of_some, h, g]
    rw [whileS, e]
    rfl
  | a :: p, s, n + 1, hn, hm => by
    simp only [List.length_cons] at hn
    have h := isnot_done (d := some s)
    have g := g_ne (Γ := Γ) (t := t) (p := a :: p) (d := some s) (x3 := x3) (x4 := x4) (x5 := x5) (S := S) (mx_bd hm)
    have g2 := g_top (Γ := Γ) (t := t) (p := p) (d := some s) (x3 := x3) (x4 := x4) (x5 := x5) (S := S) a
    have key : ∀ (z : List Nat) (y : D), a.d = .tup [.str z, y] → evT Γ rTest (rEnv t (a :: p) (some s) x3 x4 x5) S = .ok (decide (z = [45])) (rEnv t (a :: p) (some s) x3 x4 x5) S := fun z y e => by
      rw [e] at g2
      unfold rEnv at g g2 ⊢
      simp [rTest, ev.eq_1, ev.eq_2, ev.eq_3, ev.eq_4, ev.eq_5, ev.eq_6, ev.eq_7, ev.eq_8, ev.eq_9, ev.eq_10, ev.eq_11, ev.eq_12, ev.eq_13, ev.eq_14, ev.eq_15, ev.eq_16, ev.eq_17, ev.eq_18, ev.eq_19, ev.eq_20, ev.eq_21, ev.eq_22, ev.eq_23, ev.eq_24, ev.eq_25, ev.eq_26, ev.eq_27, ev.eq_28, ev.eq_29, ev.eq_30, ev.eq_31, ev.eq_33, ev.eq_35, ev.eq_36, ev.eq_37, ev.eq_38, ev.eq_39, ev.eq_40, ev.eq_41, ev.eq_42, ev.eq_43, ev.eq_44, ev.eq_45, cx_cf, cx_cm, cx_gl, cx_dc, cx_ci, evSs, evS, evT, evs, evSrc, evo, gt, st, d_sh, d_fr, isB, isI, Out.bind_ok, Out.bindB_ok, Out.chk_ok, Out.of_some, h, g, g2, i2_0, c_eqS, s_min]
    cases a with
    | neg =>
      have e := key [45] .non rfl
      have ih := w_col p (.nt s) n (by omega) (by simpa [mx] using hm)
      have pp := pile_pop (Γ := Γ) (t := t) (p := p) (d := some s) (x3 := x3) (x4 := x4) (x5 := x5) (S := S) .neg
      have eb : evSs Γ b1__law_reading (rEnv t (.neg :: p) (some s) x3 x4 x5) S = .ok .nx (rEnv t p (some (.nt s)) x3 x4 x5) S := by
        unfold b1__law_reading
        rw [evSs_nx (ρ' := rEnv t p (some s) x3 x4 x5) (S' := S) (by simp only [evS, pp, Out.bind_ok, Out.bindB_ok, Out.chk_ok])]
        simp [evSs, evS, ev, evs, rEnv, gt, st, d_sh, s_not, big, doneD, Sen.d]
      rw [whileS, e]
      simp only [decide_true, Out.bindB_ok, if_true, eb]
      rw [ih]
      rfl
    | opn =>
      have e := key [40] .non rfl
      rw [whileS, e]
      rfl
    | jn j l =>
      have e := key j.s l.d rfl
      rw [whileS, e]
      simp [jt_min, col]
end
end Ht

set_option linter.all false
set_option maxRecDepth 100000
set_option maxHeartbeats 400000
/-! the law's reader: its loop; both readers agree -/
namespace Ht
open PySem
def ixs (t : List Nat) : List Nat → List D
  | [] => []
  | c :: v => .int (ps t (c :: v) : Nat) :: ixs t v
theorem ixs_rng {t : List Nat} : ∀ {w : List Nat}, w <:+ t → ixs t w = (List.range w.length).map fun (k : Nat) => D.int ((ps t w : Nat) + k)
  | [], _ => rfl
  | c :: v, h => by
    obtain ⟨_, h2, h3, _⟩ := suf_get h
    rw [ixs, ixs_rng h2, List.length_cons, List.range_succ_eq_map, List.map_cons, List.map_map, h3]
    congr 1
    refine List.map_congr_left fun k _ => ?_
    simp only [Function.comp_apply]
    congr 1
    omega
theorem loop_ct' {f : D → Env → Store → Out Fl} {d : D} {ds : List D} {ρ ρ' : Env} {S S' : Store} (h : f d ρ S = .ok .ct ρ' S') : loopS f (d :: ds) ρ S = loopS f ds ρ' S' := by simp only [loopS, h]
theorem jix {c : Nat} {j : Jt} (h : jtOf c = some j) : ∃ i, indexD (.str [38, 124, 62, 61]) (.str [c]) = some i ∧ idxD (.lst [.str (Jt.s .and), .str (Jt.s .or), .str (Jt.s .ifj), .str (Jt.s .same)]) i = some (.str j.s) := by
  have := jt_sg h
  subst this
  cases j
  · exact ⟨.int 0, by decide, rfl⟩
  · exact ⟨.int 1, by decide, rfl⟩
  · exact ⟨.int 2, by decide, rfl⟩
  · exact ⟨.int 3, by decide, rfl⟩
theorem j_in {c : Nat} : decide (c ∈ [38, 124, 62, 61]) = (jtOf c).isSome := by
  unfold jtOf
  by_cases h1 : c = 38
  · simp [h1]
  · by_cases h2 : c = 124
    · simp [h2]
    · by_cases h3 : c = 62
      · simp [h3]
      · by_cases h4 : c = 61
        · simp [h4]
        · simp [h1, h2, h3, h4]
theorem pile_set (a b : Fr) (p : List Fr) : (pileD (a :: p)).set (pileD p).length b.d = pileD (b :: p) := by
  simp [pileD]
theorem ixN_last (n : Nat) : ixN (n + 1) (-1) = some n := by
  have c : ¬ ((0 : Int) ≤ -1) := by decide
  have c2 : -((n + 1 : Nat) : Int) ≤ -1 := by omega
  have e1 : (-1 + ((n + 1 : Nat) : Int)).toNat = n := by omega
  simp only [ixN, if_neg c, if_pos c2, e1]
theorem i_nn : cmpD .Is .non .non = some true := rfl
theorem i_sn (s : Sen) : cmpD .Is s.d .non = some false := by cases s <;> rfl
def bodyR (Γ : Ctx) : D → Env → Store → Out Fl := fun d ρ S => evSs Γ b2__law_reading (st ρ 3 (.v d)) S
section
variable {Γ : Ctx} {t : List Nat} {S : Store}
/-- a turn at a sign -/
theorem turn_0 (hl : t.length ≤ 60) {i c : Nat} (hc : t[i]? = some c) (p : List Fr) (d : Option Sen) (x3 x4 x5 : Sl) : bodyR Γ (.int i) (rEnv t p d x3 x4 x5) S = (if c = 32 then .ok .ct (rEnv t p d (.v (.int i)) (.v (.str [c])) x5) S else evSs Γ (b2__law_reading.drop 2) (rEnv t p d (.v (.int i)) (.v (.str [c])) x5) S) := by
  have ix := idx_str hc (by omega)
  unfold bodyR b2__law_reading
  rw [evSs_nx (ρ' := rEnv t p d (.v (.int i)) (.v (.str [c])) x5) (S' := S) (by simp [evS, ev, rEnv, gt, st, d_sh, ix])]
  by_cases h : c = 32
  · rw [if_pos h]
    have e : evS Γ (.ite (.e (.cmp .Eq (.slot 4) (.str " "))) [.cnt] []) (rEnv t p d (.v (.int i)) (.v (.str [c])) x5) S = .ok .ct (rEnv t p d (.v (.int i)) (.v (.str [c])) x5) S := by
      simp [evS, evSs, evT, ev, rEnv, gt, d_sh, c_eqS, s_blank, h, isB]
    rw [evSs, e]
    rfl
  · rw [if_neg h]
    rw [evSs_nx (ρ' := rEnv t p d (.v (.int i)) (.v (.str [c])) x5) (S' := S) (by simp [evS, evSs, evT, ev, rEnv, gt, d_sh, c_eqS, s_blank, h, isB])]
    rfl
theorem turns_eq : turns = 999999 + 1 := rfl
theorem whl_eq {e : CT} {b : List CS} {ρ : Env} : evS Γ (.whl e b) ρ S = whileS (evT Γ e) (evSs Γ b) turns ρ S := by simp only [evS]
/-- none is done yet -/
theorem turn_none {i c : Nat} (h32 : c ≠ 32) (p : List Fr) (x5 : Sl) (hp : p.length ≤ 60) (hm : mx p ≤ 60) : evSs Γ (b2__law_reading.drop 2) (rEnv t p none (.v (.int i)) (.v (.str [c])) x5) S =
    if 97 ≤ c ∧ c ≤ 101 then .ok .nx (rEnv t (col p (.lt (c - 97))).1 (some (col p (.lt (c - 97))).2) (.v (.int i)) (.v (.str [c])) x5) S
    else if c = 45 then .ok .nx (rEnv t (.neg :: p) none (.v (.int i)) (.v (.str [c])) x5) S
    else if c = 40 then .ok .nx (rEnv t (.opn :: p) none (.v (.int i)) (.v (.str [c])) x5) S
    else .ok (.rt (.sh (.tup [.non, .int i]))) (rEnv t p none (.v (.int i)) (.v (.str [c])) x5) S := by
  have hd := is_done (d := none)
  simp only [b2__law_reading, List.drop_succ_cons, List.drop_zero]
  have il := in_one (c := c) (l := [97, 98, 99, 100, 101])
  rw [let_in] at il
  by_cases c1 : 97 ≤ c ∧ c ≤ 101
  · rw [if_pos c1]
    have e3 : indexD (.str [97, 98, 99, 100, 101]) (.str [c]) = some (.int ((c - 97 : Nat) : Int)) := by
      have := index_letter (k := c - 97) (by omega)
      rw [show 97 + (c - 97) = c by omega] at this
      exact this
    rw [decide_eq_true c1] at il
    rw [evSs_nx (ρ' := rEnv t p (some (.lt (c - 97))) (.v (.int i)) (.v (.str [c])) x5) (S' := S) (by
      generalize c - 97 = q at *
      simp [ev.eq_1, ev.eq_2, ev.eq_3, ev.eq_4, ev.eq_5, ev.eq_6, ev.eq_7, ev.eq_8, ev.eq_9, ev.eq_10, ev.eq_11, ev.eq_12, ev.eq_13, ev.eq_14, ev.eq_15, ev.eq_16, ev.eq_17, ev.eq_18, ev.eq_19, ev.eq_20, ev.eq_21, ev.eq_22, ev.eq_23, ev.eq_24, ev.eq_25, ev.eq_26, ev.eq_27, ev.eq_28, ev.eq_29, ev.eq_30, ev.eq_31, ev.eq_33, ev.eq_35, ev.eq_36, ev.eq_37, ev.eq_38, ev.eq_39, ev.eq_40, ev.eq_41, ev.eq_42, ev.eq_43, ev.eq_44, ev.eq_45, cx_cf, cx_cm, cx_gl, cx_dc, cx_ci, evSs, evS, evT, evs, evSrc, evo, gt, st, d_sh, d_fr, isB, isI, Out.bind_ok, Out.bindB_ok, Out.chk_ok, Out.of_some, rEnv, i_nn, doneD, hd, il, s_abc, e3, s_let, big, doneD, Sen.d])]
    rw [evSs_nx (ρ' := rEnv t (col p (.lt (c - 97))).1 (some (col p (.lt (c - 97))).2) (.v (.int i)) (.v (.str [c])) x5) (S' := S) (by
      rw [whl_eq]
      exact w_col p _ turns (by unfold turns; omega) hm)]
    simp [evSs]
  · rw [if_neg c1]
    rw [decide_eq_false c1] at il
    have im := in_one (c := c) (l := [45, 40])
    by_cases c2 : c = 45 ∨ c = 40
    · have im' : cmpD .In (.str [c]) (.str [45, 40]) = some true := by rw [im]; simp [c2]
      have app : ∀ a : Fr, a.d = .tup [.str [c], .non] → evSs Γ (b2__law_reading.drop 2) (rEnv t p none (.v (.int i)) (.v (.str [c])) x5) S = .ok .nx (rEnv t (a :: p) none (.v (.int i)) (.v (.str [c])) x5) S := fun a ha => by
        have hlen : (pileD p).length < 16777216 := by simp [pileD]; omega
        have e1 : pileD (a :: p) = pileD p ++ [.tup [.str [c], .non]] := by simp [pileD, ha]
        simp only [b2__law_reading, List.drop_succ_cons, List.drop_zero]
        rw [evSs_nx (ρ' := rEnv t (a :: p) none (.v (.int i)) (.v (.str [c])) x5) (S' := S) (by
          simp [ev.eq_1, ev.eq_2, ev.eq_3, ev.eq_4, ev.eq_5, ev.eq_6, ev.eq_7, ev.eq_8, ev.eq_9, ev.eq_10, ev.eq_11, ev.eq_12, ev.eq_13, ev.eq_14, ev.eq_15, ev.eq_16, ev.eq_17, ev.eq_18, ev.eq_19, ev.eq_20, ev.eq_21, ev.eq_22, ev.eq_23, ev.eq_24, ev.eq_25, ev.eq_26, ev.eq_27, ev.eq_28, ev.eq_29, ev.eq_30, ev.eq_31, ev.eq_33, ev.eq_35, ev.eq_36, ev.eq_37, ev.eq_38, ev.eq_39, ev.eq_40, ev.eq_41, ev.eq_42, ev.eq_43, ev.eq_44, ev.eq_45, cx_cf, cx_cm, cx_gl, cx_dc, cx_ci, evSs, evS, evT, evs, evSrc, evo, gt, st, d_sh, d_fr, isB, isI, Out.bind_ok, Out.bindB_ok, Out.chk_ok, Out.of_some, rEnv, i_nn, doneD, hd, il, s_abc, im', s_mo, big, hlen, e1])]
        rw [evSs_nx (ρ' := rEnv t (a :: p) none (.v (.int i)) (.v (.str [c])) x5) (S' := S) (by
          rw [whl_eq, turns_eq]
          exact w_none 999999)]
        simp [evSs]
      by_cases c3 : c = 45
      · rw [if_pos c3]
        exact app .neg (by rw [c3]; rfl)
      · rw [if_neg c3]
        have c4 : c = 40 := by omega
        rw [if_pos c4]
        exact app .opn (by rw [c4]; rfl)
    · have im' : cmpD .In (.str [c]) (.str [45, 40]) = some false := by rw [im]; simp; omega
      rw [if_neg (by omega), if_neg (by omega)]
      rw [evSs_rt (v := .sh (.tup [.non, .int i])) (ρ' := rEnv t p none (.v (.int i)) (.v (.str [c])) x5) (S' := S) (by
        simp [ev.eq_1, ev.eq_2, ev.eq_3, ev.eq_4, ev.eq_5, ev.eq_6, ev.eq_7, ev.eq_8, ev.eq_9, ev.eq_10, ev.eq_11, ev.eq_12, ev.eq_13, ev.eq_14, ev.eq_15, ev.eq_16, ev.eq_17, ev.eq_18, ev.eq_19, ev.eq_20, ev.eq_21, ev.eq_22, ev.eq_23, ev.eq_24, ev.eq_25, ev.eq_26, ev.eq_27, ev.eq_28, ev.eq_29, ev.eq_30, ev.eq_31, ev.eq_33, ev.eq_35, ev.eq_36, ev.eq_37, ev.eq_38, ev.eq_39, ev.eq_40, ev.eq_41, ev.eq_42, ev.eq_43, ev.eq_44, ev.eq_45, cx_cf, cx_cm, cx_gl, cx_dc, cx_ci, evSs, evS, evT, evs, evSrc, evo, gt, st, d_sh, d_fr, isB, isI, Out.bind_ok, Out.bindB_ok, Out.chk_ok, Out.of_some, rEnv, i_nn, doneD, hd, il, s_abc, im', s_mo, big])]
/-- a sentence is done -/
theorem turn_some {i c : Nat} (h32 : c ≠ 32) (p : List Fr) (s : Sen) (x5 : Sl) (hp : p.length ≤ 60) (hm : mx p ≤ 60) (hn : ∀ q, p ≠ .neg :: q) : ∃ y5, evSs Γ (b2__law_reading.drop 2) (rEnv t p (some s) (.v (.int i)) (.v (.str [c])) x5) S =
    match p with
    | .opn :: p' => (match jtOf c with
      | some j => .ok .nx (rEnv t (.jn j s :: p') none (.v (.int i)) (.v (.str [c])) x5) S
      | none => .ok (.rt (.sh (.tup [.non, .int i]))) (rEnv t p (some s) (.v (.int i)) (.v (.str [c])) x5) S)
    | .jn j l :: p' => if c = 41 then .ok .nx (rEnv t (col p' (.j2 j l s)).1 (some (col p' (.j2 j l s)).2) (.v (.int i)) (.v (.str [c])) y5) S else .ok (.rt (.sh (.tup [.non, .int i]))) (rEnv t p (some s) (.v (.int i)) (.v (.str [c])) x5) S
    | _ => .ok (.rt (.sh (.tup [.non, .int i]))) (rEnv t p (some s) (.v (.int i)) (.v (.str [c])) x5) S := by
  have hd := is_done (d := some s)
  have ge := g_eq (Γ := Γ) (t := t) (p := p) (d := some s) (x3 := .v (.int i)) (x4 := .v (.str [c])) (x5 := x5) (S := S) (mx_bd hm)
  simp only [b2__law_reading, List.drop_succ_cons, List.drop_zero]
  cases p with
  | nil =>
    refine ⟨.no, ?_⟩
    rw [evSs_rt (v := .sh (.tup [.non, .int i])) (ρ' := rEnv t [] (some s) (.v (.int i)) (.v (.str [c])) x5) (S' := S) (by
      simp only [rEnv, doneD] at ge ⊢
      simp [ev.eq_1, ev.eq_2, ev.eq_3, ev.eq_4, ev.eq_5, ev.eq_6, ev.eq_7, ev.eq_8, ev.eq_9, ev.eq_10, ev.eq_11, ev.eq_12, ev.eq_13, ev.eq_14, ev.eq_15, ev.eq_16, ev.eq_17, ev.eq_18, ev.eq_19, ev.eq_20, ev.eq_21, ev.eq_22, ev.eq_23, ev.eq_24, ev.eq_25, ev.eq_26, ev.eq_27, ev.eq_28, ev.eq_29, ev.eq_30, ev.eq_31, ev.eq_33, ev.eq_35, ev.eq_36, ev.eq_37, ev.eq_38, ev.eq_39, ev.eq_40, ev.eq_41, ev.eq_42, ev.eq_43, ev.eq_44, ev.eq_45, cx_cf, cx_cm, cx_gl, cx_dc, cx_ci, evSs, evS, evT, evs, evSrc, evo, gt, st, d_sh, d_fr, isB, isI, Out.bind_ok, Out.bindB_ok, Out.chk_ok, Out.of_some, i_sn, doneD, hd, ge, big])]
  | cons a p' =>
    have g2 := g_top (Γ := Γ) (t := t) (p := p') (d := some s) (x3 := .v (.int i)) (x4 := .v (.str [c])) (x5 := x5) (S := S) a
    cases a with
    | neg => exact absurd rfl (hn p')
    | opn =>
      refine ⟨.no, ?_⟩
      have ij := in_one (c := c) (l := [38, 124, 62, 61])
      rw [j_in] at ij
      cases hj : jtOf c with
      | none =>
        rw [hj] at ij
        simp only
        rw [evSs_rt (v := .sh (.tup [.non, .int i])) (ρ' := rEnv t (.opn :: p') (some s) (.v (.int i)) (.v (.str [c])) x5) (S' := S) (by
          simp only [rEnv, doneD] at ge g2 ⊢
          simp [ev.eq_1, ev.eq_2, ev.eq_3, ev.eq_4, ev.eq_5, ev.eq_6, ev.eq_7, ev.eq_8, ev.eq_9, ev.eq_10, ev.eq_11, ev.eq_12, ev.eq_13, ev.eq_14, ev.eq_15, ev.eq_16, ev.eq_17, ev.eq_18, ev.eq_19, ev.eq_20, ev.eq_21, ev.eq_22, ev.eq_23, ev.eq_24, ev.eq_25, ev.eq_26, ev.eq_27, ev.eq_28, ev.eq_29, ev.eq_30, ev.eq_31, ev.eq_33, ev.eq_35, ev.eq_36, ev.eq_37, ev.eq_38, ev.eq_39, ev.eq_40, ev.eq_41, ev.eq_42, ev.eq_43, ev.eq_44, ev.eq_45, cx_cf, cx_cm, cx_gl, cx_dc, cx_ci, evSs, evS, evT, evs, evSrc, evo, gt, st, d_sh, d_fr, isB, isI, Out.bind_ok, Out.bindB_ok, Out.chk_ok, Out.of_some, i_sn, doneD, hd, ge, g2, Fr.d, i2_0, c_eqS, c_neS, s_opn, ij, s_sgs, big])]
      | some j =>
        rw [hj] at ij
        obtain ⟨q, k1, k2⟩ := jix hj
        simp only
        rw [evSs_nx (ρ' := rEnv t (.jn j s :: p') none (.v (.int i)) (.v (.str [c])) x5) (S' := S) (by
          have e1 : (pileD (.opn :: p')).length = (pileD p').length + 1 := by simp [pileD]
          have e2 := pile_set .opn (.jn j s) p'
          have e3 := ixN_last (pileD p').length
          simp only [rEnv, doneD] at ge g2 ⊢
          rw [Fr.d] at e2
          simp [ev.eq_1, ev.eq_2, ev.eq_3, ev.eq_4, ev.eq_5, ev.eq_6, ev.eq_7, ev.eq_8, ev.eq_9, ev.eq_10, ev.eq_11, ev.eq_12, ev.eq_13, ev.eq_14, ev.eq_15, ev.eq_16, ev.eq_17, ev.eq_18, ev.eq_19, ev.eq_20, ev.eq_21, ev.eq_22, ev.eq_23, ev.eq_24, ev.eq_25, ev.eq_26, ev.eq_27, ev.eq_28, ev.eq_29, ev.eq_30, ev.eq_31, ev.eq_33, ev.eq_35, ev.eq_36, ev.eq_37, ev.eq_38, ev.eq_39, ev.eq_40, ev.eq_41, ev.eq_42, ev.eq_43, ev.eq_44, ev.eq_45, cx_cf, cx_cm, cx_gl, cx_dc, cx_ci, evSs, evS, evT, evs, evSrc, evo, gt, st, d_sh, d_fr, isB, isI, Out.bind_ok, Out.bindB_ok, Out.chk_ok, Out.of_some, i_sn, doneD, hd, ge, g2, Fr.d, i2_0, c_eqS, c_neS, s_opn, ij, s_sgs, big, s_and, s_or, s_if, s_same, k1, k2, e1, e3, doneD, e2])]
        rw [evSs_nx (ρ' := rEnv t (.jn j s :: p') none (.v (.int i)) (.v (.str [c])) x5) (S' := S) (by
          rw [whl_eq, turns_eq]
          exact w_none 999999)]
        simp [evSs]
    | jn j l =>
      refine ⟨.v (Fr.jn j l).d, ?_⟩
      have jo := jt_opn j
      by_cases c4 : c = 41
      · simp only [if_pos c4]
        subst c4
        have pp := pile_pop (Γ := Γ) (t := t) (p := p') (d := some s) (x3 := .v (.int i)) (x4 := .v (.str [41])) (x5 := x5) (S := S) (.jn j l)
        rw [evSs_nx (ρ' := rEnv t p' (some (.j2 j l s)) (.v (.int i)) (.v (.str [41])) (.v (Fr.jn j l).d)) (S' := S) (by
          simp only [rEnv, doneD] at ge g2 pp ⊢
          simp [ev.eq_1, ev.eq_2, ev.eq_3, ev.eq_4, ev.eq_5, ev.eq_6, ev.eq_7, ev.eq_8, ev.eq_9, ev.eq_10, ev.eq_11, ev.eq_12, ev.eq_13, ev.eq_14, ev.eq_15, ev.eq_16, ev.eq_17, ev.eq_18, ev.eq_19, ev.eq_20, ev.eq_21, ev.eq_22, ev.eq_23, ev.eq_24, ev.eq_25, ev.eq_26, ev.eq_27, ev.eq_28, ev.eq_29, ev.eq_30, ev.eq_31, ev.eq_33, ev.eq_35, ev.eq_36, ev.eq_37, ev.eq_38, ev.eq_39, ev.eq_40, ev.eq_41, ev.eq_42, ev.eq_43, ev.eq_44, ev.eq_45, cx_cf, cx_cm, cx_gl, cx_dc, cx_ci, evSs, evS, evT, evs, evSrc, evo, gt, st, d_sh, d_fr, isB, isI, Out.bind_ok, Out.bindB_ok, Out.chk_ok, Out.of_some, i_sn, doneD, hd, ge, g2, Fr.d, i2_0, i2_1, c_eqS, c_neS, s_opn, jo, s_cls] at pp ⊢
          simp [ev.eq_1, ev.eq_2, ev.eq_3, ev.eq_4, ev.eq_5, ev.eq_6, ev.eq_7, ev.eq_8, ev.eq_9, ev.eq_10, ev.eq_11, ev.eq_12, ev.eq_13, ev.eq_14, ev.eq_15, ev.eq_16, ev.eq_17, ev.eq_18, ev.eq_19, ev.eq_20, ev.eq_21, ev.eq_22, ev.eq_23, ev.eq_24, ev.eq_25, ev.eq_26, ev.eq_27, ev.eq_28, ev.eq_29, ev.eq_30, ev.eq_31, ev.eq_33, ev.eq_35, ev.eq_36, ev.eq_37, ev.eq_38, ev.eq_39, ev.eq_40, ev.eq_41, ev.eq_42, ev.eq_43, ev.eq_44, ev.eq_45, cx_cf, cx_cm, cx_gl, cx_dc, cx_ci, evSs, evS, evT, evs, evSrc, evo, gt, st, d_sh, d_fr, isB, isI, Out.bind_ok, Out.bindB_ok, Out.chk_ok, Out.of_some, pp, Fr.d, i2_0, i2_1, big, doneD, Sen.d])]
        rw [evSs_nx (ρ' := rEnv t (col p' (.j2 j l s)).1 (some (col p' (.j2 j l s)).2) (.v (.int i)) (.v (.str [41])) (.v (Fr.jn j l).d)) (S' := S) (by
          rw [whl_eq]
          refine w_col p' _ turns (by unfold turns; simp only [List.length_cons] at hp; omega) ?_
          simp only [mx] at hm
          omega)]
        simp [evSs]
      · simp only [if_neg c4]
        rw [evSs_rt (v := .sh (.tup [.non, .int i])) (ρ' := rEnv t (.jn j l :: p') (some s) (.v (.int i)) (.v (.str [c])) x5) (S' := S) (by
          simp only [rEnv, doneD] at ge g2 ⊢
          simp [ev.eq_1, ev.eq_2, ev.eq_3, ev.eq_4, ev.eq_5, ev.eq_6, ev.eq_7, ev.eq_8, ev.eq_9, ev.eq_10, ev.eq_11, ev.eq_12, ev.eq_13, ev.eq_14, ev.eq_15, ev.eq_16, ev.eq_17, ev.eq_18, ev.eq_19, ev.eq_20, ev.eq_21, ev.eq_22, ev.eq_23, ev.eq_24, ev.eq_25, ev.eq_26, ev.eq_27, ev.eq_28, ev.eq_29, ev.eq_30, ev.eq_31, ev.eq_33, ev.eq_35, ev.eq_36, ev.eq_37, ev.eq_38, ev.eq_39, ev.eq_40, ev.eq_41, ev.eq_42, ev.eq_43, ev.eq_44, ev.eq_45, cx_cf, cx_cm, cx_gl, cx_dc, cx_ci, evSs, evS, evT, evs, evSrc, evo, gt, st, d_sh, d_fr, isB, isI, Out.bind_ok, Out.bindB_ok, Out.chk_ok, Out.of_some, i_sn, doneD, hd, ge, g2, Fr.d, i2_0, c_eqS, c_neS, s_opn, jo, s_cls, c4, big])]
end
end Ht

set_option linter.all false
set_option maxRecDepth 100000
set_option maxHeartbeats 400000
/-! both readers agree -/
namespace Ht
open PySem
section
variable {Γ : Ctx} {t : List Nat} {S : Store}
theorem read_loop (hl : t.length ≤ 60) : ∀ (w : List Nat) (p : List Fr) (d : Option Sen) (x3 x4 x5 : Sl), w <:+ t → p.length + max (mx p) (dd d) ≤ ps t w → (∀ s, d = some s → ∀ q, p ≠ .neg :: q) → match rd w p d with
    | .inl u => ∃ ρ', loopS (bodyR Γ) (ixs t w) (rEnv t p d x3 x4 x5) S = .ok (.rt (.sh (.tup [.non, .int (ps t u : Nat)]))) ρ' S
    | .inr (p', d') => p'.length + max (mx p') (dd d') ≤ t.length ∧ ∃ y3 y4 y5, loopS (bodyR Γ) (ixs t w) (rEnv t p d x3 x4 x5) S = .ok .nx (rEnv t p' d' y3 y4 y5) S
  | [], p, d, x3, x4, x5, hw, hi, hn => by
    rw [ps_nil] at hi
    exact ⟨hi, x3, x4, x5, rfl⟩
  | c :: v, p, d, x3, x4, x5, hw, hi, hn => by
    obtain ⟨g1, g2, g3, g4⟩ := suf_get hw
    have t0 := turn_0 (Γ := Γ) (S := S) hl g1 p d x3 x4 x5
    rw [ixs]
    have go : ∀ (p' : List Fr) (d' : Option Sen) (x3 x4 x5 y3 y4 y5 : Sl), (bodyR Γ (.int (ps t (c :: v) : Nat)) (rEnv t p d x3 x4 x5) S = .ok .nx (rEnv t p' d' y3 y4 y5) S ∨ bodyR Γ (.int (ps t (c :: v) : Nat)) (rEnv t p d x3 x4 x5) S = .ok .ct (rEnv t p' d' y3 y4 y5) S) → p'.length + max (mx p') (dd d') ≤ ps t v → (∀ s, d' = some s → ∀ q, p' ≠ .neg :: q) → match rd v p' d' with
        | .inl u => ∃ ρ', loopS (bodyR Γ) (.int (ps t (c :: v) : Nat) :: ixs t v) (rEnv t p d x3 x4 x5) S = .ok (.rt (.sh (.tup [.non, .int (ps t u : Nat)]))) ρ' S
        | .inr (p', d') => p'.length + max (mx p') (dd d') ≤ t.length ∧ ∃ y3 y4 y5, loopS (bodyR Γ) (.int (ps t (c :: v) : Nat) :: ixs t v) (rEnv t p d x3 x4 x5) S = .ok .nx (rEnv t p' d' y3 y4 y5) S := fun p' d' x3 x4 x5 y3 y4 y5 he h1 h2 => by
      have ih := read_loop hl v p' d' y3 y4 y5 g2 h1 h2
      have e : loopS (bodyR Γ) (.int (ps t (c :: v) : Nat) :: ixs t v) (rEnv t p d x3 x4 x5) S = loopS (bodyR Γ) (ixs t v) (rEnv t p' d' y3 y4 y5) S := by
        rcases he with he | he
        · exact loop_nx he
        · exact loop_ct' he
      rw [e]
      exact ih
    have stop : ∀ (x3 x4 x5 : Sl), (∃ ρ', bodyR Γ (.int (ps t (c :: v) : Nat)) (rEnv t p d x3 x4 x5) S = .ok (.rt (.sh (.tup [.non, .int (ps t (c :: v) : Nat)]))) ρ' S) → ∃ ρ', loopS (bodyR Γ) (.int (ps t (c :: v) : Nat) :: ixs t v) (rEnv t p d x3 x4 x5) S = .ok (.rt (.sh (.tup [.non, .int (ps t (c :: v) : Nat)]))) ρ' S := fun x3 x4 x5 ⟨ρ', he⟩ => ⟨ρ', loop_rt he⟩
    have hps : ps t v ≤ 60 := by omega
    have hmx : mx p ≤ 60 := by omega
    have hpl : p.length ≤ 60 := by omega
    unfold rd
    by_cases c0 : c = 32
    · rw [if_pos c0] at t0 ⊢
      exact go p d x3 x4 x5 _ _ _ (.inr t0) (by omega) hn
    · rw [if_neg c0] at t0 ⊢
      cases d with
      | none =>
        rw [turn_none c0 p x5 hpl hmx] at t0
        simp only
        by_cases c1 : 97 ≤ c ∧ c ≤ 101
        · rw [if_pos c1] at t0 ⊢
          have cf := col_facts p (.lt (c - 97))
          refine go _ _ x3 x4 x5 _ _ _ (.inl t0) ?_ fun s hs q => col_pile (p := p) (s := .lt (c - 97)) (p' := (col p (.lt (c - 97))).1) (s' := (col p (.lt (c - 97))).2) rfl q
          simp only [dd, Sen.depth] at hi cf ⊢
          omega
        · rw [if_neg c1] at t0 ⊢
          by_cases c2 : c = 45
          · rw [if_pos c2] at t0 ⊢
            refine go _ _ x3 x4 x5 _ _ _ (.inl t0) ?_ fun s hs => by cases hs
            simp only [dd, mx, List.length_cons] at hi ⊢
            omega
          · rw [if_neg c2] at t0 ⊢
            by_cases c3 : c = 40
            · rw [if_pos c3] at t0 ⊢
              refine go _ _ x3 x4 x5 _ _ _ (.inl t0) ?_ fun s hs => by cases hs
              simp only [dd, mx, List.length_cons] at hi ⊢
              omega
            · rw [if_neg c3] at t0 ⊢
              exact stop x3 x4 x5 ⟨_, t0⟩
      | some s =>
        obtain ⟨y5, t1⟩ := turn_some (Γ := Γ) (S := S) (t := t) (i := ps t (c :: v)) c0 p s x5 hpl hmx (hn s rfl)
        rw [t1] at t0
        simp only
        cases p with
        | nil => exact stop x3 x4 x5 ⟨_, t0⟩
        | cons a p' =>
          cases a with
          | neg => exact absurd rfl (hn s rfl p')
          | opn =>
            simp only at t0 ⊢
            cases hj : jtOf c with
            | none =>
              rw [hj] at t0
              exact stop x3 x4 x5 ⟨_, t0⟩
            | some j =>
              rw [hj] at t0
              refine go _ _ x3 x4 x5 _ _ _ (.inl t0) ?_ fun s hs => by cases hs
              simp only [dd, mx, List.length_cons] at hi ⊢
              omega
          | jn j l =>
            simp only at t0 ⊢
            by_cases c4 : c = 41
            · rw [if_pos c4] at t0 ⊢
              have cf := col_facts p' (.j2 j l s)
              refine go _ _ x3 x4 x5 _ _ _ (.inl t0) ?_ fun s' hs q => col_pile (p := p') (s := .j2 j l s) (p' := (col p' (.j2 j l s)).1) (s' := (col p' (.j2 j l s)).2) rfl q
              simp only [dd, mx, List.length_cons, Sen.depth] at hi cf ⊢
              omega
            · rw [if_neg c4] at t0 ⊢
              exact stop x3 x4 x5 ⟨_, t0⟩
end
/-- what the law's reader tells -/
def dueD (t : List Nat) : Pr → D
  | .ok s _ => .tup [s.d, .int (-1)]
  | .no u => .tup [.non, .int (ps t u : Nat)]
structure BRight (T : Tab) : Prop extends PReadX T where
  l_reading : T.fn "_law_reading" = some fn__law_reading
  l_told : T.fn "_law_told" = some fn__law_told
  l_refused_by_any : T.fn "_law_refused_by_any" = some fn__law_refused_by_any
  l_right : T.fn "_law_right" = some fn__law_right
  l_whole : T.fn "_law_whole" = some fn__law_whole
  l_tree_is : T.fn "_law_tree_is" = some fn__law_tree_is
  x_TalkError : T.xc "TalkError" = some 0
  x_NoBook : T.xc "NoBook" = some 2
  x_StrangeLetter : T.xc "StrangeLetter" = some 1
section
variable {T : Tab} {t : List Nat}
theorem rng_len60 (n : Nat) (h : n ≤ 60) : rangeD (.int 0) (.int n) = some ((List.range n).map fun (k : Nat) => D.int (0 + k)) := by
  have c : -(2 ^ 60) ≤ (0 : Int) ∧ (0 : Int) < 2 ^ 60 ∧ -(2 ^ 60) ≤ (n : Int) ∧ (n : Int) < 2 ^ 60 ∧ ((n : Int) - 0).toNat ≤ 1000000 := by omega
  simp only [rangeD, rangeL]
  rw [if_pos c]
  have e : ((n : Int) - 0).toNat = n := by omega
  rw [e]
theorem ok_reading (h : T.fn "_law_reading" = some fn__law_reading) (f : Nat) (hl : t.length ≤ 60) (S : Store) : callF T (f + 1) "_law_reading" [.str t] S = .ok (.sh (dueD t (rdF t))) S := by
  have hr := rdF_rd t
  have ln := len_str (t := t) (by omega)
  have p0 : ps t t = 0 := by simp [ps]
  have lp := read_loop (Γ := cx T f) (S := S) hl t [] none .no .no .no List.suffix_rfl (by simp [mx, dd]) (fun s hs => by cases hs)
  rw [call_eq h rfl]
  simp only [fn__law_reading, List.map_cons, List.map_nil, List.cons_append, List.nil_append, List.replicate, Nat.reduceSub]
  rw [evSs_nx (ρ' := [.v (.str t), .own [], .no, .no, .no, .no]) (S' := S) (by simp [evS, ev, evs, gt, st, big])]
  rw [evSs_nx (ρ' := rEnv t [] none .no .no .no) (S' := S) (by simp [evS, ev, evs, gt, st, d_sh, rEnv, pileD, doneD])]
  have hfor : evS (cx T f) (.for1 3 (.rng1 (.len (.slot 0))) b2__law_reading) (rEnv t [] none .no .no .no) S = loopS (bodyR (cx T f)) (ixs t t) (rEnv t [] none .no .no .no) S := by
    refine for1_eq (ρ' := rEnv t [] none .no .no .no) (S' := S) (src_rng1 (x := .sh (.int t.length)) (by simp [ev, rEnv, gt, d_sh, ln]) ?_)
    rw [ixs_rng List.suffix_rfl, p0]
    exact rng_len60 t.length hl
  cases hd : rdF t with
  | no u =>
    rw [hd] at hr
    obtain ⟨hr1, hr2⟩ := hr
    cases hq : rd t [] none with
    | inl w =>
      rw [hq] at hr2 lp
      have hr2 : w = u := hr2
      subst hr2
      obtain ⟨ρ', e⟩ := lp
      rw [evSs_rt (v := .sh (.tup [.non, .int (ps t w : Nat)])) (ρ' := ρ') (S' := S) (by rw [hfor]; exact e)]
      rfl
    | inr pd =>
      obtain ⟨p, d⟩ := pd
      rw [hq] at hr2 lp
      obtain ⟨rfl, hr3⟩ := hr2
      obtain ⟨b1, y3, y4, y5, e⟩ := lp
      rw [evSs_nx (ρ' := rEnv t p d y3 y4 y5) (S' := S) (by rw [hfor]; exact e)]
      have hm : mx p ≤ 60 := by omega
      have gn := g_ne (Γ := cx T f) (t := t) (p := p) (d := d) (x3 := y3) (x4 := y4) (x5 := y5) (S := S) (mx_bd hm)
      have isd := is_done (d := d)
      rw [evSs_rt (v := .sh (.tup [.non, .int (t.length : Nat)])) (ρ' := rEnv t p d y3 y4 y5) (S' := S) (by
        unfold rEnv at gn ⊢
        cases d with
        | none => simp [ev.eq_1, ev.eq_2, ev.eq_3, ev.eq_4, ev.eq_5, ev.eq_6, ev.eq_7, ev.eq_8, ev.eq_9, ev.eq_10, ev.eq_11, ev.eq_12, ev.eq_13, ev.eq_14, ev.eq_15, ev.eq_16, ev.eq_17, ev.eq_18, ev.eq_19, ev.eq_20, ev.eq_21, ev.eq_22, ev.eq_23, ev.eq_24, ev.eq_25, ev.eq_26, ev.eq_27, ev.eq_28, ev.eq_29, ev.eq_30, ev.eq_31, ev.eq_33, ev.eq_35, ev.eq_36, ev.eq_37, ev.eq_38, ev.eq_39, ev.eq_40, ev.eq_41, ev.eq_42, ev.eq_43, ev.eq_44, ev.eq_45, cx_cf, cx_cm, cx_gl, cx_dc, cx_ci, evSs, evS, evT, evs, evSrc, evo, gt, st, d_sh, d_fr, isB, isI, Out.bind_ok, Out.bindB_ok, Out.chk_ok, Out.of_some, isd, ln, big]
        | some s =>
          rcases hr3 with hr3 | hr3
          · cases hr3
          · have pe : p.isEmpty = false := by
              cases p with
              | nil => exact absurd rfl hr3
              | cons a p => rfl
            rw [pe] at gn
            simp [ev.eq_1, ev.eq_2, ev.eq_3, ev.eq_4, ev.eq_5, ev.eq_6, ev.eq_7, ev.eq_8, ev.eq_9, ev.eq_10, ev.eq_11, ev.eq_12, ev.eq_13, ev.eq_14, ev.eq_15, ev.eq_16, ev.eq_17, ev.eq_18, ev.eq_19, ev.eq_20, ev.eq_21, ev.eq_22, ev.eq_23, ev.eq_24, ev.eq_25, ev.eq_26, ev.eq_27, ev.eq_28, ev.eq_29, ev.eq_30, ev.eq_31, ev.eq_33, ev.eq_35, ev.eq_36, ev.eq_37, ev.eq_38, ev.eq_39, ev.eq_40, ev.eq_41, ev.eq_42, ev.eq_43, ev.eq_44, ev.eq_45, cx_cf, cx_cm, cx_gl, cx_dc, cx_ci, evSs, evS, evT, evs, evSrc, evo, gt, st, d_sh, d_fr, isB, isI, Out.bind_ok, Out.bindB_ok, Out.chk_ok, Out.of_some, isd, gn, ln, big])]
      simp [Fl.res, dueD, ps_nil]
  | ok s u =>
    rw [hd] at hr
    have hr : rd t [] none = .inr ([], some s) := hr
    rw [hr] at lp
    obtain ⟨b1, y3, y4, y5, e⟩ := lp
    rw [evSs_nx (ρ' := rEnv t [] (some s) y3 y4 y5) (S' := S) (by rw [hfor]; exact e)]
    have gn := g_ne (Γ := cx T f) (t := t) (p := []) (d := some s) (x3 := y3) (x4 := y4) (x5 := y5) (S := S) (by simp)
    have isd := is_done (d := some s)
    rw [evSs_nx (ρ' := rEnv t [] (some s) y3 y4 y5) (S' := S) (by
      unfold rEnv at gn ⊢
      simp [ev.eq_1, ev.eq_2, ev.eq_3, ev.eq_4, ev.eq_5, ev.eq_6, ev.eq_7, ev.eq_8, ev.eq_9, ev.eq_10, ev.eq_11, ev.eq_12, ev.eq_13, ev.eq_14, ev.eq_15, ev.eq_16, ev.eq_17, ev.eq_18, ev.eq_19, ev.eq_20, ev.eq_21, ev.eq_22, ev.eq_23, ev.eq_24, ev.eq_25, ev.eq_26, ev.eq_27, ev.eq_28, ev.eq_29, ev.eq_30, ev.eq_31, ev.eq_33, ev.eq_35, ev.eq_36, ev.eq_37, ev.eq_38, ev.eq_39, ev.eq_40, ev.eq_41, ev.eq_42, ev.eq_43, ev.eq_44, ev.eq_45, cx_cf, cx_cm, cx_gl, cx_dc, cx_ci, evSs, evS, evT, evs, evSrc, evo, gt, st, d_sh, d_fr, isB, isI, Out.bind_ok, Out.bindB_ok, Out.chk_ok, Out.of_some, isd, gn])]
    simp [evSs, evS, ev, evs, rEnv, gt, d_sh, big, Fl.res, dueD, doneD]
theorem excSub_same (c : Str) : excSub c c = true := by simp [excSub]
theorem ok_told (P : BRight T) {f : Nat} (hl : t.length ≤ 60) (hf : t.length < f) (S : Store) : callF T (f + 3) "_law_told" [.str t] S = .ok (.sh (dueD t (rdF t))) S := by
  have e := ok_readX P.toPReadX (t := t) (by omega) hf S
  rw [call_eq P.l_told rfl]
  simp only [fn__law_told, List.map_cons, List.map_nil, List.cons_append, List.nil_append, List.replicate, Nat.reduceSub]
  cases hd : rdF t with
  | no u =>
    rw [hd] at e
    simp only [rdRes] at e
    have ex : excSub "NoSentence" "NoSentence" = true := excSub_same _
    simp [evSs, evS, Hd.known, cx_xc, P.x_NoSentence, b1__law_told, ev, evs, gt, d_sh, e, evH, ex, slIn, Fl.res, dueD]
  | ok s u =>
    rw [hd] at e
    simp only [rdRes] at e
    simp [evSs, evS, Hd.known, cx_xc, P.x_NoSentence, b1__law_told, ev, evs, gt, d_sh, e, big, Fl.res, dueD]
theorem ok_refused (P : BRight T) {f : Nat} (hl : t.length ≤ 60) (hf : t.length < f) {u : List Nat} (hd : rdF t = .no u) (S : Store) : callF T (f + 3) "_law_refused_by_any" [.str t] S = .ok (.sh (.bl true)) S := by
  have e := ok_readX P.toPReadX (t := t) (by omega) hf S
  rw [hd] at e
  simp only [rdRes] at e
  rw [call_eq P.l_refused_by_any rfl]
  simp only [fn__law_refused_by_any, List.map_cons, List.map_nil, List.cons_append, List.nil_append, List.replicate, Nat.reduceSub]
  have ex : excSub "NoSentence" "TalkError" = true := by simp [excSub]
  have e1 : excSub "NoSentence" "NoBook" = false := by simp [excSub, xne_ValueError, xne_TalkError, xne_StrangeLetter, xne_BadWord, xne_NoStanding, xne_TalkOver, xne_NothingSaid, xne_NoLetter, xne_NoWorld, xne_BadName, xne_NameTaken, xne_NoTalk, xne_NoBook, xne_NoSentence]
  have e2 : excSub "NoSentence" "StrangeLetter" = false := by simp [excSub, xne_ValueError, xne_TalkError, xne_StrangeLetter, xne_BadWord, xne_NoStanding, xne_TalkOver, xne_NothingSaid, xne_NoLetter, xne_NoWorld, xne_BadName, xne_NameTaken, xne_NoTalk, xne_NoBook, xne_NoSentence]
  rw [evSs_rt (v := .sh (.bl true)) (ρ' := [.v (.str t), .no]) (S' := S) (by
    simp [evS, evSs, Hd.known, cx_xc, P.x_TalkError, b1__law_refused_by_any, ev, evs, gt, d_sh, e, evH, ex, slIn, noSl, outSu, st, b2__law_refused_by_any, P.x_NoBook, P.x_StrangeLetter, e1, e2, xne_ValueError, xne_TalkError, xne_StrangeLetter, xne_BadWord, xne_NoStanding, xne_TalkOver, xne_NothingSaid, xne_NoLetter, xne_NoWorld, xne_BadName, xne_NameTaken, xne_NoTalk, xne_NoBook, xne_NoSentence, isB])]
  rfl
theorem ok_right (P : BRight T) {f : Nat} (hl : t.length ≤ 60) (hf : 62 < f) (S : Store) : callF T (f + 4) "_law_right" [.str t] S = .ok (.sh (.bl true)) S := by
  have e1 := ok_reading P.l_reading (f + 2) hl S
  have e2 := ok_told P (f := f) hl (by omega) S
  rw [call_eq P.l_right rfl]
  simp only [fn__law_right, List.map_cons, List.map_nil, List.cons_append, List.nil_append, List.replicate, Nat.reduceSub]
  rw [evSs_nx (ρ' := [.v (.str t), .v (dueD t (rdF t)), .no]) (S' := S) (by simp [evS, ev, evs, gt, st, d_sh, e1])]
  rw [evSs_nx (ρ' := [.v (.str t), .v (dueD t (rdF t)), .v (dueD t (rdF t))]) (S' := S) (by simp [evS, ev, evs, gt, st, d_sh, e2])]
  cases hd : rdF t with
  | no u =>
    have e3 := ok_refused P (f := f) hl (by omega) hd S
    have e4 := ok_whole P.l_whole (f + 2) (ps t u : Nat) S
    simp [evSs, evS, evT, ev, evs, gt, d_sh, dueD, i2_0, i2_1, i_nn, isB, e3, e4, c_eqI, Fl.res]
  | ok s u =>
    obtain ⟨r1, r2⟩ := rdF_sen hd
    have e3 := ok_tree_is P.l_tree_is P.l_whole s (f + 3) S (by omega)
    have i0 := i_sn s
    simp [evSs, evS, evT, ev, evs, gt, d_sh, dueD, i2_0, i2_1, i0, isB, e3, c_eqI, Fl.res]
end
end Ht

set_option linter.all false
set_option maxRecDepth 100000
set_option maxHeartbeats 400000
namespace Ht
open PySem
def b1_law : List CS := [
    .ite (.e (.cmp .Eq (.bin .Mod (.slot 6) (.int 12)) (.int 0))) [
      .asg false 5 (.call "_law_num" [(.slot 0), (.bin .Add (.int 1) (.bin .FloorDiv (.slot 6) (.int 12)))])] [],
    .asg false 7 (.bin .Mod (.slot 5) (.int 32)),
    .asg false 5 (.bin .FloorDiv (.slot 5) (.int 32)),
    .ite (.e (.cmp .Eq (.slot 7) (.int 31))) [
      .asg false 4 (.bin .Add (.slot 4) (.idx (.slot 2) (.bin .Mod (.bin .Add (.slot 5) (.slot 6)) (.len (.slot 2)))))] [
      .asg false 4 (.bin .Add (.slot 4) (.idx (.slot 1) (.slot 7)))]]
def fn_law : Fn := ⟨1, 8, [
  .asg false 1 (.str " abcdef-()&|>=ab((--abc(&|>=)))"),
  .asg false 2 (.str "!\"#$'*+,./0123456789:;<?@ABCDEFGHIJKLMNOPQRSTUVWXYZ[\\]^_`ghijklmnopqrstuvwxyz{}~"),
  .asg false 3 (.bin .Mod (.call "_law_num" [(.slot 0), (.int 0)]) (.int 61)),
  .ite (.e (.cmp .Eq (.bin .Mod (.bin .FloorDiv (.call "_law_num" [(.slot 0), (.int 0)]) (.int 61)) (.int 2)) (.int 1))) [
    .asg false 3 (.bin .Mod (.slot 3) (.int 8))] [],
  .asg false 4 (.str ""),
  .asg false 5 (.int 0),
  .for1 6 (.rng1 (.slot 3)) b1_law,
  .ret (.call "_law_right" [(.slot 4)])]⟩
structure B05 (T : Tab) : Prop extends BRight T where
  l_num : T.fn "_law_num" = some fn__law_num
  law : T.fn "law" = some fn_law
def sMenu : List Nat := (Str.ofString " abcdef-()&|>=ab((--abc(&|>=)))").cps.toList
def sOthers : List Nat := (Str.ofString "!\"#$'*+,./0123456789:;<?@ABCDEFGHIJKLMNOPQRSTUVWXYZ[\\]^_`ghijklmnopqrstuvwxyz{}~").cps.toList
theorem menu_len : sMenu.length = 31 := by decide +kernel
theorem others_len : 0 < sOthers.length ∧ sOthers.length ≤ 1000 := by decide +kernel
theorem idx_any {t : List Nat} {i : Int} (hl : t.length ≤ 1000) (h0 : 0 ≤ i) (h1 : i < t.length) : ∃ c, idxD (.str t) (.int i) = some (.str [c]) := by
  obtain ⟨k, rfl⟩ := Int.eq_ofNat_of_zero_le h0
  have hk : k < t.length := by omega
  exact ⟨t[k], idx_str (List.getElem?_eq_getElem hk) hl⟩
theorem add_str {s t : List Nat} (h : s.length + t.length ≤ 16777216) : binD .Add (.str s) (.str t) = some (.sh (.str (s ++ t))) := by
  have h' : s.length + t.length ≤ big := h
  simp only [binD]
  rw [if_pos h']
section
variable {T : Tab}
theorem txt_turn (hnum : T.fn "_law_num" = some fn__law_num) (f : Nat) (ns : List Int) (k : Nat) (w : List Nat) (hw : w.length ≤ 1000) (z : Int) (x7 : Sl) (n : Int) (hn : 0 ≤ n) (S : Store) :
    ∃ c n' y7, 0 ≤ n' ∧ evSs (cx T (f + 1)) b1_law [.v (.scr ns), .v (.str sMenu), .v (.str sOthers), .v (.int z), .v (.str w), .v (.int n), .v (.int k), x7] S = .ok .nx [.v (.scr ns), .v (.str sMenu), .v (.str sOthers), .v (.int z), .v (.str (w ++ [c])), .v (.int n'), .v (.int k), y7] S := by
  have en := ok_num hnum f ns (1 + (k : Int) / 12) (by omega) S
  have hnn := lawNum_nonneg ns (1 + (k : Int) / 12)
  obtain ⟨m, hm, e1⟩ : ∃ m : Int, 0 ≤ m ∧ evS (cx T (f + 1)) (.ite (.e (.cmp .Eq (.bin .Mod (.slot 6) (.int 12)) (.int 0))) [.asg false 5 (.call "_law_num" [(.slot 0), (.bin .Add (.int 1) (.bin .FloorDiv (.slot 6) (.int 12)))])] []) [.v (.scr ns), .v (.str sMenu), .v (.str sOthers), .v (.int z), .v (.str w), .v (.int n), .v (.int k), x7] S = .ok .nx [.v (.scr ns), .v (.str sMenu), .v (.str sOthers), .v (.int z), .v (.str w), .v (.int m), .v (.int k), x7] S := by
    by_cases c : (k : Int) % 12 = 0
    · exact ⟨_, hnn, by simp [evS, evSs, evT, ev, evs, gt, st, d_sh, binD, c_eqI, c, isB, en]⟩
    · exact ⟨n, hn, by simp [evS, evSs, evT, ev, evs, gt, st, d_sh, binD, c_eqI, c, isB]⟩
  unfold b1_law
  rw [evSs_nx e1]
  have h0 : 0 ≤ m % 32 := by omega
  have h1 : m % 32 < 32 := by omega
  have h2 : 0 ≤ m / 32 := by omega
  rw [evSs_nx (ρ' := [.v (.scr ns), .v (.str sMenu), .v (.str sOthers), .v (.int z), .v (.str w), .v (.int m), .v (.int k), .v (.int (m % 32))]) (S' := S) (by simp [evS, ev, gt, st, d_sh, binD])]
  rw [evSs_nx (ρ' := [.v (.scr ns), .v (.str sMenu), .v (.str sOthers), .v (.int z), .v (.str w), .v (.int (m / 32)), .v (.int k), .v (.int (m % 32))]) (S' := S) (by simp [evS, ev, gt, st, d_sh, binD])]
  generalize m / 32 = q at *
  generalize m % 32 = g at *
  have lo := others_len
  have lno := len_str (t := sOthers) lo.2
  by_cases c : g = 31
  · have hlt : (q + k) % (sOthers.length : Int) < sOthers.length := Int.emod_lt_of_pos _ (by omega)
    have hge : 0 ≤ (q + k) % (sOthers.length : Int) := Int.emod_nonneg _ (by omega)
    obtain ⟨cc, hc⟩ := idx_any lo.2 hge hlt
    refine ⟨cc, q, .v (.int g), h2, ?_⟩
    have ad := add_str (s := w) (t := [cc]) (by simp; omega)
    have md : binD .Mod (.int (q + k)) (.int (sOthers.length : Nat)) = some (.sh (.int ((q + k) % (sOthers.length : Int)))) := by
      simp only [binD]
      rw [if_pos (by omega)]
    have ad2 : binD .Add (.int q) (.int k) = some (.sh (.int (q + k))) := rfl
    simp [evSs, evS, evT, ev, gt, st, d_sh, c_eqI, c, isB, lno, ad2, md, hc, ad]
  · have lm := menu_len
    obtain ⟨cc, hc⟩ := idx_any (t := sMenu) (i := g) (by omega) h0 (by omega)
    refine ⟨cc, q, .v (.int g), h2, ?_⟩
    have ad := add_str (s := w) (t := [cc]) (by simp; omega)
    simp [evSs, evS, evT, ev, gt, st, d_sh, c_eqI, c, isB, hc, ad]
theorem txt_loop (hnum : T.fn "_law_num" = some fn__law_num) (f : Nat) (ns : List Int) (z : Int) (S : Store) : ∀ (l : List Nat) (w : List Nat) (x6 x7 : Sl) (n : Int), w.length + l.length ≤ 1000 → 0 ≤ n → ∃ w' n' y6 y7, w'.length = w.length + l.length ∧ loopS (fun d ρ S => evSs (cx T (f + 1)) b1_law (st ρ 6 (.v d)) S) (l.map fun k : Nat => D.int k) [.v (.scr ns), .v (.str sMenu), .v (.str sOthers), .v (.int z), .v (.str w), .v (.int n), x6, x7] S = .ok .nx [.v (.scr ns), .v (.str sMenu), .v (.str sOthers), .v (.int z), .v (.str w'), .v (.int n'), y6, y7] S
  | [], w, x6, x7, n, _, _ => ⟨w, n, x6, x7, rfl, rfl⟩
  | k :: l, w, x6, x7, n, hl, hn => by
    simp only [List.length_cons] at hl
    obtain ⟨c, n1, y7, h1, e1⟩ := txt_turn hnum f ns k w (by omega) z x7 n hn S
    obtain ⟨w', n', y6, y7', h2, e2⟩ := txt_loop hnum f ns z S l (w ++ [c]) (.v (.int k)) y7 n1 (by simp; omega) h1
    refine ⟨w', n', y6, y7', ?_, ?_⟩
    · rw [h2]
      simp
      omega
    · rw [List.map_cons, loop_nx (ρ' := [.v (.scr ns), .v (.str sMenu), .v (.str sOthers), .v (.int z), .v (.str (w ++ [c])), .v (.int n1), .v (.int k), y7]) (S' := S) (by simpa [st] using e1)]
      exact e2
theorem law_k05 (B : B05 T) (ns : List Int) (h : ns.length ≤ 63) : ∃ S, callF T 72 "law" [.scr ns] [] = .ok (.sh (.bl true)) S := by
  refine ⟨[], ?_⟩
  have en := ok_num B.l_num 70 ns 0 (by omega) []
  have hnn := lawNum_nonneg ns 0
  rw [call_eq B.law rfl]
  simp only [fn_law, List.map_cons, List.map_nil, List.cons_append, List.nil_append, List.replicate, Nat.reduceSub]
  rw [evSs_nx (ρ' := [.v (.scr ns), .v (.str sMenu), .no, .no, .no, .no, .no, .no]) (S' := []) (by simp [evS, ev, gt, st, d_sh, sMenu])]
  rw [evSs_nx (ρ' := [.v (.scr ns), .v (.str sMenu), .v (.str sOthers), .no, .no, .no, .no, .no]) (S' := []) (by simp [evS, ev, gt, st, d_sh, sOthers])]
  generalize lawNum ns 0 = m at *
  rw [evSs_nx (ρ' := [.v (.scr ns), .v (.str sMenu), .v (.str sOthers), .v (.int (m % 61)), .no, .no, .no, .no]) (S' := []) (by simp [evS, ev, evs, gt, st, d_sh, en, binD])]
  obtain ⟨z, hz0, hz1, e1⟩ : ∃ z : Int, 0 ≤ z ∧ z ≤ 60 ∧ evS (cx T 71) (.ite (.e (.cmp .Eq (.bin .Mod (.bin .FloorDiv (.call "_law_num" [(.slot 0), (.int 0)]) (.int 61)) (.int 2)) (.int 1))) [.asg false 3 (.bin .Mod (.slot 3) (.int 8))] []) [.v (.scr ns), .v (.str sMenu), .v (.str sOthers), .v (.int (m % 61)), .no, .no, .no, .no] [] = .ok .nx [.v (.scr ns), .v (.str sMenu), .v (.str sOthers), .v (.int z), .no, .no, .no, .no] [] := by
    by_cases c : m / 61 % 2 = 1
    · exact ⟨m % 61 % 8, by omega, by omega, by simp [evS, evSs, evT, ev, evs, gt, st, d_sh, en, binD, c_eqI, c, isB]⟩
    · exact ⟨m % 61, by omega, by omega, by simp [evS, evSs, evT, ev, evs, gt, st, d_sh, en, binD, c_eqI, c, isB]⟩
  rw [evSs_nx e1]
  obtain ⟨q, rfl⟩ := Int.eq_ofNat_of_zero_le hz0
  rw [evSs_nx (ρ' := [.v (.scr ns), .v (.str sMenu), .v (.str sOthers), .v (.int q), .v (.str []), .no, .no, .no]) (S' := []) (by simp [evS, ev, gt, st, d_sh]; decide +kernel)]
  rw [evSs_nx (ρ' := [.v (.scr ns), .v (.str sMenu), .v (.str sOthers), .v (.int q), .v (.str []), .v (.int 0), .no, .no]) (S' := []) (by simp [evS, ev, gt, st, d_sh])]
  obtain ⟨w, n', y6, y7, hw, e2⟩ := txt_loop B.l_num 70 ns q [] (List.range q) [] .no .no 0 (by simp; omega) (Int.le_refl _)
  rw [evSs_nx (ρ' := [.v (.scr ns), .v (.str sMenu), .v (.str sOthers), .v (.int q), .v (.str w), .v (.int n'), y6, y7]) (S' := []) (by
    rw [for1_eq (ρ' := [.v (.scr ns), .v (.str sMenu), .v (.str sOthers), .v (.int q), .v (.str []), .v (.int 0), .no, .no]) (S' := []) (src_rng1 (x := .sh (.int q)) (by simp [ev, gt]) (rng_len60 q (by omega)))]
    simp only [Int.zero_add]
    exact e2)]
  have hw2 : w.length ≤ 60 := by
    rw [hw]
    simp
    omega
  have e3 := ok_right B.toBRight (f := 67) hw2 (by omega) []
  simp [evSs, evS, ev, evs, gt, d_sh, e3, Fl.res]
end
end Ht

namespace Gk
open PySem L2 Ht
def topS (i : Nat) : Stmt := PySem.Challenge.pw_holdtalk_k05_whole_any_text_read.main.body.getD i (.Pass ⟨0, 0, 0, 0⟩)
def tab : List (Str × Fn) := (("past_blanks" : Str), fn_past_blanks) :: (("sign_at" : Str), fn_sign_at) :: (("part_from" : Str), fn_part_from) :: (("read" : Str), fn_read) :: (("_law_num" : Str), fn__law_num) :: (("_law_whole" : Str), fn__law_whole) :: (("_law_tree_is" : Str), fn__law_tree_is) :: (("_law_reading" : Str), fn__law_reading) :: (("_law_told" : Str), fn__law_told) :: (("_law_refused_by_any" : Str), fn__law_refused_by_any) :: (("_law_right" : Str), fn__law_right) :: (("law" : Str), fn_law) :: []
def mtab : List (Str × Str × Fn) := []
def gtab : List (Str × D) := [("LETTERS", .str [97, 98, 99, 100, 101])]
def dtab : List (Str × List (List Nat × D)) := [("JOINTS", [([38], .str [97, 110, 100]), ([124], .str [111, 114]), ([62], .str [105, 102]), ([61], .str [115, 97, 109, 101])])]
def xtab : List (Str × Nat) := [("TalkError", 0), ("NoSentence", 2), ("StrangeLetter", 1), ("NoBook", 2)]
def T : Tab := ⟨lk tab, glk gtab, dlkT dtab, mlk mtab, xlk xtab⟩
theorem x_TalkError : T.xc "TalkError" = some 0 := by rfl
theorem x_NoSentence : T.xc "NoSentence" = some 2 := by rfl
theorem x_StrangeLetter : T.xc "StrangeLetter" = some 1 := by rfl
theorem x_NoBook : T.xc "NoBook" = some 2 := by rfl
theorem d_JOINTS : T.dc "JOINTS" = some [([38], .str [97, 110, 100]), ([124], .str [111, 114]), ([62], .str [105, 102]), ([61], .str [115, 97, 109, 101])] := by rfl
theorem g_LETTERS : T.gl "LETTERS" = some (.str [97, 98, 99, 100, 101]) := by rfl
theorem t_past_blanks : T.fn "past_blanks" = some fn_past_blanks := by rfl
theorem e_past_blanks : fn_past_blanks = convF ["text", "at"] [] 2 (topS 8) := by rfl
theorem sc_past_blanks : FnScope ["text", "at"] ["text", "at"] (defScope (topS 8)) := ⟨rfl, rfl, rfl, by decide +kernel, rfl, by decide +kernel, by decide +kernel⟩
theorem b_past_blanks : ∀ (kV doc pm : Value) (an : Option Addr) (cdv ct : Value) (us : List Value), us.length = 2 → bindArgs (PySem.W.fnOf "past_blanks" "past_blanks" (defArgs (topS 8)) (defBody (topS 8)) (defScope (topS 8)) .none kV doc pm an cdv ct) ⟨us, []⟩ = pure ((["text", "at"] : List Str).zip us) := fun _ _ _ _ _ _ us hl => match us, hl with | [_, _], _ => rfl
theorem t_sign_at : T.fn "sign_at" = some fn_sign_at := by rfl
theorem e_sign_at : fn_sign_at = convF ["text", "at"] [] 2 (topS 9) := by rfl
theorem sc_sign_at : FnScope ["text", "at"] ["text", "at"] (defScope (topS 9)) := ⟨rfl, rfl, rfl, by decide +kernel, rfl, by decide +kernel, by decide +kernel⟩
theorem b_sign_at : ∀ (kV doc pm : Value) (an : Option Addr) (cdv ct : Value) (us : List Value), us.length = 2 → bindArgs (PySem.W.fnOf "sign_at" "sign_at" (defArgs (topS 9)) (defBody (topS 9)) (defScope (topS 9)) .none kV doc pm an cdv ct) ⟨us, []⟩ = pure ((["text", "at"] : List Str).zip us) := fun _ _ _ _ _ _ us hl => match us, hl with | [_, _], _ => rfl
theorem t_part_from : T.fn "part_from" = some fn_part_from := by rfl
theorem e_part_from : fn_part_from = convF ["text", "start", "at", "sign", "inner", "behind", "left", "right"] [] 2 (topS 10) := by rfl
theorem sc_part_from : FnScope ["text", "start", "at", "sign", "inner", "behind", "left", "right"] ["text", "start"] (defScope (topS 10)) := ⟨rfl, rfl, rfl, by decide +kernel, rfl, by decide +kernel, by decide +kernel⟩
theorem b_part_from : ∀ (kV doc pm : Value) (an : Option Addr) (cdv ct : Value) (us : List Value), us.length = 2 → bindArgs (PySem.W.fnOf "part_from" "part_from" (defArgs (topS 10)) (defBody (topS 10)) (defScope (topS 10)) .none kV doc pm an cdv ct) ⟨us, []⟩ = pure ((["text", "start"] : List Str).zip us) := fun _ _ _ _ _ _ us hl => match us, hl with | [_, _], _ => rfl
theorem t_read : T.fn "read" = some fn_read := by rfl
theorem e_read : fn_read = convF ["text", "sentence", "behind", "at"] [] 1 (topS 11) := by rfl
theorem sc_read : FnScope ["text", "sentence", "behind", "at"] ["text"] (defScope (topS 11)) := ⟨rfl, rfl, rfl, by decide +kernel, rfl, by decide +kernel, by decide +kernel⟩
theorem b_read : ∀ (kV doc pm : Value) (an : Option Addr) (cdv ct : Value) (us : List Value), us.length = 1 → bindArgs (PySem.W.fnOf "read" "read" (defArgs (topS 11)) (defBody (topS 11)) (defScope (topS 11)) .none kV doc pm an cdv ct) ⟨us, []⟩ = pure ((["text"] : List Str).zip us) := fun _ _ _ _ _ _ us hl => match us, hl with | [_], _ => rfl
theorem t__law_num : T.fn "_law_num" = some fn__law_num := by rfl
theorem e__law_num : fn__law_num = convF ["_law_script", "_law_k", "_law_cell", "_law_one", "_law_two"] [] 2 (topS 13) := by rfl
theorem sc__law_num : FnScope ["_law_script", "_law_k", "_law_cell", "_law_one", "_law_two"] ["_law_script", "_law_k"] (defScope (topS 13)) := ⟨rfl, rfl, rfl, by decide +kernel, rfl, by decide +kernel, by decide +kernel⟩
theorem b__law_num : ∀ (kV doc pm : Value) (an : Option Addr) (cdv ct : Value) (us : List Value), us.length = 2 → bindArgs (PySem.W.fnOf "_law_num" "_law_num" (defArgs (topS 13)) (defBody (topS 13)) (defScope (topS 13)) .none kV doc pm an cdv ct) ⟨us, []⟩ = pure ((["_law_script", "_law_k"] : List Str).zip us) := fun _ _ _ _ _ _ us hl => match us, hl with | [_, _], _ => rfl
theorem t__law_whole : T.fn "_law_whole" = some fn__law_whole := by rfl
theorem e__law_whole : fn__law_whole = convF ["_law_found"] [] 1 (topS 15) := by rfl
theorem sc__law_whole : FnScope ["_law_found"] ["_law_found"] (defScope (topS 15)) := ⟨rfl, rfl, rfl, by decide +kernel, rfl, by decide +kernel, by decide +kernel⟩
theorem b__law_whole : ∀ (kV doc pm : Value) (an : Option Addr) (cdv ct : Value) (us : List Value), us.length = 1 → bindArgs (PySem.W.fnOf "_law_whole" "_law_whole" (defArgs (topS 15)) (defBody (topS 15)) (defScope (topS 15)) .none kV doc pm an cdv ct) ⟨us, []⟩ = pure ((["_law_found"] : List Str).zip us) := fun _ _ _ _ _ _ us hl => match us, hl with | [_], _ => rfl
theorem t__law_tree_is : T.fn "_law_tree_is" = some fn__law_tree_is := by rfl
theorem e__law_tree_is : fn__law_tree_is = convF ["_law_found", "_law_due", "_law_k"] [] 2 (topS 16) := by rfl
theorem sc__law_tree_is : FnScope ["_law_found", "_law_due", "_law_k"] ["_law_found", "_law_due"] (defScope (topS 16)) := ⟨rfl, rfl, rfl, by decide +kernel, rfl, by decide +kernel, by decide +kernel⟩
theorem b__law_tree_is : ∀ (kV doc pm : Value) (an : Option Addr) (cdv ct : Value) (us : List Value), us.length = 2 → bindArgs (PySem.W.fnOf "_law_tree_is" "_law_tree_is" (defArgs (topS 16)) (defBody (topS 16)) (defScope (topS 16)) .none kV doc pm an cdv ct) ⟨us, []⟩ = pure ((["_law_found", "_law_due"] : List Str).zip us) := fun _ _ _ _ _ _ us hl => match us, hl with | [_, _], _ => rfl
theorem t__law_reading : T.fn "_law_reading" = some fn__law_reading := by rfl
theorem e__law_reading : fn__law_reading = convF ["_law_text", "_law_pile", "_law_done", "_law_at", "_law_sign", "_law_joint"] [1] 1 (topS 17) := by rfl
theorem sc__law_reading : FnScope ["_law_text", "_law_pile", "_law_done", "_law_at", "_law_sign", "_law_joint"] ["_law_text"] (defScope (topS 17)) := ⟨rfl, rfl, rfl, by decide +kernel, rfl, by decide +kernel, by decide +kernel⟩
theorem b__law_reading : ∀ (kV doc pm : Value) (an : Option Addr) (cdv ct : Value) (us : List Value), us.length = 1 → bindArgs (PySem.W.fnOf "_law_reading" "_law_reading" (defArgs (topS 17)) (defBody (topS 17)) (defScope (topS 17)) .none kV doc pm an cdv ct) ⟨us, []⟩ = pure ((["_law_text"] : List Str).zip us) := fun _ _ _ _ _ _ us hl => match us, hl with | [_], _ => rfl
theorem t__law_told : T.fn "_law_told" = some fn__law_told := by rfl
theorem e__law_told : fn__law_told = convF ["_law_text", "e"] [] 1 (topS 18) := by rfl
theorem sc__law_told : FnScope ["_law_text", "e"] ["_law_text"] (defScope (topS 18)) := ⟨rfl, rfl, rfl, by decide +kernel, rfl, by decide +kernel, by decide +kernel⟩
theorem b__law_told : ∀ (kV doc pm : Value) (an : Option Addr) (cdv ct : Value) (us : List Value), us.length = 1 → bindArgs (PySem.W.fnOf "_law_told" "_law_told" (defArgs (topS 18)) (defBody (topS 18)) (defScope (topS 18)) .none kV doc pm an cdv ct) ⟨us, []⟩ = pure ((["_law_text"] : List Str).zip us) := fun _ _ _ _ _ _ us hl => match us, hl with | [_], _ => rfl
theorem t__law_refused_by_any : T.fn "_law_refused_by_any" = some fn__law_refused_by_any := by rfl
theorem e__law_refused_by_any : fn__law_refused_by_any = convF ["_law_text", "e"] [] 1 (topS 19) := by rfl
theorem sc__law_refused_by_any : FnScope ["_law_text", "e"] ["_law_text"] (defScope (topS 19)) := ⟨rfl, rfl, rfl, by decide +kernel, rfl, by decide +kernel, by decide +kernel⟩
theorem b__law_refused_by_any : ∀ (kV doc pm : Value) (an : Option Addr) (cdv ct : Value) (us : List Value), us.length = 1 → bindArgs (PySem.W.fnOf "_law_refused_by_any" "_law_refused_by_any" (defArgs (topS 19)) (defBody (topS 19)) (defScope (topS 19)) .none kV doc pm an cdv ct) ⟨us, []⟩ = pure ((["_law_text"] : List Str).zip us) := fun _ _ _ _ _ _ us hl => match us, hl with | [_], _ => rfl
theorem t__law_right : T.fn "_law_right" = some fn__law_right := by rfl
theorem e__law_right : fn__law_right = convF ["_law_text", "_law_due", "_law_found"] [] 1 (topS 20) := by rfl
theorem sc__law_right : FnScope ["_law_text", "_law_due", "_law_found"] ["_law_text"] (defScope (topS 20)) := ⟨rfl, rfl, rfl, by decide +kernel, rfl, by decide +kernel, by decide +kernel⟩
theorem b__law_right : ∀ (kV doc pm : Value) (an : Option Addr) (cdv ct : Value) (us : List Value), us.length = 1 → bindArgs (PySem.W.fnOf "_law_right" "_law_right" (defArgs (topS 20)) (defBody (topS 20)) (defScope (topS 20)) .none kV doc pm an cdv ct) ⟨us, []⟩ = pure ((["_law_text"] : List Str).zip us) := fun _ _ _ _ _ _ us hl => match us, hl with | [_], _ => rfl
theorem t_law : T.fn "law" = some fn_law := by rfl
theorem e_law : fn_law = convF ["_law_script", "_law_menu", "_law_others", "_law_size", "_law_text", "_law_n", "_law_k", "_law_digit"] [] 1 (topS 21) := by rfl
theorem sc_law : FnScope ["_law_script", "_law_menu", "_law_others", "_law_size", "_law_text", "_law_n", "_law_k", "_law_digit"] ["_law_script"] (defScope (topS 21)) := ⟨rfl, rfl, rfl, by decide +kernel, rfl, by decide +kernel, by decide +kernel⟩
theorem b_law : ∀ (kV doc pm : Value) (an : Option Addr) (cdv ct : Value) (us : List Value), us.length = 1 → bindArgs (PySem.W.fnOf "law" "law" (defArgs (topS 21)) (defBody (topS 21)) (defScope (topS 21)) .none kV doc pm an cdv ct) ⟨us, []⟩ = pure ((["_law_script"] : List Str).zip us) := fun _ _ _ _ _ _ us hl => match us, hl with | [_], _ => rfl
theorem bun : B05 T := { past_blanks := t_past_blanks, sign_at := t_sign_at, part_from := t_part_from, read := t_read, g_LETTERS := g_LETTERS, d_JOINTS := d_JOINTS, x_NoSentence := x_NoSentence, l_reading := t__law_reading, l_told := t__law_told, l_refused_by_any := t__law_refused_by_any, l_right := t__law_right, l_whole := t__law_whole, l_tree_is := t__law_tree_is, x_TalkError := x_TalkError, x_NoBook := x_NoBook, x_StrangeLetter := x_StrangeLetter, l_num := t__law_num, law := t_law }
theorem law_true (ns : List Int) (h : ns.length ≤ 63) : ∃ S, callF T 72 "law" [.scr ns] [] = .ok (.sh (.bl true)) S := law_k05 bun ns h
end Gk
open PySem PySem.W PyProof.Rows
set_option maxHeartbeats 0 in
theorem PySem.Challenge.cw_holdtalk_k05_whole_any_text_read_holds : PySem.Challenge.rw_holdtalk_k05_whole_any_text_read.Holds := by
  w_on; o_law; k_head; (case hw => w_witness2)
  k_fill
  refine L2.walk_of (l := PySem.Challenge.rw_holdtalk_k05_whole_any_text_read) (n := 63) (k := 72) (x := "_law_script") (CX := fun _ => L2.CX0) (sp := fun w => Ht.spLaw _ 63) rfl (by decide) rfl ⟨rfl, by decide, by decide⟩ (fun w h Y => PySem.W.kIn_of Y) ?F (fun _ _ a ns hl ho hS => Ht.sp_of hl ho hS) (fun _ _ _ _ _ h => h)
  case F =>
    intro w mg fa h KX G hmg
    refine' Ht.law_mk KX G hmg ?hT Gk.law_true Gk.sc_law (Gk.t_law.trans (congrArg some Gk.e_law)) (fun _ _ _ _ _ _ u => rfl) ?a ?l ?c ?k
    (case a => k_is); (case l => k_is); (case c => k_is); (case k => k_is)
    case hT =>
      refine ⟨fun f fn hf => Ht.Facts.get ?fs hf, fun c m fn hf => Ht.MFacts.get ?ms hf, fun x d e => Ht.GFacts.get ?gs e, rfl, fun x d e => Ht.DFacts.get ?ds e, Ht.noBlt.none KX G ?nb, Ht.XOk.all KX G ?xo, Ht.XOk.pair ?xo, PySem.W.mg_none_of KX G ?xv⟩
      (case xv => k_is)
      case xo =>
        refine' ⟨[?_, ?_, ?_, ?_], [[true, false, false, false], [true, true, false, false], [true, false, true, false], [true, false, false, true]], ?xf, by decide, ?xp⟩
        case xf =>
          refine Ht.XFacts.cons ?_ ?_
          · refine' Ht.xrow_mk ?a1 ?a2 ?a3 ?a4 ?a5 ?a6 ?a7 ?a8 ?a9 ?b1 ?b2 ?b3 ?b4 ?b5
            (case a1 => k_is); (case a2 => k_is); (case a3 => k_is); (case a4 => k_is); (case a5 => k_is); (case a6 => k_is); (case a7 => k_is); (case a8 => k_is); (case a9 => k_is); (case b1 => k_is); (case b2 => k_is); (case b3 => k_is)
            (case b4 => intro z; cases z)
            (case b5 => intro z; cases z)
          refine Ht.XFacts.cons ?_ ?_
          · refine' Ht.xrow_mk ?a1 ?a2 ?a3 ?a4 ?a5 ?a6 ?a7 ?a8 ?a9 ?b1 ?b2 ?b3 ?b4 ?b5
            (case a1 => k_is); (case a2 => k_is); (case a3 => k_is); (case a4 => k_is); (case a5 => k_is); (case a6 => k_is); (case a7 => k_is); (case a8 => k_is); (case a9 => k_is); (case b1 => k_is); (case b2 => k_is); (case b3 => k_is)
            (case b4 => intro z; cases z)
            case b5 =>
              intro _
              refine' HtY.at_mk (qn := "NoSentence.__init__") ⟨6, 17, 6, 21⟩ ⟨6, 23, 6, 25⟩ ⟨7, 8, 7, 12⟩ ⟨7, 8, 7, 15⟩ ⟨7, 18, 7, 20⟩ ⟨7, 8, 7, 20⟩ ?d1 ?d2 ?d3 ?d4 ?d5 ?d6 ?d7 ?d8 ?d9 ?e1 ?e2 ?e3 ?e4 ?e5
              (case d1 => k_is); (case d2 => first | rfl | decide +kernel | k_is); (case d3 => k_is); (case d4 => k_is); (case d5 => k_is); (case d6 => k_is); (case d7 => k_is); (case d8 => k_is); (case d9 => k_is); (case e1 => k_is); (case e2 => k_is); (case e3 => k_is); (case e4 => k_is); (case e5 => k_is)
          refine Ht.XFacts.cons ?_ ?_
          · refine' Ht.xrow_mk ?a1 ?a2 ?a3 ?a4 ?a5 ?a6 ?a7 ?a8 ?a9 ?b1 ?b2 ?b3 ?b4 ?b5
            (case a1 => k_is); (case a2 => k_is); (case a3 => k_is); (case a4 => k_is); (case a5 => k_is); (case a6 => k_is); (case a7 => k_is); (case a8 => k_is); (case a9 => k_is); (case b1 => k_is); (case b2 => k_is); (case b3 => k_is)
            (case b4 => intro _; k_exc)
            (case b5 => intro z; cases z)
          refine Ht.XFacts.cons ?_ ?_
          · refine' Ht.xrow_mk ?a1 ?a2 ?a3 ?a4 ?a5 ?a6 ?a7 ?a8 ?a9 ?b1 ?b2 ?b3 ?b4 ?b5
            (case a1 => k_is); (case a2 => k_is); (case a3 => k_is); (case a4 => k_is); (case a5 => k_is); (case a6 => k_is); (case a7 => k_is); (case a8 => k_is); (case a9 => k_is); (case b1 => k_is); (case b2 => k_is); (case b3 => k_is)
            (case b4 => intro z; cases z)
            case b5 =>
              intro _
              refine' HtY.at_mk (qn := "NoBook.__init__") ⟨12, 17, 12, 21⟩ ⟨12, 23, 12, 25⟩ ⟨13, 8, 13, 12⟩ ⟨13, 8, 13, 15⟩ ⟨13, 18, 13, 20⟩ ⟨13, 8, 13, 20⟩ ?d1 ?d2 ?d3 ?d4 ?d5 ?d6 ?d7 ?d8 ?d9 ?e1 ?e2 ?e3 ?e4 ?e5
              (case d1 => k_is); (case d2 => first | rfl | decide +kernel | k_is); (case d3 => k_is); (case d4 => k_is); (case d5 => k_is); (case d6 => k_is); (case d7 => k_is); (case d8 => k_is); (case d9 => k_is); (case e1 => k_is); (case e2 => k_is); (case e3 => k_is); (case e4 => k_is); (case e5 => k_is)
          exact Ht.XFacts.nil
        case xp =>
          refine ⟨⟨?_, ?_, ?_, ?_, True.intro⟩, ⟨?_, ?_, ?_, ?_, True.intro⟩, ⟨?_, ?_, ?_, ?_, True.intro⟩, ⟨?_, ?_, ?_, ?_, True.intro⟩, True.intro⟩
          all_goals k_is
      case ds =>
        refine Ht.DFacts.cons ?_ ?_
        · refine' Ht.dc_mk KX G ?a ?l ?k ?s ?r ?v
          (case a => k_is); (case l => k_is); (case k => exact ⟨⟨_, _, rfl, rfl⟩, ⟨_, _, rfl, rfl⟩, ⟨_, _, rfl, rfl⟩, ⟨_, _, rfl, rfl⟩, trivial⟩); (case s => rfl); (case r => rfl); (case v => rfl)
        exact Ht.DFacts.nil
      case gs =>
        refine Ht.GFacts.cons ?_ ?_
        · refine' Ht.gl_str KX G ?a ?e
          (case a => k_is); (case e => decide +kernel)
        exact Ht.GFacts.nil
      case nb =>
        refine ⟨?_, ?_, ?_, ?_, ?_, ?_, ?_, ?_, ?_, ?_, ?_, ?_, ?_, ?_, ?_, ?_, True.intro⟩
        all_goals k_is
      case ms =>
        exact Ht.MFacts.nil
      case fs =>
        refine Ht.Facts.cons ?_ ?_
        · refine' Ht.fact_mk KX G Gk.sc_past_blanks Gk.e_past_blanks Gk.b_past_blanks ?a ?l ?c ?k
          (case a => k_is); (case l => k_is); (case c => k_is); (case k => k_is)
        refine Ht.Facts.cons ?_ ?_
        · refine' Ht.fact_mk KX G Gk.sc_sign_at Gk.e_sign_at Gk.b_sign_at ?a ?l ?c ?k
          (case a => k_is); (case l => k_is); (case c => k_is); (case k => k_is)
        refine Ht.Facts.cons ?_ ?_
        · refine' Ht.fact_mk KX G Gk.sc_part_from Gk.e_part_from Gk.b_part_from ?a ?l ?c ?k
          (case a => k_is); (case l => k_is); (case c => k_is); (case k => k_is)
        refine Ht.Facts.cons ?_ ?_
        · refine' Ht.fact_mk KX G Gk.sc_read Gk.e_read Gk.b_read ?a ?l ?c ?k
          (case a => k_is); (case l => k_is); (case c => k_is); (case k => k_is)
        refine Ht.Facts.cons ?_ ?_
        · refine' Ht.fact_mk KX G Gk.sc__law_num Gk.e__law_num Gk.b__law_num ?a ?l ?c ?k
          (case a => k_is); (case l => k_is); (case c => k_is); (case k => k_is)
        refine Ht.Facts.cons ?_ ?_
        · refine' Ht.fact_mk KX G Gk.sc__law_whole Gk.e__law_whole Gk.b__law_whole ?a ?l ?c ?k
          (case a => k_is); (case l => k_is); (case c => k_is); (case k => k_is)
        refine Ht.Facts.cons ?_ ?_
        · refine' Ht.fact_mk KX G Gk.sc__law_tree_is Gk.e__law_tree_is Gk.b__law_tree_is ?a ?l ?c ?k
          (case a => k_is); (case l => k_is); (case c => k_is); (case k => k_is)
        refine Ht.Facts.cons ?_ ?_
        · refine' Ht.fact_mk KX G Gk.sc__law_reading Gk.e__law_reading Gk.b__law_reading ?a ?l ?c ?k
          (case a => k_is); (case l => k_is); (case c => k_is); (case k => k_is)
        refine Ht.Facts.cons ?_ ?_
        · refine' Ht.fact_mk KX G Gk.sc__law_told Gk.e__law_told Gk.b__law_told ?a ?l ?c ?k
          (case a => k_is); (case l => k_is); (case c => k_is); (case k => k_is)
        refine Ht.Facts.cons ?_ ?_
        · refine' Ht.fact_mk KX G Gk.sc__law_refused_by_any Gk.e__law_refused_by_any Gk.b__law_refused_by_any ?a ?l ?c ?k
          (case a => k_is); (case l => k_is); (case c => k_is); (case k => k_is)
        refine Ht.Facts.cons ?_ ?_
        · refine' Ht.fact_mk KX G Gk.sc__law_right Gk.e__law_right Gk.b__law_right ?a ?l ?c ?k
          (case a => k_is); (case l => k_is); (case c => k_is); (case k => k_is)
        refine Ht.Facts.cons ?_ ?_
        · refine' Ht.fact_mk KX G Gk.sc_law Gk.e_law Gk.b_law ?a ?l ?c ?k
          (case a => k_is); (case l => k_is); (case c => k_is); (case k => k_is)
        exact Ht.Facts.nil

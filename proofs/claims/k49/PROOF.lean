import PyProof.Rows.All
import Wide.All
import OpenK.AllK
import Wide.FinOn
import HandS.Base
import HandS.Call
import HandS.List
import HandS.Comp
import HandS.Exc
import HandS.Lambda
import HandS.TupAny
import HandS.TupLe
import HandS.Text
import HandS.IsInst
import HandS.DictTup
import HandS.Star
import HandS.Flow
import HandS.Iter
import HandS.Walk
import KE.KSuper
import KE.KExcSuper
import HandS.ExcInit
import HandS.ClsMeth
import HandS.Nested
import KE.KDflt
import HandS.ExcIs
import HandS.ExcField
import HandS.CallLocal
import KE.KExcIs
import PyProof.ReprReads
import PyProof.ReprRoads
import PyProof.ReprLen
import KE.DatumIndex
import HandS.ExcValue
import HandS.Style
import HandS.Defaults
import HandS.WordsExc
import HandS.HeadHook4
import HandS.HeadWalk
import PySem.Challenge.RW_liarnamed_k49_rows_that_must_be_ahead
import KE.KStateDown
import HandS.Ends
import HandS.More
import HandS.Words
import HandS.Head0
import HandS.Head1
import HandS.Head2
import HandS.HeadEnd
import HandS.HeadHook1
import HandS.HeadHook2
section
set_option linter.all false
/-! A small mirror of Python: data as trees, a heap of what may change, expressions and statements, what they do. -/
namespace Py

inductive D where
  | non | bl (b : Bool) | int (i : Int) | str (s : List Nat)
  | tup (ds : List D) | lst (ds : List D) | fz (ds : List D) | dic (ks vs : List D)
  | obj (c : String) (ks : List String) (vs : List D)
  | ref (n : Nat) | clo (i : Nat) (env : List D) | nam (x : String)
  deriving Inhabited

inductive Ob where
  | lst (ds : List D) | dic (ks vs : List D) | ins (c : String) (ks : List String) (vs : List D) | tab
  deriving Inhabited
abbrev Hh := List Ob
abbrev Env := List (Option D)

mutual
def D.beq : D → D → Bool
  | .non, .non => true
  | .bl a, .bl b => decide (a = b)
  | .int a, .int b => decide (a = b)
  | .str a, .str b => decide (a = b)
  | .tup a, .tup b => D.beqs a b
  | .lst a, .lst b => D.beqs a b
  | .fz a, .fz b => D.beqs a b
  | .dic a b, .dic c d => D.beqs a c && D.beqs b d
  | .obj a b c, .obj d e f => decide (a = d) && (decide (b = e) && D.beqs c f)
  | .ref a, .ref b => decide (a = b)
  | .clo a b, .clo c d => decide (a = c) && D.beqs b d
  | .nam a, .nam b => decide (a = b)
  | _, _ => false
def D.beqs : List D → List D → Bool
  | [], [] => true
  | a :: r, b :: t => D.beq a b && D.beqs r t
  | _, _ => false
end
mutual
theorem D.beq_eq : ∀ {a b : D}, D.beq a b = true → a = b
  | .non, b, h => by cases b <;> simp_all [D.beq]
  | .bl _, b, h => by cases b <;> simp_all [D.beq]
  | .int _, b, h => by cases b <;> simp_all [D.beq]
  | .str _, b, h => by cases b <;> simp_all [D.beq]
  | .tup x, b, h => by
    cases b <;> simp only [D.beq, Bool.false_eq_true] at h
    rw [D.beqs_eq h]
  | .lst x, b, h => by
    cases b <;> simp only [D.beq, Bool.false_eq_true] at h
    rw [D.beqs_eq h]
  | .fz x, b, h => by
    cases b <;> simp only [D.beq, Bool.false_eq_true] at h
    rw [D.beqs_eq h]
  | .dic x y, b, h => by
    cases b <;> simp only [D.beq, Bool.false_eq_true, Bool.and_eq_true] at h
    rw [D.beqs_eq h.1, D.beqs_eq h.2]
  | .obj x y z, b, h => by
    cases b <;> simp only [D.beq, Bool.false_eq_true, Bool.and_eq_true, decide_eq_true_eq] at h
    rw [h.1, h.2.1, D.beqs_eq h.2.2]
  | .ref _, b, h => by cases b <;> simp_all [D.beq]
  | .clo x y, b, h => by
    cases b <;> simp only [D.beq, Bool.false_eq_true, Bool.and_eq_true, decide_eq_true_eq] at h
    rw [h.1, D.beqs_eq h.2]
  | .nam _, b, h => by cases b <;> simp_all [D.beq]
theorem D.beqs_eq : ∀ {a b : List D}, D.beqs a b = true → a = b
  | [], b, h => by cases b <;> simp_all [D.beqs]
  | x :: r, b, h => by
    cases b <;> simp only [D.beqs, Bool.false_eq_true, Bool.and_eq_true] at h
    rw [D.beq_eq h.1, D.beqs_eq h.2]
end
mutual
theorem D.beq_self : ∀ (a : D), D.beq a a = true
  | .non => by simp [D.beq]
  | .bl _ => by simp [D.beq]
  | .int _ => by simp [D.beq]
  | .str _ => by simp [D.beq]
  | .tup x => by simp only [D.beq]; exact D.beqs_self x
  | .lst x => by simp only [D.beq]; exact D.beqs_self x
  | .fz x => by simp only [D.beq]; exact D.beqs_self x
  | .dic x y => by simp only [D.beq, D.beqs_self x, D.beqs_self y, Bool.and_self]
  | .obj _ _ z => by simp [D.beq, D.beqs_self z]
  | .ref _ => by simp [D.beq]
  | .clo _ y => by simp [D.beq, D.beqs_self y]
  | .nam _ => by simp [D.beq]
theorem D.beqs_self : ∀ (a : List D), D.beqs a a = true
  | [] => by simp [D.beqs]
  | x :: r => by simp [D.beqs, D.beq_self x, D.beqs_self r]
end

inductive Res (α : Type) where
  | ok (a : α) (h : Hh) | exc (x : D) (h : Hh) | stuck
def Res.bind (r : Res α) (f : α → Hh → Res β) : Res β := match r with
  | .ok a h => f a h | .exc x h => .exc x h | .stuck => .stuck
@[simp] theorem Res.bind_ok (a : α) (h : Hh) (f : α → Hh → Res β) : (Res.ok a h).bind f = f a h := rfl
@[simp] theorem Res.bind_exc (x : D) (h : Hh) (f : α → Hh → Res β) : (Res.exc x h : Res α).bind f = .exc x h := rfl
theorem Res.bind_assoc (r : Res α) (f : α → Hh → Res β) (g : β → Hh → Res γ) : (r.bind f).bind g = r.bind fun a h => (f a h).bind g := by
  cases r <;> rfl
@[simp] theorem Res.bind_stuck (f : α → Hh → Res β) : (Res.stuck : Res α).bind f = .stuck := rfl
/-- no exception leaves -/
def Res.nox (r : Res α) : Res α := match r with
  | .exc _ _ => .stuck | r => r
@[simp] theorem Res.nox_ok (a : α) (h : Hh) : (Res.ok a h).nox = .ok a h := rfl
@[simp] theorem Res.nox_exc (x : D) (h : Hh) : (Res.exc x h : Res α).nox = .stuck := rfl
@[simp] theorem Res.nox_stuck : (Res.stuck : Res α).nox = .stuck := rfl
/-- a pure answer -/
def Res.of (o : Option α) (h : Hh) : Res α := match o with
  | some a => .ok a h | none => .stuck
@[simp] theorem Res.of_some (a : α) (h : Hh) : Res.of (some a) h = .ok a h := rfl
@[simp] theorem Res.of_none (h : Hh) : Res.of (none : Option α) h = .stuck := rfl
inductive SR where
  | nx (env : Env) (h : Hh) | rt (d : D) (h : Hh) | bk (env : Env) (h : Hh) | ct (env : Env) (h : Hh) | ex (x : D) (env : Env) (h : Hh) | stuck
def SR.bind (r : SR) (f : Env → Hh → SR) : SR := match r with
  | .nx e h => f e h | r => r
@[simp] theorem SR.bind_nx (e : Env) (h : Hh) (f : Env → Hh → SR) : (SR.nx e h).bind f = f e h := rfl
@[simp] theorem SR.bind_rt (d : D) (h : Hh) (f : Env → Hh → SR) : (SR.rt d h).bind f = .rt d h := rfl
@[simp] theorem SR.bind_bk (e : Env) (h : Hh) (f : Env → Hh → SR) : (SR.bk e h).bind f = .bk e h := rfl
@[simp] theorem SR.bind_ct (e : Env) (h : Hh) (f : Env → Hh → SR) : (SR.ct e h).bind f = .ct e h := rfl
@[simp] theorem SR.bind_ex (x : D) (e : Env) (h : Hh) (f : Env → Hh → SR) : (SR.ex x e h).bind f = .ex x e h := rfl
@[simp] theorem SR.bind_stuck (f : Env → Hh → SR) : SR.stuck.bind f = .stuck := rfl
/-- an expression's answer handed to what follows in a statement -/
def Res.to (r : Res α) (env : Env) (f : α → Hh → SR) : SR := match r with
  | .ok a h => f a h | .exc x h => .ex x env h | .stuck => .stuck
@[simp] theorem Res.to_ok (a : α) (h : Hh) (env : Env) (f : α → Hh → SR) : (Res.ok a h).to env f = f a h := rfl
@[simp] theorem Res.to_exc (x : D) (h : Hh) (env : Env) (f : α → Hh → SR) : (Res.exc x h : Res α).to env f = .ex x env h := rfl
@[simp] theorem Res.to_stuck (env : Env) (f : α → Hh → SR) : (Res.stuck : Res α).to env f = .stuck := rfl

inductive Bop where | add | sub | mul | fdiv | mod | pow
  deriving DecidableEq
inductive Cop where | eq | ne | lt | le | gt | ge | is | isn | inn | nin
  deriving DecidableEq
inductive Tg where
  | nm (i : Nat) | tp (ts : List Tg)

mutual
inductive E where
  | k (d : D) | gk (x : String) (d : D) | gf (x : String) | v (i : Nat)
  | bin (o : Bop) (a b : E) | neg (a : E)
  | and (es : List E) | or (es : List E) | not (a : E)
  | cmp (o : Cop) (a b : E) | chain (o p : Cop) (a b c : E)
  | ife (t a b : E)
  | tup (es : List (Bool × E))
  | al (mu : Bool) (a : A)
  | ix (a b : E) | sl (a : E) (lo hi : Option E)
  | call (f : String) (es : List E)
  | bi (f : String) (es : List E)
  | isi (a : E) (cs : List String)
  | isc (a : E) (c : String) | att (a : E) (f : String)
  | cv (i : Nat) (es : List E) | ck (f : String) (es : List E) (perm : List Nat)
  | dic0 | hear (g : String) (b : E) | rne (a b : E)
inductive A where
  | disp (es : List E)
  | comp (elt : E) (tg : Tg) (it : It) (cs : List E) (own : List Nat)
  | of (e : E)
  | cat (a b : E) | rep (a b : E)
  | sl (a : E) (lo hi : Option E)
inductive It where
  | ex (e : E) | rng (a : Option E) (b : E) | enum (e : E) | zip (a b : E)
end
inductive S where
  | asg (tg : Tg) (e : E) | par2 (i j : Nat) (a b : E) | par3 (i j l : Nat) (a b d : E) | exp (e : E) | sets (a i e : E) | aug (i : Nat) (o : Bop) (e : E)
  | ret (e : Option E) | ite (t : E) (a b : List S) | for (tg : Tg) (it : It) (body : List S)
  | whl (t : E) (body : List S) | brk | cnt | pass
  | app (a e : E)
  | rz (c k : String) (e : E)
  | raise

def line : Nat := 16777216
/-! ### data -/
/-- a list's items, its tuple's items -/
def items? (h : Hh) : D → Option (List D)
  | .tup ds => some ds | .lst ds => some ds | .fz ds => some ds
  | .ref n => match h[n]? with | some (.lst ds) => some ds | _ => none
  | _ => none
def listed? (h : Hh) : D → Option (List D)
  | .lst ds => some ds
  | .ref n => match h[n]? with | some (.lst ds) => some ds | _ => none
  | _ => none
/-- a list's items, also of one that is only read -/
def rlist? (h : Hh) : D → Option (List D)
  | .fz ds => some ds
  | d => listed? h d
def flat : D → Bool
  | .non => true | .bl _ => true | .int _ => true | .str _ => true | _ => false
def b2 (b : Bool) : Int := if b then 1 else 0
def eqF : D → D → Bool
  | .non, .non => true
  | .bl a, .bl b => a == b
  | .bl a, .int b => b2 a == b
  | .int a, .bl b => a == b2 b
  | .int a, .int b => a == b
  | .str a, .str b => a == b
  | _, _ => false
def okS (s : List Nat) : Bool := s.all fun c => decide (c < 1114112)
mutual
/-- data that stands still, of a depth of at most n -/
def pure? (n : Nat) : D → Bool
  | .non => true | .bl _ => true | .int _ => true | .str s => okS s
  | .tup ds => match n with
    | 0 => false
    | n + 1 => pures? n ds
  | .lst ds => match n with
    | 0 => false
    | n + 1 => pures? n ds
  | _ => false
def pures? (n : Nat) : List D → Bool
  | [] => true | d :: ds => pure? n d && pures? n ds
end
mutual
/-- == of such -/
def eqD : D → D → Bool
  | .non, .non => true
  | .bl a, .bl b => a == b
  | .bl a, .int b => b2 a == b
  | .int a, .bl b => a == b2 b
  | .int a, .int b => a == b
  | .str a, .str b => a == b
  | .tup a, .tup b => eqDs a b
  | .lst a, .lst b => eqDs a b
  | _, _ => false
def eqDs : List D → List D → Bool
  | [], [] => true
  | a :: r, b :: t => eqD a b && eqDs r t
  | _, _ => false
end
/-- a changing list as it stands -/
def still (h : Hh) : D → D
  | .ref n => match h[n]? with | some (.lst ds) => .lst ds | _ => .ref n
  | d => d
def ltF : D → D → Option Bool
  | .int a, .int b => some (decide (a < b))
  | .str a, .str b => some (decide (a < b))
  | _, _ => none
/-- < of tuples of ints and texts -/
def cmpT : List D → List D → Bool
  | a :: r, b :: t => (ltF a b).isSome && cmpT r t
  | _, _ => true
def lexD : List D → List D → Bool
  | [], [] => false
  | [], _ :: _ => true
  | _ :: _, [] => false
  | a :: r, b :: t => if eqF a b then lexD r t else (ltF a b).getD false
def lt? : D → D → Option Bool
  | .tup a, .tup b => if cmpT a b then some (lexD a b) else none
  | a, b => ltF a b
def le? : D → D → Option Bool
  | .int a, .int b => some (decide (a ≤ b))
  | _, _ => none
def in? (h : Hh) (x : D) (y : D) : Option Bool := match x, y with
  | .str s, .str t => match s with
    | [c] => some (t.contains c)
    | _ => none
  | x, y => match items? h y with
    | some ds => if flat x && ds.all flat then some (ds.any fun d => eqF d x) else none
    | none => none
def cmp? (h : Hh) : Cop → D → D → Option Bool
  | .eq, a, b => if pure? 60 (still h a) && pure? 60 (still h b) then some (eqD (still h a) (still h b)) else none
  | .ne, a, b => if pure? 60 (still h a) && pure? 60 (still h b) then some (!eqD (still h a) (still h b)) else none
  | .lt, a, b => lt? a b
  | .gt, a, b => lt? b a
  | .le, a, b => le? a b
  | .ge, a, b => le? b a
  | .is, a, b => match b with
    | .non => match a with | .non => some true | _ => some false
    | .bl y => match a with | .bl x => some (x == y) | _ => none
    | _ => none
  | .isn, a, b => match b with
    | .non => match a with | .non => some false | _ => some true
    | .bl y => match a with | .bl x => some (x != y) | _ => none
    | _ => none
  | .inn, a, b => in? h a b
  | .nin, a, b => (in? h a b).map (!·)
def big : Int := 18446744073709551616
def bin? : Bop → D → D → Option D
  | .add, .int a, .int b => some (.int (a + b))
  | .add, .str a, .str b => if a.length + b.length ≤ line then some (.str (a ++ b)) else none
  | .add, .tup a, .tup b => if a.length + b.length ≤ line then some (.tup (a ++ b)) else none
  | .sub, .int a, .int b => some (.int (a - b))
  | .mul, .int a, .int b => if (-big < a ∧ a < big) ∨ (-big < b ∧ b < big) then some (.int (a * b)) else none
  | .fdiv, .int a, .int b => if 0 < b ∧ b < 1073741824 then some (.int (a / b)) else none
  | .mod, .int a, .int b => if 0 < b then some (.int (a % b)) else none
  | .pow, .int a, .int b => if 0 ≤ b ∧ b ≤ 1000 ∧ (-big < a ∧ a < big) then some (.int (a ^ b.toNat)) else none
  | _, _, _ => none
def aug? : Bop → D → D → Option D
  | .add, .int a, .int b => some (.int (a + b))
  | .sub, .int a, .int b => some (.int (a - b))
  | _, _, _ => none
def ixN (n : Nat) (i : Int) : Option Nat := if 0 ≤ i then (if i < n then some i.toNat else none) else if -(n : Int) ≤ i then some (i + n).toNat else none
def at? (ds : List α) (i : Int) : Option α := (ixN ds.length i).bind fun j => ds[j]?
def ix? (h : Hh) : D → D → Option D
  | .str s, .int i => if s.length ≤ line then (at? s i).map fun c => .str [c] else none
  | a, .int i => (items? h a).bind fun ds => at? ds i
  | _, _ => none
def sIx (n d : Nat) : Option Int → Nat
  | none => d
  | some v => if v < 0 then (v + (n : Int)).toNat else min v.toNat n
def cut (xs : List α) (lo hi : Option Int) : List α := (xs.drop (sIx xs.length 0 lo)).take (sIx xs.length xs.length hi - sIx xs.length 0 lo)
def sl? : D → Option Int → Option Int → Option D
  | .tup ds, lo, hi => some (.tup (cut ds lo hi))
  | .str s, lo, hi => if s.length ≤ line then some (.str (cut s lo hi)) else none
  | _, _, _ => none
/-- what a class's name says of a value -/
def tyN (h : Hh) : D → Option String
  | .non => some "NoneType" | .bl _ => some "bool" | .int _ => some "int" | .str _ => some "str"
  | .tup _ => some "tuple" | .lst _ => some "list" | .dic _ _ => some "dict"
  | .ref n => match h[n]? with | some (.lst _) => some "list" | _ => none
  | _ => none
def isA (h : Hh) (d : D) (c : String) : Option Bool := (tyN h d).bind fun t => if ["int", "bool", "str", "list", "tuple", "dict"].contains c then some (t == c || (t == "bool" && c == "int")) else none
def isAny (h : Hh) (d : D) : List String → Option Bool
  | [] => some false
  | c :: cs => match isA h d c with
    | some true => some true
    | some false => isAny h d cs
    | none => none
def bools? : List D → Option (List Bool)
  | [] => some []
  | .bl b :: ds => (bools? ds).map (b :: ·)
  | _ => none
def bi? (h : Hh) (f : String) (xs : List D) : Option D := match f, xs with
  | "len", [.str s] => if s.length ≤ line then some (.int s.length) else none
  | "len", [x] => (items? h x).map fun ds => .int ds.length
  | "int", [.int i] => some (.int i)
  | "int", [.bl b] => some (.int (b2 b))
  | "abs", [.int i] => some (.int (if i < 0 then -i else i))
  | "tuple", [x] => (items? h x).map .tup
  | "all", [x] => (listed? h x).bind fun ds => (bools? ds).map fun bs => .bl (bs.all id)
  | "any", [x] => (listed? h x).bind fun ds => (bools? ds).map fun bs => .bl (bs.any id)
  | _, _ => none
/-! ### targets -/
mutual
def asg? : Tg → D → Env → Option Env
  | .nm i, d, env => if i < env.length then some (env.set i (some d)) else none
  | .tp ts, d, env => match d with
    | .tup ds => asgs? ts ds env
    | _ => none
def asgs? : List Tg → List D → Env → Option Env
  | [], [], env => some env
  | t :: ts, d :: ds, env => (asg? t d env).bind fun env' => asgs? ts ds env'
  | _, _, _ => none
end
def wipeE (env : Env) : List Nat → Env
  | [] => env
  | v :: vs => (wipeE env vs).set v none
/-! ### walks -/
abbrev Gd := List (Nat × List D)
def gdok (g : Gd) (h : Hh) : Bool := g.all fun p => match h[p.1]? with
  | some (.lst ds) => D.beqs ds p.2
  | _ => false
/-- what is walked, and the changing lists that must stand -/
def src? (h : Hh) : D → Option (List D × Gd)
  | .tup ds => some (ds, []) | .lst ds => some (ds, []) | .fz ds => some (ds, [])
  | .str s => some (s.map fun c => .str [c], [])
  | .ref n => match h[n]? with | some (.lst ds) => some (ds, [(n, ds)]) | _ => none
  | _ => none
def enumF (i : Nat) : List D → List D
  | [] => [] | d :: ds => .tup [.int i, d] :: enumF (i + 1) ds
def zipF : List D → List D → List D
  | a :: r, b :: t => .tup [a, b] :: zipF r t
  | _, _ => []
def rngF (lo : Int) : Nat → List D
  | 0 => [] | n + 1 => .int lo :: rngF (lo + 1) n
def rng? (a : Option Int) (b : Int) : Option (List D) := if (-4611686018427387904 ≤ a.getD 0 ∧ a.getD 0 < 4611686018427387904) ∧ (-4611686018427387904 ≤ b ∧ b < 4611686018427387904) then some (rngF (a.getD 0) (b - a.getD 0).toNat) else none
def walkC (g : Gd) (f : D → Hh → Res (Option D)) : List D → List D → Hh → Res (List D)
  | [], acc, h => if gdok g h then .ok acc h else .stuck
  | d :: ds, acc, h => if gdok g h then (f d h).bind fun o h => match o with
      | some y => if acc.length < line then walkC g f ds (acc ++ [y]) h else .stuck
      | none => walkC g f ds acc h
    else .stuck
def walkF (g : Gd) (f : D → Env → Hh → SR) : List D → Env → Hh → SR
  | [], env, h => if gdok g h then .nx env h else .stuck
  | d :: ds, env, h => if gdok g h then match f d env h with
      | .nx env h => walkF g f ds env h
      | .ct env h => walkF g f ds env h
      | .bk env h => .nx env h
      | .rt d h => .rt d h
      | .ex x env h => .ex x env h
      | .stuck => .stuck
    else .stuck
def walkW (t : Env → Hh → Res Bool) (f : Env → Hh → SR) : Nat → Env → Hh → SR
  | 0, _, _ => .stuck
  | n + 1, env, h => (t env h).to env fun b h => match b with
    | false => .nx env h
    | true => match f env h with
      | .nx env h => walkW t f n env h
      | .ct env h => walkW t f n env h
      | .bk env h => .nx env h
      | .rt d h => .rt d h
      | .ex x env h => .ex x env h
      | .stuck => .stuck
/-! ### what they do -/
structure Cl where
  call : String → List D → Hh → Res D
  turns : Nat
  /-- how many parameters a def has that is taken by its name -/
  ar : String → Option Nat := fun _ => none
  /-- is an own class's object one of the other -/
  sub : String → String → Option Bool := fun _ _ => none
  /-- may this field of such an object be read -/
  at_ : String → String → Bool := fun _ _ => false
  /-- what follows try: l.append(f()) except X as e: c = e, in the def that hears: by l, by c -/
  tail : String → D → D → Hh → Res D := fun _ _ _ _ => .stuck
  /-- what it hears -/
  lia : String := ""
def wrap (mu : Bool) (ds : List D) (h : Hh) : Res D := match mu with
  | false => .ok (.lst ds) h
  | true => .ok (.ref h.length) (h ++ [.lst ds])
def truth? (h : Hh) : D → Option Bool
  | .bl b => some b
  | .non => some false
  | .int i => some (i != 0)
  | d => (items? h d).map fun ds => !ds.isEmpty
mutual
/-- what repr shows soon: small ints, short texts, tuples and lists of such -/
def showz : Nat → D → Bool
  | _, .non => true
  | _, .bl _ => true
  | _, .int i => decide (-1000000000000000000000000000000 < i ∧ i < 1000000000000000000000000000000)
  | _, .str s => okS s && decide (s.length ≤ 1000)
  | n, .tup ds => match n with
    | 0 => false
    | n + 1 => decide (ds.length ≤ 100) && showzs n ds
  | n, .lst ds => match n with
    | 0 => false
    | n + 1 => decide (ds.length ≤ 100) && showzs n ds
  | _, _ => false
def showzs : Nat → List D → Bool
  | _, [] => true
  | n, d :: ds => showz n d && showzs n ds
end
mutual
/-- a bound of the text's length -/
def wt : D → Nat
  | .str s => s.length
  | .int _ => 100
  | .tup ds => wts ds
  | .lst ds => wts ds
  | _ => 0
def wts : List D → Nat
  | [] => 0
  | d :: ds => wt d + 1 + wts ds
end
def isSeq : D → Bool
  | .tup _ => true | .lst _ => true | _ => false
def shows (d : D) : Bool := isSeq d && (showz 4 d && decide (wt d ≤ 400000))
mutual
def den (c : Cl) : E → Env → Hh → Res D
  | .k d, _, h => .ok d h
  | .gk _ d, _, h => .ok d h
  | .gf x, _, h => .ok (.nam x) h
  | .v i, env, h => match env[i]? with
    | some (some d) => .ok d h
    | _ => .stuck
  | .bin o a b, env, h => (den c a env h).bind fun x h => (den c b env h).bind fun y h => .of (bin? o x y) h
  | .neg a, env, h => (den c a env h).bind fun x h => match x with
    | .int i => .ok (.int (-i)) h
    | _ => .stuck
  | .and es, env, h => denAnd c es env h
  | .or es, env, h => denOr c es env h
  | .not a, env, h => (den c a env h).bind fun x h => match x with
    | .bl b => .ok (.bl (!b)) h
    | _ => .stuck
  | .cmp o a b, env, h => (den c a env h).bind fun x h => (den c b env h).bind fun y h => .of ((cmp? h o x y).map .bl) h
  | .chain o p a b d, env, h => (den c a env h).bind fun x h => (den c b env h).bind fun y h => (Res.of (cmp? h o x y) h).bind fun r h => match r with
    | true => (den c d env h).bind fun z h => .of ((cmp? h p y z).map .bl) h
    | false => .ok (.bl false) h
  | .ife t a b, env, h => (denT c t env h).bind fun r h => match r with
    | true => den c a env h
    | false => den c b env h
  | .tup es, env, h => (densS c es env h).bind fun xs h => if xs.length ≤ line then .ok (.tup xs) h else .stuck
  | .al mu a, env, h => (denA c a env h).bind fun xs h => wrap mu xs h
  | .ix a b, env, h => (den c a env h).bind fun x h => (den c b env h).bind fun y h => .of (ix? h x y) h
  | .sl a lo hi, env, h => (den c a env h).bind fun x h => (denO c lo env h).bind fun l h => (denO c hi env h).bind fun u h => .of (sl? x l u) h
  | .call f es, env, h => (dens c es env h).bind fun xs h => c.call f xs h
  | .bi f es, env, h => (dens c es env h).bind fun xs h => .of (bi? h f xs) h
  | .isi a cs, env, h => (den c a env h).bind fun x h => .of ((isAny h x cs).map .bl) h
  | .isc a k, env, h => (den c a env h).bind fun x h => match x with
    | .obj y _ _ => .of ((c.sub y k).map .bl) h
    | _ => .stuck
  | .att a f, env, h => (den c a env h).bind fun x h => match x with
    | .obj y ks vs => if c.at_ y f then .of ((ks.zip vs).lookup f) h else .stuck
    | _ => .stuck
  | .cv i es, env, h => match env[i]? with
    | some (some (.nam f)) => if c.ar f = some es.length then (dens c es env h).bind fun xs h => c.call f xs h else .stuck
    | _ => .stuck
  | .ck f es perm, env, h => (dens c es env h).bind fun xs h => c.call f (perm.map fun i => xs.getD i .non) h
  | .dic0, _, h => .ok (.dic [] []) h
  | .hear g b, env, h => match den c b env (h ++ [.lst []]) with
    | .ok d h1 => match h1[h.length]? with
      | some (.lst ds) => if ds.length < line then c.tail g (.ref h.length) .non (h1.set h.length (.lst (ds ++ [d]))) else .stuck
      | _ => .stuck
    | .exc (.obj k ks vs) h1 => if c.sub k c.lia = some true then c.tail g (.ref h.length) (.obj k ks vs) h1 else .stuck
    | _ => .stuck
  | .rne a b, env, h => (den c a env h).bind fun x h => if shows x then (den c b env h).bind fun y h => if D.beq x y then .ok (.bl false) h else .stuck else .stuck
def denAnd (c : Cl) : List E → Env → Hh → Res D
  | [], _, _ => .stuck
  | e :: es, env, h => match es with
    | [] => den c e env h
    | _ :: _ => (den c e env h).bind fun x h => match x with
      | .bl true => denAnd c es env h
      | .bl false => .ok (.bl false) h
      | _ => .stuck
def denOr (c : Cl) : List E → Env → Hh → Res D
  | [], _, _ => .stuck
  | e :: es, env, h => match es with
    | [] => den c e env h
    | _ :: _ => (den c e env h).bind fun x h => match x with
      | .bl true => .ok (.bl true) h
      | .bl false => denOr c es env h
      | _ => .stuck
def denTAnd (c : Cl) : List E → Env → Hh → Res Bool
  | [], _, _ => .stuck
  | e :: es, env, h => match es with
    | [] => denT c e env h
    | _ :: _ => (denT c e env h).bind fun r h => match r with
      | true => denTAnd c es env h
      | false => .ok false h
def denTOr (c : Cl) : List E → Env → Hh → Res Bool
  | [], _, _ => .stuck
  | e :: es, env, h => match es with
    | [] => denT c e env h
    | _ :: _ => (denT c e env h).bind fun r h => match r with
      | true => .ok true h
      | false => denTOr c es env h
/-- a test -/
def denT (c : Cl) : E → Env → Hh → Res Bool
  | .and es, env, h => denTAnd c es env h
  | .or es, env, h => denTOr c es env h
  | .not a, env, h => (denT c a env h).bind fun r h => .ok (!r) h
  | .k d, _, h => .of (truth? h d) h
  | .gk _ d, _, h => .of (truth? h d) h
  | .v i, env, h => match env[i]? with
    | some (some d) => .of (truth? h d) h
    | _ => .stuck
  | .cmp o a b, env, h => (den c a env h).bind fun x h => (den c b env h).bind fun y h => .of (cmp? h o x y) h
  | .chain o p a b d, env, h => (den c a env h).bind fun x h => (den c b env h).bind fun y h => (Res.of (cmp? h o x y) h).bind fun r h => match r with
    | true => (den c d env h).bind fun z h => .of (cmp? h p y z) h
    | false => .ok false h
  | .ix a b, env, h => (den c a env h).bind fun x h => (den c b env h).bind fun y h => (Res.of (ix? h x y) h).bind fun d h => .of (truth? h d) h
  | .call f es, env, h => (dens c es env h).bind fun xs h => (c.call f xs h).bind fun d h => .of (truth? h d) h
  | .bi f es, env, h => (dens c es env h).bind fun xs h => (Res.of (bi? h f xs) h).bind fun d h => .of (truth? h d) h
  | .isi a cs, env, h => (den c a env h).bind fun x h => .of (isAny h x cs) h
  | .isc a k, env, h => (den c a env h).bind fun x h => match x with
    | .obj y _ _ => .of (c.sub y k) h
    | _ => .stuck
  | .rne a b, env, h => (den c a env h).bind fun x h => if shows x then (den c b env h).bind fun y h => if D.beq x y then .ok false h else .stuck else .stuck
  | _, _, _ => .stuck
def denO (c : Cl) : Option E → Env → Hh → Res (Option Int)
  | none, _, h => .ok none h
  | some e, env, h => (den c e env h).bind fun x h => match x with
    | .int i => .ok (some i) h
    | _ => .stuck
def dens (c : Cl) : List E → Env → Hh → Res (List D)
  | [], _, h => .ok [] h
  | e :: es, env, h => (den c e env h).bind fun x h => (dens c es env h).bind fun xs h => .ok (x :: xs) h
def densS (c : Cl) : List (Bool × E) → Env → Hh → Res (List D)
  | [], _, h => .ok [] h
  | (b, e) :: es, env, h => (den c e env h).bind fun x h => match b with
    | false => (densS c es env h).bind fun xs h => .ok (x :: xs) h
    | true => match items? h x with
      | some ys => (densS c es env h).bind fun xs h => .ok (ys ++ xs) h
      | none => .stuck
def denA (c : Cl) : A → Env → Hh → Res (List D)
  | .disp es, env, h => (dens c es env h).bind fun xs h => if xs.length ≤ line then .ok xs h else .stuck
  | .comp elt tg it cs own, env, h => (denI c it env h).bind fun q h => walkC q.2 (fun d h => match asg? tg d (wipeE env own) with
      | some env' => (denC c cs env' h).nox.bind fun r h => match r with
        | true => (den c elt env' h).nox.bind fun y h => .ok (some y) h
        | false => .ok none h
      | none => .stuck) q.1 [] h
  | .of e, env, h => (den c e env h).bind fun x h => .of (items? h x) h
  | .cat a b, env, h => (den c a env h).bind fun x h => (den c b env h).bind fun y h => match listed? h x, listed? h y with
    | some xs, some ys => if xs.length + ys.length ≤ line then .ok (xs ++ ys) h else .stuck
    | _, _ => .stuck
  | .rep a b, env, h => (den c a env h).bind fun x h => (den c b env h).bind fun y h => match listed? h x, y with
    | some xs, .int n => if -9223372036854775808 ≤ n ∧ n < 9223372036854775808 ∧ xs.length * n.toNat ≤ line then .ok ((List.replicate n.toNat xs).flatten) h else .stuck
    | _, _ => .stuck
  | .sl a lo hi, env, h => (den c a env h).bind fun x h => (denO c lo env h).bind fun l h => (denO c hi env h).bind fun u h => match rlist? h x with
    | some xs => .ok (cut xs l u) h
    | none => .stuck
/-- a comprehension's tests -/
def denC (c : Cl) : List E → Env → Hh → Res Bool
  | [], _, h => .ok true h
  | [e], env, h => denT c e env h
  | _, _, _ => .stuck
def denI (c : Cl) : It → Env → Hh → Res (List D × Gd)
  | .ex e, env, h => (den c e env h).bind fun x h => .of (src? h x) h
  | .rng a b, env, h => (denO c a env h).bind fun l h => (den c b env h).bind fun y h => match y with
    | .int n => .of ((rng? l n).map fun ds => (ds, [])) h
    | _ => .stuck
  | .enum e, env, h => (den c e env h).bind fun x h => .of ((src? h x).map fun q => (enumF 0 q.1, q.2)) h
  | .zip a b, env, h => (den c a env h).bind fun x h => (den c b env h).bind fun y h => .of ((src? h x).bind fun p => (src? h y).map fun q => (zipF p.1 q.1, p.2 ++ q.2)) h
end
mutual
def exc (c : Cl) : S → Env → Hh → SR
  | .asg tg e, env, h => (den c e env h).to env fun x h => match asg? tg x env with
    | some env' => .nx env' h
    | none => .stuck
  | .par2 i j a b, env, h => (den c a env h).to env fun x h => (den c b env h).to env fun y h => .nx ((env.set i (some x)).set j (some y)) h
  | .par3 i j l a b d, env, h => (den c a env h).to env fun x h => (den c b env h).to env fun y h => (den c d env h).to env fun z h => .nx (((env.set i (some x)).set j (some y)).set l (some z)) h
  | .exp e, env, h => (den c e env h).to env fun _ h => .nx env h
  | .sets a i e, env, h => (den c e env h).to env fun x h => (den c a env h).to env fun o h => (den c i env h).to env fun j h => match o, j with
    | .ref n, .int z => match h[n]? with
      | some (.lst ds) => match ixN ds.length z with
        | some k => .nx env (h.set n (.lst (ds.set k x)))
        | none => .stuck
      | _ => .stuck
    | _, _ => .stuck
  | .aug i o e, env, h => match env[i]? with
    | some (some d) => (den c e env h).to env fun y h => match aug? o d y with
      | some z => .nx (env.set i (some z)) h
      | none => .stuck
    | _ => .stuck
  | .ret none, env, h => .rt .non h
  | .ret (some e), env, h => (den c e env h).to env fun x h => .rt x h
  | .ite t a b, env, h => (denT c t env h).to env fun r h => match r with
    | true => excs c a env h
    | false => excs c b env h
  | .for tg it body, env, h => (denI c it env h).to env fun q h => walkF q.2 (fun d env h => match asg? tg d env with
      | some env' => excs c body env' h
      | none => .stuck) q.1 env h
  | .whl t body, env, h => walkW (fun env h => denT c t env h) (fun env h => excs c body env h) c.turns env h
  | .brk, env, h => .bk env h
  | .cnt, env, h => .ct env h
  | .pass, env, h => .nx env h
  | .app a e, env, h => (den c a env h).to env fun o h => match o with
    | .ref n => match h[n]? with
      | some (.lst _) => (den c e env h).to env fun x h => match h[n]? with
        | some (.lst ds) => if ds.length < line then .nx env (h.set n (.lst (ds ++ [x]))) else .stuck
        | _ => .stuck
      | _ => .stuck
    | _ => .stuck
  | .rz k f e, env, h => (den c e env h).to env fun x h => .ex (.obj k [f] [x]) env h
  | .raise, _, _ => .stuck
def excs (c : Cl) : List S → Env → Hh → SR
  | [], env, h => .nx env h
  | s :: ss, env, h => (exc c s env h).bind fun env h => excs c ss env h
end
structure FD where
  np : Nat
  nl : Nat
  body : List S
def runF (c : Cl) (f : FD) (ds : List D) (h : Hh) : Res D := if ds.length = f.np then (match excs c f.body (ds.map some ++ List.replicate f.nl none) h with
  | .nx _ h => .ok .non h
  | .rt d h => .ok d h
  | .ex x _ h => .exc x h
  | _ => .stuck) else .stuck
/-- a program: its defs, the classes of its own, what is heard -/
structure Pg where
  fns : List (String × FD)
  sub : String → String → Option Bool := fun _ _ => none
  at_ : String → String → Bool := fun _ _ => false
  /-- the defs that hear: how many names besides the first three, what they do behind the try -/
  ears : List (String × Nat × List S) := []
  lia : String := ""
def tailN (P : Pg) (g : String) (l k : D) (h : Hh) : Res D := match P.ears.lookup g with
  | some (n, body) => (match excs { call := fun _ _ _ => .stuck, turns := 0, sub := P.sub, at_ := P.at_ } body (none :: some l :: some k :: List.replicate n none) h with
    | .nx _ h => .ok .non h
    | .rt d h => .ok d h
    | _ => .stuck)
  | none => .stuck
def clN (P : Pg) (f : String → List D → Hh → Res D) : Cl := { call := f, turns := 1000000, ar := fun f => (P.fns.lookup f).map (·.np), sub := P.sub, at_ := P.at_, tail := tailN P, lia := P.lia }
def callN (P : Pg) : Nat → String → List D → Hh → Res D
  | 0, _, _, _ => .stuck
  | n + 1, f, ds, h => match P.fns.lookup f with
    | some fd => runF (clN P (callN P n)) fd ds h
    | none => .stuck
end Py
end

section
set_option Elab.async false
set_option linter.all false
set_option maxRecDepth 100000
namespace Py
open PySem PySem.Spec PyProof.Rows L2

theorem notb {b : Bool} (h : (!b) = true) : b = false := by cases b <;> first | rfl | cases h
/-- what the mirror's names stand for -/
structure Tb where
  K : PySem.W.Frag
  mg : Str → Option Value
  /-- places of which nothing may be told (lists that are being made) -/
  x : List Addr := []
  /-- where the law's table of code objects stands, what its lambdas are called -/
  t0 : Option (Addr × Str) := none
def Tb.ex (T : Tb) (x : List Addr) : Tb := { T with x := x }
def SS (s : List Nat) : Str := ⟨s.toArray⟩
abbrev H0 : Hp := fun _ => none
def QT (T : Tb) (m : List Addr) (H : Hp) (a : Addr) (vs : List V) : Prop := ((a ∉ m ∧ a ∉ T.x) ∧ Rd H a (.tup vs)) ∨ SqT T.K H0 a vs
def QL (T : Tb) (m : List Addr) (H : Hp) (a : Addr) (vs : List V) : Prop := (a ∉ m ∧ a ∉ T.x) ∧ H a = some (.lst vs)
def QF (T : Tb) (m : List Addr) (H : Hp) (a : Addr) (vs : List V) : Prop := ((a ∉ m ∧ a ∉ T.x) ∧ Rd H a (.lst vs)) ∨ SqL T.K H0 a vs
/-- a thing that stands still at a -/
def Q1 (T : Tb) (m : List Addr) (H : Hp) (a : Addr) (u : HO) : Prop := (a ∉ m ∧ a ∉ T.x) ∧ H a = some u
/-- an exception object of the class cls at a, its dict at dx -/
def ExV (cls : Value) (dx a : Addr) : HO := .ext fun h => ∃ (oe : Obj) (vs : Array Value), h.get? a = some oe ∧ Zc cls (some dx) oe ∧ oe.data = .fields vs
def QO (T : Tb) (m : List Addr) (H : Hp) (a : Addr) (c : String) (fs : List (Str × V)) : Prop := ∃ C dx, T.mg (Str.ofString c) = some (.ref C) ∧ Q1 T m H a (ExV (.ref C) dx a) ∧ Q1 T m H dx (.xd fs)
mutual
def RD (T : Tb) (m : List Addr) (H : Hp) : D → V → Prop
  | .non, v => v = .non
  | .bl b, v => v = .bl b
  | .int i, v => v = .int i
  | .str s, v => v = .str (SS s)
  | .tup ds, v => ∃ a vs, v = .ref a ∧ QT T m H a vs ∧ RDs T m H ds vs
  | .lst ds, v => ∃ a vs, v = .ref a ∧ QL T m H a vs ∧ RDs T m H ds vs
  | .fz ds, v => ∃ a vs, v = .ref a ∧ QF T m H a vs ∧ RDs T m H ds vs
  | .dic ks vs, v => ks = [] ∧ vs = [] ∧ ∃ a, v = .ref a ∧ Q1 T m H a (.dK [])
  | .obj c ks vs, v => ∃ a fs, v = .ref a ∧ QO T m H a c fs ∧ fs.map (·.1) = ks.map Str.ofString ∧ RDs T m H vs (fs.map (·.2))
  | .ref n, v => ∃ a, v = .ref a ∧ m[n]? = some a
  | .clo _ _, _ => False
  | .nam x, v => ∃ a, v = .ref a ∧ T.mg x = some (.ref a)
def RDs (T : Tb) (m : List Addr) (H : Hp) : List D → List V → Prop
  | [], vs => vs = []
  | d :: ds, vs => ∃ v r, vs = v :: r ∧ RD T m H d v ∧ RDs T m H ds r
end
/-- what stands at an address that may change -/
def RO (T : Tb) (m : List Addr) (H : Hp) : Ob → HO → Prop
  | .lst ds, o => ∃ vs, o = .lst vs ∧ RDs T m H ds vs
  | .dic _ _, _ => False
  | .ins _ _ _, _ => False
  | .tab, o => ∃ P q ps, T.t0 = some (P, q) ∧ o = .tbl ps ∧ TriplesOk ps.toList ∧ ∀ (pos : Pos) (cv : Value), codeAmong pos ps.toList = some cv → ∃ c, cv = .ref c ∧ (c ∉ m ∧ c ∉ T.x) ∧ H c = some (LamX.CodeO c q)
structure Rl (T : Tb) (m : List Addr) (h : Hh) (H : Hp) : Prop where
  len : m.length = h.length
  nod : m.Nodup
  out : ∀ a ∈ T.x, a ∉ m ∧ ∃ u, H a = some u
  at_ : ∀ (i : Nat) (o : Ob), h[i]? = some o → ∃ a u, m[i]? = some a ∧ H a = some u ∧ RO T m H o u
  t0 : ∀ p, T.t0 = some p → m[0]? = some p.1 ∧ h[0]? = some .tab
/-- the heap went on: nothing but the changing addresses was changed -/
structure Stp (m : List Addr) (H : Hp) (m' : List Addr) (H' : Hp) : Prop where
  pre : m <+: m'
  keep : ∀ a u, a ∉ m → H a = some u → a ∉ m' ∧ H' a = some u
theorem Stp.refl {m : List Addr} {H : Hp} : Stp m H m H := ⟨List.prefix_refl m, fun _ _ n e => ⟨n, e⟩⟩
theorem Stp.trans {m m1 m2 : List Addr} {H H1 H2 : Hp} (x : Stp m H m1 H1) (y : Stp m1 H1 m2 H2) : Stp m H m2 H2 :=
  ⟨x.pre.trans y.pre, fun a u n e => let ⟨n1, e1⟩ := x.keep a u n e; y.keep a u n1 e1⟩
theorem Stp.nm {m m' : List Addr} {H H' : Hp} {a : Addr} (s : Stp m H m' H') (n : a ∉ m') : a ∉ m := fun z => n (s.pre.subset z)
theorem Stp.back {m m' : List Addr} {H H' : Hp} {a : Addr} (s : Stp m H m' H') (nm : a ∉ m') (n : H' a = none) : H a = none := by
  cases e : H a with
  | none => rfl
  | some u =>
    rw [(s.keep a u (s.nm nm) e).2] at n
    cases n
theorem Stp.rd {m m' : List Addr} {H H' : Hp} {a : Addr} {u : HO} (s : Stp m H m' H') (n : a ∉ m) (r : Rd H a u) : a ∉ m' ∧ Rd H' a u := by
  rcases r with r | ⟨o, r⟩
  · exact ⟨(s.keep a u n r).1, .inl (s.keep a u n r).2⟩
  · exact ⟨(s.keep a _ n r).1, .inr ⟨o, (s.keep a _ n r).2⟩⟩
theorem Q1.mono {T : Tb} {m m' : List Addr} {H H' : Hp} {a : Addr} {u : HO} (s : Stp m H m' H') (q : Q1 T m H a u) : Q1 T m' H' a u := ⟨⟨(s.keep _ _ q.1.1 q.2).1, q.1.2⟩, (s.keep _ _ q.1.1 q.2).2⟩
theorem QO.mono {T : Tb} {m m' : List Addr} {H H' : Hp} {a : Addr} {c : String} {fs : List (Str × V)} (s : Stp m H m' H') (q : QO T m H a c fs) : QO T m' H' a c fs := let ⟨C, dx, e, a, b⟩ := q; ⟨C, dx, e, a.mono s, b.mono s⟩
theorem Q1.more {T : Tb} {m : List Addr} {H : Hp} {pD : Addr} {o : HO} (n : H pD = none) {a : Addr} {u : HO} (q : Q1 T m H a u) : Q1 (T.ex (pD :: T.x)) m (upd H pD o) a u := by
  have ne : a ≠ pD := ne_of_none q.2 n
  exact ⟨⟨q.1.1, by simp [Tb.ex, ne, q.1.2]⟩, by rw [upd_ne ne]; exact q.2⟩
theorem QO.more {T : Tb} {m : List Addr} {H : Hp} {pD : Addr} {o : HO} (n : H pD = none) {a : Addr} {c : String} {fs : List (Str × V)} (q : QO T m H a c fs) : QO (T.ex (pD :: T.x)) m (upd H pD o) a c fs := let ⟨C, dx, e, a, b⟩ := q; ⟨C, dx, e, a.more n, b.more n⟩
theorem Q1.less {T : Tb} {m : List Addr} {H : Hp} {pD : Addr} {a : Addr} {u : HO} (q : Q1 (T.ex (pD :: T.x)) m H a u) : Q1 T m H a u := ⟨⟨q.1.1, fun z => q.1.2 (List.mem_cons_of_mem _ z)⟩, q.2⟩
theorem QO.less {T : Tb} {m : List Addr} {H : Hp} {pD : Addr} {a : Addr} {c : String} {fs : List (Str × V)} (q : QO (T.ex (pD :: T.x)) m H a c fs) : QO T m H a c fs := let ⟨C, dx, e, a, b⟩ := q; ⟨C, dx, e, a.less, b.less⟩
theorem Q1.upd {T : Tb} {m : List Addr} {H : Hp} {pD : Addr} {o : HO} (n : pD ∈ T.x) {a : Addr} {u : HO} (q : Q1 T m H a u) : Q1 T m (L2.upd H pD o) a u := ⟨q.1, by rw [upd_ne (fun z : a = pD => q.1.2 (by rw [z]; exact n))]; exact q.2⟩
theorem QO.upd {T : Tb} {m : List Addr} {H : Hp} {pD : Addr} {o : HO} (n : pD ∈ T.x) {a : Addr} {c : String} {fs : List (Str × V)} (q : QO T m H a c fs) : QO T m (L2.upd H pD o) a c fs := let ⟨C, dx, e, a, b⟩ := q; ⟨C, dx, e, a.upd n, b.upd n⟩
theorem Q1.tom {T : Tb} {m : List Addr} {H : Hp} {p : Addr} {a : Addr} {u : HO} (q : Q1 (T.ex (p :: T.x)) m H a u) : Q1 T (m ++ [p]) H a u := by
  have n3 : a ≠ p ∧ a ∉ T.x := by simpa [Tb.ex] using q.1.2
  exact ⟨⟨by simp [q.1.1, n3.1], n3.2⟩, q.2⟩
theorem QO.tom {T : Tb} {m : List Addr} {H : Hp} {p : Addr} {a : Addr} {c : String} {fs : List (Str × V)} (q : QO (T.ex (p :: T.x)) m H a c fs) : QO T (m ++ [p]) H a c fs := let ⟨C, dx, e, a, b⟩ := q; ⟨C, dx, e, a.tom, b.tom⟩
theorem Q1.exf {T : Tb} {m : List Addr} {H : Hp} {p : List Addr} (n : ∀ a ∈ p, H a = none) {a : Addr} {u : HO} (q : Q1 T m H a u) : Q1 (T.ex (p ++ T.x)) m H a u := by
  have ne : a ∉ p := fun z => by
    have z0 := n a z
    rw [q.2] at z0
    cases z0
  exact ⟨⟨q.1.1, by simp [Tb.ex, ne, q.1.2]⟩, q.2⟩
theorem QO.exf {T : Tb} {m : List Addr} {H : Hp} {p : List Addr} (n : ∀ a ∈ p, H a = none) {a : Addr} {c : String} {fs : List (Str × V)} (q : QO T m H a c fs) : QO (T.ex (p ++ T.x)) m H a c fs := let ⟨C, dx, e, a, b⟩ := q; ⟨C, dx, e, a.exf n, b.exf n⟩
theorem QT.mono {T : Tb} {m m' : List Addr} {H H' : Hp} {a : Addr} {vs : List V} (s : Stp m H m' H') (q : QT T m H a vs) : QT T m' H' a vs := by
  rcases q with ⟨n, r⟩ | q
  · exact .inl ⟨⟨(s.rd n.1 r).1, n.2⟩, (s.rd n.1 r).2⟩
  · exact .inr q
theorem QL.mono {T : Tb} {m m' : List Addr} {H H' : Hp} {a : Addr} {vs : List V} (s : Stp m H m' H') (q : QL T m H a vs) : QL T m' H' a vs := ⟨⟨(s.keep _ _ q.1.1 q.2).1, q.1.2⟩, (s.keep _ _ q.1.1 q.2).2⟩
theorem QF.mono {T : Tb} {m m' : List Addr} {H H' : Hp} {a : Addr} {vs : List V} (s : Stp m H m' H') (q : QF T m H a vs) : QF T m' H' a vs := by
  rcases q with ⟨n, r⟩ | q
  · exact .inl ⟨⟨(s.rd n.1 r).1, n.2⟩, (s.rd n.1 r).2⟩
  · exact .inr q
theorem QT.sq {T : Tb} {m : List Addr} {H : Hp} {a : Addr} {vs : List V} (q : QT T m H a vs) : SqT T.K H a vs := by
  rcases q with ⟨_, r⟩ | q | q
  · exact .inl r
  · rcases q with q | ⟨_, q⟩ <;> cases q
  · exact .inr q
theorem QL.sq {T : Tb} {m : List Addr} {H : Hp} {a : Addr} {vs : List V} (q : QL T m H a vs) : SqL T.K H a vs := .inl (.inl q.2)
theorem QF.sq {T : Tb} {m : List Addr} {H : Hp} {a : Addr} {vs : List V} (q : QF T m H a vs) : SqL T.K H a vs := by
  rcases q with ⟨_, r⟩ | q | q
  · exact .inl r
  · rcases q with q | ⟨_, q⟩ <;> cases q
  · exact .inr q
mutual
theorem RD.mono {T : Tb} {m m' : List Addr} {H H' : Hp} (s : Stp m H m' H') : ∀ {d : D} {v : V}, RD T m H d v → RD T m' H' d v
  | .non, _, r => r
  | .bl _, _, r => r
  | .int _, _, r => r
  | .str _, _, r => r
  | .tup ds, v, r => by
    unfold RD at r ⊢
    obtain ⟨a, vs, e, q, r⟩ := r
    exact ⟨a, vs, e, q.mono s, RDs.mono s r⟩
  | .lst ds, v, r => by
    unfold RD at r ⊢
    obtain ⟨a, vs, e, q, r⟩ := r
    exact ⟨a, vs, e, q.mono s, RDs.mono s r⟩
  | .fz ds, v, r => by
    unfold RD at r ⊢
    obtain ⟨a, vs, e, q, r⟩ := r
    exact ⟨a, vs, e, q.mono s, RDs.mono s r⟩
  | .dic ks vs, v, r => by
    unfold RD at r ⊢
    obtain ⟨e1, e2, a, e, q⟩ := r
    exact ⟨e1, e2, a, e, q.mono s⟩
  | .obj c ks vs, v, r => by
    unfold RD at r ⊢
    obtain ⟨a, fs, e, q, e2, r⟩ := r
    exact ⟨a, fs, e, q.mono s, e2, RDs.mono s r⟩
  | .ref n, v, r => by
    unfold RD at r ⊢
    obtain ⟨a, e, q⟩ := r
    obtain ⟨l, hl⟩ := s.pre
    refine ⟨a, e, ?_⟩
    rw [← hl, List.getElem?_append_left (List.getElem?_eq_some_iff.mp q).1, q]
  | .clo _ _, _, r => r
  | .nam _, _, r => r
theorem RDs.mono {T : Tb} {m m' : List Addr} {H H' : Hp} (s : Stp m H m' H') : ∀ {ds : List D} {vs : List V}, RDs T m H ds vs → RDs T m' H' ds vs
  | [], _, r => r
  | d :: ds, vs, r => by
    unfold RDs at r ⊢
    obtain ⟨v, q, e, r1, r2⟩ := r
    exact ⟨v, q, e, RD.mono s r1, RDs.mono s r2⟩
end
theorem RDs.length {T : Tb} {m : List Addr} {H : Hp} : ∀ {ds : List D} {vs : List V}, RDs T m H ds vs → ds.length = vs.length
  | [], _, r => by
    unfold RDs at r
    subst r
    rfl
  | d :: ds, vs, r => by
    unfold RDs at r
    obtain ⟨v, q, e, r1, r2⟩ := r
    subst e
    rw [List.length_cons, List.length_cons, RDs.length r2]
theorem RDs.get {T : Tb} {m : List Addr} {H : Hp} : ∀ {ds : List D} {vs : List V} {i : Nat} {d : D}, RDs T m H ds vs → ds[i]? = some d → ∃ v, vs[i]? = some v ∧ RD T m H d v
  | [], _, _, _, _, e => by simp at e
  | d :: ds, vs, i, d', r, e => by
    unfold RDs at r
    obtain ⟨v, q, e1, r1, r2⟩ := r
    subst e1
    cases i with
    | zero =>
      have z : d = d' := by simpa using e
      subst z
      exact ⟨v, rfl, r1⟩
    | succ i => exact RDs.get r2 (i := i) (by simpa using e)
theorem RDs.append {T : Tb} {m : List Addr} {H : Hp} : ∀ {ds es : List D} {vs ws : List V}, RDs T m H ds vs → RDs T m H es ws → RDs T m H (ds ++ es) (vs ++ ws)
  | [], _, _, _, r, s => by
    unfold RDs at r
    subst r
    exact s
  | d :: ds, es, vs, ws, r, s => by
    unfold RDs at r
    obtain ⟨v, q, e, r1, r2⟩ := r
    subst e
    show RDs T m H (d :: (ds ++ es)) (v :: (q ++ ws))
    unfold RDs
    exact ⟨v, q ++ ws, rfl, r1, RDs.append r2 s⟩
theorem RDs.cons {T : Tb} {m : List Addr} {H : Hp} {d : D} {ds : List D} {v : V} {vs : List V} (a : RD T m H d v) (b : RDs T m H ds vs) : RDs T m H (d :: ds) (v :: vs) := by
  unfold RDs
  exact ⟨v, vs, rfl, a, b⟩
theorem RDs.nil {T : Tb} {m : List Addr} {H : Hp} : RDs T m H [] [] := by unfold RDs; rfl
theorem RDs.one {T : Tb} {m : List Addr} {H : Hp} {d : D} {v : V} (a : RD T m H d v) : RDs T m H [d] [v] := .cons a .nil
theorem RDs.take {T : Tb} {m : List Addr} {H : Hp} : ∀ {ds : List D} {vs : List V} (n : Nat), RDs T m H ds vs → RDs T m H (ds.take n) (vs.take n)
  | [], _, n, r => by
    unfold RDs at r
    subst r
    simpa using RDs.nil
  | d :: ds, vs, 0, r => by simpa using RDs.nil
  | d :: ds, vs, n + 1, r => by
    unfold RDs at r
    obtain ⟨v, q, e, r1, r2⟩ := r
    subst e
    exact .cons r1 (RDs.take n r2)
theorem RDs.drop {T : Tb} {m : List Addr} {H : Hp} : ∀ {ds : List D} {vs : List V} (n : Nat), RDs T m H ds vs → RDs T m H (ds.drop n) (vs.drop n)
  | [], _, n, r => by
    unfold RDs at r
    subst r
    simpa using RDs.nil
  | d :: ds, vs, 0, r => r
  | d :: ds, vs, n + 1, r => by
    unfold RDs at r
    obtain ⟨v, q, e, r1, r2⟩ := r
    subst e
    exact RDs.drop n r2
theorem RDs.set {T : Tb} {m : List Addr} {H : Hp} {d : D} {v : V} (a : RD T m H d v) : ∀ {ds : List D} {vs : List V} (i : Nat), RDs T m H ds vs → RDs T m H (ds.set i d) (vs.set i v)
  | [], _, i, r => by
    unfold RDs at r
    subst r
    simpa using RDs.nil
  | e :: ds, vs, 0, r => by
    unfold RDs at r
    obtain ⟨v, q, e, r1, r2⟩ := r
    subst e
    exact .cons a r2
  | e :: ds, vs, i + 1, r => by
    unfold RDs at r
    obtain ⟨v, q, e, r1, r2⟩ := r
    subst e
    exact .cons r1 (RDs.set a i r2)
theorem RO.mono {T : Tb} {m m' : List Addr} {H H' : Hp} (s : Stp m H m' H') {o : Ob} {u : HO} (r : RO T m H o u) : RO T m' H' o u := by
  cases o with
  | lst ds =>
    obtain ⟨vs, e, r⟩ := r
    exact ⟨vs, e, r.mono s⟩
  | dic _ _ => exact r
  | ins _ _ _ => exact r
  | tab =>
    obtain ⟨P, q, ps, e1, e2, e3, e4⟩ := r
    refine ⟨P, q, ps, e1, e2, e3, fun pos cv h => ?_⟩
    obtain ⟨c, h1, h2, h3⟩ := e4 pos cv h
    exact ⟨c, h1, ⟨(s.keep c _ h2.1 h3).1, h2.2⟩, (s.keep c _ h2.1 h3).2⟩
/-- a new thing that stands still -/
theorem Rl.freshX {T : Tb} {m : List Addr} {h : Hh} {H : Hp} (R : Rl T m h H) {p : Addr} (n : H p = none) : p ∉ T.x := fun hp => by
  obtain ⟨_, u, e⟩ := R.out p hp
  rw [n] at e
  cases e
theorem Rl.fresh {T : Tb} {m : List Addr} {h : Hh} {H : Hp} (R : Rl T m h H) {p : Addr} (n : H p = none) : p ∉ m := fun hp => by
  obtain ⟨i, hi, e⟩ := List.mem_iff_getElem.mp hp
  have hl : i < h.length := by rw [← R.len]; exact hi
  obtain ⟨a, u, e1, e2, _⟩ := R.at_ i h[i] (List.getElem?_eq_getElem hl)
  rw [List.getElem?_eq_getElem hi] at e1
  have e3 : m[i] = a := Option.some.inj e1
  rw [e] at e3
  subst e3
  rw [n] at e2
  cases e2
theorem Stp.laid {m : List Addr} {H : Hp} {p : Addr} {o : HO} (n : H p = none) : Stp m H m (upd H p o) :=
  ⟨List.prefix_refl m, fun a u na e => ⟨na, by rw [upd_ne (ne_of_none e n)]; exact e⟩⟩
theorem Rl.mono {T : Tb} {m : List Addr} {h : Hh} {H H' : Hp} (R : Rl T m h H) (s : Stp m H m H') (k : ∀ a ∈ m, H' a = H a) : Rl T m h H' :=
  ⟨R.len, R.nod, fun a ha => let ⟨n, u, e⟩ := R.out a ha; ⟨n, u, (s.keep a u n e).2⟩, fun i o e => by
    obtain ⟨a, u, e1, e2, r⟩ := R.at_ i o e
    exact ⟨a, u, e1, by rw [k a (List.mem_of_getElem? e1)]; exact e2, r.mono s⟩, R.t0⟩
theorem Rl.laid {T : Tb} {m : List Addr} {h : Hh} {H : Hp} (R : Rl T m h H) {p : Addr} {o : HO} (n : H p = none) : Rl T m h (upd H p o) :=
  R.mono (Stp.laid n) fun a ha => upd_ne fun e => R.fresh n (e ▸ ha)
/-- a new thing that may change -/
theorem Stp.grow {m : List Addr} {H : Hp} {p : Addr} {o : HO} (n : H p = none) : Stp m H (m ++ [p]) (upd H p o) :=
  ⟨List.prefix_append m [p], fun a u na e => by
    have hne : a ≠ p := ne_of_none e n
    exact ⟨by simp [na, hne], by rw [upd_ne hne]; exact e⟩⟩
theorem t0_app {T : Tb} {m : List Addr} {h : Hh} {p : Addr} {o : Ob} (t : ∀ q, T.t0 = some q → m[0]? = some q.1 ∧ h[0]? = some .tab) : ∀ q, T.t0 = some q → (m ++ [p])[0]? = some q.1 ∧ (h ++ [o])[0]? = some .tab := fun q e => by
  obtain ⟨a, b⟩ := t q e
  exact ⟨by rw [List.getElem?_append_left (List.getElem?_eq_some_iff.mp a).1]; exact a, by rw [List.getElem?_append_left (List.getElem?_eq_some_iff.mp b).1]; exact b⟩
theorem Rl.grow {T : Tb} {m : List Addr} {h : Hh} {H : Hp} (R : Rl T m h H) {p : Addr} {u : HO} {o : Ob} (n : H p = none) (r : RO T (m ++ [p]) (upd H p u) o u) : Rl T (m ++ [p]) (h ++ [o]) (upd H p u) := by
  have np := R.fresh n
  refine ⟨by simp [R.len], ?_, fun a ha => ?_, fun i o' e => ?_, t0_app R.t0⟩
  rotate_left
  · obtain ⟨n1, w, e⟩ := R.out a ha
    have ne : a ≠ p := ne_of_none e n
    exact ⟨by simp [n1, ne], w, by rw [upd_ne ne]; exact e⟩
  rotate_left
  · rw [List.nodup_append]
    exact ⟨R.nod, by simp, fun a ha b hb => by
      have : b = p := by simpa using hb
      subst this
      exact fun e => np (e ▸ ha)⟩
  · by_cases hi : i < h.length
    · rw [List.getElem?_append_left hi] at e
      obtain ⟨a, u', e1, e2, r'⟩ := R.at_ i o' e
      refine ⟨a, u', ?_, ?_, r'.mono (Stp.grow n)⟩
      · rw [List.getElem?_append_left (by rw [R.len]; exact hi)]
        exact e1
      · rw [upd_ne (fun z : a = p => np (by rw [← z]; exact List.mem_of_getElem? e1))]
        exact e2
    · rw [List.getElem?_append_right (by omega)] at e
      have hz : i - h.length = 0 := by
        rcases Nat.eq_zero_or_pos (i - h.length) with z | z
        · exact z
        · rw [List.getElem?_eq_none (by simp; omega)] at e
          cases e
      rw [hz] at e
      have eo : o = o' := by simpa using e
      subst eo
      refine ⟨p, u, ?_, upd_same, r⟩
      rw [List.getElem?_append_right (by rw [R.len]; omega), R.len, hz]
      rfl
/-- a changing thing is changed -/
theorem Stp.write {m : List Addr} {H : Hp} {a : Addr} {o : HO} (n : a ∈ m) : Stp m H m (upd H a o) :=
  ⟨List.prefix_refl m, fun b u nb e => ⟨nb, by rw [upd_ne (fun z : b = a => nb (by rw [z]; exact n))]; exact e⟩⟩
theorem Rl.write {T : Tb} {m : List Addr} {h : Hh} {H : Hp} (R : Rl T m h H) {i : Nat} {a : Addr} {u : HO} {o o0 : Ob} (e : m[i]? = some a) (e0 : h[i]? = some o0) (n0 : o0 = .tab → o = .tab) (r : RO T m (upd H a u) o u) : Rl T m (h.set i o) (upd H a u) := by
  have hm := List.mem_of_getElem? e
  refine ⟨by simp [R.len], R.nod, fun b hb => ?_, fun j o' ej => ?_, fun q eq => ?_⟩
  rotate_left 2
  · obtain ⟨h1, h2⟩ := R.t0 q eq
    refine ⟨h1, ?_⟩
    by_cases hi : i = 0
    · rw [hi, h2] at e0
      rw [hi, List.getElem?_set_self (List.getElem?_eq_some_iff.mp h2).1, n0 (Option.some.inj e0).symm]
    · rw [List.getElem?_set_ne hi]
      exact h2
  · obtain ⟨n1, w, eb⟩ := R.out b hb
    have ne : b ≠ a := fun z => n1 (by rw [z]; exact hm)
    exact ⟨n1, w, by rw [upd_ne ne]; exact eb⟩
  by_cases hj : i = j
  · subst hj
    have hl : i < h.length := by
      rw [← R.len]
      exact (List.getElem?_eq_some_iff.mp e).1
    rw [List.getElem?_set_self hl] at ej
    have eo : o = o' := Option.some.inj ej
    subst eo
    exact ⟨a, u, e, upd_same, r⟩
  · rw [List.getElem?_set_ne hj] at ej
    obtain ⟨b, w, e1, e2, r'⟩ := R.at_ j o' ej
    refine ⟨b, w, e1, ?_, r'.mono (Stp.write hm)⟩
    rw [upd_ne]
    · exact e2
    · intro z
      subst z
      obtain ⟨i1, z1⟩ := List.getElem?_eq_some_iff.mp e
      obtain ⟨i2, z2⟩ := List.getElem?_eq_some_iff.mp e1
      exact hj ((List.getElem_inj R.nod).mp (z1.trans z2.symm))
/-- slots -/
def RS (T : Tb) (m : List Addr) (H : Hp) (env : Env) (σ : L2.St) : Prop := env.length = σ.length ∧ ∀ (i : Nat) (d : D), env[i]? = some (some d) → ∃ v, σ[i]? = some (some v) ∧ RD T m H d v
theorem RS.mono {T : Tb} {m m' : List Addr} {H H' : Hp} {env : Env} {σ : L2.St} (s : Stp m H m' H') (r : RS T m H env σ) : RS T m' H' env σ :=
  ⟨r.1, fun i d e => let ⟨v, e1, r1⟩ := r.2 i d e; ⟨v, e1, r1.mono s⟩⟩
theorem RS.set {T : Tb} {m : List Addr} {H : Hp} {env : Env} {σ : L2.St} {d : D} {v : V} (r : RS T m H env σ) (i : Nat) (q : RD T m H d v) : RS T m H (env.set i (some d)) (σ.set i (some v)) := by
  refine ⟨by rw [List.length_set, List.length_set, r.1], fun j e he => ?_⟩
  by_cases hj : i = j
  · subst hj
    by_cases hl : i < env.length
    · rw [List.getElem?_set_self hl] at he
      have e1 : d = e := Option.some.inj (Option.some.inj he)
      subst e1
      exact ⟨v, List.getElem?_set_self (by rw [← r.1]; exact hl), q⟩
    · rw [List.getElem?_eq_none (by simpa using hl)] at he
      cases he
  · rw [List.getElem?_set_ne hj] at he ⊢
    exact r.2 j e he
theorem RS.wiped {T : Tb} {m : List Addr} {H : Hp} {env : Env} {σ : L2.St} (r : RS T m H env σ) : ∀ vs : List Nat, RS T m H (wipeE env vs) (wipe σ vs)
  | [] => r
  | v :: vs => by
    have q := RS.wiped r vs
    refine ⟨by show ((wipeE env vs).set v none).length = ((wipe σ vs).set v none).length; rw [List.length_set, List.length_set, q.1], fun j e he => ?_⟩
    have he' : ((wipeE env vs).set v none)[j]? = some (some e) := he
    show ∃ w, ((wipe σ vs).set v none)[j]? = some (some w) ∧ RD T m H e w
    by_cases hj : v = j
    · subst hj
      by_cases hl : v < (wipeE env vs).length
      · rw [List.getElem?_set_self hl] at he'
        cases he'
      · rw [List.getElem?_eq_none (by simpa using hl)] at he'
        cases he'
    · rw [List.getElem?_set_ne hj] at he' ⊢
      exact q.2 j e he'
/-! ### a place of which nothing may be told -/
mutual
theorem RD.more {T : Tb} {m : List Addr} {H : Hp} {pD : Addr} {o : HO} (n : H pD = none) : ∀ {d : D} {v : V}, RD T m H d v → RD (T.ex (pD :: T.x)) m (upd H pD o) d v
  | .non, _, r => r
  | .bl _, _, r => r
  | .int _, _, r => r
  | .str _, _, r => r
  | .tup ds, v, r => by
    unfold RD at r ⊢
    obtain ⟨a, vs, e, q, r⟩ := r
    refine ⟨a, vs, e, ?_, RDs.more n r⟩
    rcases q with ⟨⟨n1, n2⟩, q⟩ | q
    · have ne : a ≠ pD := fun z => by
        rcases q with q | ⟨_, q⟩ <;> rw [z, n] at q <;> cases q
      exact .inl ⟨⟨n1, by simp [Tb.ex, ne, n2]⟩, by unfold Rd at q ⊢; rw [upd_ne ne]; exact q⟩
    · exact .inr q
  | .lst ds, v, r => by
    unfold RD at r ⊢
    obtain ⟨a, vs, e, ⟨⟨n1, n2⟩, q⟩, r⟩ := r
    have ne : a ≠ pD := ne_of_none q n
    exact ⟨a, vs, e, ⟨⟨n1, by simp [Tb.ex, ne, n2]⟩, by rw [upd_ne ne]; exact q⟩, RDs.more n r⟩
  | .fz ds, v, r => by
    unfold RD at r ⊢
    obtain ⟨a, vs, e, ⟨⟨n1, n2⟩, q⟩ | q, r⟩ := r
    · have ne : a ≠ pD := fun z => by
        rcases q with q | ⟨_, q⟩ <;> rw [z, n] at q <;> cases q
      exact ⟨a, vs, e, .inl ⟨⟨n1, by simp [Tb.ex, ne, n2]⟩, by unfold Rd at q ⊢; rw [upd_ne ne]; exact q⟩, RDs.more n r⟩
    · exact ⟨a, vs, e, .inr q, RDs.more n r⟩
  | .dic ks vs, v, r => by
    unfold RD at r ⊢
    obtain ⟨e1, e2, a, e, q⟩ := r
    exact ⟨e1, e2, a, e, q.more n⟩
  | .obj c ks vs, v, r => by
    unfold RD at r ⊢
    obtain ⟨a, fs, e, q, e2, r⟩ := r
    exact ⟨a, fs, e, q.more n, e2, RDs.more n r⟩
  | .ref _, _, r => r
  | .clo _ _, _, r => r
  | .nam _, _, r => r
theorem RDs.more {T : Tb} {m : List Addr} {H : Hp} {pD : Addr} {o : HO} (n : H pD = none) : ∀ {ds : List D} {vs : List V}, RDs T m H ds vs → RDs (T.ex (pD :: T.x)) m (upd H pD o) ds vs
  | [], _, r => r
  | d :: ds, vs, r => by
    unfold RDs at r ⊢
    obtain ⟨v, q, e, r1, r2⟩ := r
    exact ⟨v, q, e, RD.more n r1, RDs.more n r2⟩
end
mutual
theorem RD.less {T : Tb} {m : List Addr} {H : Hp} {pD : Addr} : ∀ {d : D} {v : V}, RD (T.ex (pD :: T.x)) m H d v → RD T m H d v
  | .non, _, r => r
  | .bl _, _, r => r
  | .int _, _, r => r
  | .str _, _, r => r
  | .tup ds, v, r => by
    unfold RD at r ⊢
    obtain ⟨a, vs, e, q, r⟩ := r
    refine ⟨a, vs, e, ?_, RDs.less r⟩
    rcases q with ⟨⟨n1, n2⟩, q⟩ | q
    · exact .inl ⟨⟨n1, fun z => n2 (List.mem_cons_of_mem _ z)⟩, q⟩
    · exact .inr q
  | .lst ds, v, r => by
    unfold RD at r ⊢
    obtain ⟨a, vs, e, ⟨⟨n1, n2⟩, q⟩, r⟩ := r
    exact ⟨a, vs, e, ⟨⟨n1, fun z => n2 (List.mem_cons_of_mem _ z)⟩, q⟩, RDs.less r⟩
  | .fz ds, v, r => by
    unfold RD at r ⊢
    obtain ⟨a, vs, e, ⟨⟨n1, n2⟩, q⟩ | q, r⟩ := r
    · exact ⟨a, vs, e, .inl ⟨⟨n1, fun z => n2 (List.mem_cons_of_mem _ z)⟩, q⟩, RDs.less r⟩
    · exact ⟨a, vs, e, .inr q, RDs.less r⟩
  | .dic ks vs, v, r => by
    unfold RD at r ⊢
    obtain ⟨e1, e2, a, e, q⟩ := r
    exact ⟨e1, e2, a, e, q.less⟩
  | .obj c ks vs, v, r => by
    unfold RD at r ⊢
    obtain ⟨a, fs, e, q, e2, r⟩ := r
    exact ⟨a, fs, e, q.less, e2, RDs.less r⟩
  | .ref _, _, r => r
  | .clo _ _, _, r => r
  | .nam _, _, r => r
theorem RDs.less {T : Tb} {m : List Addr} {H : Hp} {pD : Addr} : ∀ {ds : List D} {vs : List V}, RDs (T.ex (pD :: T.x)) m H ds vs → RDs T m H ds vs
  | [], _, r => r
  | d :: ds, vs, r => by
    unfold RDs at r ⊢
    obtain ⟨v, q, e, r1, r2⟩ := r
    exact ⟨v, q, e, RD.less r1, RDs.less r2⟩
end
mutual
theorem RD.upd {T : Tb} {m : List Addr} {H : Hp} {pD : Addr} {o : HO} (n : pD ∈ T.x) : ∀ {d : D} {v : V}, RD T m H d v → RD T m (L2.upd H pD o) d v
  | .non, _, r => r
  | .bl _, _, r => r
  | .int _, _, r => r
  | .str _, _, r => r
  | .tup ds, v, r => by
    unfold RD at r ⊢
    obtain ⟨a, vs, e, q, r⟩ := r
    refine ⟨a, vs, e, ?_, RDs.upd n r⟩
    rcases q with ⟨⟨n1, n2⟩, q⟩ | q
    · have ne : a ≠ pD := fun z => n2 (by rw [z]; exact n)
      exact .inl ⟨⟨n1, n2⟩, by unfold Rd at q ⊢; rw [upd_ne ne]; exact q⟩
    · exact .inr q
  | .lst ds, v, r => by
    unfold RD at r ⊢
    obtain ⟨a, vs, e, ⟨⟨n1, n2⟩, q⟩, r⟩ := r
    have ne : a ≠ pD := fun z => n2 (by rw [z]; exact n)
    exact ⟨a, vs, e, ⟨⟨n1, n2⟩, by rw [upd_ne ne]; exact q⟩, RDs.upd n r⟩
  | .fz ds, v, r => by
    unfold RD at r ⊢
    obtain ⟨a, vs, e, ⟨⟨n1, n2⟩, q⟩ | q, r⟩ := r
    · have ne : a ≠ pD := fun z => n2 (by rw [z]; exact n)
      exact ⟨a, vs, e, .inl ⟨⟨n1, n2⟩, by unfold Rd at q ⊢; rw [upd_ne ne]; exact q⟩, RDs.upd n r⟩
    · exact ⟨a, vs, e, .inr q, RDs.upd n r⟩
  | .dic ks vs, v, r => by
    unfold RD at r ⊢
    obtain ⟨e1, e2, a, e, q⟩ := r
    exact ⟨e1, e2, a, e, q.upd n⟩
  | .obj c ks vs, v, r => by
    unfold RD at r ⊢
    obtain ⟨a, fs, e, q, e2, r⟩ := r
    exact ⟨a, fs, e, q.upd n, e2, RDs.upd n r⟩
  | .ref _, _, r => r
  | .clo _ _, _, r => r
  | .nam _, _, r => r
theorem RDs.upd {T : Tb} {m : List Addr} {H : Hp} {pD : Addr} {o : HO} (n : pD ∈ T.x) : ∀ {ds : List D} {vs : List V}, RDs T m H ds vs → RDs T m (L2.upd H pD o) ds vs
  | [], _, r => r
  | d :: ds, vs, r => by
    unfold RDs at r ⊢
    obtain ⟨v, q, e, r1, r2⟩ := r
    exact ⟨v, q, e, RD.upd n r1, RDs.upd n r2⟩
end
theorem RO.more {T : Tb} {m : List Addr} {H : Hp} {pD : Addr} {o : HO} (n : H pD = none) {b : Ob} {u : HO} (r : RO T m H b u) : RO (T.ex (pD :: T.x)) m (upd H pD o) b u := by
  cases b with
  | lst ds =>
    obtain ⟨vs, e, r⟩ := r
    exact ⟨vs, e, RDs.more n r⟩
  | dic _ _ => exact r
  | ins _ _ _ => exact r
  | tab =>
    obtain ⟨P, q, ps, e1, e2, e3, e4⟩ := r
    refine ⟨P, q, ps, e1, e2, e3, fun pos cv h => ?_⟩
    obtain ⟨c, h1, h2, h3⟩ := e4 pos cv h
    have ne : c ≠ pD := ne_of_none h3 n
    exact ⟨c, h1, ⟨h2.1, by simp [Tb.ex, ne, h2.2]⟩, by rw [upd_ne ne]; exact h3⟩
theorem RO.less {T : Tb} {m : List Addr} {H : Hp} {pD : Addr} {b : Ob} {u : HO} (r : RO (T.ex (pD :: T.x)) m H b u) : RO T m H b u := by
  cases b with
  | lst ds =>
    obtain ⟨vs, e, r⟩ := r
    exact ⟨vs, e, RDs.less r⟩
  | dic _ _ => exact r
  | ins _ _ _ => exact r
  | tab =>
    obtain ⟨P, q, ps, e1, e2, e3, e4⟩ := r
    refine ⟨P, q, ps, e1, e2, e3, fun pos cv h => ?_⟩
    obtain ⟨c, h1, h2, h3⟩ := e4 pos cv h
    exact ⟨c, h1, ⟨h2.1, fun z => h2.2 (List.mem_cons_of_mem _ z)⟩, h3⟩
theorem RO.upd {T : Tb} {m : List Addr} {H : Hp} {pD : Addr} {o : HO} (n : pD ∈ T.x) {b : Ob} {u : HO} (r : RO T m H b u) : RO T m (L2.upd H pD o) b u := by
  cases b with
  | lst ds =>
    obtain ⟨vs, e, r⟩ := r
    exact ⟨vs, e, RDs.upd n r⟩
  | dic _ _ => exact r
  | ins _ _ _ => exact r
  | tab =>
    obtain ⟨P, q, ps, e1, e2, e3, e4⟩ := r
    refine ⟨P, q, ps, e1, e2, e3, fun pos cv h => ?_⟩
    obtain ⟨c, h1, h2, h3⟩ := e4 pos cv h
    exact ⟨c, h1, h2, by rw [upd_ne (fun z : c = pD => h2.2 (by rw [z]; exact n))]; exact h3⟩
theorem Rl.more {T : Tb} {m : List Addr} {h : Hh} {H : Hp} {pD : Addr} {o : HO} (R : Rl T m h H) (n : H pD = none) : Rl (T.ex (pD :: T.x)) m h (upd H pD o) := by
  have nm := R.fresh n
  refine ⟨R.len, R.nod, fun a ha => ?_, fun i b e => ?_, R.t0⟩
  · rcases List.mem_cons.mp (show a ∈ pD :: T.x from ha) with e | ha
    · subst e
      exact ⟨nm, o, upd_same⟩
    · obtain ⟨n1, u, e⟩ := R.out a ha
      exact ⟨n1, u, by rw [upd_ne (ne_of_none e n)]; exact e⟩
  · obtain ⟨a, u, e1, e2, r⟩ := R.at_ i b e
    exact ⟨a, u, e1, by rw [upd_ne (ne_of_none e2 n)]; exact e2, RO.more n r⟩
theorem Rl.less {T : Tb} {m : List Addr} {h : Hh} {H : Hp} {pD : Addr} (R : Rl (T.ex (pD :: T.x)) m h H) : Rl T m h H :=
  ⟨R.len, R.nod, fun a ha => R.out a (List.mem_cons_of_mem _ ha), fun i b e => let ⟨a, u, e1, e2, r⟩ := R.at_ i b e; ⟨a, u, e1, e2, RO.less r⟩, R.t0⟩
theorem Rl.upd {T : Tb} {m : List Addr} {h : Hh} {H : Hp} {pD : Addr} {o : HO} (R : Rl T m h H) (n : pD ∈ T.x) : Rl T m h (L2.upd H pD o) := by
  have nm := (R.out pD n).1
  refine ⟨R.len, R.nod, fun a ha => ?_, fun i b e => ?_, R.t0⟩
  · obtain ⟨n1, u, e⟩ := R.out a ha
    by_cases z : a = pD
    · exact ⟨n1, o, by rw [z]; exact upd_same⟩
    · exact ⟨n1, u, by rw [upd_ne z]; exact e⟩
  · obtain ⟨a, u, e1, e2, r⟩ := R.at_ i b e
    exact ⟨a, u, e1, by rw [upd_ne fun z : a = pD => nm (by rw [← z]; exact List.mem_of_getElem? e1)]; exact e2, RO.upd n r⟩
theorem RS.more {T : Tb} {m : List Addr} {H : Hp} {pD : Addr} {o : HO} {env : Env} {σ : L2.St} (n : H pD = none) (r : RS T m H env σ) : RS (T.ex (pD :: T.x)) m (upd H pD o) env σ :=
  ⟨r.1, fun i d e => let ⟨v, e1, q⟩ := r.2 i d e; ⟨v, e1, RD.more n q⟩⟩
theorem RS.upd {T : Tb} {m : List Addr} {H : Hp} {pD : Addr} {o : HO} {env : Env} {σ : L2.St} (n : pD ∈ T.x) (r : RS T m H env σ) : RS T m (L2.upd H pD o) env σ :=
  ⟨r.1, fun i d e => let ⟨v, e1, q⟩ := r.2 i d e; ⟨v, e1, RD.upd n q⟩⟩
mutual
/-- .. it is one of those that may change, from now on -/
theorem RD.tom {T : Tb} {m : List Addr} {H : Hp} {p : Addr} : ∀ {d : D} {v : V}, RD (T.ex (p :: T.x)) m H d v → RD T (m ++ [p]) H d v
  | .non, _, r => r
  | .bl _, _, r => r
  | .int _, _, r => r
  | .str _, _, r => r
  | .tup ds, v, r => by
    unfold RD at r ⊢
    obtain ⟨a, vs, e, q, r⟩ := r
    refine ⟨a, vs, e, ?_, RDs.tom r⟩
    rcases q with ⟨⟨n1, n2⟩, q⟩ | q
    · have n3 : a ≠ p ∧ a ∉ T.x := by simpa [Tb.ex] using n2
      exact .inl ⟨⟨by simp [n1, n3.1], n3.2⟩, q⟩
    · exact .inr q
  | .lst ds, v, r => by
    unfold RD at r ⊢
    obtain ⟨a, vs, e, ⟨⟨n1, n2⟩, q⟩, r⟩ := r
    have n3 : a ≠ p ∧ a ∉ T.x := by simpa [Tb.ex] using n2
    exact ⟨a, vs, e, ⟨⟨by simp [n1, n3.1], n3.2⟩, q⟩, RDs.tom r⟩
  | .fz ds, v, r => by
    unfold RD at r ⊢
    obtain ⟨a, vs, e, ⟨⟨n1, n2⟩, q⟩ | q, r⟩ := r
    · have n3 : a ≠ p ∧ a ∉ T.x := by simpa [Tb.ex] using n2
      exact ⟨a, vs, e, .inl ⟨⟨by simp [n1, n3.1], n3.2⟩, q⟩, RDs.tom r⟩
    · exact ⟨a, vs, e, .inr q, RDs.tom r⟩
  | .dic ks vs, v, r => by
    unfold RD at r ⊢
    obtain ⟨e1, e2, a, e, q⟩ := r
    exact ⟨e1, e2, a, e, q.tom⟩
  | .obj c ks vs, v, r => by
    unfold RD at r ⊢
    obtain ⟨a, fs, e, q, e2, r⟩ := r
    exact ⟨a, fs, e, q.tom, e2, RDs.tom r⟩
  | .ref n, v, r => by
    unfold RD at r ⊢
    obtain ⟨a, e, q⟩ := r
    exact ⟨a, e, by rw [List.getElem?_append_left (List.getElem?_eq_some_iff.mp q).1, q]⟩
  | .clo _ _, _, r => r
  | .nam _, _, r => r
theorem RDs.tom {T : Tb} {m : List Addr} {H : Hp} {p : Addr} : ∀ {ds : List D} {vs : List V}, RDs (T.ex (p :: T.x)) m H ds vs → RDs T (m ++ [p]) H ds vs
  | [], _, r => r
  | d :: ds, vs, r => by
    unfold RDs at r ⊢
    obtain ⟨v, q, e, r1, r2⟩ := r
    exact ⟨v, q, e, RD.tom r1, RDs.tom r2⟩
end
theorem RO.tom {T : Tb} {m : List Addr} {H : Hp} {p : Addr} {b : Ob} {u : HO} (r : RO (T.ex (p :: T.x)) m H b u) : RO T (m ++ [p]) H b u := by
  cases b with
  | lst ds =>
    obtain ⟨vs, e, r⟩ := r
    exact ⟨vs, e, RDs.tom r⟩
  | dic _ _ => exact r
  | ins _ _ _ => exact r
  | tab =>
    obtain ⟨P, q, ps, e1, e2, e3, e4⟩ := r
    refine ⟨P, q, ps, e1, e2, e3, fun pos cv h => ?_⟩
    obtain ⟨c, h1, h2, h3⟩ := e4 pos cv h
    have n3 : c ≠ p ∧ c ∉ T.x := by simpa [Tb.ex] using h2.2
    exact ⟨c, h1, ⟨by simp [h2.1, n3.1], n3.2⟩, h3⟩
theorem Rl.tom {T : Tb} {m : List Addr} {h : Hh} {H : Hp} {p : Addr} {o : Ob} {u : HO} (R : Rl (T.ex (p :: T.x)) m h H) (np : p ∉ T.x) (e : H p = some u) (r : RO T (m ++ [p]) H o u) : Rl T (m ++ [p]) (h ++ [o]) H := by
  have nm := (R.out p List.mem_cons_self).1
  refine ⟨by simp [R.len], ?_, fun a ha => ?_, fun i o' ei => ?_, t0_app R.t0⟩
  · rw [List.nodup_append]
    exact ⟨R.nod, by simp, fun a ha b hb => by
      have : b = p := by simpa using hb
      subst this
      exact fun e => nm (e ▸ ha)⟩
  · obtain ⟨n1, w, e1⟩ := R.out a (List.mem_cons_of_mem _ ha)
    have ne : a ≠ p := fun z => np (by rw [← z]; exact ha)
    exact ⟨by simp [n1, ne], w, e1⟩
  · by_cases hi : i < h.length
    · rw [List.getElem?_append_left hi] at ei
      obtain ⟨a, u', e1, e2, r'⟩ := R.at_ i o' ei
      exact ⟨a, u', by rw [List.getElem?_append_left (by rw [R.len]; exact hi)]; exact e1, e2, RO.tom r'⟩
    · rw [List.getElem?_append_right (by omega)] at ei
      have hz : i - h.length = 0 := by
        rcases Nat.eq_zero_or_pos (i - h.length) with z | z
        · exact z
        · rw [List.getElem?_eq_none (by simp; omega)] at ei
          cases ei
      rw [hz] at ei
      have eo : o = o' := by simpa using ei
      subst eo
      refine ⟨p, u, ?_, e, r⟩
      rw [List.getElem?_append_right (by rw [R.len]; omega), R.len, hz]
      rfl
end Py
end

section
set_option Elab.async false
set_option linter.all false
set_option maxRecDepth 100000
namespace Py
open PySem PySem.Spec PyProof.Rows L2

/-- an exception of the mirror and where it lies -/
def RX (T : Tb) (m : List Addr) (H : Hp) (x : D) (C : Value) (d : Option Addr) : Prop :=
  ∃ c ks vs Ca dx fs, x = .obj c ks vs ∧ C = .ref Ca ∧ d = some dx ∧ T.mg (Str.ofString c) = some (.ref Ca) ∧ (dx ∉ m ∧ dx ∉ T.x) ∧ H dx = some (.xd fs) ∧ fs.map (·.1) = ks.map Str.ofString ∧ RDs T m H vs (fs.map (·.2))
/-- what is wanted behind an answer -/
def EvP (T : Tb) (W : WX) (σ : L2.St) (m : List Addr) (H : Hp) {α β : Type} (ρ : List Addr → Hp → α → β → Prop) (r : Res α) (Q : β → Hp → Prop) : Prop := match r with
  | .ok a h' => ∀ m' b H', Stp m H m' H' → Rl T m' h' H' → ρ m' H' a b → Q b H'
  | .exc x h' => ∀ m' C d H', Stp m H m' H' → Rl T m' h' H' → RX T m' H' x C d → W C d σ H'
  | .stuck => False
section
variable {T : Tb} {W : WX} {σ : L2.St} {m m1 : List Addr} {H H1 : Hp} {α β γ δ : Type} {ρ : List Addr → Hp → α → β → Prop} {ρ2 : List Addr → Hp → γ → δ → Prop}
theorem EvP.step {r : Res α} {Q : β → Hp → Prop} (s : Stp m H m1 H1) (e : EvP T W σ m H ρ r Q) : EvP T W σ m1 H1 ρ r Q := by
  cases r with
  | ok a h => exact fun m' b H' s' R q => e m' b H' (s.trans s') R q
  | exc x h => exact fun m' C d H' s' R q => e m' C d H' (s.trans s') R q
  | stuck => exact e
theorem EvP.imp {r : Res α} {Q Q' : β → Hp → Prop} (e : EvP T W σ m H ρ r Q) (h : ∀ b H', Q b H' → Q' b H') : EvP T W σ m H ρ r Q' := by
  cases r with
  | ok a h1 => exact fun m' b H' s' R q => h _ _ (e m' b H' s' R q)
  | exc x h => exact e
  | stuck => exact e
theorem EvP.seq {r : Res α} {f : α → Hh → Res γ} {Q : δ → Hp → Prop} {Q1 : β → Hp → Prop} (e : EvP T W σ m H ρ2 (r.bind f) Q)
    (k : ∀ a h1 m1 b H1, Stp m H m1 H1 → Rl T m1 h1 H1 → ρ m1 H1 a b → EvP T W σ m1 H1 ρ2 (f a h1) Q → Q1 b H1) : EvP T W σ m H ρ r Q1 := by
  cases r with
  | ok a h1 => exact fun m' b H' s' R q => k a h1 m' b H' s' R q (EvP.step s' e)
  | exc x h => exact e
  | stuck => exact e
theorem EvP.of {o : Option α} {h : Hh} {Q : β → Hp → Prop} (e : EvP T W σ m H ρ (.of o h) Q) : ∃ a, o = some a ∧ ∀ m' b H', Stp m H m' H' → Rl T m' h H' → ρ m' H' a b → Q b H' := by
  cases o with
  | none => exact e.elim
  | some a => exact ⟨a, rfl, e⟩
end
/-- an expression, a test, a list of arguments by its mirror -/
def tE (T : Tb) (W : WX) (f : Env → Hh → Res D) : TE := fun σ H Q => ∃ x m h env, Rl (T.ex x) m h H ∧ RS (T.ex x) m H env σ ∧ EvP (T.ex x) W σ m H (RD (T.ex x)) (f env h) Q
def tT (T : Tb) (W : WX) (f : Env → Hh → Res Bool) : TT := fun σ H Q => ∃ x m h env, Rl (T.ex x) m h H ∧ RS (T.ex x) m H env σ ∧ EvP (T.ex x) W σ m H (fun _ _ a b => a = b) (f env h) Q
def tA (T : Tb) (W : WX) (f : Env → Hh → Res (List D)) : TA := fun σ H Q => ∃ x m h env, Rl (T.ex x) m h H ∧ RS (T.ex x) m H env σ ∧ EvP (T.ex x) W σ m H (RDs (T.ex x)) (f env h) Q
theorem PE.imp {X : Cx} {e : Expr} {t t' : TE} (p : PE X e t) (h : ∀ σ H Q, t' σ H Q → t σ H Q) : PE X e t' := ⟨fun pins s σ H Q I q => p.run pins s σ H Q I (h _ _ _ q)⟩
theorem PT.imp {X : Cx} {e : Expr} {t t' : TT} (p : PT X e t) (h : ∀ σ H Q, t' σ H Q → t σ H Q) : PT X e t' := ⟨fun pins s σ H Q I q => p.run pins s σ H Q I (h _ _ _ q)⟩
theorem PA.imp {X : Cx} {e : List Expr} {t t' : TA} (p : PA X e t) (h : ∀ σ H Q, t' σ H Q → t σ H Q) : PA X e t' := ⟨fun pos pins s σ H Q I q => p.run pos pins s σ H Q I (h _ _ _ q)⟩
/-- what a body's context is: its tables, its wish about exceptions, its names -/
structure Ctx (T : Tb) (W : WX) (sc : Scope) (N : List Str) (X : Cx) : Prop where
  K : X.K = T.K
  mg : X.mg = T.mg
  N : X.N = N
  nd : X.N.Nodup
  tk : Takes X W
  calm : X.calm = true
  un : X.A.units + 64 < cLine
  kind : X.env.scope.kind = .function
  vis : ∀ x, sc.names.lookup x = some .local ∨ sc.names.lookup x = some .cell ∨ sc.names.lookup x = some .free → Vis X.env.scope x
  loc : ∀ x, sc.names.lookup x = some .local → X.env.scope.names.lookup x = some .local
  cel : ∀ x, sc.names.lookup x = some .cell → X.env.scope.names.lookup x = some .cell ∧ X.fn x = true
  glo : ∀ x, sc.names.lookup x = some .globalImplicit → Gl X x
  fre : ∀ x, sc.names.lookup x = some .free → X.env.scope.names.lookup x = some .cell ∨ X.env.scope.names.lookup x = some .free
/-- a two-place operation by its mirror -/
def r2 (T : Tb) (op : Hh → D → D → Option D) : R2 := fun x y H Q => ∃ X m h a b d, Rl (T.ex X) m h H ∧ RD (T.ex X) m H a x ∧ RD (T.ex X) m H b y ∧ op h a b = some d ∧ ∀ m' v H', Stp m H m' H' → Rl (T.ex X) m' h H' → RD (T.ex X) m' H' d v → Q v H'
section
variable {T : Tb} {W : WX} {m : List Addr} {H : Hp} {h : Hh}
theorem rd_int {i : Int} : RD T m H (.int i) (.int i) := by unfold RD; rfl
theorem rd_bl {b : Bool} : RD T m H (.bl b) (.bl b) := by unfold RD; rfl
theorem rd_str {s : List Nat} : RD T m H (.str s) (.str (SS s)) := by unfold RD; rfl
theorem rd_non : RD T m H .non .non := by unfold RD; rfl
theorem rd_tup {ds : List D} {vs : List V} {a : Addr} (n : a ∉ m ∧ a ∉ T.x) (e : H a = some (.tup vs)) (r : RDs T m H ds vs) : RD T m H (.tup ds) (.ref a) := by
  unfold RD
  exact ⟨a, vs, rfl, .inl ⟨n, .inl e⟩, r⟩
theorem rd_lst {ds : List D} {vs : List V} {a : Addr} (n : a ∉ m ∧ a ∉ T.x) (e : H a = some (.lst vs)) (r : RDs T m H ds vs) : RD T m H (.lst ds) (.ref a) := by
  unfold RD
  exact ⟨a, vs, rfl, ⟨n, e⟩, r⟩
theorem rd_int_iff {i : Int} {v : V} : RD T m H (.int i) v ↔ v = .int i := by unfold RD; exact Iff.rfl
theorem rd_bl_iff {i : Bool} {v : V} : RD T m H (.bl i) v ↔ v = .bl i := by unfold RD; exact Iff.rfl
theorem rd_str_iff {i : List Nat} {v : V} : RD T m H (.str i) v ↔ v = .str (SS i) := by unfold RD; exact Iff.rfl
theorem rd_non_iff {v : V} : RD T m H .non v ↔ v = .non := by unfold RD; exact Iff.rfl
theorem rd_tup_iff {ds : List D} {v : V} : RD T m H (.tup ds) v ↔ ∃ a vs, v = .ref a ∧ QT T m H a vs ∧ RDs T m H ds vs := by unfold RD; exact Iff.rfl
theorem rd_lst_iff {ds : List D} {v : V} : RD T m H (.lst ds) v ↔ ∃ a vs, v = .ref a ∧ QL T m H a vs ∧ RDs T m H ds vs := by unfold RD; exact Iff.rfl
theorem rd_fz_iff {ds : List D} {v : V} : RD T m H (.fz ds) v ↔ ∃ a vs, v = .ref a ∧ QF T m H a vs ∧ RDs T m H ds vs := by unfold RD; exact Iff.rfl
theorem rd_ref_iff {n : Nat} {v : V} : RD T m H (.ref n) v ↔ ∃ a, v = .ref a ∧ m[n]? = some a := by unfold RD; exact Iff.rfl
/-- a new tuple at p -/
theorem new_tup {ds : List D} {vs : List V} {p : Addr} (R : Rl T m h H) (n : H p = none) (r : RDs T m H ds vs) : Stp m H m (upd H p (.tup vs)) ∧ Rl T m h (upd H p (.tup vs)) ∧ RD T m (upd H p (.tup vs)) (.tup ds) (.ref p) :=
  ⟨Stp.laid n, R.laid n, rd_tup ⟨R.fresh n, R.freshX n⟩ upd_same (r.mono (Stp.laid n))⟩
theorem new_lst {ds : List D} {vs : List V} {p : Addr} (R : Rl T m h H) (n : H p = none) (r : RDs T m H ds vs) : Stp m H m (upd H p (.lst vs)) ∧ Rl T m h (upd H p (.lst vs)) ∧ RD T m (upd H p (.lst vs)) (.lst ds) (.ref p) :=
  ⟨Stp.laid n, R.laid n, rd_lst ⟨R.fresh n, R.freshX n⟩ upd_same (r.mono (Stp.laid n))⟩
theorem ss_len (s : List Nat) : (SS s).length = s.length := rfl
theorem ss_app (a b : List Nat) : SS a ++ SS b = SS (a ++ b) := by
  show Str.mk _ = Str.mk _
  congr 1
  exact List.append_toArray _ _
theorem line_eq : line = sizeLine := rfl
end
theorem big_nat {i : Int} (h : -big < i ∧ i < big) : i.natAbs < 2 ^ 64 := by
  unfold big at h
  omega
theorem scalQ {T : Tb} {m : List Addr} {H : Hp} {h : Hh} {d : D} {Q : VK} (R : Rl T m h H) (q : ∀ m' v H', Stp m H m' H' → Rl T m' h H' → RD T m' H' d v → Q v H') {w : V} (rw : RD T m H d w) : Q w H := q m w H .refl R rw
theorem op_bin (T : Tb) {X : Cx} (hK : X.K = T.K) : ∀ o : Bop, OpR X (binaryOp (match o with | .add => .Add | .sub => .Sub | .mul => .Mult | .fdiv => .FloorDiv | .mod => .Mod | .pow => .Pow)) (r2 T fun _ => bin? o) := by
  intro o pins s σ H x y v u Q I rx ry hq
  obtain ⟨xx, m, h, a, b, d, R, ra, rb, e, q⟩ := hq
  cases o with
  | add =>
    cases a with
    | int i =>
      cases b with
      | int j =>
        obtain rfl := rd_int_iff.mp ra
        obtain rfl := rd_int_iff.mp rb
        cases e
        exact op_add pins s σ H _ _ v u Q I rx ry ⟨i, j, rfl, rfl, scalQ R q rd_int⟩
      | _ => cases e
    | str i =>
      cases b with
      | str j =>
        obtain rfl := rd_str_iff.mp ra
        obtain rfl := rd_str_iff.mp rb
        simp only [bin?] at e
        split at e
        · rename_i hz
          cases e
          refine op_add_str pins s σ H _ _ v u Q I rx ry ⟨_, _, rfl, rfl, hz, ?_⟩
          rw [ss_app]
          exact scalQ R q rd_str
        · cases e
      | _ => cases e
    | tup i =>
      cases b with
      | tup j =>
        obtain ⟨a1, xs, rfl, q1, r1⟩ := rd_tup_iff.mp ra
        obtain ⟨a2, ys, rfl, q2, r2'⟩ := rd_tup_iff.mp rb
        simp only [bin?] at e
        split at e
        · rename_i hz
          cases e
          refine op_catA pins s σ H _ _ v u Q I rx ry ?_
          have hz' : xs.length + ys.length ≤ sizeLine := by rw [← r1.length, ← r2'.length]; exact hz
          have e1 := q1.sq
          have e2 := q2.sq
          rw [show (T.ex xx).K = X.K from hK.symm] at e1 e2
          unfold rCatA
          refine ⟨a1, a2, xs, ys, rfl, rfl, e1, e2, hz', fun e0 => ?_, fun n0 e0 => ?_, fun n1 n2 p hp => ?_⟩
          · subst e0
            have : i = [] := by
              have := r1.length
              cases i with
              | nil => rfl
              | cons _ _ => cases this
            subst this
            exact scalQ R q rb
          · subst e0
            have : j = [] := by
              have := r2'.length
              cases j with
              | nil => rfl
              | cons _ _ => cases this
            subst this
            rw [List.append_nil] at q
            exact scalQ R q ra
          · obtain ⟨s1, R1, r3⟩ := new_tup R hp (r1.append r2')
            exact q m _ _ s1 R1 r3
        · cases e
      | _ => cases e
    | _ => cases b <;> cases e
  | sub =>
    cases a with
    | int i =>
      cases b with
      | int j =>
        obtain rfl := rd_int_iff.mp ra
        obtain rfl := rd_int_iff.mp rb
        cases e
        exact op_sub pins s σ H _ _ v u Q I rx ry ⟨i, j, rfl, rfl, scalQ R q rd_int⟩
      | _ => cases e
    | _ => cases b <;> cases e
  | mul =>
    cases a with
    | int i =>
      cases b with
      | int j =>
        obtain rfl := rd_int_iff.mp ra
        obtain rfl := rd_int_iff.mp rb
        simp only [bin?] at e
        split at e
        · rename_i hz
          cases e
          refine op_mul pins s σ H _ _ v u Q I rx ry ⟨i, j, rfl, rfl, ?_, scalQ R q rd_int⟩
          unfold big at hz
          unfold CMul
          omega
        · cases e
      | _ => cases e
    | _ => cases b <;> cases e
  | fdiv =>
    cases a with
    | int i =>
      cases b with
      | int j =>
        obtain rfl := rd_int_iff.mp ra
        obtain rfl := rd_int_iff.mp rb
        simp only [bin?] at e
        split at e
        · rename_i hz
          cases e
          exact op_fdiv pins s σ H _ _ v u Q I rx ry ⟨i, j, rfl, rfl, hz, scalQ R q rd_int⟩
        · cases e
      | _ => cases e
    | _ => cases b <;> cases e
  | mod =>
    cases a with
    | int i =>
      cases b with
      | int j =>
        obtain rfl := rd_int_iff.mp ra
        obtain rfl := rd_int_iff.mp rb
        simp only [bin?] at e
        split at e
        · rename_i hz
          cases e
          exact op_mod pins s σ H _ _ v u Q I rx ry ⟨i, j, rfl, rfl, hz, scalQ R q rd_int⟩
        · cases e
      | _ => cases e
    | _ => cases b <;> cases e
  | pow =>
    cases a with
    | int i =>
      cases b with
      | int j =>
        obtain rfl := rd_int_iff.mp ra
        obtain rfl := rd_int_iff.mp rb
        simp only [bin?] at e
        split at e
        · rename_i hz
          cases e
          exact op_pow pins s σ H _ _ v u Q I rx ry ⟨i, j, rfl, rfl, ⟨hz.1, by omega, big_nat hz.2.2⟩, scalQ R q rd_int⟩
        · cases e
      | _ => cases e
    | _ => cases b <;> cases e
/-! ### items -/
theorem Rl.lst {T : Tb} {m : List Addr} {h : Hh} {H : Hp} (R : Rl T m h H) {n : Nat} {ds : List D} (e : h[n]? = some (.lst ds)) : ∃ a vs, m[n]? = some a ∧ H a = some (.lst vs) ∧ RDs T m H ds vs := by
  obtain ⟨a, u, e1, e2, vs, e3, r⟩ := R.at_ n _ e
  exact ⟨a, vs, e1, e3 ▸ e2, r⟩
theorem items_rd {T : Tb} {m : List Addr} {h : Hh} {H : Hp} (R : Rl T m h H) {d : D} {v : V} {ds : List D} (r : RD T m H d v) (e : items? h d = some ds) :
    ∃ a vs, v = .ref a ∧ (SqL T.K H a vs ∨ SqT T.K H a vs) ∧ RDs T m H ds vs := by
  cases d with
  | tup xs =>
    cases e
    obtain ⟨a, vs, rfl, q, r⟩ := rd_tup_iff.mp r
    exact ⟨a, vs, rfl, .inr q.sq, r⟩
  | lst xs =>
    cases e
    obtain ⟨a, vs, rfl, q, r⟩ := rd_lst_iff.mp r
    exact ⟨a, vs, rfl, .inl q.sq, r⟩
  | fz xs =>
    cases e
    obtain ⟨a, vs, rfl, q, r⟩ := rd_fz_iff.mp r
    exact ⟨a, vs, rfl, .inl q.sq, r⟩
  | ref n =>
    obtain ⟨a, rfl, en⟩ := rd_ref_iff.mp r
    simp only [items?] at e
    split at e
    · rename_i xs hx
      cases e
      obtain ⟨a', vs, e1, e2, r⟩ := R.lst hx
      rw [en] at e1
      cases e1
      exact ⟨a, vs, rfl, .inl (.inl (.inl e2)), r⟩
    · cases e
  | _ => cases e
theorem listed_rd {T : Tb} {m : List Addr} {h : Hh} {H : Hp} (R : Rl T m h H) {d : D} {v : V} {ds : List D} (r : RD T m H d v) (e : listed? h d = some ds) :
    ∃ a vs, v = .ref a ∧ H a = some (.lst vs) ∧ RDs T m H ds vs := by
  cases d with
  | lst xs =>
    cases e
    obtain ⟨a, vs, rfl, q, r⟩ := rd_lst_iff.mp r
    exact ⟨a, vs, rfl, q.2, r⟩
  | ref n =>
    obtain ⟨a, rfl, en⟩ := rd_ref_iff.mp r
    simp only [listed?] at e
    split at e
    · rename_i xs hx
      cases e
      obtain ⟨a', vs, e1, e2, r⟩ := R.lst hx
      rw [en] at e1
      cases e1
      exact ⟨a, vs, rfl, e2, r⟩
    · cases e
  | _ => cases e
theorem rlist_rd {T : Tb} {m : List Addr} {h : Hh} {H : Hp} (R : Rl T m h H) {d : D} {v : V} {ds : List D} (r : RD T m H d v) (e : rlist? h d = some ds) :
    ∃ a vs, v = .ref a ∧ SqL T.K H a vs ∧ RDs T m H ds vs := by
  cases d with
  | fz xs =>
    cases e
    obtain ⟨a, vs, rfl, q, r⟩ := rd_fz_iff.mp r
    exact ⟨a, vs, rfl, q.sq, r⟩
  | _ =>
    obtain ⟨a, vs, e1, e2, e3⟩ := listed_rd R r e
    exact ⟨a, vs, e1, .inl (.inl e2), e3⟩
theorem flat_rd {T : Tb} {m : List Addr} {H : Hp} {d : D} {v : V} (r : RD T m H d v) (f : flat d = true) : flatV v = true := by
  cases d with
  | non => obtain rfl := rd_non_iff.mp r; rfl
  | bl _ => obtain rfl := rd_bl_iff.mp r; rfl
  | int _ => obtain rfl := rd_int_iff.mp r; rfl
  | str _ => obtain rfl := rd_str_iff.mp r; rfl
  | _ => cases f
theorem flats_rd {T : Tb} {m : List Addr} {H : Hp} : ∀ {ds : List D} {vs : List V}, RDs T m H ds vs → ds.all flat = true → vs.all flatV = true
  | [], _, r, _ => by
    unfold RDs at r
    subst r
    rfl
  | d :: ds, vs, r, f => by
    unfold RDs at r
    obtain ⟨v, q, rfl, r1, r2⟩ := r
    rw [List.all_cons, Bool.and_eq_true] at f ⊢
    exact ⟨flat_rd r1 f.1, flats_rd r2 f.2⟩
theorem ss_beq (a b : List Nat) : (SS a == SS b) = (a == b) := by
  by_cases e : a = b
  · subst e
    simp
  · have h : SS a ≠ SS b := fun z => e (by
      have z2 : a.toArray = b.toArray := congrArg Str.cps z
      simpa using congrArg Array.toList z2)
    rw [beq_eq_false_iff_ne.mpr h, beq_eq_false_iff_ne.mpr e]
theorem ss_inj {a b : List Nat} (h : SS a = SS b) : a = b := by
  have z2 : a.toArray = b.toArray := congrArg Str.cps h
  simpa using congrArg Array.toList z2
theorem eqF_rd {T : Tb} {m : List Addr} {H : Hp} {a b : D} {x y : V} (ra : RD T m H a x) (rb : RD T m H b y) (fa : flat a = true) (fb : flat b = true) : eqV x y = eqF a b := by
  cases a with
  | non => obtain rfl := rd_non_iff.mp ra; cases b with
    | non => obtain rfl := rd_non_iff.mp rb; rfl
    | bl _ => obtain rfl := rd_bl_iff.mp rb; rfl
    | int _ => obtain rfl := rd_int_iff.mp rb; rfl
    | str _ => obtain rfl := rd_str_iff.mp rb; rfl
    | _ => cases fb
  | bl _ => obtain rfl := rd_bl_iff.mp ra; cases b with
    | non => obtain rfl := rd_non_iff.mp rb; rfl
    | bl _ => obtain rfl := rd_bl_iff.mp rb; rfl
    | int _ => obtain rfl := rd_int_iff.mp rb; rfl
    | str _ => obtain rfl := rd_str_iff.mp rb; rfl
    | _ => cases fb
  | int _ => obtain rfl := rd_int_iff.mp ra; cases b with
    | non => obtain rfl := rd_non_iff.mp rb; rfl
    | bl _ => obtain rfl := rd_bl_iff.mp rb; rfl
    | int _ => obtain rfl := rd_int_iff.mp rb; rfl
    | str _ => obtain rfl := rd_str_iff.mp rb; rfl
    | _ => cases fb
  | str _ => obtain rfl := rd_str_iff.mp ra; cases b with
    | non => obtain rfl := rd_non_iff.mp rb; rfl
    | bl _ => obtain rfl := rd_bl_iff.mp rb; rfl
    | int _ => obtain rfl := rd_int_iff.mp rb; rfl
    | str _ => obtain rfl := rd_str_iff.mp rb; exact ss_beq _ _
    | _ => cases fb
  | _ => cases fa
theorem inV_rd {T : Tb} {m : List Addr} {H : Hp} {a : D} {x : V} (ra : RD T m H a x) (fa : flat a = true) : ∀ {ds : List D} {vs : List V}, RDs T m H ds vs → ds.all flat = true → inV x vs = ds.any fun d => eqF d a
  | [], _, r, _ => by
    unfold RDs at r
    subst r
    rfl
  | d :: ds, vs, r, f => by
    unfold RDs at r
    obtain ⟨v, q, rfl, r1, r2⟩ := r
    rw [List.all_cons, Bool.and_eq_true] at f
    have ih := inV_rd ra fa r2 f.2
    unfold inV at ih ⊢
    rw [List.any_cons, List.any_cons, ih, eqF_rd r1 ra f.1 fa]
/-! ### data -/
mutual
def toP : D → PyData
  | .bl b => .bool b
  | .int i => .int i
  | .str s => .str (SS s)
  | .tup ds => .tuple (toPs ds)
  | .lst ds => .list (toPs ds)
  | _ => .none
def toPs : List D → List PyData
  | [] => []
  | d :: ds => toP d :: toPs ds
end
mutual
theorem toP_eqv : ∀ (a b : D) (n k : Nat), pure? n a = true → pure? k b = true → PyData.eqv (toP a) (toP b) = eqD a b
  | .non, b, n, k, _, hb => by cases b <;> first | (simp only [pure?, Bool.false_eq_true] at hb; done) | simp only [toP, PyData.eqv, eqD]
  | .bl x, b, n, k, _, hb => by cases b <;> first | (simp only [pure?, Bool.false_eq_true] at hb; done) | simp only [toP, PyData.eqv, eqD, b2]
  | .int x, b, n, k, _, hb => by cases b <;> first | (simp only [pure?, Bool.false_eq_true] at hb; done) | simp only [toP, PyData.eqv, eqD, b2]
  | .str x, b, n, k, _, hb => by cases b <;> first | (simp only [pure?, Bool.false_eq_true] at hb; done) | simp only [toP, PyData.eqv, eqD, ss_beq]
  | .tup x, b, n, k, ha, hb => by
    cases n with
    | zero => simp [pure?] at ha
    | succ n =>
      cases b with
      | tup y =>
        cases k with
        | zero => simp [pure?] at hb
        | succ k =>
          simp only [pure?] at ha hb
          simp only [toP, PyData.eqv, eqD]
          exact toPs_eqv x y n k ha hb
      | _ => first | (simp only [pure?, Bool.false_eq_true] at hb; done) | simp only [toP, PyData.eqv, eqD]
  | .lst x, b, n, k, ha, hb => by
    cases n with
    | zero => simp [pure?] at ha
    | succ n =>
      cases b with
      | lst y =>
        cases k with
        | zero => simp [pure?] at hb
        | succ k =>
          simp only [pure?] at ha hb
          simp only [toP, PyData.eqv, eqD]
          exact toPs_eqv x y n k ha hb
      | _ => first | (simp only [pure?, Bool.false_eq_true] at hb; done) | simp only [toP, PyData.eqv, eqD]
  | .fz _, _, _, _, ha, _ => by simp [pure?] at ha
  | .dic _ _, _, _, _, ha, _ => by simp [pure?] at ha
  | .obj _ _ _, _, _, _, ha, _ => by simp [pure?] at ha
  | .ref _, _, _, _, ha, _ => by simp [pure?] at ha
  | .clo _ _, _, _, _, ha, _ => by simp [pure?] at ha
  | .nam _, _, _, _, ha, _ => by simp [pure?] at ha
theorem toPs_eqv : ∀ (a b : List D) (n k : Nat), pures? n a = true → pures? k b = true → PyData.eqvAll (toPs a) (toPs b) = eqDs a b
  | [], b, n, k, _, hb => by cases b <;> simp only [toPs, PyData.eqvAll, eqDs]
  | x :: r, b, n, k, ha, hb => by
    cases b with
    | nil => simp only [toPs, PyData.eqvAll, eqDs]
    | cons y t =>
      simp only [pures?, Bool.and_eq_true] at ha hb
      simp only [toPs, PyData.eqvAll, eqDs]
      rw [toP_eqv x y n k ha.1 hb.1, toPs_eqv r t n k ha.2 hb.2]
end
mutual
theorem toP_can : ∀ (a : D) (n : Nat), pure? n a = true → PyData.canLay0 (toP a) = true ∧ PyData.depth (toP a) ≤ n
  | .non, n, _ => by simp [toP, PyData.canLay0, PyData.depth]
  | .bl x, n, _ => by simp [toP, PyData.canLay0, PyData.depth]
  | .int x, n, _ => by simp [toP, PyData.canLay0, PyData.depth]
  | .str x, n, ha => by
    simp only [pure?, okS] at ha
    simp only [toP, PyData.canLay0, PyData.depth]
    refine ⟨?_, Nat.zero_le _⟩
    unfold PyData.strOk SS
    simpa using ha
  | .tup x, n, ha => by
    cases n with
    | zero => simp [pure?] at ha
    | succ n =>
      simp only [pure?] at ha
      simp only [toP, PyData.canLay0, PyData.depth]
      obtain ⟨h1, h2⟩ := toPs_can x n ha
      exact ⟨h1, by omega⟩
  | .lst x, n, ha => by
    cases n with
    | zero => simp [pure?] at ha
    | succ n =>
      simp only [pure?] at ha
      simp only [toP, PyData.canLay0, PyData.depth]
      obtain ⟨h1, h2⟩ := toPs_can x n ha
      exact ⟨h1, by omega⟩
  | .fz _, _, ha => by simp [pure?] at ha
  | .dic _ _, _, ha => by simp [pure?] at ha
  | .obj _ _ _, _, ha => by simp [pure?] at ha
  | .ref _, _, ha => by simp [pure?] at ha
  | .clo _ _, _, ha => by simp [pure?] at ha
  | .nam _, _, ha => by simp [pure?] at ha
theorem toPs_can : ∀ (a : List D) (n : Nat), pures? n a = true → PyData.canLayAll0 (toPs a) = true ∧ PyData.depthAll (toPs a) ≤ n
  | [], n, _ => by simp [toPs, PyData.canLayAll0, PyData.depthAll]
  | x :: r, n, ha => by
    simp only [pures?, Bool.and_eq_true] at ha
    obtain ⟨h1, h2⟩ := toP_can x n ha.1
    obtain ⟨h3, h4⟩ := toPs_can r n ha.2
    simp only [toPs, PyData.canLayAll0, PyData.depthAll, h1, h3, Bool.and_self, true_and]
    omega
end
mutual
theorem rd_dp {T : Tb} {m : List Addr} {H : Hp} : ∀ {d : D} {v : V} {n : Nat}, RD T m H d v → pure? n d = true → Dp T.K H v (toP d)
  | .non, v, n, r, _ => by obtain rfl := rd_non_iff.mp r; exact .non
  | .bl x, v, n, r, _ => by obtain rfl := rd_bl_iff.mp r; exact .bl _
  | .int x, v, n, r, _ => by obtain rfl := rd_int_iff.mp r; exact .int _
  | .str x, v, n, r, _ => by obtain rfl := rd_str_iff.mp r; exact .str _
  | .tup x, v, n, r, p => by
    obtain ⟨a, vs, rfl, q, r⟩ := rd_tup_iff.mp r
    cases n with
    | zero => simp [pure?] at p
    | succ n =>
      simp only [pure?] at p
      exact .tup q.sq (rds_dp r p)
  | .lst x, v, n, r, p => by
    obtain ⟨a, vs, rfl, q, r⟩ := rd_lst_iff.mp r
    cases n with
    | zero => simp [pure?] at p
    | succ n =>
      simp only [pure?] at p
      exact .lst q.sq (rds_dp r p)
  | .fz _, _, _, _, ha => by simp [pure?] at ha
  | .dic _ _, _, _, _, ha => by simp [pure?] at ha
  | .obj _ _ _, _, _, _, ha => by simp [pure?] at ha
  | .ref _, _, _, _, ha => by simp [pure?] at ha
  | .clo _ _, _, _, _, ha => by simp [pure?] at ha
  | .nam _, _, _, _, ha => by simp [pure?] at ha
theorem rds_dp {T : Tb} {m : List Addr} {H : Hp} : ∀ {d : List D} {v : List V} {n : Nat}, RDs T m H d v → pures? n d = true → DpAll T.K H v (toPs d)
  | [], v, n, r, _ => by
    unfold RDs at r
    subst r
    exact .nil
  | x :: xs, v, n, r, p => by
    unfold RDs at r
    obtain ⟨w, q, rfl, r1, r2⟩ := r
    simp only [pures?, Bool.and_eq_true] at p
    exact .cons (rd_dp r1 p.1) (rds_dp r2 p.2)
end
/-- a value as its still data -/
theorem still_dp {T : Tb} {m : List Addr} {h : Hh} {H : Hp} (R : Rl T m h H) {d : D} {v : V} (r : RD T m H d v) (p : pure? 60 (still h d) = true) : Dp T.K H v (toP (still h d)) := by
  cases d with
  | ref n =>
    obtain ⟨a, rfl, en⟩ := rd_ref_iff.mp r
    simp only [still] at p ⊢
    split at p
    · rename_i ds hx
      obtain ⟨a', vs, e1, e2, r⟩ := R.lst hx
      rw [en] at e1
      cases e1
      simp only [pure?] at p
      exact .lst (.inl (.inl e2)) (rds_dp r p)
    · simp [pure?] at p
  | _ => exact rd_dp r p
end Py
end

section
set_option Elab.async false
set_option linter.all false
set_option maxRecDepth 100000
namespace Py
open PySem PySem.Spec PyProof.Rows L2
/-! ### < of flat values and of tuples -/
section
variable {T : Tb} {m : List Addr} {H : Hp} {h : Hh}
theorem rc_ltF {A : Around} {s : Shared} {a b : D} {x y : V} {u v : Value} {r : Bool} (ra : RD T m H a x) (rb : RD T m H b y) (ru : RelV x u) (rv : RelV y v) (e : ltF a b = some r) : Ob.RcOp .Lt A s u v r := by
  cases a with
  | int i => cases b with
    | int j =>
      obtain rfl := rd_int_iff.mp ra
      obtain rfl := rd_int_iff.mp rb
      obtain ⟨t, rfl⟩ := ru
      obtain ⟨t', rfl⟩ := rv
      cases e
      exact Ob.RcOp.lt_int _ _ _ _
    | _ => cases e
  | str i => cases b with
    | str j =>
      obtain rfl := rd_str_iff.mp ra
      obtain rfl := rd_str_iff.mp rb
      obtain ⟨t, rfl⟩ := ru
      obtain ⟨t', rfl⟩ := rv
      cases e
      intro prog w E Q h
      refine PyProof.Rows.lt_str ?_
      exact h
    | _ => cases e
  | _ => cases b <;> cases e
theorem ltF_flat {a b : D} (e : (ltF a b).isSome = true) : flat a = true ∧ flat b = true := by
  cases a <;> cases b <;> first | (cases e; done) | exact ⟨rfl, rfl⟩
/-- the places of two lists -/
def eAt (a b : List D) (j : Nat) : Bool := eqF (a.getD j .non) (b.getD j .non)
def rAt (a b : List D) (j : Nat) : Bool := (ltF (a.getD j .non) (b.getD j .non)).getD false
theorem lexD_at : ∀ (a b : List D), Ob.lexAt (eAt a b) (rAt a b) (decide (a.length < b.length)) 0 (min a.length b.length) = lexD a b
  | [], [] => rfl
  | [], _ :: _ => by simp [Ob.lexAt, lexD]
  | _ :: _, [] => by simp [Ob.lexAt, lexD]
  | x :: xs, y :: ys => by
    have sh : ∀ (k i : Nat), Ob.lexAt (eAt (x :: xs) (y :: ys)) (rAt (x :: xs) (y :: ys)) (decide ((x :: xs).length < (y :: ys).length)) (i + 1) k = Ob.lexAt (eAt xs ys) (rAt xs ys) (decide (xs.length < ys.length)) i k := by
      intro k
      induction k with
      | zero => intro i; simp [Ob.lexAt]
      | succ k ih =>
        intro i
        rw [Ob.lexAt_succ, Ob.lexAt_succ, ih (i + 1)]
        rfl
    have hm : min (x :: xs).length (y :: ys).length = min xs.length ys.length + 1 := by simp only [List.length_cons]; omega
    rw [hm, Ob.lexAt_succ, sh, lexD_at xs ys]
    rfl
theorem cmpT_at : ∀ (a b : List D), cmpT a b = true → ∀ j, j < a.length → j < b.length → (ltF (a.getD j .non) (b.getD j .non)).isSome = true
  | [], _, _, j, h, _ => by simp at h
  | _ :: _, [], _, j, _, h => by simp at h
  | x :: xs, y :: ys, e, j, h1, h2 => by
    unfold cmpT at e
    rw [Bool.and_eq_true] at e
    cases j with
    | zero => exact e.1
    | succ j => exact cmpT_at xs ys e.2 j (by simpa using h1) (by simpa using h2)
theorem rds_getD {ds : List D} {vs : List V} (r : RDs T m H ds vs) {j : Nat} (hj : j < ds.length) : ∃ v, vs[j]? = some v ∧ RD T m H (ds.getD j .non) v := by
  obtain ⟨v, e, r'⟩ := r.get (i := j) (d := ds[j]) (List.getElem?_eq_getElem hj)
  refine ⟨v, e, ?_⟩
  have : ds.getD j .non = ds[j] := by simp [List.getD, hj]
  rw [this]
  exact r'
theorem tup_lt {X : Cx} {pins : List (Addr × Obj)} {σ : L2.St} {s : Shared} {a b : List D} {p q : Addr} {xs ys : List V} (I : Inv X pins σ H s) (hu : X.A.units < cLine) (hp : SqT X.K H p xs) (hq : SqT X.K H q ys) (ra : RDs T m H a xs) (rb : RDs T m H b ys) (e : cmpT a b = true) :
    Ob.RcOp .Lt X.A s (.ref p) (.ref q) (lexD a b) := by
  obtain ⟨us, r1, p1, _⟩ := I.tuple hp
  obtain ⟨ws, r2, p2, _⟩ := I.tuple hq
  have z1 : us.toArray.size = a.length := by rw [List.size_toArray, ← r1.length, ← ra.length]
  have z2 : ws.toArray.size = b.length := by rw [List.size_toArray, ← r2.length, ← rb.length]
  have at1 : ∀ j (h1 : j < us.toArray.size), ∃ x, RelV x us.toArray[j] ∧ RD T m H (a.getD j .non) x := fun j h1 => by
    obtain ⟨x, ex, rx⟩ := rds_getD ra (j := j) (by rw [← z1]; exact h1)
    obtain ⟨u, eu, ru⟩ := r1.get ex
    refine ⟨x, ?_, rx⟩
    have : us.toArray[j] = u := by
      have := List.getElem?_eq_some_iff.mp eu
      obtain ⟨_, k⟩ := this
      simpa using k
    rw [this]
    exact ru
  have at2 : ∀ j (h1 : j < ws.toArray.size), ∃ x, RelV x ws.toArray[j] ∧ RD T m H (b.getD j .non) x := fun j h1 => by
    obtain ⟨x, ex, rx⟩ := rds_getD rb (j := j) (by rw [← z2]; exact h1)
    obtain ⟨u, eu, ru⟩ := r2.get ex
    refine ⟨x, ?_, rx⟩
    have : ws.toArray[j] = u := by
      have := List.getElem?_eq_some_iff.mp eu
      obtain ⟨_, k⟩ := this
      simpa using k
    rw [this]
    exact ru
  have R := Ob.RcOp.tuples_lt (A := X.A) (s := s) (e := eAt a b) (r := rAt a b) p1 p2 hu (fun j h1 h2 => by
    obtain ⟨x, rx, dx⟩ := at1 j h1
    obtain ⟨y, ry, dy⟩ := at2 j h2
    have hs := cmpT_at a b e j (by rw [← z1]; exact h1) (by rw [← z2]; exact h2)
    obtain ⟨f1, f2⟩ := ltF_flat hs
    have := L2.eqAt_V (A := X.A.in1) (s := s) rx ry (flat_rd dx f1) (flat_rd dy f2)
    rw [eqF_rd dx dy f1 f2] at this
    exact this) (fun j h1 h2 _ => by
    obtain ⟨x, rx, dx⟩ := at1 j h1
    obtain ⟨y, ry, dy⟩ := at2 j h2
    have hs := cmpT_at a b e j (by rw [← z1]; exact h1) (by rw [← z2]; exact h2)
    obtain ⟨r, er⟩ := Option.isSome_iff_exists.mp hs
    have z : rAt a b j = r := by unfold rAt; rw [er]; rfl
    rw [z]
    exact rc_ltF dx dy rx ry er)
  rw [z1, z2, lexD_at] at R
  exact R
theorem rc_gtF {A : Around} {s : Shared} {a b : D} {x y : V} {u v : Value} {r : Bool} (ra : RD T m H a x) (rb : RD T m H b y) (ru : RelV x u) (rv : RelV y v) (e : ltF b a = some r) : Ob.RcOp .Gt A s u v r := by
  cases a with
  | int i => cases b with
    | int j =>
      obtain rfl := rd_int_iff.mp ra
      obtain rfl := rd_int_iff.mp rb
      obtain ⟨t, rfl⟩ := ru
      obtain ⟨t', rfl⟩ := rv
      cases e
      exact Ob.RcOp.gt_int _ _ _ _
    | _ => cases e
  | str i => cases b with
    | str j =>
      obtain rfl := rd_str_iff.mp ra
      obtain rfl := rd_str_iff.mp rb
      obtain ⟨t, rfl⟩ := ru
      obtain ⟨t', rfl⟩ := rv
      cases e
      intro prog w E Q h
      refine PySem.P.gt_str ?_
      exact h
    | _ => cases e
  | _ => cases b <;> cases e
theorem eqF_comm (a b : D) : eqF a b = eqF b a := by
  cases a <;> cases b <;> simp only [eqF] <;> exact Bool.beq_comm
theorem lexD_gt (a b : List D) : Ob.lexAt (eAt a b) (rAt b a) (decide (b.length < a.length)) 0 (min a.length b.length) = lexD b a := by
  rw [← lexD_at b a, Nat.min_comm]
  have : eAt a b = eAt b a := funext fun j => eqF_comm _ _
  rw [this]
theorem cmpT_comm : ∀ (a b : List D), cmpT b a = true → ∀ j, j < a.length → j < b.length → (ltF (b.getD j .non) (a.getD j .non)).isSome = true := fun a b e j h1 h2 => cmpT_at b a e j h2 h1
theorem tup_gt {X : Cx} {pins : List (Addr × Obj)} {σ : L2.St} {s : Shared} {a b : List D} {p q : Addr} {xs ys : List V} (I : Inv X pins σ H s) (hu : X.A.units < cLine) (hp : SqT X.K H p xs) (hq : SqT X.K H q ys) (ra : RDs T m H a xs) (rb : RDs T m H b ys) (e : cmpT b a = true) :
    Ob.RcOp .Gt X.A s (.ref p) (.ref q) (lexD b a) := by
  obtain ⟨us, r1, p1, _⟩ := I.tuple hp
  obtain ⟨ws, r2, p2, _⟩ := I.tuple hq
  have z1 : us.toArray.size = a.length := by rw [List.size_toArray, ← r1.length, ← ra.length]
  have z2 : ws.toArray.size = b.length := by rw [List.size_toArray, ← r2.length, ← rb.length]
  have at1 : ∀ j (h1 : j < us.toArray.size), ∃ x, RelV x us.toArray[j] ∧ RD T m H (a.getD j .non) x := fun j h1 => by
    obtain ⟨x, ex, rx⟩ := rds_getD ra (j := j) (by rw [← z1]; exact h1)
    obtain ⟨u, eu, ru⟩ := r1.get ex
    refine ⟨x, ?_, rx⟩
    have : us.toArray[j] = u := by
      have := List.getElem?_eq_some_iff.mp eu
      obtain ⟨_, k⟩ := this
      simpa using k
    rw [this]
    exact ru
  have at2 : ∀ j (h1 : j < ws.toArray.size), ∃ x, RelV x ws.toArray[j] ∧ RD T m H (b.getD j .non) x := fun j h1 => by
    obtain ⟨x, ex, rx⟩ := rds_getD rb (j := j) (by rw [← z2]; exact h1)
    obtain ⟨u, eu, ru⟩ := r2.get ex
    refine ⟨x, ?_, rx⟩
    have : ws.toArray[j] = u := by
      have := List.getElem?_eq_some_iff.mp eu
      obtain ⟨_, k⟩ := this
      simpa using k
    rw [this]
    exact ru
  have R := Ob.RcOp.tuples_gt (A := X.A) (s := s) (e := eAt a b) (r := rAt b a) p1 p2 hu (fun j h1 h2 => by
    obtain ⟨x, rx, dx⟩ := at1 j h1
    obtain ⟨y, ry, dy⟩ := at2 j h2
    have hs := cmpT_comm a b e j (by rw [← z1]; exact h1) (by rw [← z2]; exact h2)
    obtain ⟨f2, f1⟩ := ltF_flat hs
    have := L2.eqAt_V (A := X.A.in1) (s := s) rx ry (flat_rd dx f1) (flat_rd dy f2)
    rw [eqF_rd dx dy f1 f2] at this
    exact this) (fun j h1 h2 _ => by
    obtain ⟨x, rx, dx⟩ := at1 j h1
    obtain ⟨y, ry, dy⟩ := at2 j h2
    have hs := cmpT_comm a b e j (by rw [← z1]; exact h1) (by rw [← z2]; exact h2)
    obtain ⟨r, er⟩ := Option.isSome_iff_exists.mp hs
    have z : rAt b a j = r := by unfold rAt; rw [er]; rfl
    rw [z]
    exact rc_gtF dx dy rx ry er)
  rw [z1, z2] at R
  have R2 : Ob.RcOp .Gt X.A s (.ref p) (.ref q) (Ob.lexAt (eAt a b) (rAt b a) (decide (b.length < a.length)) 0 (min a.length b.length)) := R
  rw [lexD_gt] at R2
  exact R2
end
/-- a comparison by its mirror -/
def rC (T : Tb) (o : Cop) : R2 := fun x y H Q => ∃ X m h a b r, Rl (T.ex X) m h H ∧ RD (T.ex X) m H a x ∧ RD (T.ex X) m H b y ∧ cmp? h o a b = some r ∧ Q (.bl r) H
def cop : Cop → CmpOp
  | .eq => .Eq | .ne => .NotEq | .lt => .Lt | .le => .LtE | .gt => .Gt | .ge => .GtE | .is => .Is | .isn => .IsNot | .inn => .In | .nin => .NotIn
theorem rc_op {X : Cx} {op : CmpOp} {u v : Value} {s : Shared} {b : Bool} {pins : List (Addr × Obj)} {σ : L2.St} {H : Hp} {Q : VK} (I : Inv X pins σ H s) (R : wpAny (model X.prog X.w) X.A (compareOp op u v) (EP X pins σ Q) X.xe s = wpAny (model X.prog X.w) X.A (richCompare op u v) (EP X pins σ Q) X.xe s) (k : Ob.RcOp op X.A s u v b) (q : Q (.bl b) H) : wpAny (model X.prog X.w) X.A (compareOp op u v) (EP X pins σ Q) X.xe s := by
  rw [R]
  exact k X.prog X.w X.xe (EP X pins σ Q) ⟨.bl _, H, I, rfl, q⟩
section
variable (T : Tb) {X : Cx} (hK : X.K = T.K) (hu : X.A.units + 64 < cLine)
include hK hu
theorem op_lt' : OpR X (compareOp .Lt) (rC T .lt) := by
  intro pins s σ H x y v u Q I rx ry hq
  obtain ⟨xx, m, h, a, b, r, R, ra, rb, e, q⟩ := hq
  have e : lt? a b = some r := e
  cases a with
  | tup i => cases b with
    | tup j =>
      obtain ⟨a1, xs, rfl, q1, r1⟩ := rd_tup_iff.mp ra
      obtain ⟨a2, ys, rfl, q2, r2⟩ := rd_tup_iff.mp rb
      simp only [lt?] at e
      split at e
      · rename_i hc
        cases e
        cases rx
        cases ry
        have e1 := q1.sq
        have e2 := q2.sq
        rw [show (T.ex xx).K = X.K from hK.symm] at e1 e2
        exact rc_op I rfl (tup_lt I (by omega) e1 e2 r1 r2 hc) q
      · cases e
    | _ => cases e
  | int i => exact rc_op I rfl (rc_ltF ra rb rx ry (by cases b <;> exact e)) q
  | str i => exact rc_op I rfl (rc_ltF ra rb rx ry (by cases b <;> exact e)) q
  | _ => cases b <;> cases e
theorem op_gt' : OpR X (compareOp .Gt) (rC T .gt) := by
  intro pins s σ H x y v u Q I rx ry hq
  obtain ⟨xx, m, h, a, b, r, R, ra, rb, e, q⟩ := hq
  have e : lt? b a = some r := e
  cases b with
  | tup j => cases a with
    | tup i =>
      obtain ⟨a1, xs, rfl, q1, r1⟩ := rd_tup_iff.mp ra
      obtain ⟨a2, ys, rfl, q2, r2⟩ := rd_tup_iff.mp rb
      simp only [lt?] at e
      split at e
      · rename_i hc
        cases e
        cases rx
        cases ry
        have e1 := q1.sq
        have e2 := q2.sq
        rw [show (T.ex xx).K = X.K from hK.symm] at e1 e2
        exact rc_op I rfl (tup_gt I (by omega) e1 e2 r1 r2 hc) q
      · cases e
    | _ => cases e
  | int i => exact rc_op I rfl (rc_gtF ra rb rx ry (by cases a <;> exact e)) q
  | str i => exact rc_op I rfl (rc_gtF ra rb rx ry (by cases a <;> exact e)) q
  | _ => cases a <;> cases e
omit hK hu in
theorem op_le' : OpR X (compareOp .LtE) (rC T .le) := by
  intro pins s σ H x y v u Q I rx ry hq
  obtain ⟨xx, m, h, a, b, r, R, ra, rb, e, q⟩ := hq
  have e : le? a b = some r := e
  cases a with
  | int i => cases b with
    | int j =>
      obtain rfl := rd_int_iff.mp ra
      obtain rfl := rd_int_iff.mp rb
      cases e
      exact op_le pins s σ H _ _ v u Q I rx ry ⟨i, j, rfl, rfl, q⟩
    | _ => cases e
  | _ => cases b <;> cases e
omit hK hu in
theorem op_ge' : OpR X (compareOp .GtE) (rC T .ge) := by
  intro pins s σ H x y v u Q I rx ry hq
  obtain ⟨xx, m, h, a, b, r, R, ra, rb, e, q⟩ := hq
  have e : le? b a = some r := e
  cases a with
  | int i => cases b with
    | int j =>
      obtain rfl := rd_int_iff.mp ra
      obtain rfl := rd_int_iff.mp rb
      cases e
      exact op_ge pins s σ H _ _ v u Q I rx ry ⟨i, j, rfl, rfl, q⟩
    | _ => cases e
  | _ => cases b <;> cases e
theorem op_eq' : OpR X (compareOp .Eq) (rC T .eq) := by
  intro pins s σ H x y v u Q I rx ry hq
  obtain ⟨xx, m, h, a, b, r, R, ra, rb, e, q⟩ := hq
  simp only [cmp?] at e
  split at e
  · rename_i hp
    rw [Bool.and_eq_true] at hp
    cases e
    have d1 := still_dp R ra hp.1
    have d2 := still_dp R rb hp.2
    obtain ⟨c1, c2⟩ := toP_can _ _ hp.1
    obtain ⟨c3, c4⟩ := toP_can _ _ hp.2
    rw [show (T.ex xx).K = X.K from hK.symm] at d1 d2
    refine op_eqD hu pins s σ H _ _ v u Q I rx ry ⟨_, _, d1, d2, ?_, ?_, ?_⟩
    · unfold SeqAt.shaped
      rw [c1, decide_eq_true (by omega)]
      rfl
    · unfold SeqAt.shaped
      rw [c3, decide_eq_true (by omega)]
      rfl
    · rw [toP_eqv _ _ _ _ hp.1 hp.2]
      exact q
  · cases e
theorem op_ne' : OpR X (compareOp .NotEq) (rC T .ne) := by
  intro pins s σ H x y v u Q I rx ry hq
  obtain ⟨xx, m, h, a, b, r, R, ra, rb, e, q⟩ := hq
  simp only [cmp?] at e
  split at e
  · rename_i hp
    rw [Bool.and_eq_true] at hp
    cases e
    have d1 := still_dp R ra hp.1
    have d2 := still_dp R rb hp.2
    obtain ⟨c1, c2⟩ := toP_can _ _ hp.1
    obtain ⟨c3, c4⟩ := toP_can _ _ hp.2
    rw [show (T.ex xx).K = X.K from hK.symm] at d1 d2
    refine op_neD hu pins s σ H _ _ v u Q I rx ry ⟨_, _, d1, d2, ?_, ?_, ?_⟩
    · unfold SeqAt.shaped
      rw [c1, decide_eq_true (by omega)]
      rfl
    · unfold SeqAt.shaped
      rw [c3, decide_eq_true (by omega)]
      rfl
    · rw [toP_eqv _ _ _ _ hp.1 hp.2]
      exact q
  · cases e
omit hK hu in
theorem rd_ne_non {m : List Addr} {H : Hp} {a : D} {v : V} (r : RD T m H a v) (n : a ≠ .non) : v ≠ .non := by
  intro z
  subst z
  cases a with
  | non => exact n rfl
  | bl _ => exact nomatch (rd_bl_iff.mp r)
  | int _ => exact nomatch (rd_int_iff.mp r)
  | str _ => exact nomatch (rd_str_iff.mp r)
  | tup _ => obtain ⟨_, _, e, _⟩ := rd_tup_iff.mp r; cases e
  | lst _ => obtain ⟨_, _, e, _⟩ := rd_lst_iff.mp r; cases e
  | fz _ => obtain ⟨_, _, e, _⟩ := rd_fz_iff.mp r; cases e
  | ref _ => obtain ⟨_, e, _⟩ := rd_ref_iff.mp r; cases e
  | nam _ =>
    unfold RD at r
    obtain ⟨_, e, _⟩ := r
    cases e
  | dic _ _ =>
    unfold RD at r
    obtain ⟨_, _, _, e, _⟩ := r
    cases e
  | obj _ _ _ =>
    unfold RD at r
    obtain ⟨_, _, e, _⟩ := r
    cases e
  | _ => unfold RD at r; exact r
omit hK hu in
theorem op_is' : OpR X (compareOp .Is) (rC T .is) := by
  intro pins s σ H x y v u Q I rx ry hq
  obtain ⟨xx, m, h, a, b, r, R, ra, rb, e, q⟩ := hq
  cases b with
  | non =>
    obtain rfl := rd_non_iff.mp rb
    refine op_isN pins s σ H _ _ v u Q I rx ry ⟨rfl, ?_⟩
    by_cases z : a = .non
    · subst z
      cases e
      obtain rfl := rd_non_iff.mp ra
      exact q
    · rw [decide_eq_false (rd_ne_non (T.ex xx) ra z)]
      have : r = false := by cases a <;> first | (exact absurd rfl z) | (cases e; rfl)
      subst this
      exact q
  | bl y => cases a with
    | bl x =>
      obtain rfl := rd_bl_iff.mp ra
      obtain rfl := rd_bl_iff.mp rb
      cases e
      refine op_is_bl pins s σ H _ _ v u Q I rx ry ⟨_, _, rfl, rfl, ?_⟩
      have : (x == y) = decide (x = y) := by cases x <;> cases y <;> rfl
      rw [← this]
      exact q
    | _ => cases e
  | _ => cases e
omit hK hu in
theorem op_isn' : OpR X (compareOp .IsNot) (rC T .isn) := by
  intro pins s σ H x y v u Q I rx ry hq
  obtain ⟨xx, m, h, a, b, r, R, ra, rb, e, q⟩ := hq
  cases b with
  | non =>
    obtain rfl := rd_non_iff.mp rb
    refine op_notN pins s σ H _ _ v u Q I rx ry ⟨rfl, ?_⟩
    by_cases z : a = .non
    · subst z
      cases e
      obtain rfl := rd_non_iff.mp ra
      exact q
    · rw [decide_eq_false (rd_ne_non (T.ex xx) ra z)]
      have : r = true := by cases a <;> first | (exact absurd rfl z) | (cases e; rfl)
      subst this
      exact q
  | bl y => cases a with
    | bl x =>
      obtain rfl := rd_bl_iff.mp ra
      obtain rfl := rd_bl_iff.mp rb
      cases e
      refine op_isnot_bl pins s σ H _ _ v u Q I rx ry ⟨_, _, rfl, rfl, ?_⟩
      have : (x != y) = !decide (x = y) := by cases x <;> cases y <;> rfl
      rw [← this]
      exact q
    | _ => cases e
  | _ => cases e
omit hu in
theorem in_both (neg : Bool) (hs : OpR X (compareOp (if neg then .NotIn else .In)) (fun x y H Q => ∃ (c : Nat) (z : Str), x = .str ⟨#[c]⟩ ∧ y = .str z ∧ Q (.bl (if neg then !decide (c ∈ z.cps.toList) else decide (c ∈ z.cps.toList))) H))
    (hq : OpR X (compareOp (if neg then .NotIn else .In)) (rIn X.K neg)) : OpR X (compareOp (if neg then .NotIn else .In)) (rC T (if neg then .nin else .inn)) := by
  intro pins s σ H x y v u Q I rx ry hq'
  obtain ⟨xx, m, h, a, b, r, R, ra, rb, e, q⟩ := hq'
  have e' : ∃ r0, in? h a b = some r0 ∧ r = if neg then !r0 else r0 := by
    cases neg with
    | false => exact ⟨r, e, rfl⟩
    | true =>
      obtain ⟨r0, h1, h2⟩ := Option.map_eq_some_iff.mp (show (in? h a b).map (!·) = some r from e)
      exact ⟨r0, h1, h2.symm⟩
  obtain ⟨r0, e0, rfl⟩ := e'
  have seq : ∀ ds, items? h b = some ds → flat a = true → ds.all flat = true → (ds.any fun d => eqF d a) = r0 → wpAny (model X.prog X.w) X.A (compareOp (if neg then .NotIn else .In) v u) (EP X pins σ Q) X.xe s := by
    intro ds hi fa fd er
    obtain ⟨p, vs, rfl, hp, rp⟩ := items_rd R rb hi
    rw [show (T.ex xx).K = X.K from hK.symm] at hp
    refine hq pins s σ H _ _ v u Q I rx ry ⟨p, vs, rfl, hp, flat_rd ra fa, flats_rd rp fd, ?_⟩
    rw [inV_rd ra fa rp fd, er]
    exact q
  unfold in? at e0
  split at e0
  · rename_i z1 z2
    obtain rfl := rd_str_iff.mp ra
    obtain rfl := rd_str_iff.mp rb
    split at e0
    · rename_i c
      cases e0
      refine hs pins s σ H _ _ v u Q I rx ry ⟨c, SS z2, rfl, rfl, ?_⟩
      have : decide (c ∈ (SS z2).cps.toList) = z2.contains c := by
        unfold SS
        simp
      rw [this]
      exact q
    · cases e0
  · split at e0
    · rename_i ds hi
      split at e0
      · rename_i hf
        rw [Bool.and_eq_true] at hf
        exact seq ds hi hf.1 hf.2 (Option.some.inj e0)
      · cases e0
    · cases e0
theorem op_cmp : ∀ o : Cop, OpR X (compareOp (cop o)) (rC T o)
  | .eq => op_eq' T hK hu | .ne => op_ne' T hK hu | .lt => op_lt' T hK hu | .gt => op_gt' T hK hu | .le => op_le' T | .ge => op_ge' T
  | .is => op_is' T | .isn => op_isn' T
  | .inn => in_both T hK false op_in_sign op_in_seq
  | .nin => in_both T hK true op_notIn_sign op_notIn_seq
end
end Py
end

section
set_option Elab.async false
set_option linter.all false
set_option maxRecDepth 100000
namespace Py
open PySem PySem.Spec PyProof.Rows L2
section
variable (T : Tb) {X : Cx} (hK : X.K = T.K)
include hK
theorem ix_op : IxR X (r2 T ix?) := by
  intro ev es pins s σ H x y v u Q I rx ry hq hsub
  obtain ⟨xx, m, h, a, b, d, R, ra, rb, e, q⟩ := hq
  cases b with
  | int i =>
    obtain rfl := rd_int_iff.mp rb
    cases a with
    | str z =>
      obtain rfl := rd_str_iff.mp ra
      simp only [ix?] at e
      split at e
      · rename_i hz
        obtain ⟨c, h1, h2⟩ := Option.map_eq_some_iff.mp e
        subst h2
        exact ix_str ev es pins s σ H _ _ v u Q I rx ry ⟨SS z, i, c, rfl, rfl, hz, h1, scalQ R q rd_str⟩ hsub
      · cases e
    | _ =>
      obtain ⟨ds, h1, h2⟩ := Option.bind_eq_some_iff.mp (by simpa only [ix?] using e)
      obtain ⟨p, vs, rfl, hp, rp⟩ := items_rd R ra h1
      have hl := rp.length
      have h2' : (L2.ixN ds.length i).bind (fun j => ds[j]?) = some d := h2
      obtain ⟨j, h3, h4⟩ := Option.bind_eq_some_iff.mp h2'
      obtain ⟨w, h5, h6⟩ := rp.get h4
      have h7 : L2.atI vs i = some w := by
        unfold L2.atI
        rw [← hl, h3]
        exact h5
      rw [show (T.ex xx).K = X.K from hK.symm] at hp
      refine ix_seq ev es pins s σ H _ _ v u Q I rx ry ?_ hsub
      rcases hp with hp | hp
      · exact .inl ⟨p, vs, i, w, rfl, rfl, hp, h7, scalQ R q h6⟩
      · exact .inr (.inl ⟨p, vs, i, w, rfl, rfl, hp, h7, scalQ R q h6⟩)
  | _ => cases a <;> cases e
/-- a slice of a tuple, of a text -/
theorem sl_op : SlR X (fun x lo hi H Q => ∃ X m h a d, Rl (T.ex X) m h H ∧ RD (T.ex X) m H a x ∧ sl? a lo hi = some d ∧ ∀ m' v H', Stp m H m' H' → Rl (T.ex X) m' h H' → RD (T.ex X) m' H' d v → Q v H') := by
  intro pins s σ H x v vl vu lo hi sl Q I rx hs pl pu hq
  obtain ⟨xx, m, h, a, d, R, ra, e, q⟩ := hq
  cases a with
  | str z =>
    simp only [sl?] at e
    split at e
    · rename_i hz
      cases e
      obtain rfl := rd_str_iff.mp ra
      refine sl_str pins s σ H _ v vl vu lo hi sl Q I rx hs pl pu ⟨SS z, rfl, hz, ?_⟩
      exact scalQ R q rd_str
    · cases e
  | tup ds =>
  cases e
  obtain ⟨p, vs, rfl, hp, rp⟩ := rd_tup_iff.mp ra
  have e1 := hp.sq
  rw [show (T.ex xx).K = X.K from hK.symm] at e1
  have hl := rp.length
  refine sl_tupA pins s σ H _ v vl vu lo hi sl Q I rx hs pl pu ⟨p, vs, rfl, e1, fun hw => ?_, fun _ p' hp' => ?_⟩
  · have e2 : sIx ds.length 0 lo = 0 := by rw [hl]; exact hw.1
    have e3 : sIx ds.length ds.length hi = ds.length := by rw [hl]; exact hw.2
    have : cut ds lo hi = ds := by
      unfold cut
      rw [e2, e3]
      simp
    rw [this] at q
    exact scalQ R q ra
  · have r3 : RDs (T.ex xx) m H (cut ds lo hi) (cutV vs lo hi) := by
      have e : cutV vs lo hi = (vs.drop (sIx vs.length 0 lo)).take (sIx vs.length vs.length hi - sIx vs.length 0 lo) := rfl
      rw [e]
      unfold cut
      rw [hl]
      exact (rp.drop _).take _
    obtain ⟨s1, R1, r4⟩ := new_tup R hp' r3
    exact q m _ _ s1 R1 r4
  | _ => cases e
/-- a call of a built-in by its mirror -/
def rBi (T : Tb) (f : String) : List V → Hp → VK → Prop := fun vs H Q => ∃ X m h xs d, Rl (T.ex X) m h H ∧ RDs (T.ex X) m H xs vs ∧ bi? h f xs = some d ∧ ∀ m' v H', Stp m H m' H' → Rl (T.ex X) m' h H' → RD (T.ex X) m' H' d v → Q v H'
omit hK in
theorem rds_one {m : List Addr} {H : Hp} {x : D} {vs : List V} (r : RDs T m H [x] vs) : ∃ v, vs = [v] ∧ RD T m H x v := by
  unfold RDs at r
  obtain ⟨v, q, rfl, r1, r2⟩ := r
  unfold RDs at r2
  subst r2
  exact ⟨v, rfl, r1⟩
omit hK in
theorem bools_rd {m : List Addr} {H : Hp} : ∀ {ds : List D} {bs : List Bool} {vs : List V}, RDs T m H ds vs → bools? ds = some bs → vs = bs.map V.bl
  | [], bs, vs, r, e => by
    unfold RDs at r
    subst r
    cases e
    rfl
  | d :: ds, bs, vs, r, e => by
    unfold RDs at r
    obtain ⟨v, q, rfl, r1, r2⟩ := r
    cases d with
    | bl b =>
      obtain rfl := rd_bl_iff.mp r1
      obtain ⟨bs', h1, rfl⟩ := Option.map_eq_some_iff.mp (show (bools? ds).map (b :: ·) = some bs from e)
      rw [bools_rd r2 h1]
      rfl
    | _ => cases e
theorem bi_len : CallR X (.builtin "len") (rBi T "len") := by
  intro pins s σ H vs us Q I r hq
  obtain ⟨xx, m, h, xs, d, R, rx, e, q⟩ := hq
  unfold bi? at e
  split at e <;> try (first | (rename_i z; exact absurd z (by decide)) | cases e)
  · obtain ⟨v, rfl, r1⟩ := rds_one _ rx
    obtain rfl := rd_str_iff.mp r1
    split at e
    · rename_i hz
      cases e
      exact call_len pins s σ H _ us Q I r ⟨_, _, rfl, ⟨hz, rfl⟩, scalQ R q rd_int⟩
    · cases e
  · obtain ⟨v, rfl, r1⟩ := rds_one _ rx
    obtain ⟨ds, h1, rfl⟩ := Option.map_eq_some_iff.mp e
    obtain ⟨p, ws, rfl, hp, rp⟩ := items_rd R r1 h1
    rw [show (T.ex xx).K = X.K from hK.symm] at hp
    refine call_len pins s σ H _ us Q I r ⟨_, ds.length, rfl, ?_, scalQ R q rd_int⟩
    rcases hp with hp | hp
    · exact .inl ⟨ws, hp, rp.length⟩
    · exact .inr ⟨ws, hp, rp.length⟩
omit hK in
theorem bi_int : CallR X (.type "int") (rBi T "int") := by
  intro pins s σ H vs us Q I r hq
  obtain ⟨xx, m, h, xs, d, R, rx, e, q⟩ := hq
  unfold bi? at e
  split at e <;> try (first | (rename_i z; exact absurd z (by decide)) | cases e)
  · obtain ⟨v, rfl, r1⟩ := rds_one _ rx
    obtain rfl := rd_int_iff.mp r1
    exact call_int1 pins s σ H _ us Q I r (.inl ⟨_, rfl, scalQ R q rd_int⟩)
  · obtain ⟨v, rfl, r1⟩ := rds_one _ rx
    obtain rfl := rd_bl_iff.mp r1
    exact call_int1 pins s σ H _ us Q I r (.inr ⟨_, rfl, scalQ R q rd_int⟩)
omit hK in
theorem bi_abs : CallR X (.builtin "abs") (rBi T "abs") := by
  intro pins s σ H vs us Q I r hq
  obtain ⟨xx, m, h, xs, d, R, rx, e, q⟩ := hq
  unfold bi? at e
  split at e <;> try (first | (rename_i z; exact absurd z (by decide)) | cases e)
  · obtain ⟨v, rfl, r1⟩ := rds_one _ rx
    obtain rfl := rd_int_iff.mp r1
    exact call_abs pins s σ H _ us Q I r ⟨_, rfl, scalQ R q rd_int⟩
theorem bi_tuple : CallR X (.type "tuple") (rBi T "tuple") := by
  intro pins s σ H vs us Q I r hq
  obtain ⟨xx, m, h, xs, d, R, rx, e, q⟩ := hq
  unfold bi? at e
  split at e <;> try (first | (rename_i z; exact absurd z (by decide)) | cases e)
  · obtain ⟨v, rfl, r1⟩ := rds_one _ rx
    obtain ⟨ds, h1, rfl⟩ := Option.map_eq_some_iff.mp e
    obtain ⟨p, ws, rfl, hp, rp⟩ := items_rd R r1 h1
    rename_i x _
    have ht : ∀ {a : Addr} {ys : List V}, SqT T.K H a ys → x = .tup ds → RD (T.ex xx) m H (.tup ds) (.ref p) := fun {a ys} _ e => by rw [← e]; exact r1
    by_cases hx : x = .tup ds
    · subst hx
      obtain ⟨p', ws', e1, q1, _⟩ := rd_tup_iff.mp r1
      cases e1
      have e2 := q1.sq
      rw [show (T.ex xx).K = X.K from hK.symm] at e2
      exact call_tuple_of pins s σ H _ us Q I r ⟨p, ws', rfl, .inr ⟨e2, scalQ R q r1⟩⟩
    · have hL : ∃ ws, SqL (T.ex xx).K H p ws ∧ RDs (T.ex xx) m H ds ws := by
        cases x with
        | tup y => cases h1; exact absurd rfl hx
        | lst y =>
          cases h1
          obtain ⟨p', ws', e1, q1, r3⟩ := rd_lst_iff.mp r1
          cases e1
          exact ⟨ws', q1.sq, r3⟩
        | ref n =>
          obtain ⟨p', ws', e1, q1, r3⟩ := listed_rd R r1 (show listed? h (.ref n) = some ds from h1)
          cases e1
          exact ⟨ws', .inl (.inl q1), r3⟩
        | fz y =>
          cases h1
          obtain ⟨p', ws', e1, q1, r3⟩ := rd_fz_iff.mp r1
          cases e1
          exact ⟨ws', q1.sq, r3⟩
        | _ => cases h1
      obtain ⟨ws, hw, rw_⟩ := hL
      rw [show (T.ex xx).K = X.K from hK.symm] at hw
      refine call_tuple_of pins s σ H _ us Q I r ⟨p, ws, rfl, .inl ⟨hw, fun l hl => ?_⟩⟩
      obtain ⟨s1, R1, r4⟩ := new_tup R hl rw_
      exact q m _ _ s1 R1 r4
theorem bi_all (hc : X.calm = true) : CallR X (.builtin "all") (rBi T "all") := by
  intro pins s σ H vs us Q I r hq
  obtain ⟨xx, m, h, xs, d, R, rx, e, q⟩ := hq
  unfold bi? at e
  split at e <;> try (first | (rename_i z; exact absurd z (by decide)) | cases e)
  · obtain ⟨v, rfl, r1⟩ := rds_one _ rx
    obtain ⟨ds, h1, h2⟩ := Option.bind_eq_some_iff.mp e
    obtain ⟨bs, h3, rfl⟩ := Option.map_eq_some_iff.mp h2
    obtain ⟨p, ws, rfl, hp, rp⟩ := listed_rd R r1 h1
    rw [bools_rd _ rp h3] at hp
    exact cr_all hc pins s σ H _ us Q I r ⟨p, bs, rfl, .inl (.inl hp), scalQ R q rd_bl⟩
theorem bi_any (hc : X.calm = true) : CallR X (.builtin "any") (rBi T "any") := by
  intro pins s σ H vs us Q I r hq
  obtain ⟨xx, m, h, xs, d, R, rx, e, q⟩ := hq
  unfold bi? at e
  split at e <;> try (first | (rename_i z; exact absurd z (by decide)) | cases e)
  · obtain ⟨v, rfl, r1⟩ := rds_one _ rx
    obtain ⟨ds, h1, h2⟩ := Option.bind_eq_some_iff.mp e
    obtain ⟨bs, h3, rfl⟩ := Option.map_eq_some_iff.mp h2
    obtain ⟨p, ws, rfl, hp, rp⟩ := listed_rd R r1 h1
    rw [bools_rd _ rp h3] at hp
    exact cr_any hc pins s σ H _ us Q I r ⟨p, bs, rfl, .inl (.inl hp), scalQ R q rd_bl⟩
/-! ### kinds -/
theorem rd_ty {m : List Addr} {h : Hh} {H : Hp} {d : D} {v : V} {t : String} (R : Rl T m h H) (r : RD T m H d v) (e : tyN h d = some t) : TyX X.K H v (.type t) := by
  cases d with
  | non => cases e; obtain rfl := rd_non_iff.mp r; exact .base .non
  | bl _ => cases e; obtain rfl := rd_bl_iff.mp r; exact .base (.bl _)
  | int _ => cases e; obtain rfl := rd_int_iff.mp r; exact .base (.int _)
  | str _ => cases e; obtain rfl := rd_str_iff.mp r; exact .base (.str _)
  | tup _ =>
    cases e
    obtain ⟨a, vs, rfl, q, _⟩ := rd_tup_iff.mp r
    have e2 := q.sq
    rw [← hK] at e2
    rcases e2 with (e2 | ⟨o, e2⟩) | ⟨o, its, n, e2, e3, _⟩
    · exact .base (.tup e2)
    · exact .fTuple e2
    · exact .kTuple e2 e3
  | lst _ =>
    cases e
    obtain ⟨a, vs, rfl, q, _⟩ := rd_lst_iff.mp r
    exact .base (.lst q.2)
  | ref n =>
    simp only [tyN] at e
    split at e
    · rename_i ds hd
      cases e
      obtain ⟨a, rfl, en⟩ := rd_ref_iff.mp r
      obtain ⟨a', vs, e1, e2, _⟩ := R.lst hd
      rw [en] at e1
      cases e1
      exact .base (.lst e2)
    · cases e
  | dic _ _ =>
    cases e
    unfold RD at r
    obtain ⟨_, _, a, rfl, q⟩ := r
    exact .base (.dK q.2)
  | _ => cases e
end
theorem kit_isA {K : PySem.W.Frag} {h : Hh} {d : D} {t c : String} {b : Bool} (ht : tyN h d = some t) (e : isA h d c = some b) : PySem.W.kitOne K (.type t) (.type c) = some b := by
  unfold isA at e
  rw [ht] at e
  have e2 : (if (["int", "bool", "str", "list", "tuple", "dict"] : List String).contains c then some (t == c || (t == "bool" && c == "int")) else none) = some b := e
  split at e2
  · rename_i hc
    cases e2
    refine kit_ty ?_
    have hc' : c = "int" ∨ c = "bool" ∨ c = "str" ∨ c = "list" ∨ c = "tuple" ∨ c = "dict" := by simpa using hc
    have ht' : t = "NoneType" ∨ t = "bool" ∨ t = "int" ∨ t = "str" ∨ t = "tuple" ∨ t = "list" ∨ t = "dict" := by
      cases d <;> simp only [tyN] at ht <;> first | (cases ht; done) | (cases ht; simp; done) | (split at ht <;> first | (cases ht; done) | (cases ht; simp))
    rcases ht' with rfl | rfl | rfl | rfl | rfl | rfl | rfl <;> rcases hc' with rfl | rfl | rfl | rfl | rfl | rfl <;> decide +kernel
  · cases e2
theorem kit_isAny {K : PySem.W.Frag} {h : Hh} {d : D} {t : String} (ht : tyN h d = some t) : ∀ {cs : List String} {b : Bool}, isAny h d cs = some b → PySem.W.kitAny K (.type t) (cs.map Value.type) = some b
  | [], b, e => by
    cases e
    exact kitAny_nil
  | c :: cs, b, e => by
    unfold isAny at e
    split at e
    · rename_i k
      cases e
      exact kitAny_cons (kit_isA ht k) (fun z => nomatch z) fun _ => rfl
    · rename_i k
      exact kitAny_cons (kit_isA ht k) (fun _ => kit_isAny ht e) (fun z => nomatch z)
    · cases e
theorem isAny_ty {h : Hh} {d : D} {c : String} {cs : List String} {b : Bool} (e : isAny h d (c :: cs) = some b) : ∃ t, tyN h d = some t := by
  cases k : tyN h d with
  | some t => exact ⟨t, rfl⟩
  | none =>
    exfalso
    have z : isA h d c = none := by unfold isA; rw [k]; rfl
    unfold isAny at e
    rw [z] at e
    cases e
/-! ### truth -/
theorem tru_rd (T : Tb) {X : Cx} (hK : X.K = T.K) {m : List Addr} {h : Hh} {H : Hp} {d : D} {v : V} {b : Bool} (R : Rl T m h H) (r : RD T m H d v) (e : truth? h d = some b) : TruV X.K v H b := by
  have seq : ∀ ds, items? h d = some ds → b = !ds.isEmpty → TruV X.K v H b := by
    intro ds hi hb
    obtain ⟨p, vs, rfl, hp, rp⟩ := items_rd R r hi
    rw [← hK] at hp
    have hl : ds.isEmpty = vs.isEmpty := by
      have := rp.length
      cases ds <;> cases vs <;> first | rfl | cases this
    rw [hl] at hb
    rcases hp with hp | hp
    · exact .inl ⟨vs, hp, hb⟩
    · exact .inr (.inl ⟨vs, hp, hb⟩)
  cases d with
  | non => cases e; obtain rfl := rd_non_iff.mp r; rfl
  | bl _ => cases e; obtain rfl := rd_bl_iff.mp r; rfl
  | int _ => cases e; obtain rfl := rd_int_iff.mp r; rfl
  | _ =>
    obtain ⟨ds, h1, h2⟩ := Option.map_eq_some_iff.mp (by simpa only [truth?] using e)
    exact seq ds h1 h2.symm
end Py
end

section
set_option Elab.async false
set_option linter.all false
set_option maxRecDepth 100000
namespace Py
open PySem PySem.Spec PyProof.Rows L2
/-! ### facts of the syntax -/
def isSl : Expr → Bool
  | .Slice .. => true | _ => false
def isStar : Expr → Bool
  | .Starred .. => true | _ => false
theorem plainIx_of {b : Expr} (h : isSl b = false) : PlainIx b := by
  intro o i
  cases b <;> first | rfl | cases h
theorem starEach_of {e : Expr} {es : List Expr} {env : PySem.Env} (h : isStar e = false) : starEach (e :: es) env = (false, eval e env) :: starEach es env := by
  cases e <;> first | rfl | cases h
theorem noStar_any {pos : Pos} {env : PySem.Env} : ∀ {es : List Expr}, es.all (fun e => !isStar e) = true → (backTo pos (starEach es env)).any (·.1) = false
  | [], _ => rfl
  | e :: es, h => by
    rw [List.all_cons, Bool.and_eq_true] at h
    rw [starEach_of (by simpa using h.1)]
    show (false || (backTo pos (starEach es env)).any (·.1)) = false
    rw [noStar_any h.2]
    rfl
theorem behind_of {op : CmpOp} {b : Expr} (h : (match b with | .Set .. => true | _ => false) = false) : behindInMarks op b = false := by
  cases b <;> first | rfl | cases h
section
variable {T : Tb} {W : WX} {sc : Scope} {N : List Str} {X : Cx} (c : Ctx T W sc N X)
theorem tE_of {e : Expr} {t : TE} {f : Env → Hh → Res D} (p : PE X e t) (h : ∀ σ H Q xx m h env, Rl (T.ex xx) m h H → RS (T.ex xx) m H env σ → EvP (T.ex xx) W σ m H (RD (T.ex xx)) (f env h) Q → t σ H Q) : PE X e (tE T W f) :=
  PE.imp p fun σ H Q ⟨xx, m, hh, env, R, S, q⟩ => h σ H Q xx m hh env R S q
theorem tT_of {e : Expr} {t : TT} {f : Env → Hh → Res Bool} (p : PT X e t) (h : ∀ σ H Q xx m h env, Rl (T.ex xx) m h H → RS (T.ex xx) m H env σ → EvP (T.ex xx) W σ m H (fun _ _ a b => a = b) (f env h) Q → t σ H Q) : PT X e (tT T W f) :=
  PT.imp p fun σ H Q ⟨xx, m, hh, env, R, S, q⟩ => h σ H Q xx m hh env R S q
theorem tA_of {e : List Expr} {t : TA} {f : Env → Hh → Res (List D)} (p : PA X e t) (h : ∀ σ H Q xx m h env, Rl (T.ex xx) m h H → RS (T.ex xx) m H env σ → EvP (T.ex xx) W σ m H (RDs (T.ex xx)) (f env h) Q → t σ H Q) : PA X e (tA T W f) :=
  PA.imp p fun σ H Q ⟨xx, m, hh, env, R, S, q⟩ => h σ H Q xx m hh env R S q
/-! ### constants and names -/
theorem se_int {i : Int} {k : Nat} {pos : Pos} : PE X (.Constant (.int i) k pos) (tE T W fun _ h => .ok (.int i) h) := tE_of pe_int fun σ H Q xx m h env R S q => q m _ H .refl R rd_int
theorem se_bl {i : Bool} {k : Nat} {pos : Pos} : PE X (.Constant (.bool i) k pos) (tE T W fun _ h => .ok (.bl i) h) := tE_of pe_bl fun σ H Q xx m h env R S q => q m _ H .refl R rd_bl
theorem se_non {k : Nat} {pos : Pos} : PE X (.Constant .none k pos) (tE T W fun _ h => .ok .non h) := tE_of pe_non fun σ H Q xx m h env R S q => q m _ H .refl R rd_non
theorem se_str {s : List Nat} {k : Nat} {pos : Pos} : PE X (.Constant (.str (SS s)) k pos) (tE T W fun _ h => .ok (.str s) h) := tE_of pe_str fun σ H Q xx m h env R S q => q m _ H .refl R rd_str
theorem se_v {i : Nat} {x : Str} {pos : Pos} (hN : X.N[i]? = some x) (hv : Vis X.env.scope x) (hd : (x == ("__debug__" : Str)) = false) (hcd : (x == ("__classdict__" : Str)) = false) :
    PE X (.Name x pos) (tE T W fun env h => match env[i]? with | some (some d) => .ok d h | _ => .stuck) := tE_of (pe_var hN hv hd hcd) fun σ H Q xx m h env R S q => by
  split at q
  · rename_i d e
    obtain ⟨v, e1, r⟩ := S.2 i d e
    exact ⟨v, e1, q m v H .refl R r⟩
  · exact q.elim
/-- a module's constant -/
def GC (T : Tb) (x : Str) (d : D) : Prop := ∃ u v, T.mg x = some u ∧ RelV v u ∧ ∀ xx m H, RD (T.ex xx) m H d v
include c in
theorem se_gk {x : Str} {d : D} {pos : Pos} (hg : sc.names.lookup x = some .globalImplicit) (g : GC T x d) (hd : (x == ("__debug__" : Str)) = false) : PE X (.Name x pos) (tE T W fun _ h => .ok d h) := by
  obtain ⟨u, v, e, r, k⟩ := g
  exact tE_of (pe_glob (c.glo x hg) (by rw [c.mg]; exact e) r hd) fun σ H Q xx m h env R S q => q m v H .refl R (k xx m H)
/-! ### operators -/
def bop : Bop → Operator
  | .add => .Add | .sub => .Sub | .mul => .Mult | .fdiv => .FloorDiv | .mod => .Mod | .pow => .Pow
include c in
theorem op_bin' (o : Bop) : OpR X (binaryOp (bop o)) (r2 T fun _ => bin? o) := by
  have := op_bin T c.K o
  cases o <;> exact this
theorem two {ta : Env → Hh → Res D} {tb : Env → Hh → Res D} {f : Hh → D → D → Option D} {r : R2} {σ : L2.St} {H : Hp} {Q : VK} {xx m : List Addr} {h : Hh} {env : Env} (R : Rl (T.ex xx) m h H) (S : RS (T.ex xx) m H env σ)
    (q : EvP (T.ex xx) W σ m H (RD (T.ex xx)) ((ta env h).bind fun x h => (tb env h).bind fun y h => .of (f h x y) h) Q) (hr : ∀ x y H Q, r2 T f x y H Q → r x y H Q) : tOp r (tE T W ta) (tE T W tb) σ H Q :=
  ⟨xx, m, h, env, R, S, EvP.seq q fun x h1 m1 v1 H1 s1 R1 r1 q1 => ⟨xx, m1, h1, env, R1, S.mono s1, EvP.seq q1 fun y h2 m2 v2 H2 s2 R2 r2 q2 => by
    obtain ⟨d, e, k⟩ := EvP.of q2
    exact hr _ _ _ _ ⟨xx, m2, h2, x, y, d, R2, r1.mono s2, r2, e, k⟩⟩⟩
include c in
theorem se_bin {o : Bop} {a b : Expr} {pos : Pos} {ta tb : Env → Hh → Res D} (ha : PE X a (tE T W ta)) (hb : PE X b (tE T W tb)) :
    PE X (.BinOp a (bop o) b pos) (tE T W fun env h => (ta env h).bind fun x h => (tb env h).bind fun y h => .of (bin? o x y) h) :=
  tE_of (pe_op (op_bin' c o) ha hb) fun σ H Q xx m h env R S q => two R S q fun _ _ _ _ z => z
include c in
theorem se_ix {a b : Expr} {pos : Pos} {ta tb : Env → Hh → Res D} (ha : PE X a (tE T W ta)) (hb : PE X b (tE T W tb)) (hs : isSl b = false) :
    PE X (.Subscript a b pos) (tE T W fun env h => (ta env h).bind fun x h => (tb env h).bind fun y h => .of (ix? h x y) h) :=
  tE_of (pe_ix (ix_op T c.K) ha hb (plainIx_of hs)) fun σ H Q xx m h env R S q => two R S q fun _ _ _ _ z => z
theorem se_neg {a : Expr} {pos : Pos} {ta : Env → Hh → Res D} (ha : PE X a (tE T W ta)) : PE X (.UnaryOp .USub a pos) (tE T W fun env h => (ta env h).bind fun x h => match x with | .int i => .ok (.int (-i)) h | _ => .stuck) :=
  tE_of (pe_un un_neg ha) fun σ H Q xx m h env R S q => ⟨xx, m, h, env, R, S, EvP.seq q fun x h1 m1 v1 H1 s1 R1 r1 q1 => by
    cases x with
    | int i =>
      obtain rfl := rd_int_iff.mp r1
      exact ⟨i, rfl, q1 m1 _ H1 .refl R1 rd_int⟩
    | _ => exact q1.elim⟩
theorem cmp_two {o : Cop} {ta tb : Env → Hh → Res D} {σ : L2.St} {H : Hp} {Q : Bool → Hp → Prop} {xx m : List Addr} {h : Hh} {env : Env} (R : Rl (T.ex xx) m h H) (S : RS (T.ex xx) m H env σ)
    (q : EvP (T.ex xx) W σ m H (fun _ _ (a : Bool) b => a = b) ((ta env h).bind fun x h => (tb env h).bind fun y h => .of (cmp? h o x y) h) Q) : tTest (tOp (rC T o) (tE T W ta) (tE T W tb)) σ H Q :=
  ⟨xx, m, h, env, R, S, EvP.seq q fun x h1 m1 v1 H1 s1 R1 r1 q1 => ⟨xx, m1, h1, env, R1, S.mono s1, EvP.seq q1 fun y h2 m2 v2 H2 s2 R2 r2 q2 => by
    obtain ⟨d, e, k⟩ := EvP.of q2
    exact ⟨xx, m2, h2, x, y, d, R2, r1.mono s2, r2, e, d, rfl, k m2 d H2 .refl R2 rfl⟩⟩⟩
include c in
theorem se_cmp {o : Cop} {a b : Expr} {pos : Pos} {ta tb : Env → Hh → Res D} (ha : PE X a (tE T W ta)) (hb : PE X b (tE T W tb)) (hs : behindInMarks (cop o) b = false) :
    PE X (.Compare a [cop o] [b] pos) (tE T W fun env h => (ta env h).bind fun x h => (tb env h).bind fun y h => .of ((cmp? h o x y).map .bl) h) :=
  tE_of (pe_cmpR (op_cmp T c.K c.un o) ha hb hs) fun σ H Q xx m h env R S q =>
    ⟨xx, m, h, env, R, S, EvP.seq q fun x h1 m1 v1 H1 s1 R1 r1 q1 => ⟨xx, m1, h1, env, R1, S.mono s1, EvP.seq q1 fun y h2 m2 v2 H2 s2 R2 r2 q2 => by
      obtain ⟨d, e, k⟩ := EvP.of q2
      obtain ⟨r, e1, rfl⟩ := Option.map_eq_some_iff.mp e
      exact ⟨xx, m2, h2, x, y, r, R2, r1.mono s2, r2, e1, k m2 _ H2 .refl R2 rd_bl⟩⟩⟩
include c in
theorem st_cmp {o : Cop} {a b : Expr} {pos : Pos} {ta tb : Env → Hh → Res D} (ha : PE X a (tE T W ta)) (hb : PE X b (tE T W tb)) (hs : behindInMarks (cop o) b = false) :
    PT X (.Compare a [cop o] [b] pos) (tT T W fun env h => (ta env h).bind fun x h => (tb env h).bind fun y h => .of (cmp? h o x y) h) :=
  tT_of (pt_cmpR (op_cmp T c.K c.un o) ha hb hs) fun σ H Q xx m h env R S q => cmp_two R S q
theorem lm_of {o p : CmpOp} {b d : Expr} (hm : behindInMarks p d = false) : lastMarks [o, p] [b, d] = false := hm
include c in
theorem se_chain {o p : Cop} {a b d : Expr} {pos : Pos} {ta tb td : Env → Hh → Res D} (ha : PE X a (tE T W ta)) (hb : PE X b (tE T W tb)) (hd : PE X d (tE T W td)) (hm : behindInMarks (cop p) d = false) :
    PE X (.Compare a [cop o, cop p] [b, d] pos) (tE T W fun env h => (ta env h).bind fun x h => (tb env h).bind fun y h => (Res.of (cmp? h o x y) h).bind fun r h => match r with
      | true => (td env h).bind fun z h => .of ((cmp? h p y z).map .bl) h
      | false => .ok (.bl false) h) :=
  tE_of (pe_chain (op_cmp T c.K c.un o) (op_cmp T c.K c.un p) ha hb hd (lm_of hm)) fun σ H Q xx m h env R S q =>
    ⟨xx, m, h, env, R, S, EvP.seq q fun x h1 m1 v1 H1 s1 R1 r1 q1 => ⟨xx, m1, h1, env, R1, S.mono s1, EvP.seq q1 fun y h2 m2 v2 H2 s2 R2 r2 q2 => by
      cases e : cmp? h2 o x y with
      | none => rw [e] at q2; exact q2.elim
      | some r =>
        rw [e] at q2
        refine ⟨xx, m2, h2, x, y, r, R2, r1.mono s2, r2, e, r, rfl, ?_⟩
        cases r with
        | false =>
          rw [if_neg Bool.false_ne_true]
          exact q2 m2 _ H2 .refl R2 rd_bl
        | true =>
          rw [if_pos rfl]
          refine ⟨xx, m2, h2, env, R2, (S.mono s1).mono s2, EvP.seq q2 fun z h3 m3 v3 H3 s3 R3 r3 q3 => ?_⟩
          obtain ⟨d', e2, k⟩ := EvP.of q3
          obtain ⟨r', e3, rfl⟩ := Option.map_eq_some_iff.mp e2
          exact ⟨xx, m3, h3, y, z, r', R3, r2.mono s3, r3, e3, k m3 _ H3 .refl R3 rd_bl⟩⟩⟩
include c in
theorem st_chain {o p : Cop} {a b d : Expr} {pos : Pos} {ta tb td : Env → Hh → Res D} (ha : PE X a (tE T W ta)) (hb : PE X b (tE T W tb)) (hd : PE X d (tE T W td)) (hm : behindInMarks (cop p) d = false) :
    PT X (.Compare a [cop o, cop p] [b, d] pos) (tT T W fun env h => (ta env h).bind fun x h => (tb env h).bind fun y h => (Res.of (cmp? h o x y) h).bind fun r h => match r with
      | true => (td env h).bind fun z h => .of (cmp? h p y z) h
      | false => .ok false h) :=
  tT_of (pt_chain (op_cmp T c.K c.un o) (op_cmp T c.K c.un p) ha hb hd (lm_of hm)) fun σ H Q xx m h env R S q =>
    ⟨xx, m, h, env, R, S, EvP.seq q fun x h1 m1 v1 H1 s1 R1 r1 q1 => ⟨xx, m1, h1, env, R1, S.mono s1, EvP.seq q1 fun y h2 m2 v2 H2 s2 R2 r2 q2 => by
      cases e : cmp? h2 o x y with
      | none => rw [e] at q2; exact q2.elim
      | some r =>
        rw [e] at q2
        refine ⟨xx, m2, h2, x, y, r, R2, r1.mono s2, r2, e, r, rfl, ?_⟩
        cases r with
        | false =>
          rw [if_neg Bool.false_ne_true]
          exact ⟨false, rfl, q2 m2 _ H2 .refl R2 rfl⟩
        | true =>
          rw [if_pos rfl]
          refine ⟨xx, m2, h2, env, R2, (S.mono s1).mono s2, EvP.seq q2 fun z h3 m3 v3 H3 s3 R3 r3 q3 => ?_⟩
          obtain ⟨d', e2, k⟩ := EvP.of q3
          exact ⟨xx, m3, h3, y, z, d', R3, r2.mono s3, r3, e2, d', rfl, k m3 _ H3 .refl R3 rfl⟩⟩⟩
/-! ### and, or, not -/
theorem se_and {a b : Expr} {r : List Expr} {pos : Pos} {ta tb : Env → Hh → Res D} (ha : PE X a (tE T W ta)) (hb : PE X (.BoolOp .And (b :: r) pos) (tE T W tb)) :
    PE X (.BoolOp .And (a :: b :: r) pos) (tE T W fun env h => (ta env h).bind fun x h => match x with | .bl true => tb env h | .bl false => .ok (.bl false) h | _ => .stuck) :=
  tE_of (pe_and ha hb) fun σ H Q xx m h env R S q => ⟨xx, m, h, env, R, S, EvP.seq q fun x h1 m1 v1 H1 s1 R1 r1 q1 => by
    cases x with
    | bl k =>
      obtain rfl := rd_bl_iff.mp r1
      refine ⟨k, rfl, ?_⟩
      cases k with
      | false =>
        rw [if_neg Bool.false_ne_true]
        exact q1 m1 _ H1 .refl R1 rd_bl
      | true =>
        rw [if_pos rfl]
        exact ⟨xx, m1, h1, env, R1, S.mono s1, q1⟩
    | _ => exact q1.elim⟩
theorem se_or {a b : Expr} {r : List Expr} {pos : Pos} {ta tb : Env → Hh → Res D} (ha : PE X a (tE T W ta)) (hb : PE X (.BoolOp .Or (b :: r) pos) (tE T W tb)) :
    PE X (.BoolOp .Or (a :: b :: r) pos) (tE T W fun env h => (ta env h).bind fun x h => match x with | .bl true => .ok (.bl true) h | .bl false => tb env h | _ => .stuck) :=
  tE_of (pe_or ha hb) fun σ H Q xx m h env R S q => ⟨xx, m, h, env, R, S, EvP.seq q fun x h1 m1 v1 H1 s1 R1 r1 q1 => by
    cases x with
    | bl k =>
      obtain rfl := rd_bl_iff.mp r1
      refine ⟨k, rfl, ?_⟩
      cases k with
      | true =>
        rw [if_pos rfl]
        exact q1 m1 _ H1 .refl R1 rd_bl
      | false =>
        rw [if_neg Bool.false_ne_true]
        exact ⟨xx, m1, h1, env, R1, S.mono s1, q1⟩
    | _ => exact q1.elim⟩
theorem se_not {a : Expr} {pos : Pos} {ta : Env → Hh → Res D} (ha : PE X a (tE T W ta)) :
    PE X (.UnaryOp .Not a pos) (tE T W fun env h => (ta env h).bind fun x h => match x with | .bl b => .ok (.bl (!b)) h | _ => .stuck) :=
  tE_of (pe_not ha) fun σ H Q xx m h env R S q => ⟨xx, m, h, env, R, S, EvP.seq q fun x h1 m1 v1 H1 s1 R1 r1 q1 => by
    cases x with
    | bl k =>
      obtain rfl := rd_bl_iff.mp r1
      exact ⟨k, rfl, q1 m1 _ H1 .refl R1 rd_bl⟩
    | _ => exact q1.elim⟩
theorem sw_of {e : Expr} {t : TT} {f : Env → Hh → Res Bool} (p : PW X e t) (h : ∀ σ H Q xx m h env, Rl (T.ex xx) m h H → RS (T.ex xx) m H env σ → EvP (T.ex xx) W σ m H (fun _ _ a b => a = b) (f env h) Q → t σ H Q) : PW X e (tT T W f) :=
  ⟨fun whole pins s σ H Q I ⟨xx, m, hh, env, R, S, q⟩ => p.run whole pins s σ H Q I (h σ H Q xx m hh env R S q)⟩
theorem sw_and {a b : Expr} {r : List Expr} {pos : Pos} {ta tb : Env → Hh → Res Bool} (ha : PT X a (tT T W ta)) (hb : PW X (.BoolOp .And (b :: r) pos) (tT T W tb)) :
    PW X (.BoolOp .And (a :: b :: r) pos) (tT T W fun env h => (ta env h).bind fun r h => match r with | true => tb env h | false => .ok false h) :=
  sw_of (pw_and ha hb) fun σ H Q xx m h env R S q => ⟨xx, m, h, env, R, S, EvP.seq q fun x h1 m1 v1 H1 s1 R1 r1 q1 => by
    subst r1
    cases x with
    | false =>
      rw [if_neg Bool.false_ne_true]
      exact q1 m1 _ H1 .refl R1 rfl
    | true =>
      rw [if_pos rfl]
      exact ⟨xx, m1, h1, env, R1, S.mono s1, q1⟩⟩
theorem sw_or {a b : Expr} {r : List Expr} {pos : Pos} {ta tb : Env → Hh → Res Bool} (ha : PT X a (tT T W ta)) (hb : PW X (.BoolOp .Or (b :: r) pos) (tT T W tb)) :
    PW X (.BoolOp .Or (a :: b :: r) pos) (tT T W fun env h => (ta env h).bind fun r h => match r with | true => .ok true h | false => tb env h) :=
  sw_of (pw_or ha hb) fun σ H Q xx m h env R S q => ⟨xx, m, h, env, R, S, EvP.seq q fun x h1 m1 v1 H1 s1 R1 r1 q1 => by
    subst r1
    cases x with
    | true =>
      rw [if_pos rfl]
      exact q1 m1 _ H1 .refl R1 rfl
    | false =>
      rw [if_neg Bool.false_ne_true]
      exact ⟨xx, m1, h1, env, R1, S.mono s1, q1⟩⟩
theorem st_not {a : Expr} {pos : Pos} {ta : Env → Hh → Res Bool} (ha : PT X a (tT T W ta)) : PT X (.UnaryOp .Not a pos) (tT T W fun env h => (ta env h).bind fun r h => .ok (!r) h) :=
  tT_of (pt_not ha) fun σ H Q xx m h env R S q => ⟨xx, m, h, env, R, S, EvP.seq q fun x h1 m1 v1 H1 s1 R1 r1 q1 => by
    subst r1
    exact q1 m1 _ H1 .refl R1 rfl⟩
theorem se_ife {t a b : Expr} {pos : Pos} {tt : Env → Hh → Res Bool} {ta tb : Env → Hh → Res D} (ht : PT X t (tT T W tt)) (ha : PE X a (tE T W ta)) (hb : PE X b (tE T W tb)) :
    PE X (.IfExp t a b pos) (tE T W fun env h => (tt env h).bind fun r h => match r with | true => ta env h | false => tb env h) :=
  tE_of (pe_ifExp ht ha hb) fun σ H Q xx m h env R S q => ⟨xx, m, h, env, R, S, EvP.seq q fun x h1 m1 v1 H1 s1 R1 r1 q1 => by
    subst r1
    cases x with
    | true =>
      rw [if_pos rfl]
      exact ⟨xx, m1, h1, env, R1, S.mono s1, q1⟩
    | false =>
      rw [if_neg Bool.false_ne_true]
      exact ⟨xx, m1, h1, env, R1, S.mono s1, q1⟩⟩
include c in
/-- any expression as a test by its truth -/
theorem st_val {e : Expr} {te : Env → Hh → Res D} (he : PE X e (tE T W te)) (hw : ∀ whole, isTrue e X.env whole = (do let v ← whole; standAt e.pos; holding [v] (truthy v))) :
    PT X e (tT T W fun env h => (te env h).bind fun d h => .of (truth? h d) h) :=
  tT_of (pt_truth he hw) fun σ H Q xx m h env R S q => ⟨xx, m, h, env, R, S, EvP.seq q fun x h1 m1 v1 H1 s1 R1 r1 q1 => by
    obtain ⟨b, e, k⟩ := EvP.of q1
    exact ⟨b, tru_rd (T.ex xx) c.K R1 r1 e, k m1 b H1 .refl R1 rfl⟩⟩
/-! ### arguments, displays -/
theorem sa_nil : PA X [] (tA T W fun _ h => .ok [] h) := tA_of pa_nil fun σ H Q xx m h env R S q => q m [] H .refl R .nil
theorem sa_cons {e : Expr} {es : List Expr} {te : Env → Hh → Res D} {ts : Env → Hh → Res (List D)} (he : PE X e (tE T W te)) (hs : PA X es (tA T W ts)) (hn : isStar e = false) :
    PA X (e :: es) (tA T W fun env h => (te env h).bind fun x h => (ts env h).bind fun xs h => .ok (x :: xs) h) :=
  tA_of (pa_cons he hs (starEach_of hn)) fun σ H Q xx m h env R S q => ⟨xx, m, h, env, R, S, EvP.seq q fun x h1 m1 v1 H1 s1 R1 r1 q1 => ⟨xx, m1, h1, env, R1, S.mono s1, EvP.seq q1 fun y h2 m2 v2 H2 s2 R2 r2 q2 =>
    q2 m2 _ H2 .refl R2 (.cons (r1.mono s2) r2)⟩⟩
include c in
theorem sa_star {e : Expr} {es : List Expr} {p : Pos} {te : Env → Hh → Res D} {ts : Env → Hh → Res (List D)} (he : PE X e (tE T W te)) (hs : PA X es (tA T W ts)) :
    PA X (.Starred e p :: es) (tA T W fun env h => (te env h).bind fun x h => match items? h x with | some ys => (ts env h).bind fun xs h => .ok (ys ++ xs) h | none => .stuck) :=
  tA_of (StX.pa_star he hs rfl) fun σ H Q xx m h env R S q => ⟨xx, m, h, env, R, S, EvP.seq q fun x h1 m1 v1 H1 s1 R1 r1 q1 => by
    split at q1
    · rename_i ys hi
      obtain ⟨a, vs, rfl, hp, rp⟩ := items_rd R1 r1 hi
      rw [show (T.ex xx).K = X.K from c.K.symm] at hp
      refine ⟨a, vs, rfl, hp.symm, xx, m1, h1, env, R1, S.mono s1, EvP.seq q1 fun y h2 m2 v2 H2 s2 R2 r2 q2 => ?_⟩
      exact q2 m2 _ H2 .refl R2 ((rp.mono s2).append r2)
    · exact q1.elim⟩
theorem se_tup {es : List Expr} {k : Nat} {pos : Pos} {ts : Env → Hh → Res (List D)} (h : PA X es (tA T W ts)) : PE X (.Tuple es k pos) (tE T W fun env h => (ts env h).bind fun xs h => if xs.length ≤ line then .ok (.tup xs) h else .stuck) :=
  tE_of (pe_tup h) fun σ H Q xx m h env R S q => ⟨xx, m, h, env, R, S, EvP.seq q fun xs h1 m1 vs H1 s1 R1 r1 q1 => by
    split at q1
    · rename_i hz
      refine ⟨by rw [← r1.length]; exact hz, fun p hp => ?_⟩
      obtain ⟨s2, R2, r2⟩ := new_tup R1 hp r1
      exact q1 m1 _ _ s2 R2 r2
    · exact q1.elim⟩
/-- what is wanted of a fresh list: at a place that nothing told of -/
def FrP (T : Tb) (W : WX) (σ : L2.St) (m : List Addr) (H : Hp) (r : Res (List D)) (Q : VK) : Prop := match r with
  | .ok ds h' => ∀ m' p vs H' , Stp m H m' H' → H p = none → Rl (T.ex (p :: T.x)) m' h' H' → H' p = some (.lst vs) → RDs (T.ex (p :: T.x)) m' H' ds vs → Q (.ref p) H'
  | .exc x h' => ∀ m' C d H', Stp m H m' H' → Rl T m' h' H' → RX T m' H' x C d → W C d σ H'
  | .stuck => False
theorem FrP.step {σ : L2.St} {m m1 : List Addr} {H H1 : Hp} {r : Res (List D)} {Q : VK} (s : Stp m H m1 H1) (e : FrP T W σ m H r Q) : FrP T W σ m1 H1 r Q := by
  cases r with
  | ok a h => exact fun m' p vs H' s' n R q => e m' p vs H' (s.trans s') (s.back (s'.nm (R.out p List.mem_cons_self).1) n) R q
  | exc x h => exact fun m' C d H' s' R q => e m' C d H' (s.trans s') R q
  | stuck => exact e
theorem FrP.seq {α β : Type} {ρ : List Addr → Hp → α → β → Prop} {σ : L2.St} {m : List Addr} {H : Hp} {Q : VK} {Q1 : β → Hp → Prop} {r : Res α} {f : α → Hh → Res (List D)} (e : FrP T W σ m H (r.bind f) Q)
    (k : ∀ a h1 m1 b H1, Stp m H m1 H1 → Rl T m1 h1 H1 → ρ m1 H1 a b → FrP T W σ m1 H1 (f a h1) Q → Q1 b H1) : EvP T W σ m H ρ r Q1 := by
  cases r with
  | ok a h1 => exact fun m' b H' s' R q => k a h1 m' b H' s' R q (FrP.step s' e)
  | exc x h => exact e
  | stuck => exact e
def tF (T : Tb) (W : WX) (f : Env → Hh → Res (List D)) : TE := fun σ H Q => ∃ x m h env, Rl (T.ex x) m h H ∧ RS (T.ex x) m H env σ ∧ FrP (T.ex x) W σ m H (f env h) Q
theorem tF_of {e : Expr} {t : TE} {f : Env → Hh → Res (List D)} (p : PE X e t) (h : ∀ σ H Q xx m h env, Rl (T.ex xx) m h H → RS (T.ex xx) m H env σ → FrP (T.ex xx) W σ m H (f env h) Q → t σ H Q) : PE X e (tF T W f) :=
  PE.imp p fun σ H Q ⟨xx, m, hh, env, R, S, q⟩ => h σ H Q xx m hh env R S q
/-- .. made at once -/
theorem FrP.new {σ : L2.St} {m m' : List Addr} {H H' : Hp} {ds : List D} {vs : List V} {h' : Hh} {Q : VK} {p : Addr} (e : FrP T W σ m H (.ok ds h') Q) (s : Stp m H m' H') (R : Rl T m' h' H') (r : RDs T m' H' ds vs) (n : H' p = none) : Q (.ref p) (upd H' p (.lst vs)) :=
  e m' p vs _ (s.trans (Stp.laid n)) (s.back (R.fresh n) n) (R.more n) upd_same (RDs.more n r)
theorem fr_wrap {mu : Bool} {σ : L2.St} {m : List Addr} {h : Hh} {H : Hp} {r : Res (List D)} {Q : VK} (R : Rl T m h H) (q : EvP T W σ m H (RD T) (r.bind fun xs h => wrap mu xs h) Q) : FrP T W σ m H r Q := by
  cases r with
  | ok ds h' =>
    intro m' p vs H' s' np R' e r'
    have nm := (R'.out p List.mem_cons_self).1
    cases mu with
    | false => exact q m' _ _ s' R'.less (rd_lst ⟨nm, R.freshX np⟩ e r'.less)
    | true =>
      refine q (m' ++ [p]) _ H' ⟨s'.pre.trans (List.prefix_append _ _), fun a u na ea => ?_⟩ (R'.tom (R.freshX np) e ⟨vs, rfl, r'.tom⟩) ?_
      · obtain ⟨n1, e1⟩ := s'.keep a u na ea
        exact ⟨by simp [n1, ne_of_none ea np], e1⟩
      · refine rd_ref_iff.mpr ⟨p, rfl, ?_⟩
        rw [← R'.len, List.getElem?_append_right (Nat.le_refl _), Nat.sub_self]
        rfl
  | exc x h => exact q
  | stuck => exact q
theorem se_al {e : Expr} {f : Env → Hh → Res (List D)} (mu : Bool) (p : PE X e (tF T W f)) : PE X e (tE T W fun env h => (f env h).bind fun xs h => wrap mu xs h) :=
  PE.imp p fun σ H Q ⟨xx, m, h, env, R, S, q⟩ => ⟨xx, m, h, env, R, S, fr_wrap R q⟩
theorem sf_disp {es : List Expr} {pos : Pos} {ts : Env → Hh → Res (List D)} (h : PA X es (tA T W ts)) : PE X (.List es pos) (tF T W fun env h => (ts env h).bind fun xs h => if xs.length ≤ line then .ok xs h else .stuck) :=
  tF_of (pe_lst h) fun σ H Q xx m h env R S q => ⟨xx, m, h, env, R, S, FrP.seq q fun xs h1 m1 vs H1 s1 R1 r1 q1 => by
    split at q1
    · rename_i hz
      exact ⟨by rw [← r1.length]; exact hz, fun p hp => q1.new .refl R1 r1 hp⟩
    · exact q1.elim⟩
end
end Py
end

section
set_option Elab.async false
set_option linter.all false
set_option maxRecDepth 100000
namespace Py
open PySem PySem.Spec PyProof.Rows L2
section
variable {T : Tb} {W : WX} {sc : Scope} {N : List Str} {X : Cx} (c : Ctx T W sc N X)
/-! ### slices -/
/-- a slice's part by its mirror -/
def tO (T : Tb) (W : WX) (f : Env → Hh → Res (Option Int)) : TO := fun σ H Q => ∃ x m h env, Rl (T.ex x) m h H ∧ RS (T.ex x) m H env σ ∧ EvP (T.ex x) W σ m H (fun _ _ o b => o = b) (f env h) Q
theorem so_none : PO X none (tO T W fun _ h => .ok none h) := ⟨fun pins s σ H Q I ⟨x, m, h, env, R, S, q⟩ => po_none.run pins s σ H Q I (q m none H .refl R rfl)⟩
theorem so_some {e : Expr} {te : Env → Hh → Res D} (he : PE X e (tE T W te)) : PO X (some e) (tO T W fun env h => (te env h).bind fun x h => match x with | .int i => .ok (some i) h | _ => .stuck) :=
  ⟨fun pins s σ H Q I ⟨x, m, h, env, R, S, q⟩ => (po_some he).run pins s σ H Q I ⟨x, m, h, env, R, S, EvP.seq q fun z h1 m1 v1 H1 s1 R1 r1 q1 => by
    cases z with
    | int i =>
      obtain rfl := rd_int_iff.mp r1
      exact ⟨i, rfl, q1 m1 _ H1 .refl R1 rfl⟩
    | _ => exact q1.elim⟩⟩
include c in
theorem se_sl {e : Expr} {lo hi : Option Expr} {p2 pos : Pos} {te : Env → Hh → Res D} {tl tu : Env → Hh → Res (Option Int)} (he : PE X e (tE T W te)) (hl : PO X lo (tO T W tl)) (hu : PO X hi (tO T W tu)) :
    PE X (.Subscript e (.Slice lo hi none p2) pos) (tE T W fun env h => (te env h).bind fun x h => (tl env h).bind fun l h => (tu env h).bind fun u h => .of (sl? x l u) h) :=
  tE_of (pe_slice (sl_op T c.K) he hl hu) fun σ H Q xx m h env R S q => ⟨xx, m, h, env, R, S, EvP.seq q fun x h1 m1 v1 H1 s1 R1 r1 q1 => ⟨xx, m1, h1, env, R1, S.mono s1, EvP.seq q1 fun l h2 m2 l' H2 s2 R2 e2 q2 =>
    ⟨xx, m2, h2, env, R2, (S.mono s1).mono s2, EvP.seq q2 fun u h3 m3 u' H3 s3 R3 e3 q3 => by
      subst e2 e3
      obtain ⟨d, e, k⟩ := EvP.of q3
      exact ⟨xx, m3, h3, x, d, R3, (r1.mono s2).mono s3, e, k⟩⟩⟩⟩
include c in
/-- a slice of a list: a new list -/
theorem sf_sl {e : Expr} {lo hi : Option Expr} {p2 pos : Pos} {te : Env → Hh → Res D} {tl tu : Env → Hh → Res (Option Int)} (he : PE X e (tE T W te)) (hl : PO X lo (tO T W tl)) (hu : PO X hi (tO T W tu)) :
    PE X (.Subscript e (.Slice lo hi none p2) pos) (tF T W fun env h => (te env h).bind fun x h => (tl env h).bind fun l h => (tu env h).bind fun u h => match rlist? h x with | some xs => .ok (cut xs l u) h | none => .stuck) :=
  tF_of (pe_slice sl_list he hl hu) fun σ H Q xx m h env R S q => ⟨xx, m, h, env, R, S, FrP.seq q fun x h1 m1 v1 H1 s1 R1 r1 q1 => ⟨xx, m1, h1, env, R1, S.mono s1, FrP.seq q1 fun l h2 m2 l' H2 s2 R2 e2 q2 =>
    ⟨xx, m2, h2, env, R2, (S.mono s1).mono s2, FrP.seq q2 fun u h3 m3 u' H3 s3 R3 e3 q3 => by
      subst e2 e3
      split at q3
      · rename_i xs hx
        obtain ⟨a, vs, rfl, ha, rv⟩ := rlist_rd R3 ((r1.mono s2).mono s3) hx
        rw [show (T.ex xx).K = X.K from c.K.symm] at ha
        refine ⟨a, vs, rfl, ha, fun p hp => ?_⟩
        have r3 : RDs (T.ex xx) m3 H3 (cut xs l u) (cutV vs l u) := by
          have e : cutV vs l u = (vs.drop (sIx vs.length 0 l)).take (sIx vs.length vs.length u - sIx vs.length 0 l) := rfl
          rw [e]
          unfold cut
          rw [rv.length]
          exact (rv.drop _).take _
        exact q3.new .refl R3 r3 hp
      · exact q3.elim⟩⟩⟩
include c in
theorem sf_cat {a b : Expr} {pos : Pos} {ta tb : Env → Hh → Res D} (ha : PE X a (tE T W ta)) (hb : PE X b (tE T W tb)) :
    PE X (.BinOp a .Add b pos) (tF T W fun env h => (ta env h).bind fun x h => (tb env h).bind fun y h => match listed? h x, listed? h y with
      | some xs, some ys => if xs.length + ys.length ≤ line then .ok (xs ++ ys) h else .stuck
      | _, _ => .stuck) :=
  tF_of (pe_op op_cat ha hb) fun σ H Q xx m h env R S q => ⟨xx, m, h, env, R, S, FrP.seq q fun x h1 m1 v1 H1 s1 R1 r1 q1 => ⟨xx, m1, h1, env, R1, S.mono s1, FrP.seq q1 fun y h2 m2 v2 H2 s2 R2 r2 q2 => by
    split at q2
    · rename_i xs ys hx hy
      split at q2
      · rename_i hz
        obtain ⟨a1, vs, rfl, ea, ra⟩ := listed_rd R2 (r1.mono s2) hx
        obtain ⟨a2, ws, rfl, eb, rb⟩ := listed_rd R2 r2 hy
        exact ⟨a1, a2, vs, ws, rfl, rfl, ea, eb, by rw [← ra.length, ← rb.length]; exact hz, fun p hp => q2.new .refl R2 (ra.append rb) hp⟩
      · exact q2.elim
    · exact q2.elim⟩⟩
theorem rds_rep {m : List Addr} {H : Hp} {ds : List D} {vs : List V} (r : RDs T m H ds vs) : ∀ n : Nat, RDs T m H (List.replicate n ds).flatten (List.replicate n vs).flatten
  | 0 => by simpa using RDs.nil
  | n + 1 => by
    rw [List.replicate_succ, List.replicate_succ, List.flatten_cons, List.flatten_cons]
    exact r.append (rds_rep r n)
include c in
theorem sf_rep {a b : Expr} {pos : Pos} {ta tb : Env → Hh → Res D} (ha : PE X a (tE T W ta)) (hb : PE X b (tE T W tb)) :
    PE X (.BinOp a .Mult b pos) (tF T W fun env h => (ta env h).bind fun x h => (tb env h).bind fun y h => match listed? h x, y with
      | some xs, .int n => if -9223372036854775808 ≤ n ∧ n < 9223372036854775808 ∧ xs.length * n.toNat ≤ line then .ok ((List.replicate n.toNat xs).flatten) h else .stuck
      | _, _ => .stuck) :=
  tF_of (pe_op op_rep ha hb) fun σ H Q xx m h env R S q => ⟨xx, m, h, env, R, S, FrP.seq q fun x h1 m1 v1 H1 s1 R1 r1 q1 => ⟨xx, m1, h1, env, R1, S.mono s1, FrP.seq q1 fun y h2 m2 v2 H2 s2 R2 r2 q2 => by
    split at q2
    · rename_i xs n hx
      split at q2
      · rename_i hz
        obtain ⟨a1, vs, rfl, ea, ra⟩ := listed_rd R2 (r1.mono s2) hx
        obtain rfl := rd_int_iff.mp r2
        exact ⟨a1, n, vs, rfl, rfl, ea, hz.1, hz.2.1, by rw [← ra.length]; exact hz.2.2, fun p hp => q2.new .refl R2 (rds_rep ra _) hp⟩
      · exact q2.elim
    · exact q2.elim⟩⟩
include c in
/-- list(e) -/
theorem sf_of {e : Expr} {p pos : Pos} {te : Env → Hh → Res D} (he : PE X e (tE T W te)) (hn : isStar e = false) (hg : sc.names.lookup ("list" : Str) = some .globalImplicit) (hm : T.mg "list" = none) :
    PE X (.Call (.Name "list" p) [e] [] pos) (tF T W fun env h => (te env h).bind fun x h => .of (items? h x) h) :=
  tF_of (pe_callTy call_list_of (c.glo _ hg) (by rw [c.mg]; exact hm) (by decide +kernel) (pa_cons he pa_nil (starEach_of hn)) (by decide) (by decide) (starEach_of hn) rfl) fun σ H Q xx m h env R S q =>
    ⟨xx, m, h, env, R, S, FrP.seq q fun x h1 m1 v1 H1 s1 R1 r1 q1 => by
      cases hx : items? h1 x with
      | none => rw [hx] at q1; exact q1.elim
      | some xs =>
        rw [hx] at q1
        obtain ⟨a, vs, rfl, ha, rv⟩ := items_rd R1 r1 hx
        rw [show (T.ex xx).K = X.K from c.K.symm] at ha
        exact ⟨a, vs, rfl, ha, fun l hl => FrP.new q1 .refl R1 rv hl⟩⟩
/-! ### built-ins -/
include c in
theorem se_bi1 {f : String} {id : Value} {e : Expr} {p pos : Pos} {te : Env → Hh → Res (List D)} (hc : CallR X id (rBi T f)) (hid : (∃ n, id = .builtin n) ∨ ∃ n, id = .type n) (he : PA X [e] (tA T W te)) (hn : isStar e = false) (hg : sc.names.lookup (Str.ofString f) = some .globalImplicit) (hm : T.mg (Str.ofString f) = none)
    (hv : bootBuiltins (Str.ofString f) = some id) (h1 : Str.ofString f ≠ "__name__") (h2 : (Str.ofString f == ("__debug__" : Str)) = false) :
    PE X (.Call (.Name (Str.ofString f) p) [e] [] pos) (tE T W fun env h => (te env h).bind fun xs h => .of (bi? h f xs) h) := by
  have k : ∀ σ H Q xx m h env, Rl (T.ex xx) m h H → RS (T.ex xx) m H env σ → EvP (T.ex xx) W σ m H (RD (T.ex xx)) ((te env h).bind fun xs h => .of (bi? h f xs) h) Q → tCB (rBi T f) (tA T W te) σ H Q := fun σ H Q xx m h env R S q =>
    ⟨xx, m, h, env, R, S, EvP.seq q fun xs h1 m1 vs H1 s1 R1 r1 q1 => by
      obtain ⟨d, e, k⟩ := EvP.of q1
      exact ⟨xx, m1, h1, xs, d, R1, r1, e, k⟩⟩
  rcases hid with ⟨n, rfl⟩ | ⟨n, rfl⟩
  · exact tE_of (pe_callB hc (c.glo _ hg) (by rw [c.mg]; exact hm) hv he h1 h2 (starEach_of hn) rfl) k
  · exact tE_of (pe_callTy hc (c.glo _ hg) (by rw [c.mg]; exact hm) hv he h1 h2 (starEach_of hn) rfl) k
end
end Py
end

section
set_option Elab.async false
set_option linter.all false
set_option maxRecDepth 100000
namespace Py
open PySem PySem.Spec PyProof.Rows L2
section
variable {T : Tb} {W : WX} {sc : Scope} {N : List Str} {X : Cx} (c : Ctx T W sc N X)
/-! ### kinds -/
def tyNames : List String := ["int", "bool", "str", "list", "tuple", "dict"]
theorem ty_boot : ∀ n ∈ tyNames, bootBuiltins (Str.ofString n) = some (.type n) ∧ Str.ofString n ≠ "__name__" ∧ (Str.ofString n == ("__debug__" : Str)) = false := by
  decide +kernel
include c in
theorem pe_tyname {n : String} {p : Pos} (hn : n ∈ tyNames) (hg : sc.names.lookup (Str.ofString n) = some .globalImplicit) (hm : T.mg (Str.ofString n) = none) : PE X (.Name (Str.ofString n) p) (tC (.ty n)) := by
  obtain ⟨h1, h2, h3⟩ := ty_boot n hn
  exact pe_bltn (c.glo _ hg) (by rw [c.mg]; exact hm) h1 rfl h2 h3
/-- names of classes as written arguments -/
inductive TyL (T : Tb) (sc : Scope) : List Expr → List String → Prop where
  | nil : TyL T sc [] []
  | cons {n : String} {p : Pos} {es : List Expr} {cs : List String} (hn : n ∈ tyNames) (hg : sc.names.lookup (Str.ofString n) = some .globalImplicit) (hm : T.mg (Str.ofString n) = none) (r : TyL T sc es cs) : TyL T sc (.Name (Str.ofString n) p :: es) (n :: cs)
include c in
theorem pa_tys : ∀ {es : List Expr} {cs : List String}, TyL T sc es cs → PA X es (fun σ H Q => Q (cs.map V.ty) H)
  | _, _, .nil => PA.imp pa_nil fun σ H Q q => q
  | _, _, .cons hn hg hm r => PA.imp (pa_cons (pe_tyname c hn hg hm) (pa_tys r) rfl) fun σ H Q q => q
theorem tys_cls : ∀ cs : List String, Paired ClsV (cs.map V.ty) (cs.map Value.type)
  | [] => .nil
  | n :: cs => .cons (.ty n) (tys_cls cs)
include c in
theorem se_isi1 {e : Expr} {n : String} {p q pos : Pos} {te : Env → Hh → Res D} (he : PE X e (tE T W te)) (hs : isStar e = false) (hn : n ∈ tyNames) (hg : sc.names.lookup (Str.ofString n) = some .globalImplicit) (hm : T.mg (Str.ofString n) = none)
    (hgi : sc.names.lookup ("isinstance" : Str) = some .globalImplicit) (hmi : T.mg "isinstance" = none) :
    PE X (.Call (.Name "isinstance" p) [e, .Name (Str.ofString n) q] [] pos) (tE T W fun env h => (te env h).bind fun x h => .of ((isAny h x [n]).map .bl) h) :=
  tE_of (pe_callB call_isi (c.glo _ hgi) (by rw [c.mg]; exact hmi) (by decide +kernel) (pa_cons he (pa_cons (pe_tyname c hn hg hm) pa_nil rfl) (starEach_of hs)) (by decide) (by decide) (starEach_of hs) rfl) fun σ H Q xx m h env R S q =>
    ⟨xx, m, h, env, R, S, EvP.seq q fun x h1 m1 v1 H1 s1 R1 r1 q1 => by
      obtain ⟨d, e1, k⟩ := EvP.of q1
      obtain ⟨b, e2, rfl⟩ := Option.map_eq_some_iff.mp e1
      obtain ⟨t, ht⟩ := isAny_ty e2
      have e3 : isA h1 x n = some b := by
        unfold isAny at e2
        split at e2
        · rename_i z; rw [z]; exact e2
        · rename_i z; rw [z]; exact e2
        · cases e2
      exact ⟨v1, .ty n, .type t, .type n, b, rfl, .ty n, rd_ty (T.ex xx) c.K R1 r1 ht, kit_isA ht e3, k m1 _ H1 .refl R1 rd_bl⟩⟩
include c in
theorem se_isi {e : Expr} {es : List Expr} {n : String} {cs : List String} {kk : Nat} {p q pos : Pos} {te : Env → Hh → Res D} (he : PE X e (tE T W te)) (hs : isStar e = false) (ht : TyL T sc es (n :: cs)) (hl : cs.length ≤ 100)
    (hgi : sc.names.lookup ("isinstance" : Str) = some .globalImplicit) (hmi : T.mg "isinstance" = none) :
    PE X (.Call (.Name "isinstance" p) [e, .Tuple es kk q] [] pos) (tE T W fun env h => (te env h).bind fun x h => .of ((isAny h x (n :: cs)).map .bl) h) :=
  tE_of (pe_callB call_isiT (c.glo _ hgi) (by rw [c.mg]; exact hmi) (by decide +kernel) (pa_cons he (pa_cons (pe_tup (pa_tys c ht)) pa_nil rfl) (starEach_of hs)) (by decide) (by decide) (starEach_of hs) rfl) fun σ H Q xx m h env R S q =>
    ⟨xx, m, h, env, R, S, EvP.seq q fun x h1 m1 v1 H1 s1 R1 r1 q1 => by
      obtain ⟨d, e1, k⟩ := EvP.of q1
      obtain ⟨b, e2, rfl⟩ := Option.map_eq_some_iff.mp e1
      obtain ⟨t, hty⟩ := isAny_ty e2
      refine ⟨?_, fun tp hp => ?_⟩
      · rw [List.length_map, List.length_cons]
        have : sizeLine = 16777216 := rfl
        omega
      · have s2 : Stp m1 H1 m1 (upd H1 tp (.tup ((n :: cs).map V.ty))) := Stp.laid hp
        exact ⟨v1, tp, _, .type t, _, b, rfl, upd_same, tys_cls _, rd_ty (T.ex xx) c.K (R1.laid hp) (r1.mono s2) hty, kit_isAny hty e2, k m1 _ _ s2 (R1.laid hp) rd_bl⟩⟩
/-! ### calls of the module's defs -/
/-- a def's promise by its mirror -/
def spF (T : Tb) (n : Nat) (g : List D → Hh → Res D) : Sp := fun vs H Q E => ∃ x m h ds, vs.length = n ∧ Rl (T.ex x) m h H ∧ RDs (T.ex x) m H ds vs ∧ EvP (T.ex x) (fun C d _ H' => E C d H') [] m H (RD (T.ex x)) (g ds h) Q
/-- where a def stands, and that it keeps its promise at the level k -/
def FnAt (T : Tb) (P : Program) (w : World) (base : Heap) (k : Nat) (f : String) (n : Nat) (g : List D → Hh → Res D) : Prop :=
  ∃ fa fd ps, T.mg (Str.ofString f) = some (.ref fa) ∧ PySem.W.keepIn T.K (.ref fa) = true ∧ Binds T.K fd ps [] ∧ ps.length = n ∧ FnOk P w T.K T.mg base (CX P w) k fa fd ps (spF T n g)
theorem run_call {CXk : Nat} {fa : Addr} {fd : FuncData} {ps : List Str} {sp : Sp} {σ : L2.St} {pins : List (Addr × Obj)} {s : Shared} {H : Hp} {Q : VK} {us : List Value} {vs : List V} (tk : Takes X W) (F : FnOk X.prog X.w X.K X.mg X.base (CX X.prog X.w) CXk fa fd ps sp) (hr : Room CXk X.A) (hb : Binds X.K fd ps [])
    (I : Inv X pins σ H s) (r : Vals vs us) (h : sp vs H Q fun C d H' => W C d σ H') : wpAny (model X.prog X.w) X.A (call (.ref fa) us) (EP X pins σ Q) X.xe s := by
  have hl : us.length = ps.length := by rw [← r.length]; exact F.len _ _ _ _ h
  have hb' := hb s us I.kIn (by rw [List.append_nil]; exact hl)
  rw [List.append_nil] at hb'
  refine wpAny_call (codeAny_mono (F.run X.A X.stack s H ⟨us, []⟩ us vs Q _ hr I.env0 hb' r h) fun res s' hq => ?_)
  match res, hq with
  | .error e, hq => exact tk _ _ (XE.of_call I (fun _ _ _ z => z) hq)
  | .ok (.ret u), hq => exact I.after hq
  | .ok .next, hq => exact hq.elim
  | .ok .brk, hq => exact hq.elim
  | .ok .cont, hq => exact hq.elim
include c in
theorem se_call {f : String} {es : List Expr} {p pos : Pos} {ts : Env → Hh → Res (List D)} {k : Nat} {g : List D → Hh → Res D} (F : FnAt T X.prog X.w X.base k f es.length g) (hr : Room k X.A) (ha : PA X es (tA T W ts)) (hn : es.all (fun e => !isStar e) = true)
    (hg : sc.names.lookup (Str.ofString f) = some .globalImplicit) (hd : (Str.ofString f == ("__debug__" : Str)) = false) (hlen : ∀ env h ds h', ts env h = .ok ds h' → ds.length = es.length) (h0 : es = [] → ∀ σ H Q, tA T W ts σ H Q → Q [] H) :
    PE X (.Call (.Name (Str.ofString f) p) es [] pos) (tE T W fun env h => (ts env h).bind fun xs h => g xs h) := by
  obtain ⟨fa, fd, ps, hm, hk, hb, hps, F⟩ := F
  have hm' : X.mg (Str.ofString f) = some (.ref fa) := by rw [c.mg]; exact hm
  rw [← c.K, ← c.mg] at F
  rw [← c.K] at hk hb
  refine ⟨fun pins s σ H Q I ⟨xx, m, h, env, R, S, q⟩ => ?_⟩
  have q' : tA T W ts σ H (fun vs H1 => spF T es.length g vs H1 Q fun C d H' => W C d σ H') := ⟨xx, m, h, env, R, S, by
    cases e1 : ts env h with
    | ok ds h' =>
      have q : EvP (T.ex xx) W σ m H (RD (T.ex xx)) ((ts env h).bind fun xs h => g xs h) Q := q
      rw [e1] at q
      intro m1 vs H1 s1 R1 r1
      exact ⟨xx, m1, h', ds, by rw [← r1.length]; exact hlen env h ds h' e1, R1, r1, EvP.step s1 q⟩
    | exc z h' =>
      have q : EvP (T.ex xx) W σ m H (RD (T.ex xx)) ((ts env h).bind fun xs h => g xs h) Q := q
      rw [e1] at q
      exact q
    | stuck =>
      have q : EvP (T.ex xx) W σ m H (RD (T.ex xx)) ((ts env h).bind fun xs h => g xs h) Q := q
      rw [e1] at q
      exact q⟩
  refine wpAny_Call_Name_kw (ld_glob I (c.glo _ hg) hm' ?_ hd)
  cases es with
  | nil =>
    refine PySem.W.callWith_K0 I.kIn hk ?_
    exact run_call c.tk F hr hb I .nil (h0 rfl σ H _ q')
  | cons e es =>
    rw [List.all_cons, Bool.and_eq_true] at hn
    refine PySem.W.callWith_K (h₀ := X.base) I.ok.mod.kin hk (thn (ha.run pos pins s σ H _ I q') fun us s1 ⟨vs, H1, I1, r, q1⟩ => ⟨I1.kIn, ?_⟩) (starEach_of (by simpa using hn.1)) (noStar_any hn.2)
    exact run_call c.tk F hr hb I1 r q1
end
end Py
end

section
set_option Elab.async false
set_option linter.all false
set_option maxRecDepth 100000
namespace Py
open PySem PySem.Spec PyProof.Rows L2
/-! ### targets -/
mutual
def slots : Tg → List Nat
  | .nm i => [i]
  | .tp ts => slotss ts
def slotss : List Tg → List Nat
  | [] => []
  | t :: ts => slots t ++ slotss ts
end
theorem wipe_at : ∀ (vs : List Nat) (σ : L2.St) (j : Nat), (wipe σ vs)[j]? = if j ∈ vs ∧ j < σ.length then some none else σ[j]?
  | [], σ, j => by simp [wipe]
  | v :: vs, σ, j => by
    unfold wipe
    by_cases hj : v = j
    · subst hj
      by_cases hl : v < σ.length
      · rw [List.getElem?_set_self (by rw [wipe_length]; exact hl), if_pos ⟨List.mem_cons_self, hl⟩]
      · rw [List.getElem?_eq_none (by rw [List.length_set, wipe_length]; omega), if_neg (fun z => hl z.2), List.getElem?_eq_none (by omega)]
    · rw [List.getElem?_set_ne hj, wipe_at vs σ j]
      simp [Ne.symm hj]
theorem wipe_set (vs : List Nat) (σ : L2.St) (i : Nat) (x : Option V) (h : i ∈ vs) : wipe (σ.set i x) vs = wipe σ vs := by
  apply List.ext_getElem?
  intro j
  rw [wipe_at, wipe_at, List.length_set]
  by_cases hj : i = j
  · subst hj
    by_cases hl : i < σ.length
    · rw [if_pos ⟨h, hl⟩, if_pos ⟨h, hl⟩]
    · rw [if_neg (fun z => hl z.2), if_neg (fun z => hl z.2), List.set_eq_of_length_le (by omega)]
  · rw [List.getElem?_set_ne hj]
theorem wipe_wipe (vs : List Nat) (σ : L2.St) : wipe (wipe σ vs) vs = wipe σ vs := by
  apply List.ext_getElem?
  intro j
  rw [wipe_at, wipe_length, wipe_at]
  split <;> rfl
/-- the slots outside ws stay -/
def Off (ws : List Nat) (σ σ' : L2.St) : Prop := ∀ vs : List Nat, (∀ i ∈ ws, i ∈ vs) → wipe σ' vs = wipe σ vs
section
variable {T : Tb} {W : WX} {sc : Scope} {N : List Str} {X : Cx} (c : Ctx T W sc N X)
def gT (T : Tb) (tg : Tg) : TG := fun v σ H Q => ∃ xx m h env d env', Rl (T.ex xx) m h H ∧ RS (T.ex xx) m H env σ ∧ RD (T.ex xx) m H d v ∧ asg? tg d env = some env' ∧ ∀ σ', RS (T.ex xx) m H env' σ' → Off (slots tg) σ σ' → Q σ' H
def gTs (T : Tb) (ts : List Tg) : TGs := fun vs σ H Q => ∃ xx m h env ds env', Rl (T.ex xx) m h H ∧ RS (T.ex xx) m H env σ ∧ RDs (T.ex xx) m H ds vs ∧ asgs? ts ds env = some env' ∧ ∀ σ', RS (T.ex xx) m H env' σ' → Off (slotss ts) σ σ' → Q σ' H
theorem PG.imp {e : Expr} {t t' : TG} (p : PG X e t) (h : ∀ v σ H Q, t' v σ H Q → t v σ H Q) : PG X e t' := ⟨fun pins s σ H v u Q I r q => p.run pins s σ H v u Q I r (h _ _ _ _ q)⟩
theorem PGs.imp {e : List Expr} {t t' : TGs} (p : PGs X e t) (h : ∀ v σ H Q, t' v σ H Q → t v σ H Q) : PGs X e t' := ⟨fun pins s σ H v u Q I r q => p.run pins s σ H v u Q I r (h _ _ _ _ q)⟩
theorem sg_nm {i : Nat} {x : Str} {pos : Pos} (hN : X.N.Nodup) (hi : X.N[i]? = some x) (hx : Loc X.env.scope x) (hf : X.fn x = true ∨ X.env.scope.names.lookup x = some .local) : PG X (.Name x pos) (gT T (.nm i)) :=
  PG.imp (pg_name hN hi hx hf) fun v σ H Q ⟨xx, m, h, env, d, env', R, S, r, e, q⟩ => by
    simp only [asg?] at e
    split at e
    · cases e
      exact q _ (S.set i r) fun vs hv => wipe_set vs σ i _ (hv i (by simp [slots]))
    · cases e
theorem sgs_nil : PGs X [] (gTs T []) := PGs.imp pgs_nil fun v σ H Q ⟨xx, m, h, env, ds, env', R, S, r, e, q⟩ => by
  cases ds with
  | nil =>
    cases e
    have r0 : v = [] := by unfold RDs at r; exact r
    exact ⟨r0, q σ S fun _ _ => rfl⟩
  | cons _ _ => cases e
theorem each_cons {e : Expr} {es : List Expr} {env : PySem.Env} (hn : isStar e = false) : assignEach (e :: es) env = (false, assign e env) :: assignEach es env := by
  cases e <;> first | rfl | cases hn
theorem each_len : ∀ {es : List Expr} {env : PySem.Env}, (assignEach es env).length = es.length
  | [], _ => rfl
  | e :: es, env => by
    cases e <;> (show (assignEach es env).length + 1 = es.length + 1; rw [each_len])
theorem each_none {env : PySem.Env} : ∀ {es : List Expr}, es.all (fun e => !isStar e) = true → (assignEach es env).findIdx? (·.1) = none
  | [], _ => rfl
  | e :: es, h => by
    rw [List.all_cons, Bool.and_eq_true] at h
    rw [each_cons (by simpa using h.1), List.findIdx?_cons]
    simp [each_none h.2]
theorem sgs_cons {e : Expr} {es : List Expr} {t : Tg} {ts : List Tg} (h1 : PG X e (gT T t)) (h2 : PGs X es (gTs T ts)) (hn : isStar e = false) : PGs X (e :: es) (gTs T (t :: ts)) :=
  PGs.imp (pgs_cons h1 h2 (by rw [each_cons hn]; rfl)) fun v σ H Q ⟨xx, m, h, env, ds, env', R, S, r, e, q⟩ => by
    cases ds with
    | nil => cases e
    | cons d ds =>
      obtain ⟨env1, e1, e2⟩ := Option.bind_eq_some_iff.mp (show (asg? t d env).bind (fun env' => asgs? ts ds env') = some env' from e)
      unfold RDs at r
      obtain ⟨w, rest, rfl, r1, r2⟩ := r
      refine ⟨w, rest, rfl, xx, m, h, env, d, env1, R, S, r1, e1, fun σ1 S1 o1 => ?_⟩
      refine ⟨xx, m, h, env1, ds, env', R, S1, r2, e2, fun σ2 S2 o2 => q σ2 S2 fun vs hv => ?_⟩
      have hv' : ∀ i ∈ slots t ++ slotss ts, i ∈ vs := hv
      rw [o2 vs fun i hi => hv' i (List.mem_append_right _ hi), o1 vs fun i hi => hv' i (List.mem_append_left _ hi)]
include c in
theorem sg_tp {es : List Expr} {k : Nat} {pos : Pos} {ts : List Tg} (h : PGs X es (gTs T ts)) (hl : es.length = ts.length) (hn : es.all (fun e => !isStar e) = true) : PG X (.Tuple es k pos) (gT T (.tp ts)) :=
  PG.imp (pg_tup c.calm h each_len (each_none hn)) fun v σ H Q ⟨xx, m, h, env, d, env', R, S, r, e, q⟩ => by
    cases d with
    | tup ds =>
      obtain ⟨a, vs, rfl, qa, rv⟩ := rd_tup_iff.mp r
      have e1 := qa.sq
      rw [show (T.ex xx).K = X.K from c.K.symm] at e1
      have hlen : ∀ (ts : List Tg) (ds : List D) (env env' : Env), asgs? ts ds env = some env' → ds.length = ts.length := by
        intro ts
        induction ts with
        | nil => intro ds env env' e; cases ds with
          | nil => rfl
          | cons _ _ => cases e
        | cons t ts ih => intro ds env env' e; cases ds with
          | nil => cases e
          | cons d ds =>
            obtain ⟨env1, _, e2⟩ := Option.bind_eq_some_iff.mp (show (asg? t d env).bind (fun env' => asgs? ts ds env') = some env' from e)
            rw [List.length_cons, List.length_cons, ih ds env1 env' e2]
      have e2 : asgs? ts ds env = some env' := e
      exact ⟨a, vs, rfl, e1, by rw [← rv.length, hlen ts ds env env' e2, hl], xx, m, h, env, ds, env', R, S, rv, e2, fun σ' S' o => q σ' S' o⟩
    | _ => cases e
/-! ### walks -/
mutual
theorem RD.exf {T : Tb} {m : List Addr} {H : Hp} {p : List Addr} (n : ∀ a ∈ p, H a = none) : ∀ {d : D} {v : V}, RD T m H d v → RD (T.ex (p ++ T.x)) m H d v
  | .non, _, r => r
  | .bl _, _, r => r
  | .int _, _, r => r
  | .str _, _, r => r
  | .tup ds, v, r => by
    unfold RD at r ⊢
    obtain ⟨a, vs, e, q, r⟩ := r
    refine ⟨a, vs, e, ?_, RDs.exf n r⟩
    rcases q with ⟨⟨n1, n2⟩, q⟩ | q
    · have ne : a ∉ p := fun z => by
        have z0 := n a z
        rcases q with q | ⟨_, q⟩ <;> rw [z0] at q <;> cases q
      exact .inl ⟨⟨n1, by simp [Tb.ex, ne, n2]⟩, q⟩
    · exact .inr q
  | .lst ds, v, r => by
    unfold RD at r ⊢
    obtain ⟨a, vs, e, ⟨⟨n1, n2⟩, q⟩, r⟩ := r
    have ne : a ∉ p := fun z => by
      have z0 := n a z
      rw [z0] at q
      cases q
    exact ⟨a, vs, e, ⟨⟨n1, by simp [Tb.ex, ne, n2]⟩, q⟩, RDs.exf n r⟩
  | .fz ds, v, r => by
    unfold RD at r ⊢
    obtain ⟨a, vs, e, ⟨⟨n1, n2⟩, q⟩ | q, r⟩ := r
    · have ne : a ∉ p := fun z => by
        have z0 := n a z
        rcases q with q | ⟨_, q⟩ <;> rw [z0] at q <;> cases q
      exact ⟨a, vs, e, .inl ⟨⟨n1, by simp [Tb.ex, ne, n2]⟩, q⟩, RDs.exf n r⟩
    · exact ⟨a, vs, e, .inr q, RDs.exf n r⟩
  | .dic ks vs, v, r => by
    unfold RD at r ⊢
    obtain ⟨e1, e2, a, e, q⟩ := r
    exact ⟨e1, e2, a, e, q.exf n⟩
  | .obj c ks vs, v, r => by
    unfold RD at r ⊢
    obtain ⟨a, fs, e, q, e2, r⟩ := r
    exact ⟨a, fs, e, q.exf n, e2, RDs.exf n r⟩
  | .ref _, _, r => r
  | .clo _ _, _, r => r
  | .nam _, _, r => r
theorem RDs.exf {T : Tb} {m : List Addr} {H : Hp} {p : List Addr} (n : ∀ a ∈ p, H a = none) : ∀ {ds : List D} {vs : List V}, RDs T m H ds vs → RDs (T.ex (p ++ T.x)) m H ds vs
  | [], _, r => r
  | d :: ds, vs, r => by
    unfold RDs at r ⊢
    obtain ⟨v, q, e, r1, r2⟩ := r
    exact ⟨v, q, e, RD.exf n r1, RDs.exf n r2⟩
end
/-- what an iterator gives, by its mirror: from the state (m0, H0) on, while the changing lists of g stand; p: places that are new since -/
structure WD (T : Tb) (m0 : List Addr) (H0 : Hp) (J : L2.It) (ds : List D) (g : Gd) : Prop where
  go : ∀ p i m h H, (∀ a ∈ p, H0 a = none) → i < ds.length → Stp m0 H0 m H → Rl (T.ex (p ++ T.x)) m h H → gdok g h = true → J.go i H
  stop : ∀ p m h H, (∀ a ∈ p, H0 a = none) → Stp m0 H0 m H → Rl (T.ex (p ++ T.x)) m h H → gdok g h = true → J.stop ds.length H
  yld : ∀ p i m h H x H', (∀ a ∈ p, H0 a = none) → i < ds.length → Stp m0 H0 m H → Rl (T.ex (p ++ T.x)) m h H → gdok g h = true → J.yld i H x H' →
    ∃ d, ds[i]? = some d ∧ Stp m H m H' ∧ Rl (T.ex (p ++ T.x)) m h H' ∧ RD (T.ex (p ++ T.x)) m H' d x
def tI (T : Tb) (W : WX) (f : Env → Hh → Res (List D × Gd)) : TI := fun σ H R => ∃ x m h env, Rl (T.ex x) m h H ∧ RS (T.ex x) m H env σ ∧ EvP (T.ex x) W σ m H (fun m' H' q J => WD (T.ex x) m' H' J q.1 q.2) (f env h) R
theorem PI.imp {tg e : Expr} {t t' : TI} (p : PI X tg e t) (h : ∀ σ H R, t' σ H R → t σ H R) : PI X tg e t' := ⟨fun pins s σ H R I q => p.run pins s σ H R I (h _ _ _ q)⟩
theorem pi_or {tg e : Expr} {t t' : TI} (p : PI X tg e t) (p' : PI X tg e t') : PI X tg e (fun σ H R => t σ H R ∨ t' σ H R) := ⟨fun pins s σ H R I q => q.elim (p.run pins s σ H R I) (p'.run pins s σ H R I)⟩
theorem gdok_at {g : Gd} {h : Hh} (e : gdok g h = true) {n : Nat} {ds : List D} (hn : (n, ds) ∈ g) : h[n]? = some (.lst ds) := by
  have z := List.all_eq_true.mp e _ hn
  simp only at z
  split at z
  · rename_i es he
    rw [he, D.beqs_eq z]
  · cases z
/-- a list or a tuple that stands still -/
theorem wd_seq {ds : List D} {vs : List V} {a : Addr} {m : List Addr} {H : Hp} (r : RDs T m H ds vs) : (∀ m' H', Stp m H m' H' → SqL X.K H' a vs) → WD T m H (Itl X.K a) ds [] := fun k =>
  { go := fun p i m' h H' hp hi s R g => by
      obtain ⟨v, e, _⟩ := r.get (List.getElem?_eq_getElem hi)
      exact ⟨vs, v, k _ _ s, e⟩
    stop := fun p m' h H' hp s R g => ⟨vs, k _ _ s, by rw [← r.length]; exact Nat.le_refl _⟩
    yld := fun p i m' h H' x H'' hp hi s R g y => by
      obtain ⟨rfl, y⟩ := y
      obtain ⟨v, e, rv⟩ := (RDs.mono s (RDs.exf hp r)).get (List.getElem?_eq_getElem hi)
      have : x = v := Option.some.inj ((y vs (k _ _ s)).symm.trans e)
      subst this
      exact ⟨_, List.getElem?_eq_getElem hi, .refl, R, rv⟩ }
theorem wd_tup {ds : List D} {vs : List V} {a : Addr} {m : List Addr} {H : Hp} (r : RDs T m H ds vs) : (∀ m' H', Stp m H m' H' → SqT X.K H' a vs) → WD T m H (Itt X.K a) ds [] := fun k =>
  { go := fun p i m' h H' hp hi s R g => by
      obtain ⟨v, e, _⟩ := r.get (List.getElem?_eq_getElem hi)
      exact ⟨vs, v, k _ _ s, e⟩
    stop := fun p m' h H' hp s R g => ⟨vs, k _ _ s, by rw [← r.length]; exact Nat.le_refl _⟩
    yld := fun p i m' h H' x H'' hp hi s R g y => by
      obtain ⟨rfl, y⟩ := y
      obtain ⟨v, e, rv⟩ := (RDs.mono s (RDs.exf hp r)).get (List.getElem?_eq_getElem hi)
      have : x = v := Option.some.inj ((y vs (k _ _ s)).symm.trans e)
      subst this
      exact ⟨_, List.getElem?_eq_getElem hi, .refl, R, rv⟩ }
/-- a list that may change, but doesn't while it is walked -/
theorem wd_ref {ds : List D} {vs : List V} {a : Addr} {n : Nat} {m : List Addr} {H : Hp} (e : m[n]? = some a) (r : RDs T m H ds vs) : WD T m H (Itl X.K a) ds [(n, ds)] := by
  have k : ∀ p m' h H', Stp m H m' H' → Rl (T.ex (p ++ T.x)) m' h H' → gdok [(n, ds)] h = true → ∃ ws, SqL X.K H' a ws ∧ RDs (T.ex (p ++ T.x)) m' H' ds ws := fun p m' h H' s R g => by
    obtain ⟨a', ws, e1, e2, r'⟩ := R.lst (gdok_at g List.mem_cons_self)
    obtain ⟨l, hl⟩ := s.pre
    have : m'[n]? = some a := by rw [← hl, List.getElem?_append_left (List.getElem?_eq_some_iff.mp e).1, e]
    rw [this] at e1
    cases e1
    exact ⟨ws, .inl (.inl e2), r'⟩
  exact
  { go := fun p i m' h H' hp hi s R g => by
      obtain ⟨ws, h1, h2⟩ := k p m' h H' s R g
      obtain ⟨v, e, _⟩ := h2.get (List.getElem?_eq_getElem hi)
      exact ⟨ws, v, h1, e⟩
    stop := fun p m' h H' hp s R g => by
      obtain ⟨ws, h1, h2⟩ := k p m' h H' s R g
      exact ⟨ws, h1, by rw [← h2.length]; exact Nat.le_refl _⟩
    yld := fun p i m' h H' x H'' hp hi s R g y => by
      obtain ⟨rfl, y⟩ := y
      obtain ⟨ws, h1, h2⟩ := k p m' h _ s R g
      obtain ⟨v, e, rv⟩ := h2.get (List.getElem?_eq_getElem hi)
      have : x = v := Option.some.inj ((y ws h1).symm.trans e)
      subst this
      exact ⟨_, List.getElem?_eq_getElem hi, .refl, R, rv⟩ }
theorem wd_str {s : List Nat} {m : List Addr} {H : Hp} : WD T m H (Its (SS s)) (s.map fun c => .str [c]) [] :=
  { go := fun p i m' h H' hp hi st R g => by
      show i < (SS s).cps.size
      simpa [SS] using hi
    stop := fun p m' h H' hp st R g => by
      show (SS s).cps.size ≤ _
      simp [SS]
    yld := fun p i m' h H' x H'' hp hi st R g y => by
      obtain ⟨rfl, c, e, rfl⟩ := y
      have e' : s[i]? = some c := by simpa [SS] using e
      exact ⟨.str [c], by simp [e'], .refl, R, rd_str⟩ }
theorem rngF_at : ∀ (n : Nat) (lo : Int) (i : Nat), (rngF lo n)[i]? = if i < n then some (.int (lo + i)) else none
  | 0, lo, i => by simp [rngF]
  | n + 1, lo, 0 => by simp [rngF]
  | n + 1, lo, i + 1 => by
    show (rngF (lo + 1) n)[i]? = _
    rw [rngF_at n (lo + 1) i]
    by_cases h : i < n
    · rw [if_pos h, if_pos (by omega)]
      congr 2
      omega
    · rw [if_neg h, if_neg (by omega)]
theorem rngF_len : ∀ (n : Nat) (lo : Int), (rngF lo n).length = n
  | 0, _ => rfl
  | n + 1, lo => by
    show (rngF (lo + 1) n).length + 1 = n + 1
    rw [rngF_len n]
theorem wd_rng {lo : Int} {n : Nat} {m : List Addr} {H : Hp} : WD T m H (Itr lo n) (rngF lo n) [] :=
  { go := fun p i m' h H' hp hi st R g => by rw [rngF_len] at hi; exact hi
    stop := fun p m' h H' hp st R g => by rw [rngF_len]; exact Nat.le_refl _
    yld := fun p i m' h H' x H'' hp hi st R g y => by
      obtain ⟨rfl, rfl⟩ := y
      rw [rngF_len] at hi
      exact ⟨.int (lo + i), by rw [rngF_at, if_pos hi], .refl, R, rd_int⟩ }
include c in
theorem si_ex {tg e : Expr} {te : Env → Hh → Res D} (he : PE X e (tE T W te)) : PI X tg e (tI T W fun env h => (te env h).bind fun x h => .of (src? h x) h) := by
  refine PI.imp (pi_or (pi_list he) (pi_or (pi_tup he) (pi_str he))) fun σ H R ⟨xx, m, h, env, Rr, S, q⟩ => ?_
  cases e1 : te env h with
  | stuck =>
    have q : EvP (T.ex xx) W σ m H (fun m' H' (q : List D × Gd) J => WD (T.ex xx) m' H' J q.1 q.2) ((te env h).bind fun x h => .of (src? h x) h) R := q
    rw [e1] at q
    exact q.elim
  | exc z h' =>
    have q : EvP (T.ex xx) W σ m H (fun m' H' (q : List D × Gd) J => WD (T.ex xx) m' H' J q.1 q.2) ((te env h).bind fun x h => .of (src? h x) h) R := q
    rw [e1] at q
    refine .inl ⟨xx, m, h, env, Rr, S, ?_⟩
    rw [e1]
    exact q
  | ok d h' =>
    have q : EvP (T.ex xx) W σ m H (fun m' H' (q : List D × Gd) J => WD (T.ex xx) m' H' J q.1 q.2) ((te env h).bind fun x h => .of (src? h x) h) R := q
    rw [e1] at q
    have sq : ∀ ds, d = .lst ds ∨ d = .fz ds → iList X.K (tE T W te) σ H R := fun ds hd => by
      refine ⟨xx, m, h, env, Rr, S, ?_⟩
      rw [e1]
      intro m1 v H1 s1 R1 r1
      have : ∃ a vs, v = .ref a ∧ QF (T.ex xx) m1 H1 a vs ∧ RDs (T.ex xx) m1 H1 ds vs := by
        rcases hd with rfl | rfl
        · obtain ⟨a, vs, e, q, r⟩ := rd_lst_iff.mp r1
          exact ⟨a, vs, e, .inl ⟨q.1, .inl q.2⟩, r⟩
        · exact rd_fz_iff.mp r1
      obtain ⟨a, vs, rfl, qa, rv⟩ := this
      have k : ∀ m' H', Stp m1 H1 m' H' → SqL X.K H' a vs := fun m' H' s => by
        have := (qa.mono s).sq
        rw [show (T.ex xx).K = X.K from c.K.symm] at this
        exact this
      refine ⟨a, rfl, ⟨vs, k _ _ .refl⟩, ?_⟩
      have q' := EvP.of q
      obtain ⟨qq, e2, k2⟩ := q'
      have e3 : qq = (ds, []) := by rcases hd with rfl | rfl <;> (cases e2; rfl)
      subst e3
      exact k2 m1 _ H1 s1 R1 (wd_seq rv k)
    cases d with
    | lst ds => exact .inl (sq ds (.inl rfl))
    | fz ds => exact .inl (sq ds (.inr rfl))
    | ref n =>
      refine .inl ⟨xx, m, h, env, Rr, S, ?_⟩
      rw [e1]
      intro m1 v H1 s1 R1 r1
      obtain ⟨a, rfl, en⟩ := rd_ref_iff.mp r1
      obtain ⟨qq, e2, k2⟩ := EvP.of q
      simp only [src?] at e2
      split at e2
      · rename_i ds hd
        cases e2
        obtain ⟨a', vs, e3, e4, rv⟩ := R1.lst hd
        rw [en] at e3
        cases e3
        exact ⟨a, rfl, ⟨vs, .inl (.inl e4)⟩, k2 m1 _ H1 s1 R1 (wd_ref en rv)⟩
      · cases e2
    | tup ds =>
      refine .inr (.inl ⟨xx, m, h, env, Rr, S, ?_⟩)
      rw [e1]
      intro m1 v H1 s1 R1 r1
      obtain ⟨a, vs, rfl, qa, rv⟩ := rd_tup_iff.mp r1
      have k : ∀ m' H', Stp m1 H1 m' H' → SqT X.K H' a vs := fun m' H' s => by
        have := (qa.mono s).sq
        rw [show (T.ex xx).K = X.K from c.K.symm] at this
        exact this
      exact ⟨a, rfl, ⟨vs, k _ _ .refl⟩, q m1 _ H1 s1 R1 (wd_tup rv k)⟩
    | str z =>
      refine .inr (.inr ⟨xx, m, h, env, Rr, S, ?_⟩)
      rw [e1]
      intro m1 v H1 s1 R1 r1
      obtain rfl := rd_str_iff.mp r1
      exact ⟨SS z, rfl, q m1 _ H1 s1 R1 wd_str⟩
    | _ => exact q.elim
theorem sa_one {e : Expr} {te : Env → Hh → Res D} (he : PE X e (tE T W te)) (hn : isStar e = false) : PA X [e] (tA T W fun env h => (te env h).bind fun x h => .ok [x] h) :=
  tA_of (pa_cons he pa_nil (starEach_of hn)) fun σ H Q xx m h env R S q => ⟨xx, m, h, env, R, S, EvP.seq q fun x h1 m1 v1 H1 s1 R1 r1 q1 => q1 m1 _ H1 .refl R1 (.one r1)⟩
include c in
theorem si_rng1 {tg e : Expr} {p pos : Pos} {te : Env → Hh → Res D} (he : PE X e (tE T W te)) (hn : isStar e = false) (hg : sc.names.lookup ("range" : Str) = some .globalImplicit) (hm : T.mg "range" = none) :
    PI X tg (.Call (.Name "range" p) [e] [] pos) (tI T W fun env h => (te env h).bind fun y h => match y with
      | .int n => .of ((rng? none n).map fun ds => (ds, [])) h
      | _ => .stuck) := by
  have hm' : X.mg "range" = none := by rw [c.mg]; exact hm
  refine PI.imp (pi_range1 (c.glo _ hg) hm' (pa_cons he pa_nil (starEach_of hn)) (starEach_of hn)) fun σ H R ⟨xx, m, h, env, Rr, S, q⟩ => ⟨xx, m, h, env, Rr, S, EvP.seq (ρ := RD (T.ex xx)) q fun x h1 m1 v H1 s1 R1 r1 q1 => ?_⟩
  cases x with
  | int n =>
    obtain rfl := rd_int_iff.mp r1
    obtain ⟨qq, e2, k2⟩ := EvP.of q1
    obtain ⟨ds, e3, rfl⟩ := Option.map_eq_some_iff.mp e2
    unfold rng? at e3
    split at e3
    · rename_i hz
      cases e3
      have e0 : (n - (none : Option Int).getD 0).toNat = n.toNat := by simp
      rw [e0] at k2
      exact ⟨n, rfl, by omega, by omega, k2 m1 _ H1 .refl R1 wd_rng⟩
    · cases e3
  | _ => exact q1.elim
include c in
theorem si_rng2 {tg a e : Expr} {p pos : Pos} {ta te : Env → Hh → Res D} (ha : PE X a (tE T W ta)) (he : PE X e (tE T W te)) (hn0 : isStar a = false) (hn : isStar e = false) (hg : sc.names.lookup ("range" : Str) = some .globalImplicit) (hm : T.mg "range" = none) :
    PI X tg (.Call (.Name "range" p) [a, e] [] pos) (tI T W fun env h => (((ta env h).bind fun x h => match x with | .int i => .ok (some i) h | _ => .stuck : Res (Option Int))).bind fun l h => (te env h).bind fun y h => match y with
      | .int n => .of ((rng? l n).map fun ds => (ds, [])) h
      | _ => .stuck) := by
  have hm' : X.mg "range" = none := by rw [c.mg]; exact hm
  have h1 : starEach [e] X.env = [(false, eval e X.env)] := starEach_of hn
  have h2 : starEach [a, e] X.env = [(false, eval a X.env), (false, eval e X.env)] := by rw [starEach_of hn0, h1]
  refine PI.imp (pi_range2 (c.glo _ hg) hm' (pa_cons ha (pa_cons he pa_nil (starEach_of hn)) (starEach_of hn0)) h2 h1) fun σ H R ⟨xx, m, h, env, Rr, S, q⟩ => ⟨xx, m, h, env, Rr, S, ?_⟩
  refine EvP.seq (ρ := RD (T.ex xx)) (f := fun x h => (((match x with | .int i => .ok (some i) h | _ => .stuck : Res (Option Int))).bind fun l h => (te env h).bind fun y h => match y with
      | .int n => Res.of ((rng? l n).map fun ds => (ds, [])) h
      | _ => .stuck)) (by cases e1 : ta env h <;> (simp only [e1] at q; exact q)) fun x h1 m1 v H1 s1 R1 r1 q1 => ?_
  cases x with
  | int i =>
    obtain rfl := rd_int_iff.mp r1
    refine ⟨xx, m1, h1, env, R1, S.mono s1, EvP.seq (ρ := RD (T.ex xx)) q1 fun y h2 m2 v2 H2 s2 R2 r2 q2 => ?_⟩
    cases y with
    | int n =>
      obtain rfl := rd_int_iff.mp r2
      obtain ⟨qq, e2, k2⟩ := EvP.of q2
      obtain ⟨ds, e3, rfl⟩ := Option.map_eq_some_iff.mp e2
      unfold rng? at e3
      split at e3
      · rename_i hz
        cases e3
        have hz' : (-4611686018427387904 ≤ i ∧ i < 4611686018427387904) ∧ (-4611686018427387904 ≤ n ∧ n < 4611686018427387904) := hz
        exact ⟨i, n, rfl, by omega, k2 m2 _ H2 .refl R2 wd_rng⟩
      · cases e3
    | _ => exact q2.elim
  | _ => exact q1.elim
end
end Py
end

section
set_option Elab.async false
set_option linter.all false
set_option maxRecDepth 100000
namespace Py
open PySem PySem.Spec PyProof.Rows L2
section
variable {T : Tb} {W : WX} {sc : Scope} {N : List Str} {X : Cx} (c : Ctx T W sc N X)
/-- no exception -/
abbrev W0 : WX := fun _ _ _ _ => False
theorem nox_ev {α β γ : Type} {x : List Addr} {σ : L2.St} {m : List Addr} {H : Hp} {ρ : List Addr → Hp → α → β → Prop} {r : Res α} {f : α → Hh → Res γ} {P : Res γ → Prop} {Q : β → Hp → Prop} (hs : ¬ P .stuck) (q : P (r.nox.bind f))
    (k : ∀ a h1 m1 b H1, Stp m H m1 H1 → Rl (T.ex x) m1 h1 H1 → ρ m1 H1 a b → P (f a h1) → Q b H1) : EvP (T.ex x) W0 σ m H ρ r Q := by
  cases r with
  | ok a h => exact fun m1 b H1 s1 R1 r1 => k a h m1 b H1 s1 R1 r1 q
  | exc z h => exact absurd q hs
  | stuck => exact absurd q hs
def bodyC (tg : Tg) (own : List Nat) (env : Env) (fc : Env → Hh → Res Bool) (fe : Env → Hh → Res D) (d : D) (h : Hh) : Res (Option D) := match asg? tg d (wipeE env own) with
  | some env' => (fc env' h).nox.bind fun r h => match r with
    | true => (fe env' h).nox.bind fun y h => .ok (some y) h
    | false => .ok none h
  | none => .stuck
theorem walkC_exc {g : Gd} {f : D → Hh → Res (Option D)} (hf : ∀ d h z h', f d h ≠ .exc z h') : ∀ (ds acc : List D) (h : Hh) (z : D) (h' : Hh), walkC g f ds acc h ≠ .exc z h'
  | [], acc, h, z, h', e => by
    unfold walkC at e
    split at e <;> cases e
  | d :: ds, acc, h, z, h', e => by
    unfold walkC at e
    split at e
    · cases e1 : f d h with
      | ok o h1 =>
        rw [e1] at e
        cases o with
        | none => exact walkC_exc hf ds acc h1 z h' e
        | some y =>
          have e : (if acc.length < line then walkC g f ds (acc ++ [y]) h1 else .stuck) = Res.exc z h' := e
          split at e
          · exact walkC_exc hf ds _ h1 z h' e
          · cases e
      | exc z' h1 => exact hf _ _ _ _ e1
      | stuck => rw [e1] at e; cases e
    · cases e
theorem bodyC_exc {tg : Tg} {own : List Nat} {env : Env} {fc : Env → Hh → Res Bool} {fe : Env → Hh → Res D} (d : D) (h : Hh) (z : D) (h' : Hh) : bodyC tg own env fc fe d h ≠ .exc z h' := by
  intro e
  unfold bodyC at e
  split at e
  · rename_i env' _
    cases e1 : fc env' h with
    | ok r h1 =>
      rw [e1] at e
      cases r with
      | false => cases e
      | true =>
        have e : ((fe env' h1).nox.bind fun y h => Res.ok (some y) h) = Res.exc z h' := e
        cases e2 : fe env' h1 with
        | ok y h2 => rw [e2] at e; cases e
        | exc _ _ => rw [e2] at e; cases e
        | stuck => rw [e2] at e; cases e
    | exc _ _ => rw [e1] at e; cases e
    | stuck => rw [e1] at e; cases e
  · cases e
/-- a comprehension's reading, by its mirror -/
theorem lc_read {own : List (Str × Nat)} {tgm : Tg} {fI : Env → Hh → Res (List D × Gd)} {fc : Env → Hh → Res Bool} {fe : Env → Hh → Res D} (hsl : ∀ i ∈ slots tgm, i ∈ own.map (·.2))
    {σ : L2.St} {H : Hp} {Q : VK} {xx m : List Addr} {h : Hh} {env : Env} (R : Rl (T.ex xx) m h H) (S : RS (T.ex xx) m H env σ)
    (q : FrP (T.ex xx) W σ m H ((fI env h).bind fun q h => walkC q.2 (bodyC tgm (own.map (·.2)) env fc fe) q.1 [] h) Q) :
    tLc (tI T W fI) (gT T tgm) (tT T W0 fc) (tE T W0 fe) (own.map (·.2)) σ H Q :=
  ⟨xx, m, h, env, R, S, FrP.seq q fun qd h1 m1 J H1 s1 R1 wd q1 => fun pD hD => by
    obtain ⟨ds, g⟩ := qd
    have S1 := S.mono s1
    have hxD : pD ∉ xx := R1.freshX hD
    have pf : ∀ a ∈ [pD], H1 a = none := fun a ha => by
      have : a = pD := by simpa using ha
      rw [this]
      exact hD
    have pin : pD ∈ (T.ex (pD :: xx)).x := List.mem_cons_self
    have Wk : Walk J ds.length (fun H' => ∃ m' h', Stp m1 H1 m' H' ∧ Rl (T.ex (pD :: xx)) m' h' H' ∧ gdok g h' = true)
        (fun i H' x H'' => ∀ m' h', Stp m1 H1 m' H' → Rl (T.ex (pD :: xx)) m' h' H' → gdok g h' = true → ∃ d, ds[i]? = some d ∧ Stp m' H' m' H'' ∧ Rl (T.ex (pD :: xx)) m' h' H'' ∧ RD (T.ex (pD :: xx)) m' H'' d x) :=
      { goes := fun i H' hi ⟨m', h', s', R', g'⟩ => wd.go [pD] i m' h' H' pf hi s' R' g'
        stops := fun H' ⟨m', h', s', R', g'⟩ => wd.stop [pD] m' h' H' pf s' R' g'
        yields := fun i H' x H'' hi _ y m' h' s' R' g' => wd.yld [pD] i m' h' H' x H'' pf hi s' R' g' y }
    generalize hF : bodyC tgm (own.map (·.2)) env fc fe = F at q1
    -- what is wanted of the turns that are left
    let LP : Res (List D) → Prop := fun r => match r with
      | .ok ds2 h2 => ∀ m2 vs2 H2, Stp m1 H1 m2 H2 → Rl (T.ex (pD :: xx)) m2 h2 H2 → H2 pD = some (.lst vs2) → RDs (T.ex (pD :: xx)) m2 H2 ds2 vs2 → Q (.ref pD) H2
      | _ => False
    have lg : ∀ l acc h', LP (walkC g F l acc h') → gdok g h' = true := fun l acc h' z => by
      cases l with
      | nil =>
        unfold walkC at z
        split at z
        · assumption
        · exact z.elim
      | cons d l =>
        unfold walkC at z
        split at z
        · assumption
        · exact z.elim
    have l0 : LP (walkC g F ds [] h1) := by
      have nx := walkC_exc (g := g) (f := F) (fun d h z h' => by rw [← hF]; exact bodyC_exc d h z h') ds [] h1
      have q2 : FrP (T.ex xx) W σ m1 H1 (walkC g F ds [] h1) Q := q1
      cases e : walkC g F ds [] h1 with
      | ok ds2 h2 =>
        rw [e] at q2
        exact fun m2 vs2 H2 s2 R2 e2 r2 => q2 m2 pD vs2 H2 s2 hD R2 e2 r2
      | exc z h2 => exact absurd e (nx z h2)
      | stuck => rw [e] at q2; exact q2
    have keepD : ∀ {m' : List Addr} {H' : Hp} {o : HO}, Stp m1 H1 m' H' → Stp m1 H1 m' (upd H' pD o) := fun {m' H' o} s => ⟨s.pre, fun a u na ea => ⟨(s.keep a u na ea).1, by rw [upd_ne (ne_of_none ea hD)]; exact (s.keep a u na ea).2⟩⟩
    refine lc_it Wk (fun i H' => ∃ m' h' acc vs, Stp m1 H1 m' H' ∧ Rl (T.ex (pD :: xx)) m' h' H' ∧ RS (T.ex (pD :: xx)) m' H' env σ ∧ H' pD = some (.lst vs) ∧ RDs (T.ex (pD :: xx)) m' H' acc vs ∧ LP (walkC g F (ds.drop i) acc h')) ?_ ?_ ?_ ?_
    · exact ⟨m1, h1, [], [], Stp.laid hD, R1.more hD, S1.more hD, upd_same, .nil, l0⟩
    · rintro i H' hi ⟨m', h', acc, vs, s', R', S', e', r', l'⟩
      exact ⟨m', h', s', R', lg _ _ _ l'⟩
    · rintro i x H' H'' hi ⟨m', h', acc, vs, s', R', S', e', r', l'⟩ y
      have g' := lg _ _ _ l'
      obtain ⟨d, ed, s2, R2, rd⟩ := y m' h' s' R' g'
      have hdrop : ds.drop i = d :: ds.drop (i + 1) := by
        rw [List.drop_eq_getElem_cons hi]
        have : ds[i] = d := by
          rw [List.getElem?_eq_getElem hi] at ed
          exact Option.some.inj ed
        rw [this]
      rw [hdrop] at l'
      unfold walkC at l'
      rw [if_pos g'] at l'
      let k2 : Option D → Hh → Res (List D) := fun o h => match o with
        | some y => if acc.length < line then walkC g F (ds.drop (i + 1)) (acc ++ [y]) h else .stuck
        | none => walkC g F (ds.drop (i + 1)) acc h
      have l2 : LP ((F d h').bind k2) := l'
      rw [← hF] at l2
      unfold bodyC at l2
      have nmD : pD ∉ m' := (R'.out pD pin).1
      split at l2
      · rename_i env' ea
        refine ⟨pD :: xx, m', h', wipeE env (own.map (·.2)), d, env', R2, (S'.mono s2).wiped _, rd, ea, fun σ2 S2 o2 => ⟨?_, ?_⟩⟩
        · rw [o2 _ hsl, wipe_wipe]
        · refine ⟨pD :: xx, m', h', env', R2, S2, nox_ev (P := fun r => LP (r.bind k2)) (ρ := fun _ _ a b => a = b) (fun z => z) l2 fun b h3 m3 b' H3 s3 R3 eb l3 => ?_⟩
          subst eb
          have e3 : H3 pD = some (.lst vs) := (s3.keep pD _ nmD (s2.keep pD _ nmD e').2).2
          have nmD3 : pD ∉ m3 := (R3.out pD pin).1
          cases b with
          | false =>
            rw [if_neg Bool.false_ne_true]
            exact ⟨m3, h3, acc, vs, (s'.trans s2).trans s3, R3, (S'.mono s2).mono s3, e3, (r'.mono s2).mono s3, l3⟩
          | true =>
            rw [if_pos rfl]
            refine ⟨pD :: xx, m3, h3, env', R3, S2.mono s3, nox_ev (P := fun r => LP (r.bind k2)) (ρ := RD (T.ex (pD :: xx))) (fun z => z) l3 fun y h4 m4 v4 H4 s4 R4 r4 l4 => ?_⟩
            have e4 : H4 pD = some (.lst vs) := (s4.keep pD _ nmD3 e3).2
            have r5 := ((r'.mono s2).mono s3).mono s4
            have l5 : LP (if acc.length < line then walkC g F (ds.drop (i + 1)) (acc ++ [y]) h4 else .stuck) := l4
            split at l5
            · rename_i hz
              refine ⟨vs, e4, by rw [← r5.length]; exact hz, m4, h4, acc ++ [y], vs ++ [v4], keepD (((s'.trans s2).trans s3).trans s4), R4.upd pin, (((S'.mono s2).mono s3).mono s4).upd pin, upd_same, ?_, l5⟩
              exact RDs.upd pin (r5.append (.one r4))
            · exact l5.elim
      · exact l2.elim
    · rintro H' ⟨m', h', acc, vs, s', R', S', e', r', l'⟩
      rw [List.drop_length] at l'
      unfold walkC at l'
      split at l'
      · exact l' m' vs H' s' R' e' r'
      · exact l'.elim⟩
include c in
theorem sf_comp {tg iter elt : Expr} {ifs : List Expr} {scope : Scope} {pos : Pos} {own : List (Str × Nat)} {tgm : Tg} {fI : Env → Hh → Res (List D × Gd)} {fc : Env → Hh → Res Bool} {fe : Env → Hh → Res D}
    (hi : PI X tg iter (tI T W fI)) (ok : BlkOk X.N X.env.scope scope own)
    (hg : ∀ (s : Shared) (H : Hp) (C : Addr) (cl : List (Str × Addr)) (fp : List Addr), PG (X.blk s H scope (compEnvC scope cl C X.env) fp) tg (gT T tgm))
    (ht : ∀ (s : Shared) (H : Hp) (C : Addr) (cl : List (Str × Addr)) (fp : List Addr), PTs (X.blk s H scope (compEnvC scope cl C X.env) fp) ifs (tT T W0 fc))
    (he : ∀ (s : Shared) (H : Hp) (C : Addr) (cl : List (Str × Addr)) (fp : List Addr), PE (X.blk s H scope (compEnvC scope cl C X.env) fp) elt (tE T W0 fe))
    (hs : ∀ x, foldedSetIterable iter X.env x = pure x) (hsl : ∀ i ∈ slots tgm, i ∈ own.map (·.2)) :
    PE X (.ListComp elt [⟨tg, iter, ifs, 0⟩] scope pos) (tF T W fun env h => (fI env h).bind fun q h => walkC q.2 (bodyC tgm (own.map (·.2)) env fc fe) q.1 [] h) :=
  tF_of (pe_lc c.calm c.nd hi ok hg ht he hs) fun σ H Q xx m h env R S q => lc_read hsl R S q
end
end Py
end

section
set_option Elab.async false
set_option linter.all false
set_option maxRecDepth 100000
namespace Py
open PySem PySem.Spec PyProof.Rows L2
/-- what is wanted behind a statement -/
def SvP (T : Tb) (W : WX) (m : List Addr) (H : Hp) (r : SR) (Dn : Ends) : Prop := match r with
  | .nx env h => ∀ m' σ' H', Stp m H m' H' → Rl T m' h H' → RS T m' H' env σ' → Dn.nx σ' H'
  | .rt d h => ∀ m' v H', Stp m H m' H' → Rl T m' h H' → RD T m' H' d v → Dn.rt v H'
  | .bk env h => ∀ m' σ' H', Stp m H m' H' → Rl T m' h H' → RS T m' H' env σ' → Dn.bk σ' H'
  | .ct env h => ∀ m' σ' H', Stp m H m' H' → Rl T m' h H' → RS T m' H' env σ' → Dn.ct σ' H'
  | .ex x env h => ∀ m' C d σ' H', Stp m H m' H' → Rl T m' h H' → RS T m' H' env σ' → RX T m' H' x C d → W C d σ' H'
  | .stuck => False
def tS (T : Tb) (W : WX) (f : Env → Hh → SR) : TS := fun Dn σ H => ∃ x m h env, Rl (T.ex x) m h H ∧ RS (T.ex x) m H env σ ∧ SvP (T.ex x) W m H (f env h) Dn
section
variable {T : Tb} {W : WX} {m m1 : List Addr} {H H1 : Hp} {Dn Dn' : Ends}
theorem SvP.step {r : SR} (s : Stp m H m1 H1) (e : SvP T W m H r Dn) : SvP T W m1 H1 r Dn := by
  cases r with
  | nx env h => exact fun m' σ' H' s' => e m' σ' H' (s.trans s')
  | rt d h => exact fun m' v H' s' => e m' v H' (s.trans s')
  | bk env h => exact fun m' σ' H' s' => e m' σ' H' (s.trans s')
  | ct env h => exact fun m' σ' H' s' => e m' σ' H' (s.trans s')
  | ex x env h => exact fun m' C d σ' H' s' => e m' C d σ' H' (s.trans s')
  | stuck => exact e
theorem SvP.to {α β : Type} {ρ : List Addr → Hp → α → β → Prop} {r : Res α} {env : Env} {σ : L2.St} {f : α → Hh → SR} {Q1 : β → Hp → Prop} (S : RS T m H env σ) (e : SvP T W m H (r.to env f) Dn)
    (k : ∀ a h1 m1 b H1, Stp m H m1 H1 → Rl T m1 h1 H1 → ρ m1 H1 a b → SvP T W m1 H1 (f a h1) Dn → Q1 b H1) : EvP T W σ m H ρ r Q1 := by
  cases r with
  | ok a h1 => exact fun m' b H' s' R q => k a h1 m' b H' s' R q (SvP.step s' e)
  | exc x h => exact fun m' C d H' s' R q => e m' C d σ H' s' R (S.mono s') q
  | stuck => exact e
theorem SvP.seq {r : SR} {f : Env → Hh → SR} (e : SvP T W m H (r.bind f) Dn) (hn : ∀ env h m1 σ1 H1, Stp m H m1 H1 → Rl T m1 h H1 → RS T m1 H1 env σ1 → SvP T W m1 H1 (f env h) Dn → Dn'.nx σ1 H1)
    (hr : ∀ v H, Dn.rt v H → Dn'.rt v H) (hb : ∀ σ H, Dn.bk σ H → Dn'.bk σ H) (hc : ∀ σ H, Dn.ct σ H → Dn'.ct σ H) : SvP T W m H r Dn' := by
  cases r with
  | nx env h => exact fun m' σ' H' s' R S => hn env h m' σ' H' s' R S (SvP.step s' e)
  | rt d h => exact fun m' v H' s' R q => hr _ _ (e m' v H' s' R q)
  | bk env h => exact fun m' σ' H' s' R q => hb _ _ (e m' σ' H' s' R q)
  | ct env h => exact fun m' σ' H' s' R q => hc _ _ (e m' σ' H' s' R q)
  | ex x env h => exact e
  | stuck => exact e
end
theorem PS.imp {X : Cx} {s : Stmt} {t t' : TS} (p : PS X s t) (h : ∀ D σ H, t' D σ H → t D σ H) : PS X s t' := ⟨fun pins s σ H D I q => p.run pins s σ H D I (h _ _ _ q)⟩
theorem PSs.imp {X : Cx} {s : List Stmt} {t t' : TS} (p : PSs X s t) (h : ∀ D σ H, t' D σ H → t D σ H) : PSs X s t' := ⟨fun pins s σ H D I q => p.run pins s σ H D I (h _ _ _ q)⟩
/-- a body's context, for statements -/
structure CtxS (T : Tb) (W : WX) (sc : Scope) (N : List Str) (X : Cx) : Prop extends Ctx T W sc N X where
  po : PassesOwn (model X.prog X.w) X.A X.env X.xe
section
variable {T : Tb} {W : WX} {sc : Scope} {N : List Str} {X : Cx} (c : CtxS T W sc N X)
theorem tS_of {s : Stmt} {t : TS} {f : Env → Hh → SR} (p : PS X s t) (h : ∀ D σ H xx m h env, Rl (T.ex xx) m h H → RS (T.ex xx) m H env σ → SvP (T.ex xx) W m H (f env h) D → t D σ H) : PS X s (tS T W f) :=
  PS.imp p fun D σ H ⟨xx, m, hh, env, R, S, q⟩ => h D σ H xx m hh env R S q
/-! ### assignments -/
def isComp : Expr → Bool
  | .ListComp .. => true | .SetComp .. => true | .DictComp .. => true | _ => false
theorem nosw_of {e : Expr} {t : Option Expr} {l : Nat} {env : PySem.Env} (h : isComp e = false) : swapsWith e t l env = pure false := by
  cases e <;> first | rfl | cases h
theorem sole_of {e t : Expr} {l : Nat} {env : PySem.Env} (h : isComp e = false) : swapsWithSole [t] e l env = pure false := by
  show swapsWith e (some t) l env = pure false
  exact nosw_of h
/-- no pairs are stored at once -/
def noSwap (tg e : Expr) : Bool := match tg, e with
  | .Tuple .., .Tuple .. => false
  | .List .., .Tuple .. => false
  | _, _ => true
theorem ns_of {tg e : Expr} {env : PySem.Env} (h : noSwap tg e = true) : swappedStores [tg] e env = pure none := by
  cases tg <;> cases e <;> first | rfl | cases h
theorem ss_asg {tg e : Expr} {pos : Pos} {tgm : Tg} {te : Env → Hh → Res D} (he : PE X e (tE T W te)) (hg : PG X tg (gT T tgm)) (h1 : isComp e = false) (h2 : noSwap tg e = true) (h3 : isStar tg = false) :
    PS X (.Assign [tg] e pos) (tS T W fun env h => (te env h).to env fun x h => match asg? tgm x env with | some env' => .nx env' h | none => .stuck) :=
  tS_of (ps_asg he hg (sole_of h1) (ns_of h2) (by rw [each_cons h3]; rfl)) fun Dn σ H xx m h env R S q => ⟨xx, m, h, env, R, S, SvP.to S q fun x h1 m1 v H1 s1 R1 r1 q1 => by
    split at q1
    · rename_i env' ea
      exact ⟨xx, m1, h1, env, x, env', R1, S.mono s1, r1, ea, fun σ' S' _ => q1 m1 σ' H1 .refl R1 S'⟩
    · exact q1.elim⟩
theorem asub_of {o i : Expr} {p : Pos} {env : PySem.Env} (h : isSl i = false) (v : Value) : assign (.Subscript o i p) env v = (do
      let ov ← holding [v] (eval o env)
      let iv ← holding [v, ov] (eval i env)
      standAt p
      holding [v, ov, iv] (setItem ov iv v)
      release [v, ov, iv] []) := by
  cases i <;> first | rfl | cases h
/-- a[i] = e -/
theorem ss_sets {o i e : Expr} {p pos : Pos} {te to ti : Env → Hh → Res D} (he : PE X e (tE T W te)) (ho : PE X o (tE T W to)) (hi : PE X i (tE T W ti)) (h1 : isComp e = false) (h2 : isSl i = false) :
    PS X (.Assign [.Subscript o i p] e pos) (tS T W fun env h => (te env h).to env fun x h => (to env h).to env fun o h => (ti env h).to env fun j h => match o, j with
      | .ref n, .int z => match h[n]? with
        | some (.lst ds) => match ixN ds.length z with
          | some k => .nx env (h.set n (.lst (ds.set k x)))
          | none => .stuck
        | _ => .stuck
      | _, _ => .stuck) :=
  tS_of (ps_asg he (pg_sub ho hi set_list (asub_of h2)) (sole_of h1) (by cases e <;> rfl) rfl) fun Dn σ H xx m h env R S q => ⟨xx, m, h, env, R, S, SvP.to S q fun x h1 m1 v H1 s1 R1 r1 q1 =>
    ⟨xx, m1, h1, env, R1, S.mono s1, SvP.to (S.mono s1) q1 fun o h2 m2 w H2 s2 R2 r2 q2 => ⟨xx, m2, h2, env, R2, (S.mono s1).mono s2, SvP.to ((S.mono s1).mono s2) q2 fun j h3 m3 y H3 s3 R3 r3 q3 => by
      split at q3
      · rename_i n z
        split at q3
        · rename_i ds hd
          split at q3
          · rename_i k hk
            obtain ⟨a, rfl, en⟩ := rd_ref_iff.mp (r2.mono s3)
            obtain rfl := rd_int_iff.mp r3
            obtain ⟨a', vs, e1, e2, rv⟩ := R3.lst hd
            rw [en] at e1
            cases e1
            have hm : a ∈ m3 := List.mem_of_getElem? en
            have rx := (r1.mono s2).mono s3
            refine ⟨a, vs, z, k, rfl, rfl, e2, by rw [← rv.length]; exact hk, ?_⟩
            have st : Stp m3 H3 m3 (upd H3 a (.lst (vs.set k v))) := Stp.write hm
            exact q3 m3 σ _ st (R3.write en hd (fun z => by cases z) ⟨_, rfl, (RDs.set rx k rv).mono st⟩) ((((S.mono s1).mono s2).mono s3).mono st)
          · exact q3.elim
        · exact q3.elim
      · exact q3.elim⟩⟩⟩
/-! ### return, if, the simple ones -/
theorem ss_ret {e : Expr} {pos : Pos} {te : Env → Hh → Res D} (he : PE X e (tE T W te)) : PS X (.Return (some e) pos) (tS T W fun env h => (te env h).to env fun x h => .rt x h) :=
  tS_of (ps_ret he) fun Dn σ H xx m h env R S q => ⟨xx, m, h, env, R, S, SvP.to S q fun x h1 m1 v H1 s1 R1 r1 q1 => q1 m1 v H1 .refl R1 r1⟩
theorem ss_retN {pos : Pos} : PS X (.Return none pos) (tS T W fun _ h => .rt .non h) :=
  tS_of ps_retN fun Dn σ H xx m h env R S q => q m .non H .refl R rd_non
theorem ss_if {t : Expr} {a b : List Stmt} {pos : Pos} {tt : Env → Hh → Res Bool} {ta tb : Env → Hh → SR} (ht : PT X t (tT T W tt)) (ha : PSs X a (tS T W ta)) (hb : PSs X b (tS T W tb)) :
    PS X (.If t a b pos) (tS T W fun env h => (tt env h).to env fun r h => match r with | true => ta env h | false => tb env h) :=
  tS_of (ps_if ht ha hb) fun Dn σ H xx m h env R S q => ⟨xx, m, h, env, R, S, SvP.to S q fun x h1 m1 v H1 s1 R1 r1 q1 => by
    subst r1
    cases x with
    | true =>
      rw [if_pos rfl]
      exact ⟨xx, m1, h1, env, R1, S.mono s1, q1⟩
    | false =>
      rw [if_neg Bool.false_ne_true]
      exact ⟨xx, m1, h1, env, R1, S.mono s1, q1⟩⟩
theorem ss_pass {pos : Pos} : PS X (.Pass pos) (tS T W fun env h => .nx env h) := tS_of ps_pass fun Dn σ H xx m h env R S q => q m σ H .refl R S
theorem ss_brk {pos : Pos} : PS X (.Break pos) (tS T W fun env h => .bk env h) := tS_of ps_break fun Dn σ H xx m h env R S q => q m σ H .refl R S
theorem ss_cnt {pos : Pos} : PS X (.Continue pos) (tS T W fun env h => .ct env h) := tS_of ps_continue fun Dn σ H xx m h env R S q => q m σ H .refl R S
/-- code that is never come to -/
theorem ss_stuck {s : Stmt} : PS X s (tS T W fun _ _ => .stuck) := ⟨fun pins s σ H D I ⟨_, _, _, _, _, _, q⟩ => q.elim⟩
/-! ### blocks -/
theorem ss_nil : PSs X [] (tS T W fun env h => .nx env h) := PSs.imp pss_nil fun D σ H ⟨xx, m, h, env, R, S, q⟩ => q m σ H .refl R S
theorem ss_cons {s : Stmt} {ss : List Stmt} {f g : Env → Hh → SR} (h1 : PS X s (tS T W f)) (h2 : PSs X ss (tS T W g)) : PSs X (s :: ss) (tS T W fun env h => (f env h).bind g) :=
  PSs.imp (pss_cons h1 h2) fun D σ H ⟨xx, m, h, env, R, S, q⟩ => ⟨xx, m, h, env, R, S, SvP.seq q (fun env1 h1 m1 σ1 H1 s1 R1 S1 q1 => ⟨xx, m1, h1, env1, R1, S1, q1⟩) (fun _ _ z => z) (fun _ _ z => z) (fun _ _ z => z)⟩
/-! ### loops -/
def bodyF (tg : Tg) (f : Env → Hh → SR) (d : D) (env : Env) (h : Hh) : SR := match asg? tg d env with
  | some env' => f env' h
  | none => .stuck
include c in
theorem ss_for {tg iter : Expr} {body : List Stmt} {pos : Pos} {tgm : Tg} {fI : Env → Hh → Res (List D × Gd)} {fb : Env → Hh → SR} (hi : PI X tg iter (tI T W fI)) (hg : PG X tg (gT T tgm)) (hb : PSs X body (tS T W fb)) (hs : ∀ x, foldedSetIterable iter X.env x = pure x) :
    PS X (.For tg iter body [] pos) (tS T W fun env h => (fI env h).to env fun q h => walkF q.2 (bodyF tgm fb) q.1 env h) :=
  tS_of (ps_for c.po c.calm hi hg hb hs) fun Dn σ H xx m h env R S q => ⟨xx, m, h, env, R, S, SvP.to S q fun qd h1 m1 J H1 s1 R1 wd q1 => by
    obtain ⟨ds, g⟩ := qd
    have pf : ∀ a ∈ ([] : List Addr), H1 a = none := fun a ha => by simp at ha
    have Wk : Walk J ds.length (fun H' => ∃ m' h', Stp m1 H1 m' H' ∧ Rl (T.ex xx) m' h' H' ∧ gdok g h' = true)
        (fun i H' x H'' => ∀ m' h', Stp m1 H1 m' H' → Rl (T.ex xx) m' h' H' → gdok g h' = true → ∃ d, ds[i]? = some d ∧ Stp m' H' m' H'' ∧ Rl (T.ex xx) m' h' H'' ∧ RD (T.ex xx) m' H'' d x) :=
      { goes := fun i H' hi ⟨m', h', s', R', g'⟩ => wd.go [] i m' h' H' pf hi s' R' g'
        stops := fun H' ⟨m', h', s', R', g'⟩ => wd.stop [] m' h' H' pf s' R' g'
        yields := fun i H' x H'' hi _ y m' h' s' R' g' => wd.yld [] i m' h' H' x H'' pf hi s' R' g' y }
    have lg : ∀ l env' h' m' H', SvP (T.ex xx) W m' H' (walkF g (bodyF tgm fb) l env' h') Dn → gdok g h' = true := fun l env' h' m' H' z => by
      cases l with
      | nil =>
        unfold walkF at z
        split at z
        · assumption
        · exact z.elim
      | cons d l =>
        unfold walkF at z
        split at z
        · assumption
        · exact z.elim
    refine for_it Wk (fun i σ' H' => ∃ m' h' env', Stp m1 H1 m' H' ∧ Rl (T.ex xx) m' h' H' ∧ RS (T.ex xx) m' H' env' σ' ∧ SvP (T.ex xx) W m' H' (walkF g (bodyF tgm fb) (ds.drop i) env' h') Dn) ?_ ?_ ?_ ?_
    · exact ⟨m1, h1, env, .refl, R1, S.mono s1, q1⟩
    · rintro i σ' H' hi ⟨m', h', env', s', R', S', l'⟩
      exact ⟨m', h', s', R', lg _ _ _ _ _ l'⟩
    · rintro i x σ' H' H'' hi ⟨m', h', env', s', R', S', l'⟩ y
      have g' := lg _ _ _ _ _ l'
      obtain ⟨d, ed, s2, R2, rd⟩ := y m' h' s' R' g'
      have hdrop : ds.drop i = d :: ds.drop (i + 1) := by
        rw [List.drop_eq_getElem_cons hi]
        have : ds[i] = d := by
          rw [List.getElem?_eq_getElem hi] at ed
          exact Option.some.inj ed
        rw [this]
      rw [hdrop] at l'
      have l1 : SvP (T.ex xx) W m' H' (match bodyF tgm fb d env' h' with
        | .nx env h => walkF g (bodyF tgm fb) (ds.drop (i + 1)) env h
        | .ct env h => walkF g (bodyF tgm fb) (ds.drop (i + 1)) env h
        | .bk env h => .nx env h
        | .rt d h => .rt d h
        | .ex x env h => .ex x env h
        | .stuck => .stuck) Dn := by
        unfold walkF at l'
        rw [if_pos g'] at l'
        exact l'
      cases ea : asg? tgm d env' with
      | none =>
        have eb : bodyF tgm fb d env' h' = .stuck := by unfold bodyF; rw [ea]
        rw [eb] at l1
        exact l1.elim
      | some env2 =>
        have eb0 : bodyF tgm fb d env' h' = fb env2 h' := by unfold bodyF; rw [ea]
        rw [eb0] at l1
        refine ⟨xx, m', h', env', d, env2, R2, S'.mono s2, rd, ea, fun σ2 S2 _ => ⟨xx, m', h', env2, R2, S2, ?_⟩⟩
        have l2 := SvP.step s2 l1
        cases eb : fb env2 h' with
        | nx env3 h3 =>
          rw [eb] at l2
          exact fun m3 σ3 H3 s3 R3 S3 => ⟨m3, h3, env3, (s'.trans s2).trans s3, R3, S3, SvP.step s3 l2⟩
        | ct env3 h3 =>
          rw [eb] at l2
          exact fun m3 σ3 H3 s3 R3 S3 => ⟨m3, h3, env3, (s'.trans s2).trans s3, R3, S3, SvP.step s3 l2⟩
        | bk env3 h3 =>
          rw [eb] at l2
          exact fun m3 σ3 H3 s3 R3 S3 => l2 m3 σ3 H3 s3 R3 S3
        | rt d3 h3 =>
          rw [eb] at l2
          exact l2
        | ex x3 env3 h3 =>
          rw [eb] at l2
          exact l2
        | stuck => rw [eb] at l2; exact l2
    · rintro σ' H' ⟨m', h', env', s', R', S', l'⟩
      rw [List.drop_length] at l'
      unfold walkF at l'
      split at l'
      · exact l' m' σ' H' .refl R' S'
      · exact l'.elim⟩
include c in
theorem ss_while {t : Expr} {body : List Stmt} {pos : Pos} {ft : Env → Hh → Res Bool} {fb : Env → Hh → SR} (n : Nat) (ht : PT X t (tT T W ft)) (hb : PSs X body (tS T W fb)) :
    PS X (.While t body [] pos) (tS T W fun env h => walkW ft fb n env h) :=
  tS_of (ps_while c.po ht hb) fun Dn σ H xx m h env R S q => by
    refine ⟨fun k σ' H' => ∃ m' h' env', Rl (T.ex xx) m' h' H' ∧ RS (T.ex xx) m' H' env' σ' ∧ SvP (T.ex xx) W m' H' (walkW ft fb k env' h') Dn, ⟨n, m, h, env, R, S, q⟩, ?_⟩
    rintro k σ' H' ⟨m', h', env', R', S', l'⟩
    cases k with
    | zero => exact l'.elim
    | succ k =>
      unfold walkW at l'
      refine ⟨xx, m', h', env', R', S', SvP.to S' l' fun b h2 m2 b' H2 s2 R2 eb l2 => ?_⟩
      subst eb
      cases b with
      | false =>
        rw [if_neg Bool.false_ne_true]
        exact l2 m2 σ' H2 .refl R2 (S'.mono s2)
      | true =>
        rw [if_pos rfl]
        refine ⟨fun σ3 H3 => ∃ m3 h3 env3, Rl (T.ex xx) m3 h3 H3 ∧ RS (T.ex xx) m3 H3 env3 σ3 ∧ SvP (T.ex xx) W m3 H3 (walkW ft fb k env3 h3) Dn, fun σ3 H3 z => ⟨k, Nat.lt_succ_self k, z⟩, xx, m2, h2, env', R2, S'.mono s2, ?_⟩
        cases eb : fb env' h2 with
        | nx env3 h3 =>
          rw [eb] at l2
          exact fun m3 σ3 H3 s3 R3 S3 => ⟨m3, h3, env3, R3, S3, SvP.step s3 l2⟩
        | ct env3 h3 =>
          rw [eb] at l2
          exact fun m3 σ3 H3 s3 R3 S3 => ⟨m3, h3, env3, R3, S3, SvP.step s3 l2⟩
        | bk env3 h3 =>
          rw [eb] at l2
          exact fun m3 σ3 H3 s3 R3 S3 => l2 m3 σ3 H3 s3 R3 S3
        | rt d3 h3 =>
          rw [eb] at l2
          exact l2
        | ex x3 env3 h3 =>
          rw [eb] at l2
          exact l2
        | stuck => rw [eb] at l2; exact l2
/-! ### append -/
def noCall0 : Expr → Bool
  | .Call .. => false | _ => true
theorem base_of {o : Expr} {f : Str} {env : PySem.Env} {w : Sem Value} (h : noCall0 o = true) : attributeBase o f env w = w := by
  cases o <;> first | rfl | cases h
include c in
theorem ss_append {o e : Expr} {ap cp pos : Pos} {to te : Env → Hh → Res D} (ho : PE X o (tE T W to)) (he : PE X e (tE T W te)) (h1 : noCall0 o = true) (h2 : isStar e = false) (h3 : (ap.endLine == cp.line) = true) :
    PS X (.Expr (.Call (.Attribute o "append" ap) [e] [] cp) pos) (tS T W fun env h => (to env h).to env fun o h => match o with
      | .ref n => match h[n]? with
        | some (.lst _) => (te env h).to env fun x h => match h[n]? with
          | some (.lst ds) => if ds.length < line then .nx env (h.set n (.lst (ds ++ [x]))) else .stuck
          | _ => .stuck
        | _ => .stuck
      | _ => .stuck) := by
  refine tS_of (ps_expr (pe_bm PySem.F.plainAttrs_list PySem.F.slot_list_append PySem.F.type_list_append mt_append ho (pa_cons he pa_nil (starEach_of h2)) (base_of h1) (by rw [starEach_of h2]; rfl) h3 (starEach_of h2) rfl) rfl) fun Dn σ H xx m h env R S q => ?_
  refine ⟨xx, m, h, env, R, S, SvP.to S q fun o h1 m1 v H1 s1 R1 r1 q1 => ?_⟩
  split at q1
  · rename_i n
    obtain ⟨a, rfl, en⟩ := rd_ref_iff.mp r1
    split at q1
    · rename_i ds0 hd0
      obtain ⟨a0, vs0, e10, e20, rv0⟩ := R1.lst hd0
      rw [en] at e10
      cases e10
      refine ⟨.inl ⟨rfl, vs0, .inl (.inl e20)⟩, xx, m1, h1, env, R1, S.mono s1, SvP.to (S.mono s1) q1 fun x h2 m2 w H2 s2 R2 r2 q2 => ?_⟩
      split at q2
      · rename_i ds hd
        split at q2
        · rename_i hz
          obtain ⟨a', vs, e1, e2, rv⟩ := R2.lst hd
          have en2 : m2[n]? = some a := by
            obtain ⟨l, hl⟩ := s2.pre
            rw [← hl, List.getElem?_append_left (List.getElem?_eq_some_iff.mp en).1, en]
          rw [en2] at e1
          cases e1
          have hm : a ∈ m2 := List.mem_of_getElem? en2
          have st : Stp m2 H2 m2 (upd H2 a (.lst (vs ++ [w]))) := Stp.write hm
          exact ⟨a, vs, w, rfl, rfl, e2, by rw [← rv.length]; exact hz, q2 m2 σ _ st (R2.write en2 hd (fun z => by cases z) ⟨_, rfl, (rv.append (.one r2)).mono st⟩) (((S.mono s1).mono s2).mono st)⟩
        · exact q2.elim
      · exact q2.elim
    · exact q1.elim
  · exact q1.elim
/-! ### a comprehension stored in a name -/
include c in
theorem ss_setLc {i : Nat} {y : Str} {py pos spos : Pos} {tg iter elt : Expr} {ifs : List Expr} {scope : Scope} {own : List (Str × Nat)} {tgm : Tg} {mu : Bool} {fI : Env → Hh → Res (List D × Gd)} {fc : Env → Hh → Res Bool} {fe : Env → Hh → Res D}
    (hy : X.N[i]? = some y) (hyl : X.env.scope.names.lookup y = some .local) (hl : (py.line == pos.line) = true) (ha : (scope.names.any fun (n, k) => n == y && (k == .local || k == .cell)) = false)
    (hi : PI X tg iter (tI T W fI)) (ok : BlkOk X.N X.env.scope scope own)
    (hg : ∀ (s : Shared) (H : Hp) (C : Addr) (cl : List (Str × Addr)) (fp : List Addr), PG (X.blk s H scope (compEnvC scope cl C X.env) fp) tg (gT T tgm))
    (ht : ∀ (s : Shared) (H : Hp) (C : Addr) (cl : List (Str × Addr)) (fp : List Addr), PTs (X.blk s H scope (compEnvC scope cl C X.env) fp) ifs (tT T W0 fc))
    (he : ∀ (s : Shared) (H : Hp) (C : Addr) (cl : List (Str × Addr)) (fp : List Addr), PE (X.blk s H scope (compEnvC scope cl C X.env) fp) elt (tE T W0 fe))
    (hs : ∀ x, foldedSetIterable iter X.env x = pure x) (hsl : ∀ i ∈ slots tgm, i ∈ own.map (·.2)) :
    PS X (.Assign [.Name y py] (.ListComp elt [⟨tg, iter, ifs, 0⟩] scope pos) spos) (tS T W fun env h => (((fI env h).bind fun q h => walkC q.2 (bodyC tgm (own.map (·.2)) env fc fe) q.1 [] h).bind fun xs h => wrap mu xs h).to env fun x h => match asg? (.nm i) x env with | some env' => .nx env' h | none => .stuck) :=
  tS_of (ps_setLc c.calm c.nd hy hyl (sw_true c.kind hyl hl ha) hi ok hg ht he hs) fun Dn σ H xx m h env R S q => lc_read hsl R S (fr_wrap (mu := mu) R (SvP.to S q fun x h1 m1 v H1 s1 R1 r1 q1 => by
    simp only [asg?] at q1
    split at q1
    · rename_i env' ea
      split at ea
      · cases ea
        exact q1 m1 _ H1 .refl R1 ((S.mono s1).set i r1)
      · cases ea
    · exact q1.elim))
/-! ### pairs stored at once -/
theorem comp_false {v : Expr} {t : Option Expr} {l : Nat} {env : PySem.Env} {sc : Scope} {elt : Expr} {gs : List Comprehension} {pos py : Pos} {y : Str} (hy : env.scope.names.lookup y = some .cell ∨ (py.line == pos.line) = false) : swapsWith (.ListComp elt gs sc pos) (some (.Name y py)) l env = pure false := by
  unfold swapsWith
  have z : (env.blockKind == .function && env.kindOf y == some .local && py.line == (Expr.ListComp elt gs sc pos).pos.line && !(sc.names.any fun (n, k) => n == y && (k == .local || k == .cell))) = false := by
    rcases hy with hy | hl
    · have : env.kindOf y = some .cell := hy
      rw [this]
      simp
    · have : (py.line == (Expr.ListComp elt gs sc pos).pos.line) = false := hl
      rw [this]
      simp
  show (pure (env.blockKind == .function && env.kindOf y == some .local && py.line == (Expr.ListComp elt gs sc pos).pos.line && !(sc.names.any fun (n, k) => n == y && (k == .local || k == .cell))) : Sem Bool) = pure false
  rw [z]
end
end Py
end

section
set_option Elab.async false
set_option linter.all false
set_option maxRecDepth 100000
set_option maxHeartbeats 2000000
namespace Py
open PySem PySem.Spec PyProof.Rows L2 NdefX LamX
/-! ### an own exception's __init__ that says super().__init__(..) -/
/-- what the table holds of the def F at f: its code object, its cell of the class D -/
structure IniF (P : Program) (K : PySem.W.Frag) (f D : Addr) (F : NF) : Prop where
  fn : ∃ (oc : Value) (od : Option Addr) (osl : Array (Option Value)) (doc pm ctv : Value), K.lookup f = some ⟨oc, od, .func (F.fd doc pm ctv), osl⟩
  code : PySem.W.codeIn K (.ref F.c) F.qual = true
  file : ∃ (oc : Obj) (vs : Array Value) (g : Str) (t : Tok), K.lookup F.c = some oc ∧ oc.data = .fields vs ∧ vs[2]? = some (.str g t) ∧ ((P.main.file : Str) == g) = true
  cell : ∃ (c0 : Addr) (o0 : Obj), F.cl = [(("__class__" : Str), c0)] ∧ K.lookup c0 = some o0 ∧ o0.data = .cell (some (.ref D))
  cls : ∃ (oD : Obj) (cd : ClassData), K.lookup D = some oD ∧ oD.data = .cls cd
  top : (P.main.scope.names.lookup ("super" : Str)).isSome = false
  opq : PySem.W.nsIn K cStatics "thirdparty.any" = some none
  typ : PySem.W.typeIn K (.ref f) = some (.type "function")
/-- a class C whose __init__ stands at the class D of its line -/
structure IniC (K : PySem.W.Frag) (C D : Addr) : Prop where
  ox : OexC K C
  sub : PySem.W.subIn K (.ref C) (.ref D) = some true
  sup : PySem.W.ks_superIn K C D "__init__" = some (some (.builtin "ValueError.__init__"))
  ve : PySem.W.subIn K (.ref C) (.type "ValueError") = some true
section
variable {prog : Program} {w : World} {A : Around} {E : Value → Shared → Prop} {h : Heap} {g : Array GenState} {d : Drawn} {t : Nat} {os : OsState}
variable {nm q : Str} {C N : Addr} {bs bm : List Value} {hdct : Bool} {sn : List Str} {sub : List Value} {ab : Bool} {col : Option Bool} {dd : Option Addr} {k0 k1 k2 k3 k5 : Option Value}
/-- the bound ValueError.__init__ called -/
theorem sup_bound {u e t0 : Addr} {rest : List Value} {Q : Value → Shared → Prop}
    (hC : h.get? C = some (excClassObj nm q C N bs bm hdct sn sub ab col dd k0 k1 k2 k3 k5 "ValueError.__new__")) (he : h.get? e = some (PySem.W.excObj C t0 none .none)) (hu : h.get? u = some (PySem.W.kxs_mw "ValueError.__init__" e)) (hrest : rest.length ≤ sizeLine)
    (hq : ∀ h' t1, (∀ b o, b ≠ e → h.get? b = some o → h'.get? b = some o) → h'.get? e = some (PySem.W.excObj C t1 none .none) → Q .none ⟨h', g, d, t, os⟩) :
    wpAny (model prog w) A (call (.ref u) rest) Q E ⟨h, g, d, t, os⟩ := by
  have FB := F.excBase_ValueError
  refine wpAny_call (codeAny_of_tree ?_)
  show wpAny _ A.in1 (callAny (.ref u) ⟨rest, []⟩) _ _ _
  simp only [callAny]
  refine wpAny_bind (wpAny_load hu ?_)
  simp only [PySem.W.kxs_mw, show (Value.type "method-wrapper" == Value.type "method" || Value.type "method-wrapper" == Value.type "builtin_function_or_method" || Value.type "method-wrapper" == Value.type "method-wrapper") = true by decide, if_true]
  refine PySem.W.KFB.if_so (by decide) ?_
  refine wpAny_bind (PySem.W.check_bound_init FB.toExcCallFacts hC he rfl ?_)
  refine wpAny_bind (wpAny_pure (wpAny_pure ?_))
  refine ⟨plainId_quiet FB.init.plain _, codeAny_builtin FB.initEntry ?_⟩
  exact PySem.W.exc_init_tree (cls := .ref C) (t0 := t0) (dv := none) (c2 := .none) (c3 := .none) (b4 := .bool false) he hrest fun h' k e' _ => hq h' h.objs.size k e'
end
section
variable {X : Cx} {pins : List (Addr × Obj)} {σ : L2.St} {H : Hp} {s : Shared} {a C D f c0 : Addr}
/-- a local or a captured name, read -/
theorem ld_name {i : Nat} {x : Str} {v : V} {Q : Value → Shared → Prop} {E : Value → Shared → Prop} (I : Inv X pins σ H s) (hN : X.N[i]? = some x) (hv : Vis X.env.scope x) (e : σ[i]? = some (some v)) (h : ∀ u, L2.RelV v u → Q u s) (hcd : (x == ("__classdict__" : Str)) = false := by decide) :
    wpAny (model X.prog X.w) X.A (loadName X.env x) Q E s := by
  obtain ⟨m, hn, hl⟩ := I.loc
  obtain ⟨u, r, l⟩ := hl i x v hN e hv
  rcases l with ⟨hk, hm⟩ | ⟨hk, c, hc, hcell⟩
  · exact wpAny_loadName_local I.ok.kind hk hn hm (h u r)
  · rcases hk with hk | hk
    · exact wpAny_loadName_cell I.ok.kind hk hc hcell (h u r)
    · exact wpAny_loadName_free I.ok.kind hk hc hcell (h u r) hcd
/-- a built-in's name, read -/
theorem ld_bname {x : Str} {u : Value} {Q : Value → Shared → Prop} {E : Value → Shared → Prop} (I : Inv X pins σ H s) (hg : Gl X x) (hm : X.mg x = none) (hv : bootBuiltins x = some u) (h : Q u s) (hn : x ≠ "__name__" := by decide) : wpAny (model X.prog X.w) X.A (loadName X.env x) Q E s := by
  obtain ⟨mb, h1, h2⟩ := I.mod.blt
  have hk : X.env.kindOf x = some .globalImplicit := hg
  unfold loadName
  simp only [PySem.Env.blockKind, I.ok.kind, hk, ScopeKind.isAnnotationScope, Bool.false_and, Bool.false_eq_true, if_false]
  exact (Calls.loadGlobal_builtin (by rw [I.ok.glob]; exact I.mod.glob.keeps I.bk) hm (by rw [I.ok.blt]; exact h1.keeps I.bk) ((h2 x hn).trans hv) h)
end
section
variable {P : Program} {w : World} {K : PySem.W.Frag} {mg : Str → Option Value} {base : Heap} {N : List Str} {F : NF} {fI : Addr} {A : Around} {outer : List PySem.Env} {s0 : Shared} {H0 : Hp} {E : XK} {a C D : Addr}
/-- super().__init__(e, ..): the object keeps its place -/
theorem sup_stmt {Z : Cx} (hZ : Z = ncx (L2.CX P w) P w K mg base N F fI A outer s0 H0 E) {pins : List (Addr × Obj)} {σ : L2.St} {H : Hp} {s : Shared} {e : Expr} {es : List Expr} {p0 p1 pa pc pd : Pos} {ta : TA} {vs : List V} {ar : Arg} {ic : Nat}
    (T : IniF P K fI D F) (TC : IniC K C D) (I : Inv Z pins σ H s) (ea : H a = some (exo a C none)) (h0 : σ[0]? = some (some (.ref a))) (hN0 : N[0]? = some ar.arg) (hv0 : Vis F.scope ar.arg) (hd0 : (ar.arg == ("__classdict__" : Str)) = false) (hp : (F.params.posonlyargs ++ F.params.args).head? = some ar)
    (hic : N[ic]? = some ("__class__" : Str)) (hcl : σ[ic]? = some (some (.ref D))) (hks : F.scope.names.lookup ("super" : Str) = some .globalImplicit) (hkc : F.scope.names.lookup ("__class__" : Str) = some .free) (hms : mg "super" = none)
    (ha : PA Z (e :: es) ta) (ht : ∀ Q : List V → Hp → Prop, Q vs H → ta σ H Q) (hz : vs.length ≤ 1000) {Q : Flow → Shared → Prop} {B : List Stmt}
    (he : starEach (e :: es) Z.env = (false, eval e Z.env) :: starEach es Z.env) (hpl : (backTo pc (starEach es Z.env)).any (·.1) = false) {pl : Sem Bool}
    (hc : eval (.Call (.Attribute (.Call (.Name "super" p0) [] [] p1) "__init__" pa) (e :: es) [] pc) Z.env = (do
      let ov ← attributeBase (.Call (.Name "super" p0) [] [] p1) "__init__" Z.env (eval (.Call (.Name "super" p0) [] [] p1) Z.env)
      standAt pa.atName
      let (f, first) ← holding [ov] (getMethod ov "__init__" pl)
      callWith pc f first (backTo pc (starEach (e :: es) Z.env)) [])) (h : ∀ s', Inv Z pins σ H s' → Q .next s') :
    PySem.wpAt (model P w) Z.A (.func B Z.env) (exec (.Expr (.Call (.Attribute (.Call (.Name "super" p0) [] [] p1) "__init__" pa) (e :: es) [] pc) pd) Z.env) Q Z.xe s := by
  obtain ⟨oc, od, osl, doc, pm, ctv, hfn⟩ := T.fn
  obtain ⟨occ, vsc, gf, gt, hcc, hoc, hvc, hfile⟩ := T.file
  obtain ⟨oD, cdD, hD, hDt⟩ := T.cls
  obtain ⟨nm, q, Nn, bs, bm, sn, sub, ab, col, dd, k0, k1, k2, k3, k5, hC, hbm⟩ := TC.ox.cls
  have KX : K.In s.heap := by
    have := I.kIn
    rw [hZ] at this
    exact this
  have hks' : Z.env.kindOf ("super" : Str) = some .globalImplicit := by rw [hZ]; exact hks
  have hkc' : Z.env.kindOf ("__class__" : Str) = some .free := by rw [hZ]; exact hkc
  have hg : Gl Z "super" := hks'
  have hm : Z.mg "super" = none := by rw [hZ]; exact hms
  have hA : ∀ {α : Type} {tt : Sem α} {Q : α → Shared → Prop} {E : Value → Shared → Prop} {s : Shared}, wpAny (model Z.prog Z.w) Z.A tt Q E s → wpAny (model P w) Z.A tt Q E s := fun {α tt Q E s} h => by
    rw [hZ] at h ⊢
    exact h
  have mainK : ∀ (b : Addr) (o : Obj), Z.K.lookup b = some o → s.heap.get? b = some o := fun b o e => I.kIn b o e
  have KZ : Z.K = K := by rw [hZ]; rfl
  rw [← KZ] at hfn hcc hD hC
  refine ks_wpAt_Expr_any (ks_wpAt_MethodCall (ks_wpAt_super_base (f := fI) (cc := F.c) (fd := F.fd doc pm ctv) (ar := ar) hks' hkc' (by decide +kernel) (by rw [hZ]; rfl) (mainK _ _ hfn) rfl hp (by rw [hZ]; rfl) (mainK _ _ hcc) hoc hvc hfile T.top ?_) hc) I.quiet rfl
  refine hA (ld_bname I hg hm (by decide +kernel) ⟨rfl, ?_⟩)
  refine hA (ld_name (v := .ref D) I (by rw [hZ]; exact hic) (by rw [hZ]; exact .inr (.inr hkc)) hcl fun u ru => ?_)
  obtain rfl : u = Value.ref D := ru
  refine hA (ld_name (v := .ref a) I (by rw [hZ]; exact hN0) (by rw [hZ]; exact hv0) h0 (fun u ru => ?_) hd0)
  obtain rfl : u = Value.ref a := ru
  obtain ⟨t1, hoa⟩ := exo_at I.hok ea
  obtain ⟨hp0, g, d, t, os⟩ := s
  refine ks_wpAny_isType_cls (mainK _ _ hD) hDt ⟨rfl, ?_⟩
  have subL : ∀ M, PySem.W.Looks M hp0 (isSubtype (.ref C) (.ref D)) true := fun M => PySem.W.looks_subIn KX TC.sub
  refine ks_wpAny_call_super (mainK _ _ hD) hDt hoa rfl (fun c z => by cases z) (subL _) fun h1 hso k1 => ?_
  have I1 : Inv Z pins σ H ⟨h1, g, d, t, os⟩ := I.kept k1
  have KX1 : K.In h1 := by
    have := I1.kIn
    rw [KZ] at this
    exact this
  have IA : PySem.W.InstAt h1 a { cls := .ref C, dict := none, data := .fields #[.ref t1, .none, .none, .none, .bool false, .none] } C none := ⟨k1 _ _ hoa, rfl, rfl, trivial⟩
  have hcd : ∃ cd, PySem.W.clsIn K C = some cd := by
    rw [KZ] at hC
    exact ⟨_, by unfold PySem.W.clsIn; rw [hC]⟩
  obtain ⟨cd, hcd⟩ := hcd
  have hm2 := TC.sup
  unfold PySem.W.ks_superIn at hm2
  rw [hcd] at hm2
  refine PySem.W.kxs_getMethod PySem.W.kxs_ValueError hso (PySem.W.looks_opaque KX1 T.opq) (l₀ := cd.mro) ?_ rfl KX1 hm2 (IA.type.andThen (PySem.W.looks_subIn KX1 TC.ve)) (PySem.W.ks_ne KX1 IA hcd) (by decide +kernel) ?_
  · exact fun A Q E s k q => wpAny_bind ((PySem.W.looks_clsIn KX1 hcd) A _ E s k (wpAny_pure q))
  have I2 : Inv Z ((h1.objs.size, PySem.W.kxs_mw "ValueError.__init__" a) :: pins) σ H ⟨h1.push (PySem.W.kxs_mw "ValueError.__init__" a), g, d, t + 1, os⟩ := ClX.pin_new I1 (fun b o e => Heap.get?_push_of_some _ e) (Nat.le_refl _) (Heap.get?_push_at rfl rfl) (fun v z => by cases z)
  refine (fun key : wpAny (model P w) Z.A (spliced (backTo pc (starEach (e :: es) Z.env))) (fun us s1 => PySem.W.KxsAt "ValueError.__init__" h1.objs.size a s1.heap ∧ wpAny (model P w) Z.A (call (.ref h1.objs.size) us) (fun _ => Q .next) Z.xe s1) Z.xe
      ⟨h1.push (PySem.W.kxs_mw "ValueError.__init__" a), g, d, t + 1, os⟩ => ?_) ?_
  · show wpAny _ _ (callWith pc (.ref h1.objs.size) [] (backTo pc (starEach (e :: es) Z.env)) []) _ _ _
    rw [he] at key ⊢
    refine PySem.W.kxs_callWith (i := "ValueError.__init__") (x := a) (by show (false || (backTo pc (starEach es Z.env)).any (·.1)) = false; rw [hpl]; rfl) ?_
    exact PySem.Calls.evalArgs_plain key
  refine hA (thn (ha.run pc _ _ σ H (fun vs' H1 => vs' = vs ∧ H1 = H) I2 (ht _ ⟨rfl, rfl⟩)) fun us s1 hh => ?_)
  obtain ⟨vs', H1, I3, r1, rfl, rfl⟩ := hh
  have hu := ClX.pin_at I3
  obtain ⟨hp3, g3, d3, t3, os3⟩ := s1
  refine ⟨hu, ?_⟩
  obtain ⟨t4, ho4⟩ := exo_at I3.hok ea
  rw [KZ] at hC
  have KX3 : K.In hp3 := by
    have := I3.kIn
    rw [KZ] at this
    exact this
  show wpAny _ _ (call (.ref h1.objs.size) us) _ _ _
  refine sup_bound (KX3 _ _ hC) ho4 hu (by rw [← Paired.length r1, sizeLine_eq]; omega) fun h' t5 kp he5 => ?_
  have J := (ClX.unpin I3).write (t' := t3) (x := a) (e := a) (o := exo a C none) (by rw [ea]; exact True.intro) (.inl rfl) kp ⟨_, he5⟩ (exo_ok he5)
  have eu : upd H1 a (exo a C none) = H1 := by
    funext b
    by_cases hb : b = a
    · rw [hb, upd_same, ea]
    · rw [upd_ne hb]
  rw [eu] at J
  exact h _ J
end
end Py
end

section
set_option Elab.async false
set_option linter.all false
set_option maxRecDepth 100000
set_option maxHeartbeats 2000000
namespace Py
open PySem PySem.Spec PyProof.Rows L2 NdefX LamX
section
variable {P : Program} {w : World} {K : PySem.W.Frag} {mg : Str → Option Value} {base : Heap} {N ps : List Str} {F : NF} {fI : Addr} {D : Addr} {k : Nat}
/-- what such a def promises: t the reading of what follows super().__init__(..) -/
def spIni (K : PySem.W.Frag) (D : Addr) (N ps : List Str) (t : TS) : Sp := fun vs H Q _ => ∃ a C ys, vs = .ref a :: ys ∧ vs.length = ps.length ∧ IniC K C D ∧ H a = some (exo a C none) ∧
  t { nx := fun _ H' => Q .non H', rt := Q } (startF N vs [some (.ref D)]) H
theorem ini_ok {doc pm ctv oc : Value} {od : Option Addr} {osl : Array (Option Value)} {e : Expr} {es : List Expr} {p0 p1 pa pc pd : Pos} {rest : List Stmt} {ar : Arg} {t : TS}
    (T : IniF P K fI D F) (lk : K.lookup fI = some ⟨oc, od, .func (F.fd doc pm ctv), osl⟩) (S : NScope N ps ["__class__"] F.scope) (hbd : F.body = .Expr (.Call (.Attribute (.Call (.Name "super" p0) [] [] p1) "__init__" pa) (e :: es) [] pc) pd :: rest)
    (hN0 : N[0]? = some ar.arg) (hp0 : ps[0]? = some ar.arg) (hd0 : (ar.arg == ("__classdict__" : Str)) = false) (hp : (F.params.posonlyargs ++ F.params.args).head? = some ar) (hks : F.scope.names.lookup ("super" : Str) = some .globalImplicit) (hms : mg "super" = none)
    (ha : ∀ (A : Around) (outer : List PySem.Env) (s : Shared) (H : Hp) (E : XK), ∃ ta : TA, PA (ncx (L2.CX P w) P w K mg base N F fI A outer s H E) (e :: es) ta ∧ ∀ (vs : List V) (a : Addr) (ys : List V), vs = .ref a :: ys → vs.length = ps.length → ∃ zs : List V, zs.length ≤ 1000 ∧ ∀ Q : List V → Hp → Prop, Q zs H → ta (startF N vs [some (.ref D)]) H Q)
    (he : ∀ env : PySem.Env, starEach (e :: es) env = (false, eval e env) :: starEach es env) (hpl : ∀ env : PySem.Env, (backTo pc (starEach es env)).any (·.1) = false) {pl : PySem.Env → Sem Bool}
    (hc : ∀ env : PySem.Env, eval (.Call (.Attribute (.Call (.Name "super" p0) [] [] p1) "__init__" pa) (e :: es) [] pc) env = (do
      let ov ← attributeBase (.Call (.Name "super" p0) [] [] p1) "__init__" env (eval (.Call (.Name "super" p0) [] [] p1) env)
      standAt pa.atName
      let (f, first) ← holding [ov] (getMethod ov "__init__" (pl env))
      callWith pc f first (backTo pc (starEach (e :: es) env)) []))
    (hr : ∀ (A : Around) (outer : List PySem.Env) (s : Shared) (H : Hp) (E : XK), PSs (ncx (L2.CX P w) P w K mg base N F fI A outer s H E) rest t) :
    FnOk P w K mg base (L2.CX P w) (k + 1) fI (F.fd doc pm ctv) ps (spIni K D N ps t) := by
  refine ⟨fun vs H Q E ⟨a, C, ys, _, hl, _⟩ => hl, fun A outer s H args us vs Q E hroom e0 hb r hsp => ?_⟩
  obtain ⟨a, C, ys, hvs, hl, TC, ea, ht⟩ := hsp
  have KX : K.In s.heap := e0.mod.kin.keeps fun b o e => (e0.bs b o e).1
  have lim : s.heap.NoLimit := e0.mod.nolimit.keeps fun b o e => (e0.bs b o e).1
  obtain ⟨c0, o0, hcl, hc0, ho0⟩ := T.cell
  have CA : CellsAt F.cl ["__class__"] [some (.ref D)] s.heap H := by
    refine ⟨rfl, fun y c hy => ?_, fun x y c hx hy => ?_, fun i y hi => ?_⟩
    · rw [hcl] at hy
      have : c = c0 := by
        simp only [List.lookup] at hy
        split at hy
        · exact (Option.some.inj hy).symm
        · cases hy
      subst this
      exact ⟨(e0.bs _ _ (e0.mod.kin _ _ hc0)).2, _, _, KX _ _ hc0, ho0⟩
    · rw [hcl] at hx hy
      simp only [List.lookup] at hx hy
      split at hx
      · split at hy
        · rename_i h1 _ h2
          rw [eq_of_beq h1, eq_of_beq h2]
        · cases hy
      · cases hx
    · cases i with
      | zero =>
        simp only [List.getElem?_cons_zero, Option.some.injEq] at hi
        subst hi
        refine ⟨c0, by rw [hcl]; simp [List.lookup], fun v hv => ?_⟩
        simp only [List.getElem?_cons_zero, Option.some.injEq] at hv
        subst hv
        exact ⟨_, rfl, _, KX _ _ hc0, ho0⟩
      | succ i => simp at hi
  refine codeAny_call_function hroom.depth (KX _ _ lk) rfl S.co S.gen rfl (PySem.W.codeRec_of KX T.code) (hb _ _ _ _ ?_)
  refine wpAny_newFunctionEnv S.nocell (fun ⟨n, _⟩ hy => S.par n (List.of_mem_zip hy).1) (fun h₁ hns hsb => ⟨lim.fresh _ hsb, ?_⟩) S.kind
  show codeAny _ _ (.func F.body (envF F fI s.heap.objs.size)) _ _
  refine ks_codeAny_funcAt ?_
  have kp : ∀ b o, s.heap.get? b = some o → h₁.get? b = some o := fun b o e => hsb.extBut b o (Nat.ne_of_lt (Heap.lt_size e)) (Heap.get?_push_of_some _ e)
  have I : Inv (ncx (L2.CX P w) P w K mg base N F fI A outer s H E) [] (startF N vs [some (.ref D)]) H { s with heap := h₁, toks := s.toks + (ps.zip us).length } := inv_startN S hroom.hd e0 hl r CA hns kp
  have hfr : N[ps.length]? = some ("__class__" : Str) := by
    have q : (N.take (ps.length + 1))[ps.length]? = some ("__class__" : Str) := by
      have := S.pre
      rw [show ps.length + [("__class__" : Str)].length = ps.length + 1 from rfl] at this
      rw [this, List.getElem?_append_right (Nat.le_refl _), Nat.sub_self]
      rfl
    rwa [List.getElem?_take_of_lt (Nat.lt_succ_self _)] at q
  have hvc : (startF N vs [some (.ref D)])[ps.length]? = some (some (.ref D)) := by
    unfold startF
    rw [List.getElem?_append_right (by rw [List.length_map, hl]; exact Nat.le_refl _), List.length_map, hl, Nat.sub_self]
    rfl
  have hv0 : (startF N vs [some (.ref D)])[0]? = some (some (.ref a)) := by
    unfold startF
    rw [hvs]
    rfl
  rw [hbd]
  refine ks_wpAt_execs_cons ?_
  obtain ⟨ta, hpa, hz⟩ := ha A outer s H E
  obtain ⟨zs, hz1, hz2⟩ := hz vs a ys hvs hl
  refine sup_stmt (Z := ncx (L2.CX P w) P w K mg base N F fI A outer s H E) rfl T TC I ea hv0 hN0 (.inl (S.par _ (List.mem_of_getElem? hp0))) hd0 hp hfr hvc hks (S.frk _ (List.mem_singleton.mpr rfl)) hms hpa hz2 hz1 (he _) (hpl _) (hc _) fun s' J => ?_
  refine wpAt_of_wpAny (wpAny_mono ((hr A outer s H E).run [] _ _ H _ J ht) (fun fl s' hs => ?_) fun e s' hs => hs)
  have fin : ∀ {σ' : L2.St} {H' : Hp} {v : V} {u : Value}, Inv (ncx (L2.CX P w) P w K mg base N F fI A outer s H E) [] σ' H' s' → L2.RelV v u → Q v H' → CE outer P w H s Q u s' :=
    fun {σ' H' v u} J rv q => ⟨v, H', J.os, J.bare, J.base, J.hok, rv, q⟩
  cases fl with
  | ret u =>
    obtain ⟨v, σ', H', J, rv, q⟩ := hs
    exact fin J rv q
  | next =>
    obtain ⟨σ', H', J, q⟩ := hs
    exact fin (v := V.non) (u := Value.none) J rfl q
  | brk =>
    obtain ⟨_, _, _, q⟩ := hs
    exact False.elim q
  | cont =>
    obtain ⟨_, _, _, q⟩ := hs
    exact False.elim q
end
end Py
end

section
set_option Elab.async false
set_option linter.all false
set_option maxRecDepth 100000
set_option maxHeartbeats 2000000
namespace Py
open PySem PySem.Spec PyProof.Rows L2 LamX
/-! ### a lambda, with or without one default, handed to a def -/
/-- its parameters ps are its only names of its own -/
structure LamP (N ps : List Str) (sc scope : Scope) : Prop where
  kind : scope.kind = .function
  co : scope.isCoroutine = false
  gen : scope.isGenerator = false
  own : ∀ y ∈ scope.names, y.2 = .local → y.1 ∉ N
  nocell : ∀ y ∈ scope.names, y.2 ≠ .cell
  free : ∀ y ∈ scope.names, y.2 = .free → sc.names.lookup y.1 = some .cell ∨ sc.names.lookup y.1 = some .free
  par : ∀ x ∈ ps, scope.names.lookup x = some .local
def lamPB (N ps : List Str) (sc scope : Scope) : Bool :=
  decide (scope.kind = .function) && (!scope.isCoroutine && (!scope.isGenerator && ((scope.names.all fun y => match y.2 with
    | .local => !(N.contains y.1)
    | .cell => false
    | .free => decide (sc.names.lookup y.1 = some .cell) || decide (sc.names.lookup y.1 = some .free)
    | _ => true) && ps.all fun x => decide (scope.names.lookup x = some .local))))
theorem lamP_by {N ps : List Str} {sc scope : Scope} (h : lamPB N ps sc scope = true) : LamP N ps sc scope := by
  unfold lamPB at h
  simp only [Bool.and_eq_true] at h
  obtain ⟨h1, h2, h3, h4, h5⟩ := h
  rw [List.all_eq_true] at h4 h5
  refine ⟨of_decide_eq_true h1, notb h2, notb h3, fun y hy e => ?_, fun y hy e => ?_, fun y hy e => ?_, fun x hx => of_decide_eq_true (h5 x hx)⟩
  · have q := h4 y hy
    rw [e] at q
    simpa using q
  · have q := h4 y hy
    rw [e] at q
    cases q
  · have q := h4 y hy
    rw [e] at q
    simpa using q
/-- the default's value, where it stands -/
def DfO (H : Hp) (h : Heap) (fs : List Addr) (dV : Value) (dv : List Value) : Prop := (dv = [] ∧ dV = .none) ∨ dv ≠ [] ∧ ∃ t, dV = .ref t ∧ h.get? t = some (PySem.W.kdv_tup dv) ∧ H t = none ∧ t ∉ fs
section
variable {X : Cx} {pins : List (Addr × Obj)} {σ : L2.St} {H : Hp} {s : Shared}
theorem LamP.has {ps : List Str} {scope : Scope} (L : LamP X.N ps X.env.scope scope) (ok : X.Ok) : ∀ y ∈ scope.names, y.2 = .free → ∃ c, X.env.cells.lookup y.1 = some c := fun y hy e => (L.free y hy e).elim (fun k => ok.has _ (.inl k)) fun k => ok.has _ (.inr k)
theorem nofr (I : Inv X pins σ H s) {f : Addr} (hf : s.heap.objs.size ≤ f) : f ∉ frs X.stack := fun z => by
  rcases List.mem_cons.mp (I.stkSub _ z) with e | e
  · have h1 := I.lt
    rw [← e] at h1
    exact Nat.lt_irrefl _ (Nat.lt_of_lt_of_le h1 hf)
  · exact I.nofs hf e
/-- behind the defaults: the function is made; its code object is new, or found in the table -/
theorem lam_tail {q : Str} {c P : Addr} {ps : Array Value} {params : Arguments} {body : Expr} {scope : Scope} {pos : Pos} {dV : Value} {E : Value → Shared → Prop} {Q : Value → Shared → Prop} (I : Inv X pins σ H s) (TB : TabB X.base X.mg c P) (hcode : X.env.code = .ref c) (hq : q = X.env.qual ++ "<lambda>")
    (hP : H P = some (.tbl ps)) (ht : TriplesOk ps.toList) (hT : ∀ (pos : Pos) (cv : Value), codeAmong pos ps.toList = some cv → ∃ c, cv = .ref c ∧ H c = some (CodeO c q)) (hfree : ∀ y ∈ scope.names, y.2 = .free → ∃ c, X.env.cells.lookup y.1 = some c)
    (h : ∀ (f c' : Addr) (doc pm ctv : Value) (s' : Shared) (H1 : Hp), Inv X pins σ H1 s' → (∀ b o, s.heap.get? b = some o → b ≠ P → s'.heap.get? b = some o) → s.heap.objs.size ≤ f → s'.heap.get? f = some (PySem.W.kdv_obj "<lambda>" q params (.expr body) scope (cloFrom X.env.cells scope.names []) dV doc pm c' ctv) →
      H1 f = none → H1 c' = some (CodeO c' q) → (H1 = H ∨ (H c' = none ∧ c' ≠ P ∧ H1 = upd (upd H P (.tbl (ps ++ #[rawInt pos.line, rawInt pos.col, .ref c']))) c' (CodeO c' q))) → Q (.ref f) s') :
    wpAny (model X.prog X.w) X.A (makeTail "<lambda>" q params (.expr body) scope X.env dV .none none pos pos.line) Q E s := by
  have bP : s.heap.BuiltinsAt X.mg P := TB.bm.keeps I.bk
  have hP' : s.heap.get? P = some { cls := .none, data := .fields ps } := I.hok P _ hP
  cases hc : codeAmong pos ps.toList with
  | none =>
    refine PySem.W.kdv_makeTail (mg := X.mg) (c := c) (P := P) (ps := ps) (closure_ok hfree) I.ok.glob (I.mod.glob.keeps I.bk) hcode (TB.code.keeps I.bk) hP' ht hc TB.gP bP fun c' ctv doc h' tk hx hge hlt hrec htb => ?_
    obtain ⟨c2, oc, vs, t, e2, hoc, hd, hv⟩ := hrec
    cases e2
    have hsz : s.heap.objs.size ≤ h'.objs.size := Nat.le_trans hge (Nat.le_of_lt hlt)
    have nC : H c' = none := I.hok.fresh hge
    have nPc : c' ≠ P := fun z => by
      rw [z, hP] at nC
      cases nC
    have I1 := inv_table (q := q) (t' := tk) (more := #[rawInt pos.line, rawInt pos.col, .ref c']) (h' := h'.push (PySem.W.kdv_obj "<lambda>" q params (.expr body) scope (cloFrom X.env.cells scope.names []) dV doc ((X.mg "__name__").getD .none) c' ctv)) I hP
      (fun b o hb e => Heap.get?_push_of_some _ (hx b o hb e)) (Heap.get?_push_of_some _ htb) hge ⟨oc, vs, t, Heap.get?_push_of_some _ hoc, hd, hv⟩
    refine h h'.objs.size c' doc _ ctv _ _ I1 (fun b o e n => Heap.get?_push_of_some _ (hx b o n e)) hsz (Heap.get?_push_size _ rfl) ?_ upd_same (.inr ⟨nC, nPc, rfl⟩)
    have n1 : h'.objs.size ≠ c' := Nat.ne_of_gt hlt
    have n2 : h'.objs.size ≠ P := Nat.ne_of_gt (Nat.lt_of_lt_of_le (Heap.lt_size hP') hsz)
    rw [upd_ne n1, upd_ne n2]
    exact I.hok.fresh hsz
  | some cv =>
    obtain ⟨c', e, hco⟩ := hT pos cv hc
    subst e
    refine PySem.W.kdv_makeTailHit (mg := X.mg) (c := c) (P := P) (ps := ps) (closure_ok hfree) I.ok.glob (I.mod.glob.keeps I.bk) hcode (TB.code.keeps I.bk) hP' ht hc bP fun ctv doc h' tk hx hsz => ?_
    have I1 : Inv X pins σ H { s with heap := h'.push (PySem.W.kdv_obj "<lambda>" q params (.expr body) scope (cloFrom X.env.cells scope.names []) dV doc ((X.mg "__name__").getD .none) c' ctv), toks := tk } := I.kept fun b o e => Heap.get?_push_of_some _ (hx b o e)
    exact h h'.objs.size c' doc _ ctv _ H I1 (fun b o e n => Heap.get?_push_of_some _ (hx b o e)) hsz (Heap.get?_push_size _ rfl) (I.hok.fresh hsz) hco (.inl rfl)
/-- the lambda is made -/
theorem lam_mk {q : Str} {c P : Addr} {ps : Array Value} {params : Arguments} {body : Expr} {scope : Scope} {pos : Pos} {E : Value → Shared → Prop} {Q : Value → Shared → Prop} (I : Inv X pins σ H s) (TB : TabB X.base X.mg c P) (hcode : X.env.code = .ref c) (hq : q = X.env.qual ++ "<lambda>")
    (hP : H P = some (.tbl ps)) (ht : TriplesOk ps.toList) (hT : ∀ (pos : Pos) (cv : Value), codeAmong pos ps.toList = some cv → ∃ c, cv = .ref c ∧ H c = some (CodeO c q)) (hfree : ∀ y ∈ scope.names, y.2 = .free → ∃ c, X.env.cells.lookup y.1 = some c)
    (hk0 : params.kw_defaults = []) (hd : params.defaults = [] ∨ ∃ i k p, params.defaults = [.Constant (.int i) k p])
    (h : ∀ (f c' : Addr) (dV doc pm ctv : Value) (dv : List Value) (s' : Shared) (H1 : Hp), Inv X pins σ H1 s' → s'.heap.get? f = some (PySem.W.kdv_obj "<lambda>" q params (.expr body) scope (cloFrom X.env.cells scope.names []) dV doc pm c' ctv) →
      H1 f = none → f ∉ frs X.stack → H1 c' = some (CodeO c' q) → DfO H1 s'.heap (frs X.stack) dV dv → dv.length = params.defaults.length → (H1 = H ∨ (H c' = none ∧ c' ≠ P ∧ H1 = upd (upd H P (.tbl (ps ++ #[rawInt pos.line, rawInt pos.col, .ref c']))) c' (CodeO c' q))) → Q (.ref f) s') :
    wpAny (model X.prog X.w) X.A (eval (.Lambda params body scope pos) X.env) Q E s := by
  rcases hd with hd | ⟨i, k, p, hd⟩
  · have e0 : defaultsOf params X.env = ([], []) := by
      rw [PySem.defaultsOf_eq, hd, hk0]
      rfl
    refine PySem.W.kla_eval e0 ?_
    rw [makeFunction_eq]
    simp only [List.zip_nil_right, List.filterMap_nil, List.isEmpty_nil, if_true, pure_bind]
    rw [← hq]
    refine lam_tail I TB hcode hq hP ht hT hfree fun f c' doc pm ctv s' H1 I1 kp hge hf hfn hco hH => ?_
    exact h f c' .none doc pm ctv [] s' H1 I1 hf hfn (nofr I hge) hco (.inl ⟨rfl, rfl⟩) (by rw [hd]; rfl) hH
  · refine PySem.W.kdv_lam (by rw [hd]; rfl) hk0 ?_
    rw [hd]
    refine PySem.W.kdv_all1 (wpAny_Constant_int ?_)
    refine wpAny_pure ?_
    rw [makeFunction_eq]
    simp only [List.zip_nil_right, List.filterMap_nil, List.isEmpty_nil, List.isEmpty_cons, Bool.false_eq_true, if_false, if_true, pure_bind]
    refine wpAny_bind (wpAny_newTextTuple ?_)
    rw [← hq]
    have I0 : Inv X pins σ H { s with heap := s.heap.push (PySem.W.kdv_tup [.int i s.toks]), toks := s.toks + 1 } := I.kept fun b o e => Heap.get?_push_of_some _ e
    have lt0 : s.heap.objs.size < (s.heap.push (PySem.W.kdv_tup [.int i s.toks])).objs.size := by
      rw [Heap.size_push]
      exact Nat.lt_succ_self _
    have hP' : s.heap.get? P = some { cls := .none, data := .fields ps } := I.hok P _ hP
    have nTP : s.heap.objs.size ≠ P := Nat.ne_of_gt (Heap.lt_size hP')
    refine lam_tail I0 TB hcode hq hP ht hT hfree fun f c' doc pm ctv s' H1 I1 kp hge hf hfn hco hH => ?_
    have hT0 : H s.heap.objs.size = none := I.hok.fresh (Nat.le_refl _)
    have hTs : s'.heap.get? s.heap.objs.size = some (PySem.W.kdv_tup [.int i s.toks]) := kp _ _ (Heap.get?_push_size _ rfl) nTP
    refine h f c' (.ref s.heap.objs.size) doc pm ctv [.int i s.toks] s' H1 I1 hf hfn (nofr I0 hge) hco (.inr ⟨by simp, _, rfl, hTs, ?_, nofr I (Nat.le_refl _)⟩) (by rw [hd]; rfl) hH
    rcases hH with e | ⟨nC, nCP, e⟩
    · rw [e]
      exact hT0
    · rw [e]
      have ne : s.heap.objs.size ≠ c' := fun z => by
        obtain ⟨⟨oc, vs, t, hoc, hdc, hvc⟩, _, _⟩ := I1.hok c' _ hco
        rw [← z, hTs] at hoc
        cases hoc
        cases hdc
      rw [upd_ne ne, upd_ne nTP]
      exact hT0
end
end Py
end

section
set_option Elab.async false
set_option linter.all false
set_option maxRecDepth 100000
set_option maxHeartbeats 2000000
namespace Py
open PySem PySem.Spec PyProof.Rows L2 LamX
/-- what a call without arguments binds -/
def LB (params : Arguments) (body : Expr) (scope : Scope) (ps : List Str) : Prop :=
  (params.defaults = [] ∧ ps = [] ∧ ∀ (q : Str) (cl : List (Str × Addr)) (doc pm cv ctv : Value), bindArgs (PySem.W.kdv_fn "<lambda>" q params (.expr body) scope cl .none doc pm cv ctv) ⟨[], []⟩ = pure []) ∨
  ∃ a, (∃ i k p, params.defaults = [.Constant (.int i) k p]) ∧ ps = [a] ∧ ∀ (q : Str) (cl : List (Str × Addr)) (t : Addr) (doc pm cv ctv : Value), ∃ k, bindArgs (PySem.W.kdv_fn "<lambda>" q params (.expr body) scope cl (.ref t) doc pm cv ctv) ⟨[], []⟩ = seqItems? (.ref t) >>= k ∧ ∀ v, k (some #[v]) = pure [(a, v)]
theorem LB.ok {params : Arguments} {body : Expr} {scope : Scope} {ps : List Str} (b : LB params body scope ps) : params.defaults = [] ∨ ∃ i k p, params.defaults = [.Constant (.int i) k p] := by
  rcases b with ⟨h, _⟩ | ⟨a, h, _⟩
  · exact .inl h
  · exact .inr h
theorem LB.to {params : Arguments} {body : Expr} {scope : Scope} {ps : List Str} (b : LB params body scope ps) {q : Str} {cl : List (Str × Addr)} {doc pm cv ctv dV : Value} {dv : List Value} {s : Shared} {H : Hp} {fs : List Addr} (d : DfO H s.heap fs dV dv) (hl : dv.length = params.defaults.length) :
    ∃ bs : List (Str × Value), bs.map (·.1) = ps ∧ BindsTo s (PySem.W.kdv_fn "<lambda>" q params (.expr body) scope cl dV doc pm cv ctv) ⟨[], []⟩ bs := by
  rcases b with ⟨h, h2, h3⟩ | ⟨a, ⟨i, k0, p0, h⟩, h2, h3⟩
  · rw [h] at hl
    have : dv = [] := List.length_eq_zero_iff.mp hl
    subst this
    have e : dV = .none := by
      rcases d with ⟨_, e⟩ | ⟨n, _⟩
      · exact e
      · exact absurd rfl n
    subst e
    exact ⟨[], h2.symm, .of_eq (h3 q cl doc pm cv ctv)⟩
  · rw [h] at hl
    rcases d with ⟨e, _⟩ | ⟨_, t, rfl, e, _⟩
    · rw [e] at hl
      cases hl
    · match dv, hl with
      | [v], _ =>
        obtain ⟨k, e1, e2⟩ := h3 q cl t doc pm cv ctv
        exact ⟨[(a, v)], h2.symm, BindsTo.of_defaults rfl e rfl e1 (e2 v)⟩
section
variable {X : Cx} {pins : List (Addr × Obj)} {σ : L2.St} {H HZ : Hp} {s s1 : Shared}
/-- the lambda's body entered at s1 -/
theorem lam_in {A : Around} {outer : List PySem.Env} {E : XK} {ps : List Str} {scope : Scope} {f c' : Addr} {h₁ : Heap} {tk : Nat} {bs : List (Str × Value)} (I : Inv X pins σ H s) (L : LamP X.N ps X.env.scope scope) (e0 : Env0 X.prog X.w X.K X.mg X.base A outer s1 HZ) (hd : A.handled = none)
    (un : Un (frs X.stack) [] H HZ s.heap s1.heap) (hns : h₁.Ns s1.heap.objs.size fun y => bs.reverse.lookup y) (kp : ∀ b o, s1.heap.get? b = some o → h₁.get? b = some o) :
    Inv (lamCx X A outer s1 HZ E scope f c') [] σ HZ { s1 with heap := h₁, toks := tk } := by
  have hfree := L.has I.ok
  have cm : ∀ {y c}, (cloFrom X.env.cells scope.names []).lookup y = some c → X.env.cells.lookup y = some c := fun {y c} e => by
    rcases cloFrom_mem (PySem.mem_of_lookup e) with hm | ⟨h1, h2⟩
    · cases hm
    · obtain ⟨c1, hc⟩ := hfree _ h1 rfl
      have hc : X.env.cells.lookup y = some c1 := hc
      have e2 : c = c1 := by
        rw [h2, hc] <;> rfl
      rw [e2]
      exact hc
  have look : ∀ {y}, scope.names.lookup y = some .free → ∃ c, (cloFrom X.env.cells scope.names []).lookup y = some c := fun {y} hl => mem_lookup (cloFrom_has (cells := X.env.cells) (acc := []) (PySem.mem_of_lookup hl))
  have cellK : ∀ {c : Addr} {v : Option Value}, H c = none → s.heap.IsCell c v → h₁.IsCell c v := fun {c v} n ⟨o, ho, hd⟩ => by
    obtain ⟨sl, q⟩ := un.any ho n (by simp)
    exact ⟨_, kp _ _ q, hd⟩
  have noA : ∀ b : Addr, b ∉ (lamCx X A outer s1 HZ E scope f c').ex := fun b z => absurd (show b ∈ ([] : List Addr) from z) (by simp)
  refine ⟨⟨e0.mod, L.kind, rfl, rfl, Nat.le_refl _, fun y z c e1 e2 => I.ok.inj y z c (cm e1) (cm e2), fun y hy => ?_, fun y c z _ => ?_, fun _ => hd, Around.frames_deeper e0.frames, .inr ⟨rfl, rfl⟩, fun b z => absurd z (noA b), e0.bs, e0.bsz, fun b _ _ => noA b,
      fun b z => absurd z (noA b), e0.funs, e0.frf⟩,
    rfl, e0.bare, Un.kept kp, ⟨_, hns, fun i y v e1 e2 e3 => ?_⟩, fun y c e => ?_, e0.hok.fresh (Nat.le_refl _), fun y c e => ?_, fun q hq => absurd (show q ∈ ([] : List (Addr × Obj)) ++ [] from hq) (by simp), e0.hok.kept kp, I.len⟩
  · have hy : scope.names.lookup y = some .cell ∨ scope.names.lookup y = some .free := hy
    rcases hy with hy | hy
    · exact absurd rfl (L.nocell _ (PySem.mem_of_lookup hy))
    · exact look hy
  · have z : false = true := z
    cases z
  · have e3 : Vis scope y := e3
    have e1' : X.N[i]? = some y := e1
    rcases e3 with k | k | k
    · exact absurd (List.mem_of_getElem? e1') (L.own _ (PySem.mem_of_lookup k) rfl)
    · exact absurd rfl (L.nocell _ (PySem.mem_of_lookup k))
    · obtain ⟨m, hn, hl⟩ := I.loc
      have hvis : Vis X.env.scope y := (L.free _ (PySem.mem_of_lookup k) rfl).elim (fun k => .inr (.inl k)) (fun k => .inr (.inr k))
      obtain ⟨w', r, q⟩ := hl i y v e1 e2 hvis
      obtain ⟨c2, h2⟩ := look k
      refine ⟨w', r, .inr ⟨.inr k, c2, h2, ?_⟩⟩
      have c1 := cm h2
      rcases q with ⟨k', _⟩ | ⟨_, c3, e', z⟩
      · have k' : X.env.scope.names.lookup y = some .local := k'
        rcases L.free _ (PySem.mem_of_lookup k) rfl with k2 | k2 <;> rw [show X.env.scope.names.lookup y = _ from k2] at k' <;> cases k'
      · rw [c1] at e'
        cases e'
        exact cellK (I.freeC y _ c1) z
  · obtain ⟨w', z⟩ := I.cell y c (cm e)
    exact ⟨w', cellK (I.freeC y c (cm e)) z⟩
  · obtain ⟨v, o, ho, hd⟩ := I.cell y c (cm e)
    exact un.free c o ho (I.freeC y c (cm e)) (by simp)
/-- a(), in the def that got the lambda -/
theorem act {CXg : CXT} {Eg : XK} {Ng ps : List Str} {qg : Str} {sg : Scope} {g f c' : Addr} {cdg dV doc pm ctv : Value} {dv : List Value} {params : Arguments} {body : Expr} {scope : Scope} {k i : Nat} {a : Str} {pn : List (Addr × Obj)} {xe : Value → Shared → Prop} {W : WX} {tb : XK → TE} {p1 p2 : Pos}
    (I : Inv X pins σ H s) (L : LamP X.N ps X.env.scope scope) (hf : s.heap.get? f = some (PySem.W.kdv_obj "<lambda>" (X.env.qual ++ "<lambda>") params (.expr body) scope (cloFrom X.env.cells scope.names []) dV doc pm c' ctv)) (hfn : H f = none) (hfr : f ∉ frs X.stack)
    (hdf : DfO H s.heap (frs X.stack) dV dv) (hdl : dv.length = params.defaults.length) (hb : LB params body scope ps)
    (tk : Takes ((cxOf CXg X.prog X.w X.K X.mg X.base Ng qg sg g cdg X.A X.stack s H Eg).tr pn xe) W) (hr : Room (k + 1) (X.A.deeper (envOfC qg sg s.heap.objs.size g cdg)))
    (hbody : ∀ (A : Around) (outer : List PySem.Env) (s : Shared) (H : Hp) (E : XK), Room k (A.deeper (lamEnv X scope s.heap.objs.size f c')) → PE (lamCx X A outer s H E scope f c') body (tb E))
    (hN : Ng[i]? = some a) (hv : Vis sg a) (hd : (a == ("__debug__" : Str)) = false) (hcd : (a == ("__classdict__" : Str)) = false) :
    PE ((cxOf CXg X.prog X.w X.K X.mg X.base Ng qg sg g cdg X.A X.stack s H Eg).tr pn xe) (.Call (.Name a p1) [] [] p2)
      (fun σZ HZ Q => σZ[i]? = some (some (.ref f)) ∧ HZ c' = some (CodeO c' (X.env.qual ++ "<lambda>")) ∧ ∃ E : XK, (∀ cls d H', E cls d H' → W cls d σZ H') ∧ tb E σ HZ Q) := by
  refine ⟨fun pinsZ sZ σZ HZ Q IZ h => ?_⟩
  obtain ⟨hs, hc, E, hW, ht⟩ := h
  refine wpAny_Call_Name_kw (thn ((pe_var (pos := p1) (i := i) hN hv hd hcd).run pinsZ sZ σZ HZ (fun v H1 => v = .ref f ∧ H1 = HZ) IZ ⟨.ref f, hs, rfl, rfl⟩) fun u s1 ⟨v, H1, I1, r1, q1⟩ => ?_)
  obtain ⟨ev, eH⟩ := q1
  subst ev
  rw [eH] at I1
  obtain rfl : u = Value.ref f := r1
  have noex : ∀ b : Addr, b ∉ ([] : List Addr) := fun b z => nomatch z
  have of1 := I1.base.keep f _ hf hfn hfr (noex f)
  refine PySem.W.callWith_F0 ⟨_, _, _, _, of1⟩ ?_
  have un : Un (frs X.stack) [] H HZ s.heap s1.heap := I1.base
  have hdf1 : DfO H s1.heap (frs X.stack) dV dv := by
    rcases hdf with z | ⟨n, t, e, h1, h2, h3⟩
    · exact .inl z
    · exact .inr ⟨n, t, e, I1.base.keep t _ h1 h2 h3 (noex t), h2, h3⟩
  obtain ⟨bs, hbs, hbt⟩ := hb.to (q := X.env.qual ++ "<lambda>") (cl := cloFrom X.env.cells scope.names []) (doc := doc) (pm := pm) (cv := .ref c') (ctv := ctv) hdf1 hdl
  obtain ⟨⟨oc, vs, t, hoc, hdc, hvc⟩, _, _⟩ := I1.hok c' _ hc
  have rc : codeAny (model X.prog X.w) (X.A.deeper (envOfC qg sg s.heap.objs.size g cdg)) (.call (.ref f) ⟨[], []⟩) (CR (L2.CX X.prog X.w) (envOfC qg sg s.heap.objs.size g cdg :: X.stack) X.prog X.w HZ s1 Q E) s1 := by
    refine PySem.W.kla_callFunE hr.depth of1 rfl L.co L.gen rfl ⟨c', oc, vs, t, rfl, hoc, hdc, hvc⟩ (hbt _ _ _ _ ?_)
    refine wpAny_newFunctionEnv (fun y hy => L.nocell y hy) (fun y hy => L.par _ (by rw [← hbs]; exact List.mem_map_of_mem hy)) (fun h₁ hns hsb => ⟨I1.nolimit.fresh _ hsb, ?_⟩) L.kind
    show codeAny _ _ (.expr body (lamEnv X scope s1.heap.objs.size f c')) _ _
    have kp : ∀ b o, s1.heap.get? b = some o → h₁.get? b = some o := fun b o e => hsb.extBut b o (Nat.ne_of_lt (Heap.lt_size e)) (Heap.get?_push_of_some _ e)
    have J : Inv (lamCx X (X.A.deeper (envOfC qg sg s.heap.objs.size g cdg)) (envOfC qg sg s.heap.objs.size g cdg :: X.stack) s1 HZ E scope f c') [] σ HZ { s1 with heap := h₁, toks := s1.toks + bs.length } :=
      lam_in I L I1.env0 hr.hd un hns kp
    refine PySem.W.kla_codeExpr (wpAny_mono ((hbody _ _ s1 HZ E (hr.deeper _)).run [] _ _ HZ Q J ht) (fun v s' hq => ?_) fun e s' hq => hq)
    obtain ⟨w', H', J', rv, q⟩ := hq
    exact ⟨w', H', J'.os, J'.bare, J'.base, J'.hok, rv, q⟩
  refine wpAny_call (codeAny_mono rc fun r s' hq => ?_)
  cases r with
  | error e => exact tk e s' (XE.of_call I1 (fun cls d H' z => hW cls d H' z) hq)
  | ok fl =>
    cases fl with
    | ret u => exact I1.after hq
    | next => exact False.elim hq
    | brk => exact False.elim hq
    | cont => exact False.elim hq
end
end Py
end

section
set_option Elab.async false
set_option linter.all false
set_option maxRecDepth 100000
set_option maxHeartbeats 1000000
namespace Py
open PySem PySem.Spec PyProof.Rows L2
/-- a class whose objects may be raised with one field -/
def RzAt (T : Tb) (P : Program) (w : World) (base : Heap) (k f : String) : Prop :=
  ∃ C fI fd ps sp, T.mg (Str.ofString k) = some (.ref C) ∧ OexC T.K C ∧ PySem.W.findIn T.K (.ref C) "__init__" = some (some (.ref fI)) ∧ PySem.W.typeIn T.K (.ref fI) = some (.type "function") ∧ Binds T.K fd ps [] ∧
    FnOk P w T.K T.mg base (CX P w) 1 fI fd ps sp ∧
    ∀ (y : V) (a : Addr) (H1 : Hp) (Q : VK), H1 a = none → (∀ dx, H1 dx = none → dx ≠ a → Q .non (upd (upd (upd H1 a (exo a C none)) dx (exd dx [(Str.ofString f, y)])) a (exo a C (some dx)))) → sp [.ref a, y] (upd H1 a (exo a C none)) Q (fun _ _ _ => False)
/-- what a class says, so that its objects may be asked -/
structure KxC (K : PySem.W.Frag) (C : Addr) : Prop where
  cl : (PySem.W.clsIn K C).isSome = true
  ga : PySem.W.findIn K (.ref C) "__getattribute__" = some (some (.builtin "BaseException.__getattribute__"))
  gg : PySem.W.findIn K (.ref C) "__getattr__" = some none
  ex : PySem.W.subIn K (.ref C) (.type "BaseException") = some true
  hd : PySem.W.hasDictIn K C = true
  ca : PySem.W.findIn K (.ref C) "__class__" = some (some (.builtin "object.__class__"))
  cn : PySem.W.specialIn K (.builtin "object.__class__") "__get__" = some (some (.builtin "getset_descriptor.__get__"))
  ct : PySem.W.takesIn K (.builtin "object.__class__") = some true
  cm : PySem.W.mroIn K C (.type "object") = some true
def SubAt (T : Tb) (y k : String) (b : Bool) : Prop := ∃ C Ck, T.mg (Str.ofString y) = some (.ref C) ∧ T.mg (Str.ofString k) = some (.ref Ck) ∧ PySem.W.kitOne T.K (.ref C) (.ref Ck) = some b ∧ PySem.W.exmOne T.K (.ref C) (.ref Ck) = some b ∧ KxC T.K C
def AtAt (T : Tb) (y f : String) : Prop := ∃ C, T.mg (Str.ofString y) = some (.ref C) ∧ KxC T.K C ∧ PySem.W.findIn T.K (.ref C) (Str.ofString f) = some none
theorem ofS_ne {f g : String} (h : (f == g) = false) : (Str.ofString f == Str.ofString g) = false := by
  refine Bool.eq_false_iff.mpr fun z => ?_
  have z := eq_of_beq z
  have : f = g := by
    rw [Str.ofString_eq_toList, Str.ofString_eq_toList] at z
    have e := congrArg (fun s : Str => s.cps.toList) z
    have e : f.toList.map Char.toNat = g.toList.map Char.toNat := by simpa using e
    have key : ∀ (l r : List Char), l.map Char.toNat = r.map Char.toNat → l = r := by
      intro l
      induction l with
      | nil => intro r h; cases r with
        | nil => rfl
        | cons _ _ => cases h
      | cons a l ih => intro r h; cases r with
        | nil => cases h
        | cons b r =>
          simp only [List.map_cons, List.cons.injEq] at h
          rw [ih r h.2, Char.ext (UInt32.toNat_inj.mp h.1)]
    exact String.ext (key _ _ e)
  rw [this] at h
  simp at h
theorem obj_look {T : Tb} {m : List Addr} {H : Hp} {f : String} : ∀ {ks : List String} {vs : List D} {fs : List (Str × V)} {d : D}, fs.map (·.1) = ks.map Str.ofString → RDs T m H vs (fs.map (·.2)) → (ks.zip vs).lookup f = some d → ∃ v, fs.lookup (Str.ofString f) = some v ∧ RD T m H d v
  | [], vs, fs, d, hk, rd, el => by cases vs <;> cases el
  | k0 :: ks, [], fs, d, hk, rd, el => by cases el
  | k0 :: ks, d0 :: vs, [], d, hk, rd, el => by cases hk
  | k0 :: ks, d0 :: vs, (n, w) :: fs, d, hk, rd, el => by
    simp only [List.map_cons, List.cons.injEq] at hk
    obtain ⟨hk1, hk2⟩ := hk
    rw [List.map_cons] at rd
    unfold RDs at rd
    obtain ⟨w', r', e', rd1, rd2⟩ := rd
    cases e'
    subst hk1
    rw [List.zip_cons_cons, List.lookup_cons] at el
    rw [List.lookup_cons]
    cases hf : f == k0 with
    | true =>
      rw [hf] at el
      rw [eq_of_beq hf]
      cases el
      exact ⟨_, by rw [beq_self_eq_true], rd1⟩
    | false =>
      rw [hf] at el
      rw [ofS_ne hf]
      exact obj_look hk2 rd2 el
theorem pass_no {X : Cx} : Passes (L2.CX X.prog X.w) X (fun _ _ _ => False) := fun _ _ _ _ _ _ _ h => by
  obtain ⟨_, _, _, _, _, _, _, _, _, _, _, _, z⟩ := h
  exact z.elim
section
variable {T : Tb} {W : WX} {sc : Scope} {N : List Str} {X : Cx} (c : Ctx T W sc N X)
include c
/-- raise k(e) -/
theorem ss_rz {k f : String} {e : Expr} {p cp pos : Pos} {te : Env → Hh → Res D} (Z : RzAt T X.prog X.w X.base k f) (hr : Room 2 X.A) (he : PE X e (tE T W te)) (hs : isStar e = false) (hg : sc.names.lookup (Str.ofString k) = some .globalImplicit) (hd : (Str.ofString k == ("__debug__" : Str)) = false) :
    PS X (.Raise (some (.Call (.Name (Str.ofString k) p) [e] [] cp)) none pos) (tS T W fun env h => (te env h).to env fun x h => .ex (.obj k [f] [x]) env h) := by
  obtain ⟨C, fI, fd, ps, sp, hm, ho, hi, ht, hb, F, hsp⟩ := Z
  have hm' : X.mg (Str.ofString k) = some (.ref C) := by rw [c.mg]; exact hm
  rw [← c.K, ← c.mg] at F
  rw [← c.K] at ho hi ht hb
  refine tS_of (ps_raise c.calm c.tk (pmk_oex ho hi ht F hr hb .nil pass_no (c.glo _ hg) hm' (pa_cons he pa_nil (starEach_of hs)) hd (starEach_of hs) rfl)) fun Dn σ H xx m h env R S q => ?_
  refine ⟨xx, m, h, env, R, S, SvP.to S q fun x h1 m1 v H1 s1 R1 r1 q1 => ⟨by simp, fun a ha => ?_⟩⟩
  refine hsp v a H1 _ ha fun dx hdx hne => ⟨rfl, dx, [(Str.ofString f, v)], upd_same, by rw [upd_ne hne, upd_same], hdx, ?_⟩
  have e1 : upd (del (upd (upd (upd H1 a (exo a C none)) dx (exd dx [(Str.ofString f, v)])) a (exo a C (some dx))) a) dx (.xd [(Str.ofString f, v)]) = upd H1 dx (.xd [(Str.ofString f, v)]) := by
    funext b
    by_cases hb : b = dx
    · rw [hb, upd_same, upd_same]
    · rw [upd_ne hb, upd_ne hb]
      by_cases hba : b = a
      · rw [hba, del_same, ha]
      · rw [del_ne hba, upd_ne hba, upd_ne hb, upd_ne hba]
  rw [e1]
  have st : Stp m1 H1 m1 (upd H1 dx (.xd [(Str.ofString f, v)])) := Stp.laid hdx
  exact q1 m1 (.ref C) (some dx) σ _ st (R1.laid hdx) ((S.mono s1).mono st) ⟨k, [f], [x], C, dx, [(Str.ofString f, v)], rfl, rfl, rfl, hm, ⟨R1.fresh hdx, R1.freshX hdx⟩, upd_same, rfl, .one (r1.mono st)⟩
/-- an object's field -/
theorem se_att {cl : Cl} (ha : ∀ y f, cl.at_ y f = true → AtAt T y f) {f : String} {e : Expr} {pos : Pos} {te : Env → Hh → Res D} (he : PE X e (tE T W te)) (hb : noCall0 e = true) :
    PE X (.Attribute e (Str.ofString f) pos) (tE T W fun env h => (te env h).bind fun x h => match x with
      | .obj y ks vs => if cl.at_ y f then .of ((ks.zip vs).lookup f) h else .stuck
      | _ => .stuck) := by
  refine ⟨fun pins s σ H Q I ⟨xx, m, h, env, R, S, q⟩ => ?_⟩
  refine attr_of (base_of hb) (thn (he.run pins s σ H _ I ⟨xx, m, h, env, R, S, EvP.seq (Q1 := fun v H1 => ∃ x m1 h1, Stp m H m1 H1 ∧ Rl (T.ex xx) m1 h1 H1 ∧ RD (T.ex xx) m1 H1 x v ∧ EvP (T.ex xx) W σ m1 H1 (RD (T.ex xx)) (match x with
      | .obj y ks vs => if cl.at_ y f then .of ((ks.zip vs).lookup f) h1 else .stuck
      | _ => .stuck) Q) q fun x h1 m1 v H1 s1 R1 r1 q1 => ⟨x, m1, h1, s1, R1, r1, q1⟩⟩) fun u s1 hh => ?_)
  obtain ⟨v, H1, I1, rv, x, m1, h1, st, R1, r1, q1⟩ := hh
  cases x with
  | obj y ks vs =>
    have q1 : EvP (T.ex xx) W σ m1 H1 (RD (T.ex xx)) (if cl.at_ y f then .of ((ks.zip vs).lookup f) h1 else .stuck) Q := q1
    split at q1
    · rename_i hat
      obtain ⟨C, hC, kx, hno⟩ := ha y f hat
      obtain ⟨d, el, k⟩ := EvP.of q1
      unfold RD at r1
      obtain ⟨a, fs, rfl, ⟨C', dx, hC', qa, qd⟩, hk, rd⟩ := r1
      have hC'' : T.mg (Str.ofString y) = some (.ref C') := hC'
      rw [hC] at hC''
      cases hC''
      obtain rfl : u = Value.ref a := rv
      rw [← c.K] at kx hno
      have hx : ObjOk X.prog X.w H1 s1.heap dx (.xd fs) := I1.hok dx _ qd.2
      obtain ⟨mA, hns, hr⟩ := hx
      obtain ⟨od, ho, hl⟩ := lookIn_ns hns
      obtain ⟨⟨oe, vsa, hae, hz, hdt⟩, _⟩ := (show ObjOk X.prog X.w H1 s1.heap a (ExV (.ref C) dx a) from I1.hok a _ qa.2)
      have lk := obj_look hk rd el
      obtain ⟨v, hlv, rdv⟩ := lk
      obtain ⟨u, hu, ru⟩ := RelO.some_of (v := v) (o := mA (Str.ofString f)) (by rw [← hlv]; exact hr _)
      have J : PySem.W.InstAt s1.heap a oe C (some od) := ⟨hae, hz.1, by unfold PySem.W.notCls; rw [hdt] <;> rfl, by rw [hz.2]; exact ho⟩
      exact HandSPX.exc_get I1.kIn J kx.ga kx.gg kx.ex (PySem.W.findObj_own kx.hd hno rfl (by rw [hl, hu])) (handed_of ru) ⟨v, H1, I1.tok _, ru, k m1 v H1 .refl R1 rdv⟩
    · exact q1.elim
  | _ => exact q1.elim
/-- isinstance of a caught object, by a class of the program -/
def rIsO (K : PySem.W.Frag) : List V → Hp → VK → Prop := fun xs H Q => ∃ (C Ck a dx : Addr) (fs : List (Str × V)) (b : Bool), xs = [.ref a, .ref Ck] ∧ H a = some (ExV (.ref C) dx a) ∧ H dx = some (.xd fs) ∧ PySem.W.kitOne K (.ref C) (.ref Ck) = some b ∧ KxC K C ∧ Q (.bl b) H
omit c in
theorem call_isO : CallR X (.builtin "isinstance") (rIsO X.K) := by
  intro pins s σ H xs us Q I r h
  obtain ⟨C, Ck, a, dx, fs, b, rfl, ea, ed, hk, kx, q⟩ := h
  cases r with
  | cons rx rr =>
    cases rr with
    | cons rt rr =>
      cases rr
      cases rx
      cases rt
      obtain ⟨⟨oe, vsa, hae, hz, hdt⟩, _⟩ := (show ObjOk X.prog X.w H s.heap a (ExV (.ref C) dx a) from I.hok a _ ea)
      obtain ⟨mA, hns, hr⟩ := (show ObjOk X.prog X.w H s.heap dx (.xd fs) from I.hok dx _ ed)
      obtain ⟨od, ho, hl⟩ := lookIn_ns hns
      have J : PySem.W.InstAt s.heap a oe C (some od) := ⟨hae, hz.1, by unfold PySem.W.notCls; rw [hdt] <;> rfl, by rw [hz.2]; exact ho⟩
      exact PySem.W.kia_one (PySem.W.kitx_exc kx.cl kx.ga kx.gg kx.ex kx.ca kx.cn kx.ct kx.cm) I.kIn J hk (fun z => nomatch z) fun tk => ⟨.bl b, H, I.kept (t' := tk) fun _ _ z => z, rfl, q⟩
theorem isc_read {cl : Cl} (ha : ∀ y k b, cl.sub y k = some b → SubAt T y k b) {k : String} {Ck : Addr} (hm : T.mg (Str.ofString k) = some (.ref Ck)) {e : Expr} {p q pos : Pos} {te : Env → Hh → Res D} (he : PE X e (tE T W te)) (hs : isStar e = false) (hg : sc.names.lookup (Str.ofString k) = some .globalImplicit) (hd : (Str.ofString k == ("__debug__" : Str)) = false)
    (hgi : sc.names.lookup ("isinstance" : Str) = some .globalImplicit) (hmi : T.mg "isinstance" = none) :
    PE X (.Call (.Name "isinstance" p) [e, .Name (Str.ofString k) q] [] pos) (tE T W fun env h => (te env h).bind fun x h => match x with
      | .obj y _ _ => .of ((cl.sub y k).map .bl) h
      | _ => .stuck) :=
  tE_of (pe_callB call_isO (c.glo _ hgi) (by rw [c.mg]; exact hmi) (by decide +kernel) (pa_cons he (pa_cons (pe_glob (v := .ref Ck) (c.glo _ hg) (by rw [c.mg]; exact hm) rfl hd) pa_nil rfl) (starEach_of hs)) (by decide) (by decide) (starEach_of hs) rfl) fun σ H Q xx m h env R S q =>
    ⟨xx, m, h, env, R, S, EvP.seq q fun x h1 m1 v1 H1 s1 R1 r1 q1 => by
      cases x with
      | obj y ks vs =>
        obtain ⟨b, e1, k1⟩ := EvP.of q1
        obtain ⟨b', e2, rfl⟩ := Option.map_eq_some_iff.mp e1
        obtain ⟨C, Ck', hC, hCk, hkit, _, kx⟩ := ha y k b' e2
        rw [hm] at hCk
        cases hCk
        unfold RD at r1
        obtain ⟨a, fs, rfl, ⟨C', dx, hC', qa, qd⟩, _, _⟩ := r1
        have hC'' : T.mg (Str.ofString y) = some (.ref C') := hC'
        rw [hC] at hC''
        cases hC''
        rw [← c.K] at hkit kx
        exact ⟨C, Ck, a, dx, fs, b', rfl, qa.2, qd.2, hkit, kx, k1 m1 _ H1 .refl R1 rd_bl⟩
      | _ => exact q1.elim⟩
/-- a def as a value -/
theorem se_gf {f : String} {fa : Addr} {pos : Pos} (hm : T.mg (Str.ofString f) = some (.ref fa)) (hg : sc.names.lookup (Str.ofString f) = some .globalImplicit) (hd : (Str.ofString f == ("__debug__" : Str)) = false) : PE X (.Name (Str.ofString f) pos) (tE T W fun _ h => .ok (.nam f) h) :=
  tE_of (pe_glob (v := .ref fa) (c.glo _ hg) (by rw [c.mg]; exact hm) rfl hd) fun σ H Q xx m h env R S q => q m (.ref fa) H .refl R (by unfold RD; exact ⟨fa, rfl, hm⟩)
/-- x(e, ..), x a local that holds a def -/
theorem se_cv {cl : Cl} {i : Nat} {x : Str} {e : Expr} {es : List Expr} {p pos : Pos} {ts : Env → Hh → Res (List D)} (hN : X.N[i]? = some x) (hv : Vis X.env.scope x) (hd : (x == ("__debug__" : Str)) = false) (hcd : (x == ("__classdict__" : Str)) = false)
    (F : ∀ f, cl.ar f = some (e :: es).length → ∃ k, FnAt T X.prog X.w X.base k f (e :: es).length (cl.call f) ∧ Room k X.A) (ha : PA X (e :: es) (tA T W ts)) (hn : (e :: es).all (fun e => !isStar e) = true) (hlen : ∀ env h ds h', ts env h = .ok ds h' → ds.length = (e :: es).length) :
    PE X (.Call (.Name x p) (e :: es) [] pos) (tE T W fun env h => match env[i]? with
      | some (some (.nam f)) => if cl.ar f = some (e :: es).length then (ts env h).bind fun xs h => cl.call f xs h else .stuck
      | _ => .stuck) := by
  refine ⟨fun pins s σ H Q I ⟨xx, m, h, env, R, S, q⟩ => ?_⟩
  dsimp only at q
  split at q
  · rename_i f ef
    split at q
    · rename_i har
      obtain ⟨v, e1, rv⟩ := S.2 i _ ef
      unfold RD at rv
      obtain ⟨fa', rfl, hm'⟩ := rv
      obtain ⟨k, ⟨fa, fd, ps, hm, hk, hb, hps, F⟩, hr⟩ := F f har
      have hm'' : T.mg (Str.ofString f) = some (.ref fa') := hm'
      rw [hm] at hm''
      obtain rfl : fa = fa' := Value.ref.inj (Option.some.inj hm'')
      rw [← c.K, ← c.mg] at F
      rw [← c.K] at hk hb
      rw [List.all_cons, Bool.and_eq_true] at hn
      refine wpAny_Call_Name_kw (thn ((pe_var (pos := p) hN hv hd hcd).run pins s σ H (fun v H1 => v = .ref fa ∧ H1 = H) I ⟨.ref fa, e1, rfl, rfl⟩) fun u s1 ⟨v, H1, I1, r1, q1⟩ => ?_)
      obtain ⟨rfl, rfl⟩ := q1
      cases r1
      have q' : tA T W ts σ H1 (fun vs H2 => spF T (e :: es).length (cl.call f) vs H2 Q fun C d H' => W C d σ H') := ⟨xx, m, h, env, R, S, by
        cases e2 : ts env h with
        | ok ds h' =>
          have q : EvP (T.ex xx) W σ m H1 (RD (T.ex xx)) ((ts env h).bind fun xs h => cl.call f xs h) Q := q
          rw [e2] at q
          intro m1 vs H2 s1 R1 r1
          exact ⟨xx, m1, h', ds, by rw [← r1.length]; exact hlen env h ds h' e2, R1, r1, EvP.step s1 q⟩
        | exc z h' =>
          have q : EvP (T.ex xx) W σ m H1 (RD (T.ex xx)) ((ts env h).bind fun xs h => cl.call f xs h) Q := q
          rw [e2] at q
          exact q
        | stuck =>
          have q : EvP (T.ex xx) W σ m H1 (RD (T.ex xx)) ((ts env h).bind fun xs h => cl.call f xs h) Q := q
          rw [e2] at q
          exact q⟩
      refine PySem.W.callWith_K (h₀ := X.base) I1.ok.mod.kin hk (thn (ha.run pos pins s1 σ H1 _ I1 q') fun us s2 ⟨vs, H2, I2, r, q2⟩ => ⟨I2.kIn, ?_⟩) (starEach_of (by simpa using hn.1)) (noStar_any hn.2)
      exact run_call c.tk F hr hb I2 r q2
    · exact q.elim
  · exact q.elim
omit c in
theorem se_dic0 {pos : Pos} : PE X (.Dict [] [] pos) (tE T W fun _ h => .ok (.dic [] []) h) :=
  tE_of pe_dnewK fun σ H Q xx m h env R S q => fun p hp => q m (.ref p) _ (Stp.laid hp) (R.laid hp) (by
    unfold RD
    exact ⟨rfl, rfl, p, rfl, ⟨⟨R.fresh hp, R.freshX hp⟩, upd_same⟩⟩)
end
end Py
end

section
set_option Elab.async false
set_option linter.all false
set_option maxRecDepth 100000
set_option maxHeartbeats 1000000
namespace Py
open PySem PySem.Spec PyProof.Rows L2
mutual
/-- small data, as the library's trees -/
def toPD : D → PyData
  | .bl b => .bool b
  | .int i => .int i
  | .str s => .str (SS s)
  | .tup ds => .tuple (toPDs ds)
  | .lst ds => .list (toPDs ds)
  | _ => .none
def toPDs : List D → List PyData
  | [] => []
  | d :: ds => toPD d :: toPDs ds
end
section
variable {T : Tb} {X : Cx} {pins : List (Addr × Obj)} {σ : L2.St} {H : Hp} {s : Shared} {m : List Addr} (hK : X.K = T.K) (I : Inv X pins σ H s)
include hK I
mutual
theorem rd_reads : ∀ (n : Nat) (d : D) {v : V} {u : Value}, showz n d = true → RD T m H d v → L2.RelV v u → ∃ as, Reads s.heap u (toPD d) as
  | n, .non, v, u, _, r, ru => by
    obtain rfl := rd_non_iff.mp r
    cases ru
    exact ⟨[], by show Reads s.heap .none (toPD .non) []; simp only [toPD]; exact .none⟩
  | n, .bl b, v, u, _, r, ru => by
    obtain rfl := rd_bl_iff.mp r
    cases ru
    exact ⟨[], by rw [toPD]; exact .bool _⟩
  | n, .int i, v, u, _, r, ru => by
    obtain rfl := rd_int_iff.mp r
    obtain ⟨t, rfl⟩ := ru
    exact ⟨[], by rw [toPD]; exact .int _ _⟩
  | n, .str i, v, u, _, r, ru => by
    obtain rfl := rd_str_iff.mp r
    obtain ⟨t, rfl⟩ := ru
    exact ⟨[], by rw [toPD]; exact .str _ _⟩
  | 0, .tup ds, v, u, h, r, ru => by simp [showz] at h
  | n + 1, .tup ds, v, u, h, r, ru => by
    obtain ⟨a, vs, rfl, q, rv⟩ := rd_tup_iff.mp r
    obtain rfl : u = Value.ref a := ru
    have e := q.sq
    rw [← hK] at e
    obtain ⟨its, rr, ⟨o, e1, e2, k, e3⟩, hz⟩ := I.tuple e
    simp only [showz, Bool.and_eq_true] at h
    obtain ⟨as, ra⟩ := rds_reads n ds h.2 rv rr
    exact ⟨as, by rw [toPD]; exact .tuple e1 e2 e3 (by simpa using ra)⟩
  | 0, .lst ds, v, u, h, r, ru => by simp [showz] at h
  | n + 1, .lst ds, v, u, h, r, ru => by
    obtain ⟨a, vs, rfl, q, rv⟩ := rd_lst_iff.mp r
    obtain rfl : u = Value.ref a := ru
    have e := q.sq
    rw [← hK] at e
    obtain ⟨its, rr, ⟨o, k, e1, e2, e3, e4⟩, hz⟩ := I.list e
    simp only [showz, Bool.and_eq_true] at h
    obtain ⟨as, ra⟩ := rds_reads n ds h.2 rv rr
    exact ⟨a :: as, by rw [toPD]; exact .list e1 e2 e4 (by simpa using ra)⟩
  | n, .fz _, v, u, h, r, ru => by simp [showz] at h
  | n, .dic _ _, v, u, h, r, ru => by simp [showz] at h
  | n, .obj _ _ _, v, u, h, r, ru => by simp [showz] at h
  | n, .ref _, v, u, h, r, ru => by simp [showz] at h
  | n, .clo _ _, v, u, h, r, ru => by simp [showz] at h
  | n, .nam _, v, u, h, r, ru => by simp [showz] at h
theorem rds_reads : ∀ (n : Nat) (ds : List D) {vs : List V} {us : List Value}, showzs n ds = true → RDs T m H ds vs → Vals vs us → ∃ as, ReadsAll s.heap us (toPDs ds) as
  | n, [], vs, us, _, r, ru => by
    unfold RDs at r
    subst r
    cases ru
    exact ⟨[], by rw [toPDs]; exact .nil⟩
  | n, d :: ds, vs, us, h, r, ru => by
    unfold RDs at r
    obtain ⟨v, q, rfl, r1, r2⟩ := r
    cases ru with
    | cons a b =>
      simp only [showzs, Bool.and_eq_true] at h
      obtain ⟨as, ra⟩ := rd_reads n d h.1 r1 a
      obtain ⟨bs, rb⟩ := rds_reads n ds h.2 r2 b
      exact ⟨as ++ bs, by rw [toPDs]; exact .cons ra rb⟩
end
end
/-! ### the text's bounds -/
theorem SS_cps (i : List Nat) : (SS i).cps.toList = i := by simp [SS]
mutual
theorem toPD_show : ∀ (n : Nat) (d : D), showz n d = true → (toPD d).showable = true ∧ (toPD d).hasDict = false ∧ (toPD d).depth ≤ n ∧ (toPD d).leavesShort 31 = true ∧ (toPD d).weight ≤ wt d
  | n, .non, _ => by
    rw [toPD] <;> first | (intros; contradiction) | (refine ⟨rfl, rfl, Nat.zero_le _, rfl, Nat.zero_le _⟩)
  | n, .bl b, _ => by
    rw [toPD]
    exact ⟨rfl, rfl, Nat.zero_le _, rfl, Nat.zero_le _⟩
  | n, .int i, h => by
    rw [showz] at h
    have h := of_decide_eq_true h
    have h1 : i.natAbs < 10 ^ 30 := by have e : (10 : Nat) ^ 30 = 1000000000000000000000000000000 := by decide
                                       omega
    have h2 : i.natAbs.log2 < 100 := by
      by_cases z : i.natAbs = 0
      · rw [z]; decide
      · rw [Nat.log2_lt z]
        have e : (10 : Nat) ^ 30 < 2 ^ 100 := by decide
        omega
    rw [toPD]
    refine ⟨?_, rfl, Nat.zero_le _, ?_, ?_⟩
    · rw [PyData.showable]
      exact decide_eq_true (by omega)
    · rw [PyData.leavesShort]
      refine decide_eq_true ?_
      have e := int_text_length_le10 (k := 30) (by decide) h1
      show (Str.ofString (toString i)).length ≤ 31
      rw [PySem.ofString_length]; exact e
    · rw [PyData.weight, wt]
      split <;> omega
  | n, .str i, h => by
    rw [showz, Bool.and_eq_true] at h
    have h1 := h.1
    unfold okS at h1
    rw [List.all_eq_true] at h1
    rw [toPD]
    refine ⟨rfl, rfl, Nat.zero_le _, ?_, ?_⟩
    · rw [PyData.leavesShort, SS_cps, List.all_eq_true]
      intro c hc
      have := of_decide_eq_true (h1 c hc)
      exact decide_eq_true (by have e : (16 : Nat) ^ 8 = 4294967296 := by decide
                               omega)
    · rw [PyData.weight, wt, ← Array.length_toList, SS_cps]
      exact Nat.le_refl _
  | 0, .tup ds, h => by simp [showz] at h
  | n + 1, .tup ds, h => by
    simp only [showz, Bool.and_eq_true] at h
    obtain ⟨a, b, c, d, e⟩ := toPDs_show n ds h.2
    rw [toPD]
    refine ⟨by rw [PyData.showable]; exact a, by rw [PyData.hasDict]; exact b, by rw [PyData.depth]; omega, by rw [PyData.leavesShort]; exact d, by rw [PyData.weight, wt]; exact e⟩
  | 0, .lst ds, h => by simp [showz] at h
  | n + 1, .lst ds, h => by
    simp only [showz, Bool.and_eq_true] at h
    obtain ⟨a, b, c, d, e⟩ := toPDs_show n ds h.2
    rw [toPD]
    refine ⟨by rw [PyData.showable]; exact a, by rw [PyData.hasDict]; exact b, by rw [PyData.depth]; omega, by rw [PyData.leavesShort]; exact d, by rw [PyData.weight, wt]; exact e⟩
  | n, .fz _, h => by simp [showz] at h
  | n, .dic _ _, h => by simp [showz] at h
  | n, .obj _ _ _, h => by simp [showz] at h
  | n, .ref _, h => by simp [showz] at h
  | n, .clo _ _, h => by simp [showz] at h
  | n, .nam _, h => by simp [showz] at h
theorem toPDs_show : ∀ (n : Nat) (ds : List D), showzs n ds = true → PyData.showableAll (toPDs ds) = true ∧ PyData.hasDictAll (toPDs ds) = false ∧ PyData.depthAll (toPDs ds) ≤ n ∧ PyData.leavesShortAll 31 (toPDs ds) = true ∧ PyData.weightAll (toPDs ds) ≤ wts ds
  | n, [], _ => by
    rw [toPDs]
    exact ⟨rfl, rfl, Nat.zero_le _, rfl, Nat.zero_le _⟩
  | n, d :: ds, h => by
    simp only [showzs, Bool.and_eq_true] at h
    obtain ⟨a, b, c, e, f⟩ := toPD_show n d h.1
    obtain ⟨a', b', c', e', f'⟩ := toPDs_show n ds h.2
    rw [toPDs]
    refine ⟨?_, ?_, ?_, ?_, ?_⟩
    · rw [PyData.showableAll, a, a']; rfl
    · rw [PyData.hasDictAll, b, b']; rfl
    · rw [PyData.depthAll]; omega
    · rw [PyData.leavesShortAll, e, e']; rfl
    · rw [PyData.weightAll, wts]; omega
end
theorem shows_fits {d : D} (h : shows d = true) : (toPD d).shown.length ≤ sizeLine := by
  unfold shows at h
  rw [Bool.and_eq_true, Bool.and_eq_true, decide_eq_true_eq] at h
  obtain ⟨a, b, c, e, f⟩ := toPD_show 4 d h.2.1
  have g := PyData.shown_le 31 (by decide) _ e
  have h2 : (31 + 2) * (toPD d).weight ≤ 33 * 400000 := Nat.mul_le_mul (by omega) (by omega)
  rw [sizeLine_eq]
  omega
def rRp (T : Tb) : List V → Hp → VK → Prop := fun vs H Q => ∃ X m h d, Rl (T.ex X) m h H ∧ RDs (T.ex X) m H [d] vs ∧ shows d = true ∧ Q (.str (toPD d).shown) H
theorem bi_repr {T : Tb} {X : Cx} (hK : X.K = T.K) (hu : X.A.units + 64 < cLine) (hg : X.A.guards = some []) : CallR X (.builtin "repr") (rRp T) := by
  intro pins s σ H vs us Q I r hq
  obtain ⟨xx, m, h, d, R, rx, e, q⟩ := hq
  obtain ⟨v, rfl, r1⟩ := rds_one _ rx
  have e0 := e
  unfold shows at e
  rw [Bool.and_eq_true, Bool.and_eq_true] at e
  obtain ⟨a1, b1, c1, _, _⟩ := toPD_show 4 d e.2.1
  cases r with
  | cons ru rn =>
    cases rn
    rename_i u
    obtain ⟨as, rd⟩ := rd_reads (T := T.ex xx) hK I 4 d e.2.1 r1 ru
    have hr : ∃ a, u = .ref a := by
      cases d with
      | tup ds => obtain ⟨a, vs, rfl, _, _⟩ := rd_tup_iff.mp r1; exact ⟨a, ru⟩
      | lst ds => obtain ⟨a, vs, rfl, _, _⟩ := rd_lst_iff.mp r1; exact ⟨a, ru⟩
      | _ => exact absurd e.1 Bool.false_ne_true
    obtain ⟨a, rfl⟩ := hr
    exact repr_of_reads' rd a1 (PyData.noDict_hsm b1) hg (by omega) (fun _ _ z => z) (fun h' u tk hk => ⟨.str (toPD d).shown, _, I.kept hk, ⟨u, rfl⟩, q⟩) (shows_fits e0)
section
variable {T : Tb} {W : WX} {sc : Scope} {N : List Str} {X : Cx} (c : Ctx T W sc N X)
theorem ev_wrap1 {xx : List Addr} {σ : L2.St} {m : List Addr} {H : Hp} {r : Res D} {Q : List V → Hp → Prop} (q : EvP (T.ex xx) W σ m H (RD (T.ex xx)) r fun v H => Q [v] H) : EvP (T.ex xx) W σ m H (RDs (T.ex xx)) (r.bind fun x h => .ok [x] h) Q := by
  cases r with
  | ok x h1 =>
    intro m' vs H' s R r
    obtain ⟨v, rfl, r1⟩ := rds_one _ r
    exact q m' v H' s R r1
  | exc x h1 => exact q
  | stuck => exact q
theorem rne_read {ta tb : Env → Hh → Res D} {α β : Type} {mk : Bool → α} {b0 : β} {σ : L2.St} {H : Hp} {xx m : List Addr} {h : Hh} {env : Env} {ρ : List Addr → Hp → α → β → Prop} {Q : β → Hp → Prop} {Q' : VK} (hρ : ∀ m H, ρ m H (mk false) b0) (R : Rl (T.ex xx) m h H) (S : RS (T.ex xx) m H env σ)
    (q : EvP (T.ex xx) W σ m H ρ ((ta env h).bind fun x h => if shows x then (tb env h).bind fun y h => if D.beq x y then .ok (mk false) h else .stuck else .stuck) Q) (hQ : ∀ H, Q b0 H → Q' (.bl false) H) :
    tOp rNe (tCB (rRp T) (tA T W fun env h => (ta env h).bind fun x h => .ok [x] h)) (tCB (rRp T) (tA T W fun env h => (tb env h).bind fun x h => .ok [x] h)) σ H Q' := by
  refine ⟨xx, m, h, env, R, S, ev_wrap1 (EvP.seq q fun x h1 m1 v H1 s1 R1 r1 q1 => ?_)⟩
  by_cases hs : shows x = true
  · rw [if_pos hs] at q1
    refine ⟨xx, m1, h1, x, R1, RDs.cons r1 .nil, hs, xx, m1, h1, env, R1, S.mono s1, ev_wrap1 (EvP.seq q1 fun y h2 m2 v2 H2 s2 R2 r2 q2 => ?_)⟩
    by_cases hb : D.beq x y = true
    · rw [if_pos hb] at q2
      obtain rfl := D.beq_eq hb
      refine ⟨xx, m2, h2, x, R2, RDs.cons r2 .nil, hs, rfl, ?_⟩
      rw [decide_eq_true rfl]
      exact hQ _ (q2 m2 _ H2 .refl R2 (hρ _ _))
    · rw [if_neg hb] at q2
      exact q2.elim
  · rw [if_neg hs] at q1
    exact q1.elim
include c
theorem pe_rp {a : Expr} {ta : Env → Hh → Res D} {p pos : Pos} (ha : PE X a (tE T W ta)) (hn : isStar a = false) (hg : sc.names.lookup ("repr" : Str) = some .globalImplicit) (hm : T.mg "repr" = none) (hr : X.A.guards = some []) :
    PE X (.Call (.Name "repr" p) [a] [] pos) (tCB (rRp T) (tA T W fun env h => (ta env h).bind fun x h => .ok [x] h)) :=
  pe_callB (bi_repr c.K c.un hr) (c.glo _ hg) (by rw [c.mg]; exact hm) rfl (sa_one ha hn) (by decide) (by decide) (starEach_of hn) rfl
theorem se_rne {a b : Expr} {ta tb : Env → Hh → Res D} {p1 p2 p3 p4 pos : Pos} (ha : PE X a (tE T W ta)) (hb : PE X b (tE T W tb)) (na : isStar a = false) (nb : isStar b = false) (hg : sc.names.lookup ("repr" : Str) = some .globalImplicit) (hm : T.mg "repr" = none) (hr : X.A.guards = some []) :
    PE X (.Compare (.Call (.Name "repr" p1) [a] [] p2) [.NotEq] [.Call (.Name "repr" p3) [b] [] p4] pos) (tE T W fun env h => (ta env h).bind fun x h => if shows x then (tb env h).bind fun y h => if D.beq x y then .ok (.bl false) h else .stuck else .stuck) :=
  tE_of (pe_cmpR op_ne (pe_rp c ha na hg hm hr) (pe_rp c hb nb hg hm hr) (nomark _)) fun σ H Q xx m h env R S q =>
    rne_read (mk := D.bl) (b0 := V.bl false) (fun _ _ => rd_bl) R S q fun _ z => z
theorem st_rne {a b : Expr} {ta tb : Env → Hh → Res D} {p1 p2 p3 p4 pos : Pos} (ha : PE X a (tE T W ta)) (hb : PE X b (tE T W tb)) (na : isStar a = false) (nb : isStar b = false) (hg : sc.names.lookup ("repr" : Str) = some .globalImplicit) (hm : T.mg "repr" = none) (hr : X.A.guards = some []) :
    PT X (.Compare (.Call (.Name "repr" p1) [a] [] p2) [.NotEq] [.Call (.Name "repr" p3) [b] [] p4] pos) (tT T W fun env h => (ta env h).bind fun x h => if shows x then (tb env h).bind fun y h => if D.beq x y then .ok false h else .stuck else .stuck) :=
  tT_of (pt_cmpR op_ne (pe_rp c ha na hg hm hr) (pe_rp c hb nb hg hm hr) (nomark _)) fun σ H Q xx m h env R S q =>
    rne_read (mk := id) (b0 := false) (fun _ _ => rfl) R S q fun _ z => ⟨false, rfl, z⟩
end
end Py
end

section
set_option Elab.async false
set_option linter.all false
set_option maxRecDepth 100000
set_option maxHeartbeats 1000000
namespace Py
open PySem PySem.Spec PyProof.Rows L2
/-- a def called by keywords alone: their values, put in the parameters' order by perm -/
def KwAt (T : Tb) (P : Program) (w : World) (base : Heap) (k : Nat) (f : String) (ks : List Str) (perm : List Nat) (g : List D → Hh → Res D) : Prop :=
  ∃ fa fd ps, T.mg (Str.ofString f) = some (.ref fa) ∧ PySem.W.keepIn T.K (.ref fa) = true ∧ (∀ (s : Shared) (ws : List Value), T.K.In s.heap → ws.length = perm.length → BindsTo s fd ⟨[], ks.zip ws⟩ (ps.zip (perm.map fun i => ws.getD i .none))) ∧ ps.length = perm.length ∧ FnOk P w T.K T.mg base (CX P w) k fa fd ps (spF T perm.length g)
theorem RDs.perm {T : Tb} {m : List Addr} {H : Hp} {ds : List D} {vs : List V} (r : RDs T m H ds vs) : ∀ (perm : List Nat), RDs T m H (perm.map fun i => ds.getD i .non) (perm.map fun i => vs.getD i .non)
  | [] => .nil
  | i :: perm => by
    refine .cons ?_ (RDs.perm r perm)
    show RD T m H (ds.getD i .non) (vs.getD i .non)
    by_cases h : i < ds.length
    · obtain ⟨v, e, q⟩ := r.get (List.getElem?_eq_getElem h)
      rw [List.getD_eq_getElem?_getD, List.getD_eq_getElem?_getD, e, List.getElem?_eq_getElem h]
      exact q
    · have hv : ¬ i < vs.length := by rw [← r.length]; exact h
      rw [List.getD_eq_getElem?_getD, List.getD_eq_getElem?_getD, List.getElem?_eq_none (Nat.le_of_not_lt h), List.getElem?_eq_none (Nat.le_of_not_lt hv)]
      exact rd_non
theorem vals_perm {vs : List V} {us : List Value} (r : Vals vs us) : ∀ (perm : List Nat), Vals (perm.map fun i => vs.getD i V.non) (perm.map fun i => us.getD i Value.none)
  | [] => .nil
  | i :: perm => by
    refine .cons ?_ (vals_perm r perm)
    show RelV (vs.getD i V.non) (us.getD i Value.none)
    have go : ∀ {vs : List V} {us : List Value}, Vals vs us → ∀ i, RelV (vs.getD i V.non) (us.getD i Value.none) := fun {vs us} r => by
      induction r with
      | nil => intro i; rfl
      | cons a b ih =>
        intro i
        cases i with
        | zero => exact a
        | succ i => exact ih i
    exact go r i
section
variable {T : Tb} {W : WX} {sc : Scope} {N : List Str} {X : Cx} (c : Ctx T W sc N X)
include c
theorem se_ck {f : String} {kws : List Keyword} {p pos : Pos} {ts : Env → Hh → Res (List D)} {k : Nat} {ks : List Str} {perm : List Nat} {g : List D → Hh → Res D} (F : KwAt T X.prog X.w X.base k f ks perm g) (hr : Room k X.A) (ha : PK X kws (tA T W ts)) (hlen : ∀ env h ds h', ts env h = .ok ds h' → ds.length = perm.length)
    (hg : sc.names.lookup (Str.ofString f) = some .globalImplicit) (hd : (Str.ofString f == ("__debug__" : Str)) = false) (hall : (backToKw pos (keywordEach kws X.env)).all (·.1.isSome) = true) (hks : (backToKw pos (keywordEach kws X.env)).filterMap (·.1) = ks)
    (hpl : ((backTo pos (starEach [] X.env)).any (·.1) || (backToKw pos (keywordEach kws X.env)).any (·.1.isNone)) = false) :
    PE X (.Call (.Name (Str.ofString f) p) [] kws pos) (tE T W fun env h => (ts env h).bind fun xs h => g (perm.map fun i => xs.getD i .non) h) := by
  obtain ⟨fa, fd, ps, hm, hk, hb, hps, F⟩ := F
  have hm' : X.mg (Str.ofString f) = some (.ref fa) := by rw [c.mg]; exact hm
  rw [← c.K, ← c.mg] at F
  rw [← c.K] at hk hb
  refine ⟨fun pins s σ H Q I ⟨xx, m, h, env, R, S, q⟩ => ?_⟩
  have q' : tA T W ts σ H (fun vs H1 => vs.length = perm.length ∧ spF T perm.length g (perm.map fun i => vs.getD i .non) H1 Q fun C d H' => W C d σ H') := ⟨xx, m, h, env, R, S, by
    have q : EvP (T.ex xx) W σ m H (RD (T.ex xx)) ((ts env h).bind fun xs h => g (perm.map fun i => xs.getD i .non) h) Q := q
    cases e : ts env h with
    | ok ds h1 =>
      rw [e] at q
      exact fun m1 vs H1 s1 R1 r1 => ⟨by rw [← r1.length]; exact hlen _ _ _ _ e, xx, m1, h1, _, by rw [List.length_map], R1, r1.perm perm, EvP.step s1 q⟩
    | exc z h1 =>
      rw [e] at q
      exact q
    | stuck =>
      rw [e] at q
      exact q.elim⟩
  refine wpAny_Call_Name_kw (ld_glob I (c.glo _ hg) hm' ?_ hd)
  refine PySem.W.callWith_KW0 (h₀ := X.base) I.ok.mod.kin hk hall (thn (ha.run pos pins s σ H _ I q') fun us s1 ⟨vs, H1, I1, r, hlv, q1⟩ => ⟨I1.kIn, ?_⟩) hpl
  rw [hks]
  have r2 : Vals (perm.map fun i => vs.getD i V.non) (perm.map fun i => us.getD i Value.none) := vals_perm r perm
  have hl : us.length = perm.length := by rw [← r.length]; exact hlv
  refine wpAny_call (codeAny_mono (F.run X.A X.stack s1 H1 ⟨[], ks.zip us⟩ _ _ Q _ hr I1.env0 (hb s1 us I1.kIn hl) r2 q1) fun res s' hq => ?_)
  match res, hq with
  | .error e, hq => exact c.tk _ _ (XE.of_call I1 (fun _ _ _ z => z) hq)
  | .ok (.ret u), hq => exact I1.after hq
  | .ok .next, hq => exact hq.elim
  | .ok .brk, hq => exact hq.elim
  | .ok .cont, hq => exact hq.elim
end
theorem kw_map {env : PySem.Env} {pos : Pos} : ∀ (kws : List Keyword), (backToKw pos (keywordEach kws env)).map (·.1) = kws.map (·.arg)
  | [] => rfl
  | ⟨a, e, p⟩ :: kws => by
    have ih := kw_map (env := env) (pos := pos) kws
    show a :: (backToKw pos (keywordEach kws env)).map (·.1) = a :: kws.map (·.arg)
    rw [ih]
theorem kw_all {env : PySem.Env} {pos : Pos} {kws : List Keyword} {ks : List Str} (h : kws.map (·.arg) = ks.map some) : (backToKw pos (keywordEach kws env)).all (·.1.isSome) = true ∧ (backToKw pos (keywordEach kws env)).filterMap (·.1) = ks ∧
    ((backTo pos (starEach [] env)).any (·.1) || (backToKw pos (keywordEach kws env)).any (·.1.isNone)) = false := by
  have m := (kw_map (env := env) (pos := pos) kws).trans h
  generalize backToKw pos (keywordEach kws env) = l at m
  have e1 : l.all (·.1.isSome) = (l.map (·.1)).all (·.isSome) := by rw [List.all_map]; rfl
  have e2 : l.filterMap (·.1) = (l.map (·.1)).filterMap id := by rw [List.filterMap_map]; rfl
  have e3 : l.any (·.1.isNone) = (l.map (·.1)).any (·.isNone) := by rw [List.any_map]; rfl
  refine ⟨by rw [e1, m]; simp, by rw [e2, m]; simp, ?_⟩
  show (false || l.any (·.1.isNone)) = false
  rw [e3, m]
  simp
end Py
end

section
set_option Elab.async false
set_option linter.all false
set_option maxRecDepth 100000
set_option maxHeartbeats 2000000
namespace Py
open PySem PySem.Spec PyProof.Rows L2 LamX
theorem set_same {α : Type} {l : List α} {i : Nat} {a : α} (e : l[i]? = some a) : l.set i a = l := by
  apply List.ext_getElem?
  intro j
  by_cases h : i = j
  · subst h
    rw [List.getElem?_set_self (List.getElem?_eq_some_iff.mp e).1, e]
  · rw [List.getElem?_set_ne h]
theorem upd_comm {H : Hp} {a b : Addr} {o u : HO} (n : a ≠ b) : upd (upd H a o) b u = upd (upd H b u) a o := by
  funext x
  by_cases h1 : x = a
  · subst h1
    rw [upd_ne n, upd_same, upd_same]
  · by_cases h2 : x = b
    · subst h2
      rw [upd_same, upd_ne h1, upd_same]
    · rw [upd_ne h2, upd_ne h1, upd_ne h1, upd_ne h2]
/-- behind the making of a lambda -/
theorem lam_rl {T : Tb} {m : List Addr} {h : Hh} {H H1 : Hp} {P c' : Addr} {q : Str} {ps : Array Value} (R : Rl T m h H) (t0 : T.t0 = some (P, q)) (hP : H P = some (.tbl ps)) (ht : TriplesOk ps.toList)
    (hT : ∀ (pos : Pos) (cv : Value), codeAmong pos ps.toList = some cv → ∃ c, cv = .ref c ∧ (c ∉ m ∧ c ∉ T.x) ∧ H c = some (CodeO c q)) {pos : Pos}
    (hH : H1 = H ∨ (H c' = none ∧ c' ≠ P ∧ H1 = upd (upd H P (.tbl (ps ++ #[rawInt pos.line, rawInt pos.col, .ref c']))) c' (CodeO c' q))) : Stp m H m H1 ∧ Rl T m h H1 := by
  rcases hH with rfl | ⟨nC, nP, rfl⟩
  · exact ⟨.refl, R⟩
  · obtain ⟨e0, e1⟩ := R.t0 _ t0
    have hm : P ∈ m := List.mem_of_getElem? e0
    rw [upd_comm nP.symm]
    have R1 : Rl T m h (upd H c' (CodeO c' q)) := R.laid nC
    have eL : (ps ++ #[rawInt pos.line, rawInt pos.col, .ref c']).toList = ps.toList ++ [rawInt pos.line, rawInt pos.col, .ref c'] := by simp
    have R2 := R1.write (o := .tab) (u := .tbl (ps ++ #[rawInt pos.line, rawInt pos.col, .ref c'])) e0 e1 (fun _ => rfl) ⟨P, q, _, t0, rfl, by rw [eL]; exact PySem.TriplesOk_snoc _ _ _ _ ht, fun pos' cv hc => by
      rw [eL] at hc
      rcases among_app _ ht hc with z | z
      · obtain ⟨c, h1, h2, h3⟩ := hT pos' cv z
        have n1 : c ≠ P := fun w => h2.1 (by rw [w]; exact hm)
        exact ⟨c, h1, h2, by rw [upd_ne n1, upd_ne (ne_of_none h3 nC)]; exact h3⟩
      · exact ⟨c', z, ⟨R.fresh nC, R.freshX nC⟩, by rw [upd_ne nP, upd_same]⟩⟩
    rw [set_same e1] at R2
    exact ⟨(Stp.laid nC).trans (Stp.write hm), R2⟩
section
variable {X : Cx} {pins : List (Addr × Obj)} {σ : L2.St} {H : Hp} {s : Shared}
/-- an object of ours that was not tracked is tracked from now on -/
theorem track {a : Addr} {φ : Heap → Prop} {oe : Obj} {vs : Array Value} (I : Inv X pins σ H s) (he : s.heap.get? a = some oe) (hd : oe.data = .fields vs) (na : H a = none) (n0 : X.s_0.heap.get? a = none) (nL : a ≠ X.env.locals) (np : ∀ p ∈ X.pn ++ pins, p.1 ≠ a) (new : ObjOk X.prog X.w (upd H a (.ext φ)) s.heap a (.ext φ)) :
    Inv X pins σ (upd H a (.ext φ)) s := by
  have nN : ∀ {b : Addr} {u : HO}, H b = some u → b ≠ a := fun {b u} e => ne_of_none e na
  have nS : ∀ b o, X.s_0.heap.get? b = some o → b ≠ a := fun b o e z => by
    rw [z, n0] at e
    cases e
  have nC : ∀ y c, X.env.cells.lookup y = some c → c ≠ a := fun y c e z => by
    obtain ⟨v, o, ho, hv⟩ := I.cell y c e
    rw [z, he] at ho
    cases ho
    rw [hd] at hv
    cases hv
  refine ⟨I.ok, I.os, I.bare, ⟨fun b o e n hb hq => I.base.keep b o e n hb hq, fun b o e n hb hq => I.base.slot b o e n hb hq, fun b o e n hq => ?_, fun b o e hq => I.base.there b o e hq, fun b xs e => ?_, fun b o u e => ?_, fun b ps e => ?_⟩, I.loc, I.cell, ?_, fun y c e => ?_, fun p hp => ?_, ?_, I.len⟩
  · rw [upd_ne (nS b o e)]
    exact I.base.free b o e n hq
  · have q := I.base.tups b xs e
    rw [upd_ne (nN q)]
    exact q
  · have q := I.base.frzs b o u e
    rw [upd_ne (nN q)]
    exact q
  · obtain ⟨m, q⟩ := I.base.tbls b ps e
    exact ⟨m, by rw [upd_ne (nN q)]; exact q⟩
  · rw [upd_ne nL.symm]
    exact I.free
  · rw [upd_ne (nC y c e)]
    exact I.freeC y c e
  · obtain ⟨e, n, ne, nf, d⟩ := I.pin p hp
    exact ⟨e, by rw [upd_ne (np p hp)]; exact n, ne, nf, d⟩
  · exact HOk.laidN I.hok (fun _ _ e => e) na new
end
end Py
end

section
set_option Elab.async false
set_option linter.all false
set_option maxRecDepth 100000
set_option maxHeartbeats 2000000
namespace Py
open PySem PySem.Spec PyProof.Rows L2 LamX
/-- an exception that is kept as a value, its dict d -/
def ExK (cls : Value) (d : Option Addr) (a : Addr) : HO := .ext fun h => ∃ (oe : Obj) (vs : Array Value), h.get? a = some oe ∧ Zc cls d oe ∧ oe.data = .fields vs
theorem exK_some {cls : Value} {dx a : Addr} : ExK cls (some dx) a = ExV cls dx a := rfl
/-- what 'try: .. except x as n: k = n' wishes of an exception of the body: slot i is n's, slot j is k's -/
def wKeep (K : PySem.W.Frag) (c : Value) (i j : Nat) (D : Ends) : WX := fun cls d σ H =>
  PySem.W.exmOne K cls c = some true ∧ ∀ a, H a = none → D.nx (((σ.set i (some (.ref a))).set j (some (.ref a))).set i none) (upd H a (ExK cls d a))
section
variable {X : Cx} {x n k : Str} {c : Value} {i j : Nat} {body : List Stmt} {np kp kn sp pos pos' : Pos} {tb : WX → TS}
theorem ps_keep (hex : X.ex = []) (hs : X.stack = X.env :: X.outer) (hf : X.env.frame = some X.env.locals) (hN : X.N.Nodup) (hi : X.N[i]? = some n) (hj : X.N[j]? = some k) (hln : X.env.kindOf n = some .local) (hlk : X.env.kindOf k = some .local) (hij : i ≠ j) (hc : Names X x c)
    (hdn : (n == ("__debug__" : Str)) = false) (hcn : (n == ("__classdict__" : Str)) = false)
    (hb : ∀ (W : WX) (pn : List (Addr × Obj)) (xe : Value → Shared → Prop), Takes (X.tr pn xe) W → PassesOwn (model X.prog X.w) X.A X.env xe → PSs (X.tr pn xe) body (tb W)) :
    PS X (.Try body [.ExceptHandler (some (.Name x np)) (some n) [.Assign [.Name k kp] (.Name n kn) sp] pos'] [] [] pos) (fun D σ H => tb (wKeep X.K c i j D) D σ H) := by
  refine ⟨fun pins s σ H D I h => ?_⟩
  have ok := I.ok
  have hfr : X.A.frames = some (X.env :: X.outer) := by rw [ok.frames, hs]
  have hloc : Loc X.env.scope n := .inl hln
  have hlock : Loc X.env.scope k := .inl hlk
  refine wpAny_Try_except ?_
  refine wpAny_mono ((hb (wKeep X.K c i j D) (X.pn ++ pins) (fun e s₁ => wpAny (model X.prog X.w) X.A (noteFrame e X.env) (fun _ s₂ => wpAny (model X.prog X.w) X.A (setFlight e none) (fun _ s₃ =>
    wpAny (model X.prog X.w) X.A (handleBy e X.env [.ExceptHandler (some (.Name x np)) (some n) [.Assign [.Name k kp] (.Name n kn) sp] pos']) (SP X pins D) X.xe s₃) X.xe s₂) X.xe s₁) (fun u s' xx => ?_) PassesOwn.looking).run [] s σ H D (I.toTry _) h) (fun f s1 hsp => ?_) (fun e s1 he => he)
  · obtain ⟨a, B, sI, pins', σ', H', cls, d, rfl, J', nb, up, sky, na, os, ag, hb1, hyes⟩ := xx
    have J : Inv X pins σ' H' sI := J'.ofTry ok
    have sky' : Sky B (X.env :: X.outer) a (Zc cls d) X.env.locals s'.heap := by rw [← hs]; exact sky
    show wpAny (model X.prog X.w) X.A (noteFrame (.ref a) X.env) _ _ _
    refine Sky.land Zc.steady hfr hf sky' fun h3 fl3 up3 => ?_
    have J3 : Inv X pins σ' H' { s' with heap := h3 } := J.landed nb fl3.1 (up.trans up3) os ag
    obtain ⟨oe3, vs3, he3, hz3, hd3⟩ := fl3.there
    have nfr : a ∉ frs (X.env :: X.outer) := fun hm => by
      obtain ⟨_, o', e', hnf⟩ := fl3.2.2.1.mem hm
      rw [he3] at e'
      cases e'
      exact hnf _ hd3
    have nL : a ≠ X.env.locals := fun z => nfr (List.mem_filterMap.mpr ⟨X.env, List.mem_cons_self, by rw [hf, z]⟩)
    have nF : a ∉ X.fs := fun hm => by
      obtain ⟨e, he, q⟩ := List.mem_filterMap.mp hm
      exact nfr (List.mem_filterMap.mpr ⟨e, List.mem_cons_of_mem _ he, q⟩)
    have nB : B.get? a = none := fl3.2.1
    have nI : sI.heap.get? a = none := by
      cases e : sI.heap.get? a with
      | none => rfl
      | some o =>
        rw [nb a o e (by rw [hs]; exact nfr)] at nB
        cases nB
    have n0 : X.s_0.heap.get? a = none := by
      cases e : X.s_0.heap.get? a with
      | none => rfl
      | some o =>
        obtain ⟨o', e'⟩ := J.base.there a o e (by rw [hex]; exact fun z => nomatch z)
        rw [nI] at e'
        cases e'
    have nP : ∀ p ∈ X.pn ++ pins, p.1 ≠ a := fun p hp z => by
      obtain ⟨e, _⟩ := J.pin p hp
      rw [z, nI] at e
      cases e
    have S3 := J3.suite he3 hd3 na nL nF
    refine wpAny_handleBy_cons (codeAny_handlers_test ?_) (by intro q; cases q)
    have LT : PySem.W.Looks (model X.prog X.w) h3 (typeOf (.ref a)) cls := fun A Q E s k q => wpAny_typeOf_ref (k _ _ he3) (by rw [hz3.1]; exact q)
    have LM := PySem.W.exm_one (M := model X.prog X.w) (J3.kIn) LT hb1
    have test : ∀ {Q : Value → Shared → Prop} {E : Value → Shared → Prop}, Q c { s' with heap := h3 } → wpAny (model X.prog X.w) (X.A.mark (some (.ref a))) (eval (.Name x np) X.env) Q E { s' with heap := h3 } := fun {Q E} q => by
      obtain ⟨hg, hdbg, hm | ⟨hm, hv, hnn⟩⟩ := hc
      · exact ld_glob (X := X.suite a ((a, oe3) :: (X.pn ++ pins))) S3 hg hm q hdbg
      · exact ld_blt (X := X.suite a ((a, oe3) :: (X.pn ++ pins))) S3 hg hm hv q hnn hdbg
    refine test (LM.here ?_)
    refine codeAny_handlers_suite_as ?_
    refine HandSPX.lands_againZ fl3 fun h4 fl4 up4 => ?_
    have J4 : Inv X pins σ' H' { s' with heap := h4 } := J.landed nb fl4.1 ((up.trans up3).trans up4) os ag
    obtain ⟨oe4, vs4, he4, hz4, hd4⟩ := fl4.there
    have S4 := J4.suite he4 hd4 na nL nF
    refine store_ok (X := X.suite a ((a, oe4) :: (X.pn ++ pins))) (v := .ref a) S4 hN hi hloc rfl (fun s5 S5 => ?_) (.inr hln)
    have run := pss_one (ps_set (X := X.suite a ((a, oe4) :: (X.pn ++ pins))) (i := j) (x := k) (pos := sp) (pos' := kp) hN hj hlock (pe_var (X := X.suite a ((a, oe4) :: (X.pn ++ pins))) (pos := kn) hi (.inl hln) hdn hcn) rfl (.inr hlk))
    have hlen : i < σ'.length := by
      have := J.len
      have h2 := (List.getElem?_eq_some_iff.mp hi).1
      omega
    refine wpAny_mono (run.run [] s5 _ H' { nx := fun σ6 H6 => σ6 = (σ'.set i (some (.ref a))).set j (some (.ref a)) ∧ H6 = H', rt := fun _ _ => False } S5 ⟨.ref a, List.getElem?_set_self hlen, rfl, rfl⟩) (fun f s6 hsp => ?_) (fun _ _ z => False.elim z)
    cases f with
    | next =>
      obtain ⟨σ6, H6, S6, rfl, rfl⟩ := hsp
      have he6 : s6.heap.get? a = some oe4 := (S6.pin (a, oe4) (List.mem_append_left _ List.mem_cons_self)).1
      have J6 : Inv X pins _ H6 s6 := S6.unsuite ok
      have J7 := track (φ := fun h => ∃ (oe : Obj) (vs : Array Value), h.get? a = some oe ∧ Zc cls d oe ∧ oe.data = .fields vs) J6 he6 hd4 na n0 nL nP ⟨⟨oe4, vs4, he6, hz4, hd4⟩, ⟨oe4, he6⟩, fun h1 h2 ⟨o, v, e, r⟩ st => ⟨o, v, st o e, r⟩⟩
      exact gone_ok J7 hN hi hln fun s8 J8 => ⟨_, _, J8, hyes a na⟩
    | brk =>
      obtain ⟨_, _, _, q⟩ := hsp
      exact False.elim q
    | cont =>
      obtain ⟨_, _, _, q⟩ := hsp
      exact False.elim q
    | ret u =>
      obtain ⟨_, _, _, _, _, q⟩ := hsp
      exact False.elim q
  · cases f with
    | next =>
      obtain ⟨σ', H', J', q⟩ := hsp
      exact wpAny_execs_nil ⟨σ', H', J'.ofTry ok, q⟩
    | brk =>
      obtain ⟨σ', H', J', q⟩ := hsp
      exact ⟨σ', H', J'.ofTry ok, q⟩
    | cont =>
      obtain ⟨σ', H', J', q⟩ := hsp
      exact ⟨σ', H', J'.ofTry ok, q⟩
    | ret u =>
      obtain ⟨v, σ', H', J', r, q⟩ := hsp
      exact ⟨v, σ', H', J'.ofTry ok, r, q⟩
end
end Py
end

section
set_option Elab.async false
set_option linter.all false
set_option maxRecDepth 100000
set_option maxHeartbeats 2000000
namespace Py
open PySem PySem.Spec PyProof.Rows L2 LamX
theorem tE.imp {T : Tb} {W : WX} {f : Env → Hh → Res D} {σ : L2.St} {H : Hp} {Q Q' : VK} (t : tE T W f σ H Q) (h : ∀ v H', Q v H' → Q' v H') : tE T W f σ H Q' := by
  obtain ⟨xx, m, hh, env, R, S, q⟩ := t
  exact ⟨xx, m, hh, env, R, S, q.imp h⟩
/-- what the def that hears does behind the try, by its mirror -/
def fin? (r : SR) : Res D := match r with
  | .nx _ h => .ok .non h
  | .rt d h => .ok d h
  | _ => .stuck
theorem fin_ends {T : Tb} {W : WX} {xx m m' : List Addr} {σ : L2.St} {H H' : Hp} {r : SR} {Q : VK} (st : Stp m H m' H') (q : EvP (T.ex xx) W σ m H (RD (T.ex xx)) (fin? r) Q) : SvP (T.ex xx) W0 m' H' r { nx := fun _ H' => Q .non H', rt := Q } := by
  cases r with
  | nx e h => exact fun m2 σ2 H2 s R S => q m2 .non H2 (st.trans s) R rd_non
  | rt d h => exact fun m2 v H2 s R r => q m2 v H2 (st.trans s) R r
  | bk _ _ => exact q.elim
  | ct _ _ => exact q.elim
  | ex _ _ _ => exact q.elim
  | stuck => exact q.elim
section
variable {T : Tb} {W : WX} {sc : Scope} {N : List Str} {X : Cx} (c : Ctx T W sc N X)
include c
theorem se_hear {cl : Cl} {g lia : String} {b : E} {ga cc P CL : Addr} {k j : Nat} {a nf nc n : Str} {pg : Arguments} {sg : Scope} {bg tl : List Stmt} {dV kV doc pm cdv ct oc : Value} {an od : Option Addr} {osl : Array (Option Value)} {Ng ps : List Str} {ft : Env → Hh → SR}
    {params : Arguments} {body : Expr} {scope : Scope} {p lpos pos p1 p2 p3 p4 p5 p6 p7 p8 p9 pa pb pc pd pe pf pt ph pi pj : Pos} {kt k2 kc : Nat}
    (t0 : T.t0 = some (P, X.env.qual ++ "<lambda>")) (TB : TabB X.base X.mg cc P) (hcode : X.env.code = .ref cc) (hm : T.mg (Str.ofString g) = some (.ref ga)) (hk : PySem.W.keepIn T.K (.ref ga) = true) (hdb : (Str.ofString g == ("__debug__" : Str)) = false) (hg : sc.names.lookup (Str.ofString g) = some .globalImplicit)
    (lk : T.K.lookup ga = some ⟨oc, od, .func (PySem.W.fnOf (Str.ofString g) (Str.ofString g) pg bg sg dV kV doc pm an cdv ct), osl⟩) (hcg : PySem.W.codeIn T.K cdv (Str.ofString g) = true) (hb : L2.Binds T.K (PySem.W.fnOf (Str.ofString g) (Str.ofString g) pg bg sg dV kV doc pm an cdv ct) [a] []) (Sg : FnScope Ng [a] sg)
    (hbg : bg = .Assign [.Tuple [.Name nf p1, .Name nc p2] kt pt] (.Tuple [.List [] p3, .Constant .none kc p4] k2 p5) p6 ::
      .Try [.Expr (.Call (.Attribute (.Name nf p7) "append" pa) [.Call (.Name a pb) [] [] pc] [] pd) pe] [.ExceptHandler (some (.Name (Str.ofString lia) pf)) (some n) [.Assign [.Name nc ph] (.Name n pi) pj] p8] [] [] p9 :: tl)
    (hN0 : Ng[0]? = some a) (hN1 : Ng[1]? = some nf) (hN2 : Ng[2]? = some nc) (hNj : Ng[j]? = some n) (hj : 2 < j) (h0 : sg.names.lookup a = some .local) (h1 : sg.names.lookup nf = some .local) (h2 : sg.names.lookup nc = some .local) (h3 : sg.names.lookup n = some .local)
    (hw : ∀ env : PySem.Env, env.scope = sg → swappedStores [.Tuple [.Name nf p1, .Name nc p2] kt pt] (.Tuple [.List [] p3, .Constant .none kc p4] k2 p5) env = pure (some [nf, nc])) (hap : (pa.endLine == pd.line) = true)
    (da : (a == ("__debug__" : Str)) = false) (da' : (a == ("__classdict__" : Str)) = false) (df : (nf == ("__debug__" : Str)) = false) (df' : (nf == ("__classdict__" : Str)) = false) (dn : (n == ("__debug__" : Str)) = false) (dn' : (n == ("__classdict__" : Str)) = false)
    (hlg : sg.names.lookup (Str.ofString lia) = some .globalImplicit) (hlm : T.mg (Str.ofString lia) = some (.ref CL)) (hld : (Str.ofString lia == ("__debug__" : Str)) = false)
    (htl : ∀ Z : Cx, CtxS T W0 sg Ng Z → Z.env.scope = sg → PSs Z tl (tS T W0 ft)) (hsub : ∀ y k b, cl.sub y k = some b → SubAt T y k b)
    (hr : Room (k + 2) X.A) (L : LamP X.N ps X.env.scope scope) (B : LB params body scope ps) (hk0 : params.kw_defaults = [])
    (hbody : ∀ (A : Around) (outer : List PySem.Env) (s : Shared) (H : Hp) (E : XK) (f c' : Addr), Room k (A.deeper (lamEnv X scope s.heap.objs.size f c')) → PE (lamCx X A outer s H E scope f c') body (tE T (fun C d _ H' => E C d H') (den cl b))) :
    PE X (.Call (.Name (Str.ofString g) p) [.Lambda params body scope lpos] [] pos) (tE T W fun env h => match den cl b env (h ++ [.lst []]) with
      | .ok d h1 => match h1[h.length]? with
        | some (.lst ds) => if ds.length < line then fin? (ft (none :: some (.ref h.length) :: some .non :: List.replicate (Ng.length - 3) none) (h1.set h.length (.lst (ds ++ [d])))) else .stuck
        | _ => .stuck
      | .exc (.obj k ks vs) h1 => if cl.sub k lia = some true then fin? (ft (none :: some (.ref h.length) :: some (.obj k ks vs) :: List.replicate (Ng.length - 3) none) h1) else .stuck
      | _ => .stuck) := by
  refine ⟨fun pins s σ H Q I ⟨xx, m, h, env, R, S, q⟩ => ?_⟩
  dsimp only at q
  have hm' : X.mg (Str.ofString g) = some (.ref ga) := by rw [c.mg]; exact hm
  refine wpAny_Call_Name_kw (ld_glob I (c.glo _ hg) hm' ?_ hdb)
  refine PySem.W.callWith_K (h₀ := X.base) I.ok.mod.kin (by rw [c.K]; exact hk) ?_ (by rfl) (by rfl)
  show wpAny _ _ (spliced ((false, eval (.Lambda params body scope lpos) X.env) :: backTo pos (starEach [] X.env))) _ _ s
  obtain ⟨e0, e1⟩ := R.t0 _ t0
  obtain ⟨aP, u, eP, hP, P', q', ps', t0', rfl, ht, hT⟩ := R.at_ 0 .tab e1
  rw [e0] at eP
  cases eP
  have t0'' : T.t0 = some (P', q') := t0'
  rw [t0] at t0''
  cases t0''
  refine Calls.spliced_cons (lam_mk I TB hcode rfl hP ht (fun pos cv hc => let ⟨c, a, _, b⟩ := hT pos cv hc; ⟨c, a, b⟩) (L.has I.ok) hk0 B.ok fun f c' dV' doc' pm' ctv dv s' H1 I1 hf hfn hfr hco hdf hdl hH => ?_)
  refine Calls.spliced_nil ⟨I1.kIn, ?_⟩
  obtain ⟨st1, R1⟩ := lam_rl R t0 hP ht hT hH
  have S1 := S.mono st1
  have lk' := lk
  rw [← c.K] at lk' hcg hb
  have rc : codeAny (model X.prog X.w) X.A (.call (.ref ga) ⟨[.ref f], []⟩) (CR C8.CX0 X.stack X.prog X.w H1 s' Q C8.E0) s' := by
    refine run_ofS (N := Ng) (ps := [a]) (us := [.ref f]) (vs := [.ref f]) lk' hcg Sg hr I1.env0 (hb s' [.ref f] I1.kIn rfl) (.cons rfl .nil) rfl fun hr' => ?_
    have CZ : CtxS T W0 sg Ng (cxOf C8.CX0 X.prog X.w X.K X.mg X.base Ng (Str.ofString g) sg ga cdv X.A X.stack s' H1 C8.E0) := {
      K := c.K, mg := c.mg, N := rfl, nd := Sg.nd, tk := fun _ _ x => by
        obtain ⟨_, _, _, _, _, _, _, _, _, _, _, _, _, _, _, _, z⟩ := x
        exact z.elim
      calm := rfl, un := hr'.units, kind := Sg.kind, vis := fun x h => h, loc := fun x h => h, cel := fun x h => ⟨h, rfl⟩, glo := fun x h => h, fre := fun x h => .inr h, po := passes_of rfl }
    have T' := htl _ CZ rfl
    have nj1 : j ≠ 2 := by omega
    rw [hbg]
    refine ⟨_, pss_cons (ps_par (i := 1) (j := 2) rfl Sg.nd hN1 hN2 (by decide) h1 h2 (pa_cons (pe_lst pa_nil) (pa_cons pe_non pa_nil rfl) rfl) (hw _ rfl) rfl) (pss_cons (ps_keep (c := .ref CL) (i := j) (j := 2) rfl rfl rfl Sg.nd hNj hN2 h3 h2 nj1 ⟨hlg, hld, .inl (by rw [← c.mg] at hlm; exact hlm)⟩ dn dn'
      (tb := fun W D σZ HZ => ∃ p, σZ[1]? = some (some (.ref p)) ∧ HZ p = some (.lst []) ∧ σZ[0]? = some (some (.ref f)) ∧ HZ c' = some (CodeO c' (X.env.qual ++ "<lambda>")) ∧ ∃ Ech : XK, (∀ cls d H', Ech cls d H' → W cls d σZ H') ∧
        tE T (fun C d _ H' => Ech C d H') (den cl b) σ HZ fun v H2 => ∃ vs, H2 p = some (.lst vs) ∧ vs.length < sizeLine ∧ D.nx σZ (upd H2 p (.lst (vs ++ [v]))))
      (fun W pn xe tk po => PSs.imp (pss_one (ps_expr (pe_bm PySem.F.plainAttrs_list PySem.F.slot_list_append PySem.F.type_list_append mt_append (pe_var (i := 1) hN1 (.inl h1) df df')
        (pa_cons (act (i := 0) I1 L hf hfn hfr hdf hdl B tk hr' (fun A outer s H E hr2 => hbody A outer s H E f c' hr2) hN0 (.inl h0) da da') pa_nil rfl) rfl rfl hap rfl rfl) rfl)) fun D σZ HZ ⟨p, z1, z2, z3, z4, Ech, hW, te⟩ => ?_)) T'), ?_⟩
    · exact ⟨.ref p, z1, .inl ⟨rfl, [], .inl (.inl z2)⟩, z3, z4, Ech, hW, tE.imp te fun v H2 ⟨vs, e, hl, k⟩ => ⟨p, vs, v, rfl, rfl, e, hl, k⟩⟩
    · refine ⟨Nat.zero_le _, fun p hp => ⟨_, _, rfl, ?_⟩⟩
      have hNl : 4 ≤ Ng.length := by
        have := (List.getElem?_eq_some_iff.mp hNj).1
        omega
      have hsl : (L2.start Ng [V.ref f]).length = Ng.length := by
        unfold L2.start
        rw [List.length_append, List.length_map, List.length_replicate]
        simp only [List.length_cons, List.length_nil]
        omega
      have s0 : (L2.start Ng [V.ref f])[0]? = some (some (.ref f)) := rfl
      have stg : Stp m H1 (m ++ [p]) (upd H1 p (.lst [])) := Stp.grow hp
      have Rg : Rl (T.ex xx) (m ++ [p]) (h ++ [.lst []]) (upd H1 p (.lst [])) := R1.grow hp ⟨[], rfl, .nil⟩
      have ep : (m ++ [p])[h.length]? = some p := by
        rw [List.getElem?_append_right (by rw [R1.len]; exact Nat.le_refl _), R1.len, Nat.sub_self]
        rfl
      refine ⟨p, ?_, upd_same, ?_, by rw [upd_ne (ne_of_none hco hp)]; exact hco, fun C d H' => wKeep X.K (.ref CL) j 2 _ C d _ H', fun _ _ _ z => z, xx, m ++ [p], h ++ [.lst []], env, Rg, S1.mono stg, ?_⟩
      · rw [List.getElem?_set_ne (by decide), List.getElem?_set_self (by omega)]
      · rw [List.getElem?_set_ne (by decide), List.getElem?_set_ne (by decide)]
        exact s0
      cases hden : den cl b env (h ++ [.lst []]) with
      | stuck =>
        rw [hden] at q
        exact q.elim
      | ok d h1 =>
        rw [hden] at q
        dsimp only at q
        split at q
        · rename_i ds hd
          split at q
          · rename_i hz
            intro m' v H' st' R' r'
            obtain ⟨a', vs, e3, e4, rv⟩ := R'.lst hd
            have e5 : m'[h.length]? = some p := by
              obtain ⟨l, hl⟩ := st'.pre
              rw [← hl, List.getElem?_append_left (List.getElem?_eq_some_iff.mp ep).1, ep]
            rw [e5] at e3
            cases e3
            have hmp : p ∈ m' := List.mem_of_getElem? e5
            have stw : Stp m' H' m' (upd H' p (.lst (vs ++ [v]))) := Stp.write hmp
            refine ⟨vs, e4, by rw [← rv.length]; exact hz, xx, m', h1.set h.length (.lst (ds ++ [d])), _, R'.write e5 hd (fun z => by cases z) ⟨_, rfl, (rv.append (.one r')).mono stw⟩, ⟨?_, fun i e he => ?_⟩, fin_ends (((st1.trans stg).trans st').trans stw) q⟩
            · rw [List.length_set, List.length_set, hsl]
              simp only [List.length_cons, List.length_replicate]
              omega
            · match i, he with
              | 0, he => cases he
              | 1, he =>
                cases he
                refine ⟨.ref p, by rw [List.getElem?_set_ne (by decide), List.getElem?_set_self (by omega)], ?_⟩
                unfold RD
                exact ⟨p, rfl, e5⟩
              | 2, he =>
                cases he
                exact ⟨.non, by rw [List.getElem?_set_self (by rw [List.length_set]; omega)], rd_non⟩
              | i + 3, he =>
                simp only [List.getElem?_cons_succ, List.getElem?_replicate] at he
                split at he <;> cases he
          · exact q.elim
        · exact q.elim
      | exc x h1 =>
        rw [hden] at q
        cases x with
        | obj k0 ks vs =>
          dsimp only at q
          split at q
          · rename_i hsb
            intro m' C d H' st' R' rx
            obtain ⟨c0, ks0, vs0, Ca, dx, fs, ex, rfl, rfl, hmc, hdx, edx, hnm, rvs⟩ := rx
            cases ex
            obtain ⟨C1, Ck, hC1, hCk, _, hexm, _⟩ := hsub _ _ _ hsb
            have hmc' : T.mg (Str.ofString k0) = some (.ref Ca) := hmc
            rw [hC1] at hmc'
            cases hmc'
            rw [hlm] at hCk
            cases hCk
            rw [← c.K] at hexm
            refine ⟨hexm, fun a' ha' => ?_⟩
            have stl : Stp m' H' m' (upd H' a' (ExK (.ref Ca) (some dx) a')) := Stp.laid ha'
            have e5 : m'[h.length]? = some p := by
              obtain ⟨l, hl⟩ := st'.pre
              rw [← hl, List.getElem?_append_left (List.getElem?_eq_some_iff.mp ep).1, ep]
            refine ⟨xx, m', h1, _, R'.laid ha', ⟨?_, fun i e he => ?_⟩, fin_ends (((st1.trans stg).trans st').trans stl) q⟩
            · rw [List.length_set, List.length_set, List.length_set, List.length_set, List.length_set, hsl]
              simp only [List.length_cons, List.length_replicate]
              omega
            · match i, he with
              | 0, he => cases he
              | 1, he =>
                cases he
                refine ⟨.ref p, by rw [List.getElem?_set_ne (by omega), List.getElem?_set_ne (by decide), List.getElem?_set_ne (by omega), List.getElem?_set_ne (by decide), List.getElem?_set_self (by omega)], ?_⟩
                unfold RD
                exact ⟨p, rfl, e5⟩
              | 2, he =>
                cases he
                refine ⟨.ref a', by rw [List.getElem?_set_ne (by omega), List.getElem?_set_self (by rw [List.length_set, List.length_set, List.length_set]; omega)], ?_⟩
                unfold RD
                exact ⟨a', fs, rfl, ⟨Ca, dx, hC1, ⟨⟨R'.fresh ha', R'.freshX ha'⟩, upd_same⟩, ⟨⟨(stl.keep _ _ hdx.1 edx).1, hdx.2⟩, (stl.keep _ _ hdx.1 edx).2⟩⟩, hnm, rvs.mono stl⟩
              | i + 3, he =>
                simp only [List.getElem?_cons_succ, List.getElem?_replicate] at he
                split at he <;> cases he
          · exact q.elim
        | _ => exact q.elim
  refine wpAny_call (codeAny_mono rc fun r s2 hq => ?_)
  cases r with
  | error e => exact (show False from hq).elim
  | ok fl =>
    cases fl with
    | ret u => exact I1.after hq
    | next => exact False.elim hq
    | brk => exact False.elim hq
    | cont => exact False.elim hq
end
end Py
end

section
set_option Elab.async false
set_option linter.all false
set_option maxRecDepth 100000
namespace Py
open PySem PySem.Spec PyProof.Rows L2
/-- what the module gives: its constants, its defs (how many parameters), the built-ins that it leaves as they are -/
structure Gm where
  gk : List (String × D) := []
  fns : List (String × Nat) := []
  free : List String := []
  /-- own classes; those that may be raised, with their field; the defs that hear a lambda -/
  cls : List String := []
  rz : List (String × String) := []
  ears : List String := []
  /-- calls by keywords alone: the def, the names as they are written, the parameters' places among them -/
  kws : List (String × List String × List Nat) := []
  /-- repr may be called (the law's own run) -/
  rp : Bool := false
def Gm.dull (Γ : Gm) : Gm := { Γ with ears := [], rp := false }
def isSet : Expr → Bool
  | .Set .. => true | _ => false
def isLoc (o : Option NameKind) : Bool := match o with
  | some .local => true | some .cell => true | some .free => true | _ => false
def isLc (o : Option NameKind) : Bool := match o with
  | some .local => true | some .cell => true | _ => false
def isGlo (sc : Scope) (x : Str) : Bool := match sc.names.lookup x with
  | some .globalImplicit => true | _ => false
def isDbg (x : Str) : Bool := x == ("__debug__" : Str)
def isCd (x : Str) : Bool := x == ("__classdict__" : Str)
def isAt (N : List Str) (i : Nat) (x : Str) : Bool := match N[i]? with
  | some y => decide (y = x) | none => false
def noStars (es : List Expr) : Bool := es.all fun e => !isStar e
def bi1 : List String := ["len", "int", "abs", "tuple", "all", "any"]
def chkTys (Γ : Gm) (sc : Scope) : List String → List Expr → Bool
  | [], [] => true
  | n :: cs, e :: es => (match e with
    | .Name y _ => decide (y = Str.ofString n) && (tyNames.contains n && (isGlo sc y && Γ.free.contains n))
    | _ => false) && chkTys Γ sc cs es
  | _, _ => false
def vC (N : List Str) (sc : Scope) (i : Nat) (e : Expr) : Bool := match e with
  | .Name y _ => isAt N i y && (isLoc (sc.names.lookup y) && (!isDbg y && !isCd y))
  | _ => false
def ixC (ca cb : Expr → Bool) (e : Expr) : Bool := match e with
  | .Subscript a' b' _ => !isSl b' && (ca a' && cb b')
  | _ => false
def callC (Γ : Gm) (sc : Scope) (f : String) (ces : List Expr → Bool) (e : Expr) : Bool := match e with
  | .Call g es' ks _ => match g with
    | .Name y _ => ks.isEmpty && (decide (y = Str.ofString f) && (isGlo sc y && (!isDbg y && (noStars es' && (decide (Γ.fns.lookup f = some es'.length) && ces es')))))
    | _ => false
  | _ => false
def biC (Γ : Gm) (sc : Scope) (f : String) (ces : List Expr → Bool) (e : Expr) : Bool := match e with
  | .Call g es' ks _ => match g with
    | .Name y _ => ks.isEmpty && (decide (y = Str.ofString f) && (isGlo sc y && (bi1.contains f && (Γ.free.contains f && (match es' with
      | [a'] => !isStar a' && ces [a']
      | _ => false)))))
    | _ => false
  | _ => false
def isiC (Γ : Gm) (sc : Scope) (cs : List String) (ca : Expr → Bool) (e : Expr) : Bool := match e with
  | .Call g es' ks _ => match g with
    | .Name y _ => ks.isEmpty && (decide (y = ("isinstance" : Str)) && (isGlo sc y && (Γ.free.contains "isinstance" && (match es' with
      | [a', c'] => !isStar a' && (ca a' && (match c' with
        | .Tuple ts _ _ => decide (cs.length ≤ 100) && (match cs with | [] => false | _ :: _ => chkTys Γ sc cs ts)
        | .Name _ _ => (match cs with | [_] => chkTys Γ sc cs [c'] | _ => false)
        | _ => false))
      | _ => false))))
    | _ => false
  | _ => false
def iscC (Γ : Gm) (sc : Scope) (k : String) (ca : Expr → Bool) (e : Expr) : Bool := match e with
  | .Call g es' ks _ => match g with
    | .Name y _ => ks.isEmpty && (decide (y = ("isinstance" : Str)) && (isGlo sc y && (Γ.free.contains "isinstance" && (match es' with
      | [a', .Name z _] => !isStar a' && (ca a' && (decide (z = Str.ofString k) && (isGlo sc z && (!isDbg z && Γ.cls.contains k))))
      | _ => false))))
    | _ => false
  | _ => false
def rpC (ca : Expr → Bool) (e : Expr) : Bool := match e with
  | .Call g es ks _ => match g with
    | .Name y _ => ks.isEmpty && (decide (y = ("repr" : Str)) && (match es with
      | [a'] => !isStar a' && ca a'
      | _ => false))
    | _ => false
  | _ => false
def rneC (Γ : Gm) (sc : Scope) (ca cb : Expr → Bool) (e : Expr) : Bool := match e with
  | .Compare l os rs _ => match os, rs with
    | [o], [r] => decide (o = .NotEq) && (Γ.rp && (isGlo sc ("repr" : Str) && (Γ.free.contains "repr" && (rpC ca l && rpC cb r))))
    | _, _ => false
  | _ => false
def lamC (N : List Str) (sc scope : Scope) (params : Arguments) : Bool := match params with
  | ⟨[], [], none, [], [], none, []⟩ => lamPB N [] sc scope
  | ⟨[], [⟨a, _, _⟩], none, [], [], none, [.Constant (.int _) _ _]⟩ => lamPB N [a] sc scope
  | _ => false
def hearC (Γ : Gm) (N : List Str) (sc : Scope) (g : String) (cb : Scope → Expr → Bool) (e : Expr) : Bool := match e with
  | .Call q es ks _ => match q with
    | .Name y _ => ks.isEmpty && (decide (y = Str.ofString g) && (isGlo sc y && (!isDbg y && (Γ.ears.contains g && (match es with
      | [.Lambda params body scope _] => lamC N sc scope params && cb scope body
      | _ => false)))))
    | _ => false
  | _ => false
mutual
def chkTg (N : List Str) (sc : Scope) : Tg → Expr → Bool
  | .nm i, e => match e with
    | .Name x _ => isAt N i x && isLc (sc.names.lookup x)
    | _ => false
  | .tp ts, e => match e with
    | .Tuple es _ _ => noStars es && (decide (es.length = ts.length) && chkTgs N sc ts es)
    | _ => false
def chkTgs (N : List Str) (sc : Scope) : List Tg → List Expr → Bool
  | [], es => es.isEmpty
  | t :: ts, es => match es with
    | e :: es => chkTg N sc t e && chkTgs N sc ts es
    | [] => false
end
mutual
def chkE (Γ : Gm) (N : List Str) (sc : Scope) : E → Expr → Bool
  | .k d, e => match e with
    | .Constant c _ _ => match d with
      | .int i => decide (c = .int i)
      | .bl b => decide (c = .bool b)
      | .non => decide (c = .none)
      | .str s => decide (c = .str (SS s))
      | _ => false
    | _ => false
  | .gk x d, e => match e with
    | .Name y _ => decide (y = Str.ofString x) && (isGlo sc y && (!isDbg y && (match Γ.gk.lookup x with | some d' => D.beq d d' | none => false)))
    | _ => false
  | .gf x, e => match e with
    | .Name y _ => decide (y = Str.ofString x) && (isGlo sc y && (!isDbg y && (Γ.fns.lookup x).isSome))
    | _ => false
  | .v i, e => vC N sc i e
  | .bin o a b, e => match e with
    | .BinOp a' o' b' _ => decide (o' = bop o) && (chkE Γ N sc a a' && chkE Γ N sc b b')
    | _ => false
  | .neg a, e => match e with
    | .UnaryOp o a' _ => decide (o = .USub) && chkE Γ N sc a a'
    | _ => false
  | .and es, e => match e with
    | .BoolOp o vs _ => decide (o = .And) && (!es.isEmpty && chkEs Γ N sc es vs)
    | _ => false
  | .or es, e => match e with
    | .BoolOp o vs _ => decide (o = .Or) && (!es.isEmpty && chkEs Γ N sc es vs)
    | _ => false
  | .not a, e => match e with
    | .UnaryOp o a' _ => decide (o = .Not) && chkE Γ N sc a a'
    | _ => false
  | .cmp o a b, e => match e with
    | .Compare a' os bs _ => match os, bs with
      | [o'], [b'] => decide (o' = cop o) && (!isSet b' && (chkE Γ N sc a a' && chkE Γ N sc b b'))
      | _, _ => false
    | _ => false
  | .chain o p a b d, e => match e with
    | .Compare a' os bs _ => match os, bs with
      | [o', p'], [b', d'] => decide (o' = cop o) && (decide (p' = cop p) && (!isSet d' && (chkE Γ N sc a a' && (chkE Γ N sc b b' && chkE Γ N sc d d'))))
      | _, _ => false
    | _ => false
  | .ife t a b, e => match e with
    | .IfExp t' a' b' _ => chkT Γ N sc t t' && (chkE Γ N sc a a' && chkE Γ N sc b b')
    | _ => false
  | .tup es, e => match e with
    | .Tuple es' _ _ => chkSs Γ N sc es es'
    | _ => false
  | .al _ a, e => chkA Γ N sc a e
  | .ix a b, e => ixC (chkE Γ N sc a) (chkE Γ N sc b) e
  | .sl a lo hi, e => match e with
    | .Subscript a' s _ => match s with
      | .Slice l u st _ => st.isNone && (chkE Γ N sc a a' && (chkO Γ N sc lo l && chkO Γ N sc hi u))
      | _ => false
    | _ => false
  | .call f es, e => callC Γ sc f (chkEs Γ N sc es) e
  | .bi f es, e => biC Γ sc f (chkEs Γ N sc es) e
  | .isi a cs, e => isiC Γ sc cs (chkE Γ N sc a) e
  | .isc a k, e => iscC Γ sc k (chkE Γ N sc a) e
  | .att a f, e => match e with
    | .Attribute a' n _ => decide (n = Str.ofString f) && (noCall0 a' && chkE Γ N sc a a')
    | _ => false
  | .cv i es, e => match e with
    | .Call g es' ks _ => match g with
      | .Name y _ => ks.isEmpty && (isAt N i y && (isLoc (sc.names.lookup y) && (!isDbg y && (!isCd y && (!es'.isEmpty && (noStars es' && chkEs Γ N sc es es'))))))
      | _ => false
    | _ => false
  | .ck f es perm, e => match e with
    | .Call g es' ks _ => match g with
      | .Name y _ => es'.isEmpty && (decide (y = Str.ofString f) && (isGlo sc y && (!isDbg y && (decide (es.length = perm.length) && ((Γ.kws.any fun q => decide (q.1 = f) && (decide (q.2.2 = perm) && decide (ks.map (·.arg) = (q.2.1.map Str.ofString).map some))) && chkEs Γ N sc es (ks.map (·.value)))))))
      | _ => false
    | _ => false
  | .dic0, e => match e with
    | .Dict ks vs _ => ks.isEmpty && vs.isEmpty
    | _ => false
  | .hear g b, e => hearC Γ N sc g (fun scope body => chkE Γ.dull N scope b body) e
  | .rne a b, e => rneC Γ sc (chkE Γ N sc a) (chkE Γ N sc b) e
def chkT (Γ : Gm) (N : List Str) (sc : Scope) : E → Expr → Bool
  | .and es, e => match e with
    | .BoolOp o vs _ => decide (o = .And) && (!es.isEmpty && chkTs Γ N sc es vs)
    | _ => false
  | .or es, e => match e with
    | .BoolOp o vs _ => decide (o = .Or) && (!es.isEmpty && chkTs Γ N sc es vs)
    | _ => false
  | .not a, e => match e with
    | .UnaryOp o a' _ => decide (o = .Not) && chkT Γ N sc a a'
    | _ => false
  | .cmp o a b, e => match e with
    | .Compare a' os bs _ => match os, bs with
      | [o'], [b'] => decide (o' = cop o) && (!isSet b' && (chkE Γ N sc a a' && chkE Γ N sc b b'))
      | _, _ => false
    | _ => false
  | .chain o p a b d, e => match e with
    | .Compare a' os bs _ => match os, bs with
      | [o', p'], [b', d'] => decide (o' = cop o) && (decide (p' = cop p) && (!isSet d' && (chkE Γ N sc a a' && (chkE Γ N sc b b' && chkE Γ N sc d d'))))
      | _, _ => false
    | _ => false
  | .k d, e => match e with
    | .Constant c _ _ => match d with
      | .bl b => decide (c = .bool b)
      | _ => false
    | _ => false
  | .v i, e => vC N sc i e
  | .ix a b, e => ixC (chkE Γ N sc a) (chkE Γ N sc b) e
  | .call f es, e => callC Γ sc f (chkEs Γ N sc es) e
  | .bi f es, e => biC Γ sc f (chkEs Γ N sc es) e
  | .isi a cs, e => isiC Γ sc cs (chkE Γ N sc a) e
  | .isc a k, e => iscC Γ sc k (chkE Γ N sc a) e
  | .rne a b, e => rneC Γ sc (chkE Γ N sc a) (chkE Γ N sc b) e
  | _, _ => false
def chkTs (Γ : Gm) (N : List Str) (sc : Scope) : List E → List Expr → Bool
  | [], es => es.isEmpty
  | e :: es, vs => match vs with
    | v :: vs => chkT Γ N sc e v && chkTs Γ N sc es vs
    | [] => false
def chkEs (Γ : Gm) (N : List Str) (sc : Scope) : List E → List Expr → Bool
  | [], es => es.isEmpty
  | e :: es, vs => match vs with
    | v :: vs => chkE Γ N sc e v && chkEs Γ N sc es vs
    | [] => false
def chkSs (Γ : Gm) (N : List Str) (sc : Scope) : List (Bool × E) → List Expr → Bool
  | [], es => es.isEmpty
  | (b, e) :: es, vs => match vs with
    | v :: vs => (match b with
      | false => !isStar v && chkE Γ N sc e v
      | true => match v with
        | .Starred v' _ => chkE Γ N sc e v'
        | _ => false) && chkSs Γ N sc es vs
    | [] => false
def chkO (Γ : Gm) (N : List Str) (sc : Scope) : Option E → Option Expr → Bool
  | none, o => o.isNone
  | some e, o => match o with
    | some e' => chkE Γ N sc e e'
    | none => false
def chkA (Γ : Gm) (N : List Str) (sc : Scope) : A → Expr → Bool
  | .disp es, e => match e with
    | .List es' _ => noStars es' && chkEs Γ N sc es es'
    | _ => false
  | .comp elt tg it cs own, e => match e with
    | .ListComp elt' gs scope _ => match gs with
      | [⟨tg', iter', ifs', asy⟩] => decide (asy = 0) && (!isSet iter' && (blkC N sc scope (own.map fun i => (N.getD i "", i)) && (chkTg N scope tg tg' && ((slots tg).all (own.contains ·) &&
          (chkI Γ N sc it iter' && (chkCs Γ.dull N scope cs ifs' && chkE Γ.dull N scope elt elt'))))))
      | _ => false
    | _ => false
  | .of a, e => match e with
    | .Call g es' ks _ => match g with
      | .Name y _ => ks.isEmpty && (decide (y = ("list" : Str)) && (isGlo sc y && (Γ.free.contains "list" && (match es' with
        | [a'] => !isStar a' && chkE Γ N sc a a'
        | _ => false))))
      | _ => false
    | _ => false
  | .cat a b, e => match e with
    | .BinOp a' o' b' _ => decide (o' = .Add) && (chkE Γ N sc a a' && chkE Γ N sc b b')
    | _ => false
  | .rep a b, e => match e with
    | .BinOp a' o' b' _ => decide (o' = .Mult) && (chkE Γ N sc a a' && chkE Γ N sc b b')
    | _ => false
  | .sl a lo hi, e => match e with
    | .Subscript a' s _ => match s with
      | .Slice l u st _ => st.isNone && (chkE Γ N sc a a' && (chkO Γ N sc lo l && chkO Γ N sc hi u))
      | _ => false
    | _ => false
def chkCs (Γ : Gm) (N : List Str) (sc : Scope) : List E → List Expr → Bool
  | [], es => es.isEmpty
  | e :: es, vs => es.isEmpty && (match vs with
    | [v] => chkT Γ N sc e v
    | _ => false)
def chkI (Γ : Gm) (N : List Str) (sc : Scope) : It → Expr → Bool
  | .ex a, e => chkE Γ N sc a e
  | .rng a b, e => match e with
    | .Call g es' ks _ => match g with
      | .Name y _ => ks.isEmpty && (decide (y = ("range" : Str)) && (isGlo sc y && (Γ.free.contains "range" && (match es' with
        | [b'] => !isStar b' && (a.isNone && chkE Γ N sc b b')
        | [a', b'] => !isStar a' && (!isStar b' && (chkO Γ N sc a (some a') && chkE Γ N sc b b'))
        | _ => false))))
      | _ => false
    | _ => false
  | _, _ => false
end
end Py
end

section
set_option Elab.async false
set_option linter.all false
set_option maxRecDepth 100000
set_option maxHeartbeats 1000000
namespace Py
open PySem PySem.Spec PyProof.Rows L2
structure GOk (T : Tb) (Γ : Gm) : Prop where
  gk : ∀ x d, Γ.gk.lookup x = some d → GC T (Str.ofString x) d
  free : ∀ x, Γ.free.contains x = true → T.mg (Str.ofString x) = none
  cls : ∀ k, Γ.cls.contains k = true → ∃ C, T.mg (Str.ofString k) = some (.ref C)
theorem GOk.dull {T : Tb} {Γ : Gm} (g : GOk T Γ) : GOk T Γ.dull := ⟨g.gk, g.free, g.cls⟩
/-- the def g hears a lambda -/
def EarAt (T : Tb) (X : Cx) (cl : Cl) (Γ : Gm) (g : String) : Prop := ∃ k, 2 ≤ k ∧ Room (k + 2) X.A ∧ (∀ f n, Γ.fns.lookup f = some n → FnAt T X.prog X.w X.base k f n (cl.call f)) ∧ (∀ q ∈ Γ.kws, KwAt T X.prog X.w X.base k q.1 (q.2.1.map Str.ofString) q.2.2 (cl.call q.1)) ∧
  ∀ (W : WX) (sc : Scope) (N : List Str), Ctx T W sc N X → ∀ (b : E) (params : Arguments) (body : Expr) (scope : Scope) (p lpos pos : Pos) (ps : List Str), sc.names.lookup (Str.ofString g) = some .globalImplicit → (Str.ofString g == ("__debug__" : Str)) = false →
    LamP X.N ps X.env.scope scope → LB params body scope ps → params.kw_defaults = [] →
    (∀ (A : Around) (outer : List PySem.Env) (s : Shared) (H : Hp) (E : XK) (f c' : Addr), Room k (A.deeper (LamX.lamEnv X scope s.heap.objs.size f c')) → PE (LamX.lamCx X A outer s H E scope f c') body (tE T (fun C d _ H' => E C d H') (den cl b))) →
    PE X (.Call (.Name (Str.ofString g) p) [.Lambda params body scope lpos] [] pos) (tE T W (den cl (.hear g b)))
structure FOk (T : Tb) (X : Cx) (cl : Cl) (Γ : Gm) : Prop where
  fn : ∀ f n, Γ.fns.lookup f = some n → ∃ k, FnAt T X.prog X.w X.base k f n (cl.call f) ∧ Room k X.A
  ar : ∀ f n, cl.ar f = some n → Γ.fns.lookup f = some n
  rz : ∀ k f, Γ.rz.contains (k, f) = true → RzAt T X.prog X.w X.base k f
  rm : Γ.rz = [] ∨ Room 2 X.A
  sub : ∀ y k b, cl.sub y k = some b → SubAt T y k b
  at_ : ∀ y f, cl.at_ y f = true → AtAt T y f
  ear : ∀ g, Γ.ears.contains g = true → EarAt T X cl Γ g
  kw : ∀ q ∈ Γ.kws, ∃ k, KwAt T X.prog X.w X.base k q.1 (q.2.1.map Str.ofString) q.2.2 (cl.call q.1) ∧ Room k X.A
  rp : Γ.rp = true → X.A.guards = some []
theorem FOk.blk {T : Tb} {X : Cx} {cl : Cl} {Γ : Gm} (fo : FOk T X cl Γ) {s : Shared} {H : Hp} {scope : Scope} {env : PySem.Env} {fp : List Addr} : FOk T (X.blk s H scope env fp) cl Γ.dull :=
  ⟨fo.fn, fo.ar, fo.rz, fo.rm, fo.sub, fo.at_, (fun g h => by cases h), fo.kw, fun h => by cases h⟩
theorem PE.congr {T : Tb} {W : WX} {X : Cx} {e : Expr} {f g : Env → Hh → Res D} (p : PE X e (tE T W f)) (h : ∀ env hh, f env hh = g env hh) : PE X e (tE T W g) := by
  have : f = g := funext fun env => funext fun hh => h env hh
  rw [← this]
  exact p
theorem PT.congr {T : Tb} {W : WX} {X : Cx} {e : Expr} {f g : Env → Hh → Res Bool} (p : PT X e (tT T W f)) (h : ∀ env hh, f env hh = g env hh) : PT X e (tT T W g) := by
  have : f = g := funext fun env => funext fun hh => h env hh
  rw [← this]
  exact p
theorem isGlo_eq {sc : Scope} {x : Str} (h : isGlo sc x = true) : sc.names.lookup x = some .globalImplicit := by
  unfold isGlo at h
  split at h
  · assumption
  · cases h
theorem isLoc_eq {o : Option NameKind} (h : isLoc o = true) : o = some .local ∨ o = some .cell ∨ o = some .free := by
  unfold isLoc at h
  split at h
  · exact .inl rfl
  · exact .inr (.inl rfl)
  · exact .inr (.inr rfl)
  · cases h
theorem isLc_eq {o : Option NameKind} (h : isLc o = true) : o = some .local ∨ o = some .cell := by
  unfold isLc at h
  split at h
  · exact .inl rfl
  · exact .inr rfl
  · cases h
theorem isAt_eq {N : List Str} {i : Nat} {x : Str} (h : isAt N i x = true) : N[i]? = some x := by
  unfold isAt at h
  split at h
  · rename_i y e
    rw [e, of_decide_eq_true h]
  · cases h
theorem notSet {op : CmpOp} {b : Expr} (h : isSet b = false) : behindInMarks op b = false := by
  cases b <;> first | rfl | cases h
theorem notSetI {b : Expr} {env : PySem.Env} (h : isSet b = false) : ∀ x, foldedSetIterable b env x = pure x := by
  intro x
  cases b <;> first | rfl | cases h
section
variable {T : Tb} {N : List Str} {Γ : Gm} {cl : Cl} (g : GOk T Γ)
include g
theorem tys_ok {sc : Scope} : ∀ {cs : List String} {es : List Expr}, chkTys Γ sc cs es = true → TyL T sc es cs
  | [], [], _ => .nil
  | [], _ :: _, h => by cases h
  | _ :: _, [], h => by cases h
  | n :: cs, e :: es, h => by
    unfold chkTys at h
    rw [Bool.and_eq_true] at h
    obtain ⟨h1, h2⟩ := h
    split at h1
    · simp only [Bool.and_eq_true, decide_eq_true_eq] at h1
      obtain ⟨rfl, h3, h4, h5⟩ := h1
      exact .cons (by simpa using h3) (isGlo_eq h4) (g.free _ h5) (tys_ok h2)
    · cases h1
omit g in
mutual
theorem tg_ok {W : WX} {sc : Scope} {X : Cx} (c : Ctx T W sc N X) : ∀ {t : Tg} {e : Expr}, chkTg N sc t e = true → PG X e (gT T t) ∧ isStar e = false
  | .nm i, e, h => by
    unfold chkTg at h
    split at h
    · rename_i x p
      rw [Bool.and_eq_true] at h
      obtain ⟨h1, h2⟩ := h
      refine ⟨?_, rfl⟩
      have hN : X.N[i]? = some x := by rw [c.N]; exact isAt_eq h1
      rcases isLc_eq h2 with h2 | h2
      · exact sg_nm c.nd hN (.inl (c.loc x h2)) (.inr (c.loc x h2))
      · exact sg_nm c.nd hN (.inr (c.cel x h2).1) (.inl (c.cel x h2).2)
    · cases h
  | .tp ts, e, h => by
    unfold chkTg at h
    split at h
    · rename_i es k p
      simp only [Bool.and_eq_true, decide_eq_true_eq] at h
      obtain ⟨h1, h2, h3⟩ := h
      exact ⟨sg_tp c (tgs_ok c h1 h3) h2 h1, rfl⟩
    · cases h
theorem tgs_ok {W : WX} {sc : Scope} {X : Cx} (c : Ctx T W sc N X) : ∀ {ts : List Tg} {es : List Expr}, es.all (fun e => !isStar e) = true → chkTgs N sc ts es = true → PGs X es (gTs T ts)
  | [], [], _, _ => sgs_nil
  | [], _ :: _, _, h => by
    unfold chkTgs at h
    cases h
  | t :: ts, [], _, h => by
    unfold chkTgs at h
    cases h
  | t :: ts, e :: es, hn, h => by
    unfold chkTgs at h
    simp only [Bool.and_eq_true] at h
    rw [List.all_cons, Bool.and_eq_true] at hn
    exact sgs_cons (tg_ok c h.1).1 (tgs_ok c hn.2 h.2) (notb hn.1)
end
omit g in
theorem relS_free {sc : Scope} : ∀ {names : List (Str × NameKind)} {x : Str}, names.lookup x = some .free →
    (names.map fun (n, k) => if (k == NameKind.free && sc.kind == .function && sc.names.lookup n == some .cell) then (n, NameKind.cell) else (n, k)).lookup x = some .cell ∨
    (names.map fun (n, k) => if (k == NameKind.free && sc.kind == .function && sc.names.lookup n == some .cell) then (n, NameKind.cell) else (n, k)).lookup x = some .free
  | [], _, h => by simp at h
  | (n, k₀) :: r, x, h => by
    have ih := @relS_free sc r x
    have go : ∀ p : Str × NameKind, p.1 = n → (p.2 = .cell ∨ p.2 = k₀) → List.lookup x ((n, k₀) :: r) = some .free →
        List.lookup x (p :: r.map (fun (n, k) => if (k == NameKind.free && sc.kind == .function && sc.names.lookup n == some .cell) then (n, NameKind.cell) else (n, k))) = some .cell ∨
        List.lookup x (p :: r.map (fun (n, k) => if (k == NameKind.free && sc.kind == .function && sc.names.lookup n == some .cell) then (n, NameKind.cell) else (n, k))) = some .free := by
      rintro ⟨n', k'⟩ rfl hk h
      cases hx : x == n' with
      | true =>
        simp only [List.lookup_cons, hx] at h ⊢
        cases h
        rcases hk with hk | hk
        · left; rw [← hk]
        · right; rw [← hk]
      | false =>
        simp only [List.lookup_cons, hx] at h ⊢
        exact ih h
    simp only [List.map_cons]
    by_cases hc : (k₀ == NameKind.free && sc.kind == .function && sc.names.lookup n == some .cell) = true
    · rw [if_pos hc]; exact go (n, .cell) rfl (.inl rfl) h
    · rw [if_neg hc]; exact go (n, k₀) rfl (.inr rfl) h
omit g in
theorem takesW0 {X : Cx} : Takes X W0 := fun _ _ x => by
  obtain ⟨_, _, _, _, _, _, _, _, _, _, _, _, _, _, _, _, z⟩ := x
  exact z.elim
omit g in
/-- a comprehension's block is a context -/
theorem Ctx.blk {W : WX} {sc scope : Scope} {X : Cx} (c : Ctx T W sc N X) {own : List (Str × Nat)} (ok : BlkOk X.N X.env.scope scope own) (s : Shared) (H : Hp) (C : Addr) (cls : List (Str × Addr)) (fp : List Addr) :
    Ctx T W0 scope N (X.blk s H scope (compEnvC scope cls C X.env) fp) where
  K := c.K
  mg := c.mg
  N := c.N
  nd := c.nd
  tk := takesW0
  calm := c.calm
  un := c.un
  kind := ok.kind
  vis := fun x h => by
    rcases h with h | h | h
    · exact .inl (lookup_relS_keep (sc := X.env.scope) (by decide) h)
    · exact .inr (.inl (lookup_relS_keep (sc := X.env.scope) (by decide) h))
    · exact .inr (relS_free (sc := X.env.scope) h)
  loc := fun x h => lookup_relS_keep (sc := X.env.scope) (by decide) h
  cel := fun x h => ⟨lookup_relS_keep (sc := X.env.scope) (by decide) h, by show (scope.names.lookup x == some NameKind.cell) = true; rw [h]; rfl⟩
  glo := fun x h => lookup_relS_keep (sc := X.env.scope) (by decide) h
  fre := fun x h => relS_free (sc := X.env.scope) h
omit g in
theorem Ctx.blkOk {W : WX} {sc scope : Scope} {X : Cx} (c : Ctx T W sc N X) {own : List (Str × Nat)} (h : blkC N sc scope own = true) : BlkOk X.N X.env.scope scope own :=
  have b := blkOk_by h
  { kind := b.kind, uniq := b.uniq, ix := fun p hp => by rw [c.N]; exact b.ix p hp
    free := fun y hy e => (b.free y hy e).elim (fun z => .inl (c.cel _ z).1) (fun z => c.fre _ z)
    own := fun y hy e => by rw [c.N]; exact b.own y hy e }
end
end Py
end

section
set_option Elab.async false
set_option linter.all false
set_option maxRecDepth 100000
set_option maxHeartbeats 2000000
namespace Py
open PySem PySem.Spec PyProof.Rows L2
theorem ne_of_emp {α : Type} {l : List α} (h : (!l.isEmpty) = true) : l ≠ [] := by
  rintro rfl
  cases h
theorem Res.bind_bind {α β γ : Type} (r : Res α) (f : α → Hh → Res β) (g : β → Hh → Res γ) : (r.bind f).bind g = r.bind fun a h => (f a h).bind g := by
  cases r <;> rfl
abbrev Plain (e : Expr) : Prop := ∀ (env : PySem.Env) (whole : Sem Value), isTrue e env whole = (do let v ← whole; standAt e.pos; holding [v] (truthy v))
theorem PW.congr {T : Tb} {W : WX} {X : Cx} {e : Expr} {f g : Env → Hh → Res Bool} (p : PW X e (tT T W f)) (h : ∀ env hh, f env hh = g env hh) : PW X e (tT T W g) := by
  have : f = g := funext fun env => funext fun hh => h env hh
  rw [← this]
  exact p
theorem PA.congr {T : Tb} {W : WX} {X : Cx} {e : List Expr} {f g : Env → Hh → Res (List D)} (p : PA X e (tA T W f)) (h : ∀ env hh, f env hh = g env hh) : PA X e (tA T W g) := by
  have : f = g := funext fun env => funext fun hh => h env hh
  rw [← this]
  exact p
theorem PE.congrF {T : Tb} {W : WX} {X : Cx} {e : Expr} {f g : Env → Hh → Res (List D)} (p : PE X e (tF T W f)) (h : ∀ env hh, f env hh = g env hh) : PE X e (tF T W g) := by
  have : f = g := funext fun env => funext fun hh => h env hh
  rw [← this]
  exact p
theorem PO.congr {T : Tb} {W : WX} {X : Cx} {e : Option Expr} {f g : Env → Hh → Res (Option Int)} (p : PO X e (tO T W f)) (h : ∀ env hh, f env hh = g env hh) : PO X e (tO T W g) := by
  have : f = g := funext fun env => funext fun hh => h env hh
  rw [← this]
  exact p
theorem PI.congr {T : Tb} {W : WX} {X : Cx} {tg e : Expr} {f g : Env → Hh → Res (List D × Gd)} (p : PI X tg e (tI T W f)) (h : ∀ env hh, f env hh = g env hh) : PI X tg e (tI T W g) := by
  have : f = g := funext fun env => funext fun hh => h env hh
  rw [← this]
  exact p
theorem and2 {a b : Bool} (h : (a && b) = true) : a = true ∧ b = true := by simpa using h
theorem dens_len {cl : Cl} : ∀ {es : List E} {env : Env} {h : Hh} {ds : List D} {h' : Hh}, dens cl es env h = .ok ds h' → ds.length = es.length
  | [], env, h, ds, h', e => by
    rw [dens] at e
    cases e
    rfl
  | a :: es, env, h, ds, h', e => by
    rw [dens] at e
    cases e1 : den cl a env h with
    | ok x h1 =>
      rw [e1] at e
      have e : ((dens cl es env h1).bind fun xs h => Res.ok (x :: xs) h) = .ok ds h' := e
      cases e2 : dens cl es env h1 with
      | ok xs h2 =>
        rw [e2] at e
        cases e
        simp [dens_len e2]
      | exc _ _ => rw [e2] at e; cases e
      | stuck => rw [e2] at e; cases e
    | exc _ _ => rw [e1] at e; cases e
    | stuck => rw [e1] at e; cases e
theorem chkEs_len {Γ : Gm} {N : List Str} {sc : Scope} : ∀ {es : List E} {vs : List Expr}, chkEs Γ N sc es vs = true → vs.length = es.length
  | [], vs, h => by
    unfold chkEs at h
    rw [List.isEmpty_iff.mp h]
    rfl
  | e :: es, vs, h => by
    unfold chkEs at h
    split at h
    · rw [List.length_cons, List.length_cons, chkEs_len (and2 h).2]
    · cases h
theorem slots_mem {l : List Nat} {N : List Str} {own : List Nat} (h : l.all (own.contains ·) = true) : ∀ i ∈ l, i ∈ (own.map fun i => (N.getD i "", i)).map (·.2) := fun i hi => by
  have := List.all_eq_true.mp h i hi
  simp only [List.map_map, List.mem_map]
  exact ⟨i, by simpa using this, rfl⟩
theorem own_map {N : List Str} {own : List Nat} : (own.map fun i => (N.getD i "", i)).map (·.2) = own := by
  rw [List.map_map]
  exact List.map_id _
section
variable {T : Tb} {N : List Str} {Γ : Gm} {cl : Cl} (g : GOk T Γ)
theorem h0_nil {X : Cx} {W : WX} {es : List Expr} {ms : List E} (hl : es.length = ms.length) (e : es = []) : ∀ σ H Q, tA T W (dens cl ms) σ H Q → Q [] H := by
  subst e
  cases ms with
  | cons a b => cases hl
  | nil =>
    rintro σ H Q ⟨xx, m, h, env, R, S, q⟩
    rw [dens] at q
    exact q m [] H .refl R .nil
omit g in
theorem v_ok {W : WX} {sc : Scope} {X : Cx} (c : Ctx T W sc N X) {i : Nat} {e : Expr} (h : vC N sc i e = true) :
    PE X e (tE T W fun env h => match env[i]? with | some (some d) => .ok d h | _ => .stuck) ∧ Plain e := by
  unfold vC at h
  split at h
  · replace h := and2 h
    obtain ⟨h1, h⟩ := h
    replace h := and2 h
    obtain ⟨h2, h⟩ := h
    replace h := and2 h
    obtain ⟨h3, h⟩ := h
    exact ⟨se_v (by rw [c.N]; exact isAt_eq h1) (c.vis _ (isLoc_eq h2)) (notb h3) (notb h), fun _ _ => rfl⟩
  · cases h
omit g in
theorem ix_ok {W : WX} {sc : Scope} {X : Cx} (c : Ctx T W sc N X) {ca cb : Expr → Bool} {e : Expr} {ta tb : Env → Hh → Res D} (ha : ∀ a, ca a = true → PE X a (tE T W ta)) (hb : ∀ a, cb a = true → PE X a (tE T W tb)) (h : ixC ca cb e = true) :
    PE X e (tE T W fun env h => (ta env h).bind fun x h => (tb env h).bind fun y h => .of (ix? h x y) h) ∧ Plain e := by
  unfold ixC at h
  split at h
  · replace h := and2 h
    obtain ⟨h1, h⟩ := h
    replace h := and2 h
    obtain ⟨h2, h3⟩ := h
    exact ⟨se_ix c (ha _ h2) (hb _ h3) (notb h1), fun _ _ => rfl⟩
  · cases h
omit g in
theorem call_ok {W : WX} {sc : Scope} {X : Cx} (c : Ctx T W sc N X) (fo : FOk T X cl Γ) {f : String} {es : List E} {ces : List Expr → Bool} {e : Expr}
    (ha : ∀ vs, noStars vs = true → ces vs = true → PA X vs (tA T W (dens cl es)) ∧ vs.length = es.length) (h : callC Γ sc f ces e = true) :
    PE X e (tE T W fun env h => (dens cl es env h).bind fun xs h => cl.call f xs h) ∧ Plain e := by
  unfold callC at h
  split at h
  · split at h
    · replace h := and2 h
      obtain ⟨h1, h⟩ := h
      replace h := and2 h
      obtain ⟨h2, h⟩ := h
      replace h := and2 h
      obtain ⟨h3, h⟩ := h
      replace h := and2 h
      obtain ⟨h4, h⟩ := h
      replace h := and2 h
      obtain ⟨h5, h⟩ := h
      replace h := and2 h
      obtain ⟨h6, h⟩ := h
      rw [List.isEmpty_iff.mp h1]
      have h2 := of_decide_eq_true h2
      subst h2
      obtain ⟨k, F, hr⟩ := fo.fn _ _ (of_decide_eq_true h6)
      obtain ⟨pa, hl⟩ := ha _ h5 h
      exact ⟨se_call c F hr pa h5 (isGlo_eq h3) (notb h4) (fun env h ds h' e => by rw [hl]; exact dens_len e) (h0_nil (X := X) hl), fun _ _ => rfl⟩
    · cases h
  · cases h
include g in
theorem bi_ok {W : WX} {sc : Scope} {X : Cx} (c : Ctx T W sc N X) {f : String} {ces : List Expr → Bool} {e : Expr} {ts : Env → Hh → Res (List D)}
    (ha : ∀ v, isStar v = false → ces [v] = true → PA X [v] (tA T W ts)) (h : biC Γ sc f ces e = true) :
    PE X e (tE T W fun env h => (ts env h).bind fun xs h => .of (bi? h f xs) h) ∧ Plain e := by
  unfold biC at h
  split at h
  · split at h
    · replace h := and2 h
      obtain ⟨h1, h⟩ := h
      replace h := and2 h
      obtain ⟨h2, h⟩ := h
      replace h := and2 h
      obtain ⟨h3, h⟩ := h
      replace h := and2 h
      obtain ⟨h4, h⟩ := h
      replace h := and2 h
      obtain ⟨h5, h⟩ := h
      rw [List.isEmpty_iff.mp h1]
      have h2 := of_decide_eq_true h2
      subst h2
      split at h
      · replace h := and2 h
        obtain ⟨h6, h⟩ := h
        refine ⟨?_, fun _ _ => rfl⟩
        have pa := ha _ (notb h6) h
        have hm := g.free _ h5
        have hg := isGlo_eq h3
        have h6 := notb h6
        have h4 : f ∈ bi1 := by simpa using h4
        simp only [bi1, List.mem_cons, List.not_mem_nil, or_false] at h4
        rcases h4 with rfl | rfl | rfl | rfl | rfl | rfl
        · exact se_bi1 c (bi_len T c.K) (.inl ⟨_, rfl⟩) pa h6 hg hm (by decide +kernel) (by decide) (by decide)
        · exact se_bi1 c (bi_int T) (.inr ⟨_, rfl⟩) pa h6 hg hm (by decide +kernel) (by decide) (by decide)
        · exact se_bi1 c (bi_abs T) (.inl ⟨_, rfl⟩) pa h6 hg hm (by decide +kernel) (by decide) (by decide)
        · exact se_bi1 c (bi_tuple T c.K) (.inr ⟨_, rfl⟩) pa h6 hg hm (by decide +kernel) (by decide) (by decide)
        · exact se_bi1 c (bi_all T c.K c.calm) (.inl ⟨_, rfl⟩) pa h6 hg hm (by decide +kernel) (by decide) (by decide)
        · exact se_bi1 c (bi_any T c.K c.calm) (.inl ⟨_, rfl⟩) pa h6 hg hm (by decide +kernel) (by decide) (by decide)
      · cases h
    · cases h
  · cases h
include g in
theorem isi_ok {W : WX} {sc : Scope} {X : Cx} (c : Ctx T W sc N X) {cs : List String} {ca : Expr → Bool} {e : Expr} {te : Env → Hh → Res D}
    (ha : ∀ v, ca v = true → PE X v (tE T W te)) (h : isiC Γ sc cs ca e = true) :
    PE X e (tE T W fun env h => (te env h).bind fun x h => .of ((isAny h x cs).map .bl) h) ∧ Plain e := by
  unfold isiC at h
  split at h
  · split at h
    · replace h := and2 h
      obtain ⟨h1, h⟩ := h
      replace h := and2 h
      obtain ⟨h2, h⟩ := h
      replace h := and2 h
      obtain ⟨h3, h⟩ := h
      replace h := and2 h
      obtain ⟨h4, h⟩ := h
      rw [List.isEmpty_iff.mp h1]
      have h2 := of_decide_eq_true h2
      subst h2
      split at h
      · replace h := and2 h
        obtain ⟨h5, h⟩ := h
        replace h := and2 h
        obtain ⟨h6, h⟩ := h
        refine ⟨?_, fun _ _ => rfl⟩
        split at h
        · replace h := and2 h
          obtain ⟨h7, h⟩ := h
          split at h
          · cases h
          · have h7 := of_decide_eq_true h7
            exact se_isi c (ha _ h6) (notb h5) (tys_ok g h) (Nat.le_of_succ_le h7) (isGlo_eq h3) (g.free _ h4)
        · split at h
          · cases tys_ok g h with
            | cons hn hg hm r => exact se_isi1 c (ha _ h6) (notb h5) hn hg hm (isGlo_eq h3) (g.free _ h4)
          · cases h
        · cases h
      · cases h
    · cases h
  · cases h
include g in
theorem isc_ok {W : WX} {sc : Scope} {X : Cx} (c : Ctx T W sc N X) (fo : FOk T X cl Γ) {k : String} {ca : Expr → Bool} {e : Expr} {te : Env → Hh → Res D}
    (ha : ∀ v, ca v = true → PE X v (tE T W te)) (h : iscC Γ sc k ca e = true) :
    PE X e (tE T W fun env h => (te env h).bind fun x h => match x with
      | .obj y _ _ => .of ((cl.sub y k).map .bl) h
      | _ => .stuck) ∧ Plain e := by
  unfold iscC at h
  split at h
  · split at h
    · replace h := and2 h
      obtain ⟨h1, h⟩ := h
      replace h := and2 h
      obtain ⟨h2, h⟩ := h
      replace h := and2 h
      obtain ⟨h3, h⟩ := h
      replace h := and2 h
      obtain ⟨h4, h⟩ := h
      rw [List.isEmpty_iff.mp h1]
      have h2 := of_decide_eq_true h2
      subst h2
      split at h
      · replace h := and2 h
        obtain ⟨h5, h⟩ := h
        replace h := and2 h
        obtain ⟨h6, h⟩ := h
        replace h := and2 h
        obtain ⟨h7, h⟩ := h
        replace h := and2 h
        obtain ⟨h8, h⟩ := h
        replace h := and2 h
        obtain ⟨h9, h10⟩ := h
        have h7 := of_decide_eq_true h7
        subst h7
        obtain ⟨Ck, hCk⟩ := g.cls _ h10
        exact ⟨isc_read c fo.sub hCk (ha _ h6) (notb h5) (isGlo_eq h8) (notb h9) (isGlo_eq h3) (g.free _ h4), fun _ _ => rfl⟩
      · cases h
    · cases h
  · cases h
omit g in
theorem lam_cx {W : WX} {sc : Scope} {X : Cx} (c : Ctx T W sc N X) {k : Nat} {ps : List Str} {scope : Scope} (L : LamP X.N ps X.env.scope scope) {A : Around} {outer : List PySem.Env} {s : Shared} {H : Hp} {E : XK} {f c' : Addr} (hr : Room k (A.deeper (LamX.lamEnv X scope s.heap.objs.size f c'))) :
    Ctx T (fun C d _ H' => E C d H') scope N (LamX.lamCx X A outer s H E scope f c') where
  K := c.K
  mg := c.mg
  N := c.N
  nd := c.nd
  tk := takes_of rfl rfl rfl rfl
  calm := rfl
  un := hr.units
  kind := L.kind
  vis := fun x h => h
  loc := fun x h => h
  cel := fun x h => absurd rfl (L.nocell _ (PySem.mem_of_lookup h))
  glo := fun x h => h
  fre := fun x h => .inr h
omit g in
theorem rp_ok {ca : Expr → Bool} {e : Expr} (h : rpC ca e = true) : ∃ a p1 p2, e = .Call (.Name "repr" p1) [a] [] p2 ∧ isStar a = false ∧ ca a = true := by
  unfold rpC at h
  split at h
  · split at h
    · replace h := and2 h
      obtain ⟨h1, h⟩ := h
      replace h := and2 h
      obtain ⟨h2, h⟩ := h
      rw [List.isEmpty_iff.mp h1]
      have h2 := of_decide_eq_true h2
      subst h2
      split at h
      · replace h := and2 h
        exact ⟨_, _, _, rfl, notb h.1, h.2⟩
      · cases h
    · cases h
  · cases h
include g in
theorem rne_ok {W : WX} {sc : Scope} {X : Cx} (c : Ctx T W sc N X) (fo : FOk T X cl Γ) {ca cb : Expr → Bool} {e : Expr} {ta tb : Env → Hh → Res D}
    (ha : ∀ v, ca v = true → PE X v (tE T W ta)) (hb : ∀ v, cb v = true → PE X v (tE T W tb)) (h : rneC Γ sc ca cb e = true) :
    PE X e (tE T W fun env h => (ta env h).bind fun x h => if shows x then (tb env h).bind fun y h => if D.beq x y then .ok (.bl false) h else .stuck else .stuck) ∧
    PT X e (tT T W fun env h => (ta env h).bind fun x h => if shows x then (tb env h).bind fun y h => if D.beq x y then .ok false h else .stuck else .stuck) := by
  unfold rneC at h
  split at h
  · split at h
    · replace h := and2 h
      obtain ⟨h1, h⟩ := h
      replace h := and2 h
      obtain ⟨h2, h⟩ := h
      replace h := and2 h
      obtain ⟨h3, h⟩ := h
      replace h := and2 h
      obtain ⟨h4, h⟩ := h
      replace h := and2 h
      obtain ⟨h5, h6⟩ := h
      rw [of_decide_eq_true h1]
      obtain ⟨a, p1, p2, rfl, na, ha'⟩ := rp_ok h5
      obtain ⟨b, p3, p4, rfl, nb, hb'⟩ := rp_ok h6
      have hm : T.mg "repr" = none := g.free _ h4
      exact ⟨se_rne c (ha _ ha') (hb _ hb') na nb (isGlo_eq h3) hm (fo.rp h2), st_rne c (ha _ ha') (hb _ hb') na nb (isGlo_eq h3) hm (fo.rp h2)⟩
    · cases h
  · cases h
omit g in
theorem hear_ok {W : WX} {sc : Scope} {X : Cx} (c : Ctx T W sc N X) (fo : FOk T X cl Γ) {q : String} {b : E} {cb : Scope → Expr → Bool} {e : Expr}
    (hb : ∀ (Y : Cx) (W' : WX) (scope : Scope), Ctx T W' scope N Y → FOk T Y cl Γ.dull → ∀ body, cb scope body = true → PE Y body (tE T W' (den cl b))) (h : hearC Γ N sc q cb e = true) : PE X e (tE T W (den cl (.hear q b))) := by
  unfold hearC at h
  split at h
  · split at h
    · replace h := and2 h
      obtain ⟨h1, h⟩ := h
      replace h := and2 h
      obtain ⟨h2, h⟩ := h
      replace h := and2 h
      obtain ⟨h3, h⟩ := h
      replace h := and2 h
      obtain ⟨h4, h⟩ := h
      replace h := and2 h
      obtain ⟨h5, h⟩ := h
      rw [List.isEmpty_iff.mp h1]
      have h2 := of_decide_eq_true h2
      subst h2
      split at h
      · replace h := and2 h
        obtain ⟨h6, h7⟩ := h
        obtain ⟨k, hk, hr, hF, hK, R⟩ := fo.ear _ h5
        have go : ∀ {ps : List Str} {params : Arguments} {body : Expr} {scope : Scope} {lpos : Pos}, lamPB N ps sc scope = true → LB params body scope ps → params.kw_defaults = [] → cb scope body = true → ∀ {p pos : Pos}, PE X (.Call (.Name (Str.ofString q) p) [.Lambda params body scope lpos] [] pos) (tE T W (den cl (.hear q b))) :=
          fun {ps params body scope lpos} hl hB hk0 hcb {p pos} => by
            have L0 := lamP_by hl
            have L : LamP X.N ps X.env.scope scope := ⟨L0.kind, L0.co, L0.gen, fun y hy e => by rw [c.N]; exact L0.own y hy e, L0.nocell, fun y hy e => (L0.free y hy e).elim (fun z => .inl (c.cel _ z).1) (fun z => c.fre _ z), L0.par⟩
            exact R W sc N c b params body scope p lpos pos ps (isGlo_eq h3) (notb h4) L hB hk0 fun A outer s H E f c' hr2 =>
              hb _ _ scope (lam_cx c L hr2) ⟨fun f n hf => ⟨k, hF f n hf, hr2⟩, fo.ar, fo.rz, .inr (hr2.mono hk), fo.sub, fo.at_, (fun g h => by cases h), (fun q hq => ⟨k, hK q hq, hr2⟩), fun h => by cases h⟩ body hcb
        unfold lamC at h6
        split at h6
        · exact go h6 (.inl ⟨rfl, rfl, fun _ _ _ _ _ _ => rfl⟩) rfl h7
        · exact go h6 (.inr ⟨_, ⟨_, _, _, rfl⟩, rfl, fun _ _ _ _ _ _ _ => ⟨_, rfl, fun v => by simp⟩⟩) rfl h7
        · cases h6
      · cases h
    · cases h
  · cases h
end
section
variable {T : Tb} {N : List Str} {cl : Cl}
mutual
theorem chkE_ok {Γ : Gm} (g : GOk T Γ) {W : WX} {sc : Scope} {X : Cx} (c : Ctx T W sc N X) (fo : FOk T X cl Γ) : ∀ (e : E) (e' : Expr), chkE Γ N sc e e' = true → PE X e' (tE T W (den cl e))
  | .k d, e', h => by
    unfold chkE at h
    split at h
    · split at h
      · rw [of_decide_eq_true h]; exact PE.congr se_int fun _ _ => by rw [den] <;> rfl
      · rw [of_decide_eq_true h]; exact PE.congr se_bl fun _ _ => by rw [den] <;> rfl
      · rw [of_decide_eq_true h]; exact PE.congr se_non fun _ _ => by rw [den] <;> rfl
      · rw [of_decide_eq_true h]; exact PE.congr se_str fun _ _ => by rw [den] <;> rfl
      · cases h
    · cases h
  | .gk x d, e', h => by
    unfold chkE at h
    split at h
    · replace h := and2 h
      obtain ⟨h1, h⟩ := h
      replace h := and2 h
      obtain ⟨h2, h⟩ := h
      replace h := and2 h
      obtain ⟨h3, h⟩ := h
      have h1 := of_decide_eq_true h1
      subst h1
      split at h
      · rename_i d' e
        have h := D.beq_eq h
        subst h
        exact PE.congr (se_gk c (isGlo_eq h2) (g.gk _ _ e) (notb h3)) fun _ _ => by rw [den] <;> rfl
      · cases h
    · cases h
  | .gf x, e', h => by
    unfold chkE at h
    split at h
    · replace h := and2 h
      obtain ⟨h1, h⟩ := h
      replace h := and2 h
      obtain ⟨h2, h⟩ := h
      replace h := and2 h
      obtain ⟨h3, h4⟩ := h
      have h1 := of_decide_eq_true h1
      subst h1
      obtain ⟨n, hn⟩ := Option.isSome_iff_exists.mp h4
      obtain ⟨k, ⟨fa, fd, ps, hm, _⟩, _⟩ := fo.fn _ _ hn
      exact PE.congr (se_gf c hm (isGlo_eq h2) (notb h3)) fun _ _ => by rw [den] <;> rfl
    · cases h
  | .v i, e', h => by
    unfold chkE at h
    exact PE.congr (v_ok c h).1 fun _ _ => by rw [den] <;> rfl
  | .bin o a b, e', h => by
    unfold chkE at h
    split at h
    · replace h := and2 h
      obtain ⟨h1, h⟩ := h
      replace h := and2 h
      obtain ⟨h2, h3⟩ := h
      rw [of_decide_eq_true h1]
      exact PE.congr (se_bin c (chkE_ok g c fo a _ h2) (chkE_ok g c fo b _ h3)) fun _ _ => by rw [den] <;> rfl
    · cases h
  | .neg a, e', h => by
    unfold chkE at h
    split at h
    · replace h := and2 h
      obtain ⟨h1, h⟩ := h
      rw [of_decide_eq_true h1]
      exact PE.congr (se_neg (chkE_ok g c fo a _ h)) fun _ _ => by rw [den] <;> rfl
    · cases h
  | .and es, e', h => by
    unfold chkE at h
    split at h
    · replace h := and2 h
      obtain ⟨h1, h⟩ := h
      rw [of_decide_eq_true h1]
      replace h := and2 h
      obtain ⟨h2, h⟩ := h
      exact PE.congr (chkAnd_ok g c fo es _ _ h (ne_of_emp h2)) fun _ _ => by rw [den] <;> rfl
    · cases h
  | .or es, e', h => by
    unfold chkE at h
    split at h
    · replace h := and2 h
      obtain ⟨h1, h⟩ := h
      rw [of_decide_eq_true h1]
      replace h := and2 h
      obtain ⟨h2, h⟩ := h
      exact PE.congr (chkOr_ok g c fo es _ _ h (ne_of_emp h2)) fun _ _ => by rw [den] <;> rfl
    · cases h
  | .not a, e', h => by
    unfold chkE at h
    split at h
    · replace h := and2 h
      obtain ⟨h1, h⟩ := h
      rw [of_decide_eq_true h1]
      exact PE.congr (se_not (chkE_ok g c fo a _ h)) fun _ _ => by rw [den] <;> rfl
    · cases h
  | .cmp o a b, e', h => by
    unfold chkE at h
    split at h
    · split at h
      · replace h := and2 h
        obtain ⟨h1, h⟩ := h
        replace h := and2 h
        obtain ⟨h2, h⟩ := h
        replace h := and2 h
        obtain ⟨h3, h4⟩ := h
        rw [of_decide_eq_true h1]
        exact PE.congr (se_cmp c (chkE_ok g c fo a _ h3) (chkE_ok g c fo b _ h4) (notSet (notb h2))) fun _ _ => by rw [den] <;> rfl
      · cases h
    · cases h
  | .chain o p a b d, e', h => by
    unfold chkE at h
    split at h
    · split at h
      · replace h := and2 h
        obtain ⟨h1, h⟩ := h
        replace h := and2 h
        obtain ⟨h2, h⟩ := h
        replace h := and2 h
        obtain ⟨h3, h⟩ := h
        replace h := and2 h
        obtain ⟨h4, h⟩ := h
        replace h := and2 h
        obtain ⟨h5, h6⟩ := h
        rw [of_decide_eq_true h1, of_decide_eq_true h2]
        exact PE.congr (se_chain c (chkE_ok g c fo a _ h4) (chkE_ok g c fo b _ h5) (chkE_ok g c fo d _ h6) (notSet (notb h3))) fun _ _ => by rw [den] <;> rfl
      · cases h
    · cases h
  | .ife t a b, e', h => by
    unfold chkE at h
    split at h
    · replace h := and2 h
      obtain ⟨h1, h⟩ := h
      replace h := and2 h
      obtain ⟨h2, h3⟩ := h
      exact PE.congr (se_ife (chkT_ok g c fo t _ h1) (chkE_ok g c fo a _ h2) (chkE_ok g c fo b _ h3)) fun _ _ => by rw [den] <;> rfl
    · cases h
  | .tup es, e', h => by
    unfold chkE at h
    split at h
    · exact PE.congr (se_tup (chkSs_ok g c fo es _ h)) fun _ _ => by rw [den] <;> rfl
    · cases h
  | .al mu a, e', h => by
    unfold chkE at h
    exact PE.congr (se_al mu (chkA_ok g c fo a _ h)) fun _ _ => by rw [den] <;> rfl
  | .ix a b, e', h => by
    unfold chkE at h
    exact PE.congr (ix_ok c (chkE_ok g c fo a) (chkE_ok g c fo b) h).1 fun _ _ => by rw [den] <;> rfl
  | .sl a lo hi, e', h => by
    unfold chkE at h
    split at h
    · split at h
      · replace h := and2 h
        obtain ⟨h1, h⟩ := h
        replace h := and2 h
        obtain ⟨h2, h⟩ := h
        replace h := and2 h
        obtain ⟨h3, h4⟩ := h
        rw [Option.isNone_iff_eq_none.mp h1]
        exact PE.congr (se_sl c (chkE_ok g c fo a _ h2) (chkO_ok g c fo lo _ h3) (chkO_ok g c fo hi _ h4)) fun _ _ => by rw [den] <;> rfl
      · cases h
    · cases h
  | .call f es, e', h => by
    unfold chkE at h
    exact PE.congr (call_ok c fo (fun vs hn h => ⟨chkEs_ok g c fo es vs hn h, chkEs_len h⟩) h).1 fun _ _ => by rw [den] <;> rfl
  | .bi f es, e', h => by
    unfold chkE at h
    exact PE.congr (bi_ok g c (fun v hn h => chkEs_ok g c fo es [v] (by simp [noStars, hn]) h) h).1 fun _ _ => by rw [den] <;> rfl
  | .isi a cs, e', h => by
    unfold chkE at h
    exact PE.congr (isi_ok g c (chkE_ok g c fo a) h).1 fun _ _ => by rw [den] <;> rfl
  | .ck f es perm, e', h => by
    unfold chkE at h
    split at h
    · split at h
      · replace h := and2 h
        obtain ⟨h1, h⟩ := h
        replace h := and2 h
        obtain ⟨h2, h⟩ := h
        replace h := and2 h
        obtain ⟨h3, h⟩ := h
        replace h := and2 h
        obtain ⟨h4, h⟩ := h
        replace h := and2 h
        obtain ⟨hle, h⟩ := h
        replace h := and2 h
        obtain ⟨h5, h6⟩ := h
        rw [List.isEmpty_iff.mp h1]
        have h2 := of_decide_eq_true h2
        subst h2
        obtain ⟨q, hq, z⟩ := List.any_eq_true.mp h5
        replace z := and2 z
        obtain ⟨z1, z⟩ := z
        replace z := and2 z
        obtain ⟨z2, z3⟩ := z
        have z1 := of_decide_eq_true z1
        have z2 := of_decide_eq_true z2
        have z3 := of_decide_eq_true z3
        obtain ⟨k, F, hr⟩ := fo.kw q hq
        rw [z1, z2] at F
        have w := fun (env : PySem.Env) (pos : Pos) => kw_all (env := env) (pos := pos) z3
        exact PE.congr (se_ck c F hr (chkPK_ok g c fo es _ h6) (fun env h ds h' e => by rw [← of_decide_eq_true hle]; exact dens_len e) (isGlo_eq h3) (notb h4) (w _ _).1 (w _ _).2.1 (w _ _).2.2) fun _ _ => by rw [den]
      · cases h
    · cases h
  | .dic0, e', h => by
    unfold chkE at h
    split at h
    · replace h := and2 h
      obtain ⟨h1, h2⟩ := h
      rw [List.isEmpty_iff.mp h1, List.isEmpty_iff.mp h2]
      exact PE.congr se_dic0 fun _ _ => by rw [den]
    · cases h
  | .rne a b, e', h => by
    unfold chkE at h
    exact PE.congr (rne_ok g c fo (chkE_ok g c fo a) (chkE_ok g c fo b) h).1 fun _ _ => by rw [den]
  | .isc a k, e', h => by
    unfold chkE at h
    exact PE.congr (isc_ok g c fo (chkE_ok g c fo a) h).1 fun _ _ => by rw [den] <;> rfl
  | .att a f, e', h => by
    unfold chkE at h
    split at h
    · replace h := and2 h
      obtain ⟨h1, h⟩ := h
      replace h := and2 h
      obtain ⟨h2, h3⟩ := h
      rw [of_decide_eq_true h1]
      exact PE.congr (se_att c fo.at_ (chkE_ok g c fo a _ h3) h2) fun _ _ => by rw [den] <;> rfl
    · cases h
  | .cv i es, e', h => by
    unfold chkE at h
    split at h
    · split at h
      · replace h := and2 h
        obtain ⟨h1, h⟩ := h
        replace h := and2 h
        obtain ⟨h2, h⟩ := h
        replace h := and2 h
        obtain ⟨h3, h⟩ := h
        replace h := and2 h
        obtain ⟨h4, h⟩ := h
        replace h := and2 h
        obtain ⟨h5, h⟩ := h
        replace h := and2 h
        obtain ⟨h6, h⟩ := h
        replace h := and2 h
        obtain ⟨h7, h8⟩ := h
        rw [List.isEmpty_iff.mp h1]
        rename_i es' ks pos0 g0 y py
        cases es' with
        | nil => cases h6
        | cons v vs =>
          have hl := chkEs_len h8
          have hN : X.N[i]? = some y := by
            rw [c.N]
            exact isAt_eq h2
          exact PE.congr (se_cv c (cl := cl) hN (c.vis _ (isLoc_eq h3)) (notb h4) (notb h5) (fun f ha => fo.fn _ _ (fo.ar _ _ ha)) (chkEs_ok g c fo es _ h7 h8) h7 (fun env h ds h' e => by rw [hl]; exact dens_len e)) fun _ _ => by rw [den, hl] <;> rfl
      · cases h
    · cases h
  | .hear q b, e', h => by
    unfold chkE at h
    exact hear_ok c fo (fun Y W' scope hy fo' body hb => chkE_ok g.dull hy fo' b body hb) h
theorem chkAnd_ok {Γ : Gm} (g : GOk T Γ) {W : WX} {sc : Scope} {X : Cx} (c : Ctx T W sc N X) (fo : FOk T X cl Γ) : ∀ (es : List E) (vs : List Expr) (pos : Pos), chkEs Γ N sc es vs = true → es ≠ [] → PE X (.BoolOp .And vs pos) (tE T W (denAnd cl es))
  | [], vs, pos, h, n => absurd rfl n
  | [e], vs, pos, h, n => by
    unfold chkEs at h
    split at h
    · replace h := and2 h
      obtain ⟨h1, h2⟩ := h
      unfold chkEs at h2
      rw [List.isEmpty_iff.mp h2]
      exact (PE.congr (pe_one (chkE_ok g c fo e _ h1)) fun _ _ => by rw [denAnd])
    · cases h
  | e :: e2 :: es, vs, pos, h, n => by
    unfold chkEs at h
    split at h
    · replace h := and2 h
      obtain ⟨h1, h2⟩ := h
      rename_i v vs'
      cases vs' with
      | nil => unfold chkEs at h2; cases h2
      | cons v2 vs' => exact PE.congr (se_and (chkE_ok g c fo e _ h1) (chkAnd_ok g c fo (e2 :: es) (v2 :: vs') pos h2 (by simp))) fun _ _ => by rw [denAnd] <;> rfl
    · cases h
theorem chkOr_ok {Γ : Gm} (g : GOk T Γ) {W : WX} {sc : Scope} {X : Cx} (c : Ctx T W sc N X) (fo : FOk T X cl Γ) : ∀ (es : List E) (vs : List Expr) (pos : Pos), chkEs Γ N sc es vs = true → es ≠ [] → PE X (.BoolOp .Or vs pos) (tE T W (denOr cl es))
  | [], vs, pos, h, n => absurd rfl n
  | [e], vs, pos, h, n => by
    unfold chkEs at h
    split at h
    · replace h := and2 h
      obtain ⟨h1, h2⟩ := h
      unfold chkEs at h2
      rw [List.isEmpty_iff.mp h2]
      exact (PE.congr (pe_one (chkE_ok g c fo e _ h1)) fun _ _ => by rw [denOr])
    · cases h
  | e :: e2 :: es, vs, pos, h, n => by
    unfold chkEs at h
    split at h
    · replace h := and2 h
      obtain ⟨h1, h2⟩ := h
      rename_i v vs'
      cases vs' with
      | nil => unfold chkEs at h2; cases h2
      | cons v2 vs' => exact PE.congr (se_or (chkE_ok g c fo e _ h1) (chkOr_ok g c fo (e2 :: es) (v2 :: vs') pos h2 (by simp))) fun _ _ => by rw [denOr] <;> rfl
    · cases h
theorem chkTAnd_ok {Γ : Gm} (g : GOk T Γ) {W : WX} {sc : Scope} {X : Cx} (c : Ctx T W sc N X) (fo : FOk T X cl Γ) : ∀ (es : List E) (vs : List Expr) (pos : Pos), chkTs Γ N sc es vs = true → es ≠ [] → PW X (.BoolOp .And vs pos) (tT T W (denTAnd cl es))
  | [], vs, pos, h, n => absurd rfl n
  | [e], vs, pos, h, n => by
    unfold chkTs at h
    split at h
    · replace h := and2 h
      obtain ⟨h1, h2⟩ := h
      unfold chkTs at h2
      rw [List.isEmpty_iff.mp h2]
      exact (PW.congr (pw_and1 (chkT_ok g c fo e _ h1)) fun _ _ => by rw [denTAnd])
    · cases h
  | e :: e2 :: es, vs, pos, h, n => by
    unfold chkTs at h
    split at h
    · replace h := and2 h
      obtain ⟨h1, h2⟩ := h
      rename_i v vs'
      cases vs' with
      | nil => unfold chkTs at h2; cases h2
      | cons v2 vs' => exact (PW.congr (sw_and (chkT_ok g c fo e _ h1) (chkTAnd_ok g c fo (e2 :: es) (v2 :: vs') pos h2 (by simp))) fun _ _ => by rw [denTAnd] <;> rfl)
    · cases h
theorem chkTOr_ok {Γ : Gm} (g : GOk T Γ) {W : WX} {sc : Scope} {X : Cx} (c : Ctx T W sc N X) (fo : FOk T X cl Γ) : ∀ (es : List E) (vs : List Expr) (pos : Pos), chkTs Γ N sc es vs = true → es ≠ [] → PW X (.BoolOp .Or vs pos) (tT T W (denTOr cl es))
  | [], vs, pos, h, n => absurd rfl n
  | [e], vs, pos, h, n => by
    unfold chkTs at h
    split at h
    · replace h := and2 h
      obtain ⟨h1, h2⟩ := h
      unfold chkTs at h2
      rw [List.isEmpty_iff.mp h2]
      exact (PW.congr (pw_or1 (chkT_ok g c fo e _ h1)) fun _ _ => by rw [denTOr])
    · cases h
  | e :: e2 :: es, vs, pos, h, n => by
    unfold chkTs at h
    split at h
    · replace h := and2 h
      obtain ⟨h1, h2⟩ := h
      rename_i v vs'
      cases vs' with
      | nil => unfold chkTs at h2; cases h2
      | cons v2 vs' => exact (PW.congr (sw_or (chkT_ok g c fo e _ h1) (chkTOr_ok g c fo (e2 :: es) (v2 :: vs') pos h2 (by simp))) fun _ _ => by rw [denTOr] <;> rfl)
    · cases h
theorem chkT_ok {Γ : Gm} (g : GOk T Γ) {W : WX} {sc : Scope} {X : Cx} (c : Ctx T W sc N X) (fo : FOk T X cl Γ) : ∀ (e : E) (e' : Expr), chkT Γ N sc e e' = true → PT X e' (tT T W (denT cl e))
  | .and es, e', h => by
    unfold chkT at h
    split at h
    · replace h := and2 h
      obtain ⟨h1, h⟩ := h
      replace h := and2 h
      obtain ⟨h2, h⟩ := h
      rw [of_decide_eq_true h1]
      exact PT.congr (PW.pt (chkTAnd_ok g c fo es _ _ h (ne_of_emp h2))) fun _ _ => by rw [denT] <;> rfl
    · cases h
  | .or es, e', h => by
    unfold chkT at h
    split at h
    · replace h := and2 h
      obtain ⟨h1, h⟩ := h
      replace h := and2 h
      obtain ⟨h2, h⟩ := h
      rw [of_decide_eq_true h1]
      exact PT.congr (PW.pt (chkTOr_ok g c fo es _ _ h (ne_of_emp h2))) fun _ _ => by rw [denT] <;> rfl
    · cases h
  | .not a, e', h => by
    unfold chkT at h
    split at h
    · replace h := and2 h
      obtain ⟨h1, h⟩ := h
      rw [of_decide_eq_true h1]
      exact PT.congr (st_not (chkT_ok g c fo a _ h)) fun _ _ => by rw [denT] <;> rfl
    · cases h
  | .cmp o a b, e', h => by
    unfold chkT at h
    split at h
    · split at h
      · replace h := and2 h
        obtain ⟨h1, h⟩ := h
        replace h := and2 h
        obtain ⟨h2, h⟩ := h
        replace h := and2 h
        obtain ⟨h3, h4⟩ := h
        rw [of_decide_eq_true h1]
        exact PT.congr (st_cmp c (chkE_ok g c fo a _ h3) (chkE_ok g c fo b _ h4) (notSet (notb h2))) fun _ _ => by rw [denT] <;> rfl
      · cases h
    · cases h
  | .chain o p a b d, e', h => by
    unfold chkT at h
    split at h
    · split at h
      · replace h := and2 h
        obtain ⟨h1, h⟩ := h
        replace h := and2 h
        obtain ⟨h2, h⟩ := h
        replace h := and2 h
        obtain ⟨h3, h⟩ := h
        replace h := and2 h
        obtain ⟨h4, h⟩ := h
        replace h := and2 h
        obtain ⟨h5, h6⟩ := h
        rw [of_decide_eq_true h1, of_decide_eq_true h2]
        exact PT.congr (st_chain c (chkE_ok g c fo a _ h4) (chkE_ok g c fo b _ h5) (chkE_ok g c fo d _ h6) (notSet (notb h3))) fun _ _ => by rw [denT] <;> rfl
      · cases h
    · cases h
  | .k d, e', h => by
    unfold chkT at h
    split at h
    · split at h
      · rw [of_decide_eq_true h]
        exact PT.congr (st_val c se_bl fun _ => rfl) fun _ _ => by rw [denT] <;> rfl
      · cases h
    · cases h
  | .v i, e', h => by
    unfold chkT at h
    obtain ⟨p, q⟩ := v_ok c h
    exact PT.congr (st_val c p (q _)) fun env h => by
      rw [denT]
      cases env[i]? with
      | none => rfl
      | some o => cases o <;> rfl
  | .ix a b, e', h => by
    unfold chkT at h
    obtain ⟨p, q⟩ := ix_ok c (chkE_ok g c fo a) (chkE_ok g c fo b) h
    exact PT.congr (st_val c p (q _)) fun env h => by
      rw [denT, Res.bind_bind]
      simp only [Res.bind_bind]
  | .call f es, e', h => by
    unfold chkT at h
    obtain ⟨p, q⟩ := call_ok c fo (fun vs hn h => ⟨chkEs_ok g c fo es vs hn h, chkEs_len h⟩) h
    exact PT.congr (st_val c p (q _)) fun env h => by rw [denT, Res.bind_bind] <;> rfl
  | .bi f es, e', h => by
    unfold chkT at h
    obtain ⟨p, q⟩ := bi_ok g c (fun v hn h => chkEs_ok g c fo es [v] (by simp [noStars, hn]) h) h
    exact PT.congr (st_val c p (q _)) fun env h => by rw [denT, Res.bind_bind] <;> rfl
  | .isi a cs, e', h => by
    unfold chkT at h
    obtain ⟨p, q⟩ := isi_ok g c (chkE_ok g c fo a) h
    exact PT.congr (st_val c p (q _)) fun env h => by
      rw [denT, Res.bind_bind]
      refine congrArg _ (funext fun x => funext fun h => ?_)
      cases isAny h x cs with
      | none => rfl
      | some b => rfl
  | .gk _ _, e', h => by unfold chkT at h; cases h
  | .gf _, e', h => by unfold chkT at h; cases h
  | .bin _ _ _, e', h => by unfold chkT at h; cases h
  | .neg _, e', h => by unfold chkT at h; cases h
  | .ife _ _ _, e', h => by unfold chkT at h; cases h
  | .tup _, e', h => by unfold chkT at h; cases h
  | .al _ _, e', h => by unfold chkT at h; cases h
  | .sl _ _ _, e', h => by unfold chkT at h; cases h
  | .isc a k, e', h => by
    unfold chkT at h
    obtain ⟨p, q⟩ := isc_ok g c fo (chkE_ok g c fo a) h
    exact PT.congr (st_val c p (q _)) fun env h => by
      rw [denT, Res.bind_bind]
      refine congrArg _ (funext fun x => funext fun h => ?_)
      cases x with
      | obj y ks vs => cases hs : cl.sub y k <;> simp [hs, truth?] <;> rfl
      | _ => rfl
  | .att _ _, e', h => by unfold chkT at h; cases h
  | .cv _ _, e', h => by unfold chkT at h; cases h
  | .ck _ _ _, e', h => by unfold chkT at h; cases h
  | .dic0, e', h => by unfold chkT at h; cases h
  | .hear _ _, e', h => by unfold chkT at h; cases h
  | .rne a b, e', h => by
    unfold chkT at h
    exact PT.congr (rne_ok g c fo (chkE_ok g c fo a) (chkE_ok g c fo b) h).2 fun _ _ => by rw [denT]
theorem chkEs_ok {Γ : Gm} (g : GOk T Γ) {W : WX} {sc : Scope} {X : Cx} (c : Ctx T W sc N X) (fo : FOk T X cl Γ) : ∀ (es : List E) (vs : List Expr), noStars vs = true → chkEs Γ N sc es vs = true → PA X vs (tA T W (dens cl es))
  | [], vs, hn, h => by
    unfold chkEs at h
    rw [List.isEmpty_iff.mp h]
    exact PA.congr sa_nil fun _ _ => by rw [dens] <;> rfl
  | e :: es, vs, hn, h => by
    unfold chkEs at h
    split at h
    · replace h := and2 h
      obtain ⟨h1, h2⟩ := h
      replace hn := and2 hn
      obtain ⟨n1, n2⟩ := hn
      exact PA.congr (sa_cons (chkE_ok g c fo e _ h1) (chkEs_ok g c fo es _ n2 h2) (notb n1)) fun _ _ => by rw [dens] <;> rfl
    · cases h
theorem chkPK_ok {Γ : Gm} (g : GOk T Γ) {W : WX} {sc : Scope} {X : Cx} (c : Ctx T W sc N X) (fo : FOk T X cl Γ) : ∀ (es : List E) (ks : List Keyword), chkEs Γ N sc es (ks.map (·.value)) = true → PK X ks (tA T W (dens cl es))
  | [], ks, h => by
    unfold chkEs at h
    have : ks = [] := by simpa using h
    subst this
    exact ⟨fun pos pins s σ H Q I ⟨xx, m, hh, env, R, S, q⟩ => pk_nil.run pos pins s σ H Q I (by
      rw [dens] at q
      exact q m [] H .refl R .nil)⟩
  | e :: es, [], h => by
    unfold chkEs at h
    cases h
  | e :: es, ⟨a, v, p⟩ :: ks, h => by
    unfold chkEs at h
    replace h := and2 (show (chkE Γ N sc e v && chkEs Γ N sc es (ks.map (·.value))) = true from h)
    obtain ⟨h1, h2⟩ := h
    exact ⟨fun pos pins s σ H Q I ⟨xx, m, hh, env, R, S, q⟩ => (pk_cons (chkE_ok g c fo e v h1) (chkPK_ok g c fo es ks h2)).run pos pins s σ H Q I (by
      rw [dens] at q
      exact ⟨xx, m, hh, env, R, S, EvP.seq q fun x h1 m1 v1 H1 s1 R1 r1 q1 => ⟨xx, m1, h1, env, R1, S.mono s1, EvP.seq q1 fun y h2 m2 v2 H2 s2 R2 r2 q2 => q2 m2 _ H2 .refl R2 (.cons (r1.mono s2) r2)⟩⟩)⟩
theorem chkSs_ok {Γ : Gm} (g : GOk T Γ) {W : WX} {sc : Scope} {X : Cx} (c : Ctx T W sc N X) (fo : FOk T X cl Γ) : ∀ (es : List (Bool × E)) (vs : List Expr), chkSs Γ N sc es vs = true → PA X vs (tA T W (densS cl es))
  | [], vs, h => by
    unfold chkSs at h
    rw [List.isEmpty_iff.mp h]
    exact PA.congr sa_nil fun _ _ => by rw [densS] <;> rfl
  | (false, e) :: es, vs, h => by
    unfold chkSs at h
    split at h
    · replace h := and2 h
      obtain ⟨h1, h2⟩ := h
      replace h1 := and2 h1
      obtain ⟨h3, h4⟩ := h1
      exact PA.congr (sa_cons (chkE_ok g c fo e _ h4) (chkSs_ok g c fo es _ h2) (notb h3)) fun _ _ => by rw [densS] <;> rfl
    · cases h
  | (true, e) :: es, vs, h => by
    unfold chkSs at h
    split at h
    · replace h := and2 h
      obtain ⟨h1, h2⟩ := h
      dsimp only at h1
      split at h1
      · exact PA.congr (sa_star c (chkE_ok g c fo e _ h1) (chkSs_ok g c fo es _ h2)) fun _ _ => by rw [densS] <;> rfl
      · cases h1
    · cases h
theorem chkO_ok {Γ : Gm} (g : GOk T Γ) {W : WX} {sc : Scope} {X : Cx} (c : Ctx T W sc N X) (fo : FOk T X cl Γ) : ∀ (o : Option E) (o' : Option Expr), chkO Γ N sc o o' = true → PO X o' (tO T W (denO cl o))
  | none, o', h => by
    unfold chkO at h
    rw [Option.isNone_iff_eq_none.mp h]
    exact PO.congr so_none fun _ _ => by rw [denO] <;> rfl
  | some e, o', h => by
    unfold chkO at h
    split at h
    · exact PO.congr (so_some (chkE_ok g c fo e _ h)) fun _ _ => by rw [denO] <;> rfl
    · cases h
theorem chkA_ok {Γ : Gm} (g : GOk T Γ) {W : WX} {sc : Scope} {X : Cx} (c : Ctx T W sc N X) (fo : FOk T X cl Γ) : ∀ (a : A) (e' : Expr), chkA Γ N sc a e' = true → PE X e' (tF T W (denA cl a))
  | .disp es, e', h => by
    unfold chkA at h
    split at h
    · replace h := and2 h
      obtain ⟨h1, h2⟩ := h
      exact PE.congrF (sf_disp (chkEs_ok g c fo es _ h1 h2)) fun _ _ => by rw [denA] <;> rfl
    · cases h
  | .comp elt tg it cs own, e', h => by
    unfold chkA at h
    split at h
    · split at h
      · replace h := and2 h
        obtain ⟨h1, h⟩ := h
        replace h := and2 h
        obtain ⟨h2, h⟩ := h
        replace h := and2 h
        obtain ⟨h3, h⟩ := h
        replace h := and2 h
        obtain ⟨h4, h⟩ := h
        replace h := and2 h
        obtain ⟨h5, h⟩ := h
        replace h := and2 h
        obtain ⟨h6, h⟩ := h
        replace h := and2 h
        obtain ⟨h7, h8⟩ := h
        have h1 := of_decide_eq_true h1
        subst h1
        have ok := c.blkOk h3
        have p := fun pos => sf_comp (pos := pos) c (chkI_ok g c fo it _ h6 (notb h2)) ok (fun s H C cls fp => (tg_ok (c.blk ok s H C cls fp) h4).1)
          (fun s H C cls fp => chkCs_ok g.dull (c.blk ok s H C cls fp) fo.blk cs _ h7) (fun s H C cls fp => chkE_ok g.dull (c.blk ok s H C cls fp) fo.blk elt _ h8) (notSetI (notb h2)) (slots_mem h5)
        simp only [own_map] at p
        exact PE.congrF (p _) fun _ _ => by rw [denA] <;> rfl
      · cases h
    · cases h
  | .of a, e', h => by
    unfold chkA at h
    split at h
    · split at h
      · replace h := and2 h
        obtain ⟨h1, h⟩ := h
        replace h := and2 h
        obtain ⟨h2, h⟩ := h
        replace h := and2 h
        obtain ⟨h3, h⟩ := h
        replace h := and2 h
        obtain ⟨h4, h⟩ := h
        rw [List.isEmpty_iff.mp h1, of_decide_eq_true h2]
        rw [of_decide_eq_true h2] at h3
        split at h
        · replace h := and2 h
          obtain ⟨h5, h6⟩ := h
          exact PE.congrF (sf_of c (chkE_ok g c fo a _ h6) (notb h5) (isGlo_eq h3) (g.free _ h4)) fun _ _ => by rw [denA] <;> rfl
        · cases h
      · cases h
    · cases h
  | .cat a b, e', h => by
    unfold chkA at h
    split at h
    · replace h := and2 h
      obtain ⟨h1, h⟩ := h
      replace h := and2 h
      obtain ⟨h2, h3⟩ := h
      rw [of_decide_eq_true h1]
      exact PE.congrF (sf_cat c (chkE_ok g c fo a _ h2) (chkE_ok g c fo b _ h3)) fun _ _ => by rw [denA] <;> rfl
    · cases h
  | .rep a b, e', h => by
    unfold chkA at h
    split at h
    · replace h := and2 h
      obtain ⟨h1, h⟩ := h
      replace h := and2 h
      obtain ⟨h2, h3⟩ := h
      rw [of_decide_eq_true h1]
      exact PE.congrF (sf_rep c (chkE_ok g c fo a _ h2) (chkE_ok g c fo b _ h3)) fun _ _ => by rw [denA] <;> rfl
    · cases h
  | .sl a lo hi, e', h => by
    unfold chkA at h
    split at h
    · split at h
      · replace h := and2 h
        obtain ⟨h1, h⟩ := h
        replace h := and2 h
        obtain ⟨h2, h⟩ := h
        replace h := and2 h
        obtain ⟨h3, h4⟩ := h
        rw [Option.isNone_iff_eq_none.mp h1]
        exact PE.congrF (sf_sl c (chkE_ok g c fo a _ h2) (chkO_ok g c fo lo _ h3) (chkO_ok g c fo hi _ h4)) fun _ _ => by rw [denA] <;> rfl
      · cases h
    · cases h
theorem chkCs_ok {Γ : Gm} (g : GOk T Γ) {W : WX} {sc : Scope} {X : Cx} (c : Ctx T W sc N X) (fo : FOk T X cl Γ) : ∀ (es : List E) (vs : List Expr), chkCs Γ N sc es vs = true → PTs X vs (tT T W (denC cl es))
  | [], vs, h => by
    unfold chkCs at h
    rw [List.isEmpty_iff.mp h]
    exact ⟨fun pins s σ H Q I ⟨xx, m, hh, env, R, S, q⟩ => pts_nil.run pins s σ H Q I (by
      rw [denC] at q
      exact q m true H .refl R rfl)⟩
  | [e], vs, h => by
    unfold chkCs at h
    replace h := and2 h
    obtain ⟨_, h⟩ := h
    split at h
    · have : denC cl [e] = denT cl e := funext fun env => funext fun h => by rw [denC] <;> rfl
      rw [this]
      exact pts_one (chkT_ok g c fo e _ h)
    · cases h
  | e :: e2 :: es, vs, h => by
    unfold chkCs at h
    cases h
theorem chkI_ok {Γ : Gm} (g : GOk T Γ) {W : WX} {sc : Scope} {X : Cx} (c : Ctx T W sc N X) (fo : FOk T X cl Γ) {tg : Expr} : ∀ (it : It) (e' : Expr), chkI Γ N sc it e' = true → isSet e' = false → PI X tg e' (tI T W (denI cl it))
  | .ex a, e', h, hs => by
    unfold chkI at h
    exact PI.congr (si_ex c (chkE_ok g c fo a _ h)) fun _ _ => by rw [denI] <;> rfl
  | .rng a b, e', h, hs => by
    unfold chkI at h
    split at h
    · split at h
      · replace h := and2 h
        obtain ⟨h1, h⟩ := h
        replace h := and2 h
        obtain ⟨h2, h⟩ := h
        replace h := and2 h
        obtain ⟨h3, h⟩ := h
        replace h := and2 h
        obtain ⟨h4, h⟩ := h
        rw [List.isEmpty_iff.mp h1, of_decide_eq_true h2]
        rw [of_decide_eq_true h2] at h3
        split at h
        · replace h := and2 h
          obtain ⟨h5, h⟩ := h
          replace h := and2 h
          obtain ⟨h6, h⟩ := h
          rw [Option.isNone_iff_eq_none.mp h6]
          exact PI.congr (si_rng1 c (chkE_ok g c fo b _ h) (notb h5) (isGlo_eq h3) (g.free _ h4)) fun _ _ => by rw [denI, denO] <;> rfl
        · replace h := and2 h
          obtain ⟨h5, h⟩ := h
          replace h := and2 h
          obtain ⟨h6, h⟩ := h
          replace h := and2 h
          obtain ⟨h7, h⟩ := h
          cases a with
          | none => unfold chkO at h7; cases h7
          | some a =>
            unfold chkO at h7
            exact PI.congr (si_rng2 c (chkE_ok g c fo a _ h7) (chkE_ok g c fo b _ h) (notb h5) (notb h6) (isGlo_eq h3) (g.free _ h4)) fun _ _ => by rw [denI, denO] <;> rfl
        · cases h
      · cases h
    · cases h
  | .enum _, e', h, hs => by unfold chkI at h; cases h
  | .zip _ _, e', h, hs => by unfold chkI at h; cases h
end
end
end Py
end

section
set_option Elab.async false
set_option linter.all false
set_option maxRecDepth 100000
set_option maxHeartbeats 1000000
namespace Py
open PySem PySem.Spec PyProof.Rows L2
/-! ### when a tuple's parts are stored at once -/
def locName (sc : Scope) (t : Expr) : Bool := match t with
  | .Name y _ => (match sc.names.lookup y with | some .local => true | _ => false)
  | _ => false
theorem swn_short {f : Expr → Option Str} : ∀ {ts : List Expr}, (ts.any fun t => (f t).isNone) = true → (ts.filterMap f).length < ts.length
  | [], h => by cases h
  | t :: ts, h => by
    rw [List.any_cons] at h
    cases e : f t with
    | none =>
      rw [List.filterMap_cons_none e]
      exact Nat.lt_succ_of_le (List.length_filterMap_le f ts)
    | some y =>
      rw [e] at h
      rw [List.filterMap_cons_some e]
      exact Nat.succ_lt_succ (swn_short (by simpa using h))
def nsC (sc : Scope) (tg e : Expr) : Bool := match tg with
  | .Tuple ts _ _ => (match e with
    | .Tuple vs _ _ => vs.all (foldedForSure 8) || (ts.any fun t => !locName sc t) || decide (3 < ts.length)
    | _ => true)
  | .List .. => false
  | _ => true
theorem nsC_ok {tg e : Expr} {env : PySem.Env} (h : nsC env.scope tg e = true) : swappedStores [tg] e env = pure none := by
  cases tg with
  | Tuple ts k p =>
    cases e with
    | Tuple vs k2 p2 =>
      unfold swappedStores
      dsimp only
      split
      · rfl
      · rename_i h1
        split
        · rfl
        · split
          · rfl
          · rename_i h3
            split
            · rfl
            · rename_i h4
              exfalso
              have h : (vs.all (foldedForSure 8) || (ts.any fun t => !locName env.scope t) || decide (3 < ts.length)) = true := h
              rw [Bool.or_eq_true, Bool.or_eq_true] at h
              rcases h with (h | h) | h
              · exact h4 h
              · refine h3 ?_
                rw [Bool.or_eq_true]
                left
                rw [bne_iff_ne]
                refine Nat.ne_of_lt (swn_short ?_)
                rw [List.any_eq_true] at h ⊢
                obtain ⟨t, ht, q⟩ := h
                refine ⟨t, ht, ?_⟩
                cases t with
                | Name y py =>
                  dsimp only
                  split
                  · rename_i z
                    exfalso
                    have z := (Bool.and_eq_true _ _ ▸ z : _ ∧ _).1
                    have z : env.kindOf y = some .local := by simpa using z
                    have z : env.scope.names.lookup y = some .local := z
                    have : locName env.scope (.Name y py) = true := by
                      unfold locName
                      dsimp only
                      rw [z]
                    rw [this] at q
                    cases q
                  · rfl
                | _ => rfl
              · refine h1 ?_
                have h := of_decide_eq_true h
                rw [Bool.or_eq_true, Bool.or_eq_true]
                left; left
                simp
                omega
    | _ => rfl
  | List es p => cases h
  | _ => cases e <;> rfl
theorem kind_fn {env : PySem.Env} (h : env.scope.kind = .function) : env.blockKind = .function := by
  unfold PySem.Env.blockKind
  rw [h]
  rfl
theorem star_any {vs : List Expr} (h : noStars vs = true) : ¬ (vs.any fun | .Starred .. => true | _ => false) = true := by
  rw [List.any_eq_true]
  rintro ⟨t, ht, q⟩
  have z := List.all_eq_true.mp h t ht
  cases t <;> first | (cases z; done) | (cases q; done)
theorem sw2 {env : PySem.Env} {x y : Str} {px py pt p2 : Pos} {kt k2 : Nat} {a b : Expr} (hk : env.scope.kind = .function) (hx : env.scope.names.lookup x = some .local) (hy : env.scope.names.lookup y = some .local)
    (hl : (py.line == px.line) = true) (hn : (y == x) = false) (hs : noStars [a, b] = true) (h1 : [a, b].all (foldedForSure 8) = false) (h2 : [a, b].all (constantsAlone 8) = false) :
    swappedStores [.Tuple [.Name x px, .Name y py] kt pt] (.Tuple [a, b] k2 p2) env = pure (some [x, y]) := by
  have kx : env.kindOf x = some .local := hx
  have ky : env.kindOf y = some .local := hy
  unfold swappedStores
  have nm : ([Expr.Name x px, Expr.Name y py].filterMap fun (t : Expr) => match t with
    | .Name id pos => if env.kindOf id == some .local && pos.line == px.line then some id else none
    | _ => none) = [x, y] := by
    rw [List.filterMap_cons_some (b := x) (by dsimp only; rw [kx, if_pos (by simp)]), List.filterMap_cons_some (b := y) (by dsimp only; rw [ky, if_pos (by rw [hl]; rfl)]), List.filterMap_nil]
  dsimp only
  rw [if_neg (by rw [kind_fn hk]; simp)]
  refine (if_neg (star_any hs)).trans ?_
  erw [nm]
  have ed : [x, y].eraseDups = [x, y] := by
    rw [List.eraseDups_cons, List.filter_cons_of_pos (by rw [hn]; rfl), List.filter_nil, List.eraseDups_cons, List.filter_nil, List.eraseDups_nil]
  rw [ed, if_neg (by simp), if_neg (by rw [h1]; decide), if_neg (by rw [h2]; decide)]
theorem sw3 {env : PySem.Env} {x y z : Str} {px py pz pt p2 : Pos} {kt k2 : Nat} {a b c : Expr} (hk : env.scope.kind = .function) (hx : env.scope.names.lookup x = some .local) (hy : env.scope.names.lookup y = some .local) (hz : env.scope.names.lookup z = some .local)
    (hl : (py.line == px.line) = true) (hl' : (pz.line == px.line) = true) (hn : (y == x) = false) (hn' : (z == x) = false) (hn2 : (z == y) = false) (hs : noStars [a, b, c] = true)
    (h1 : [a, b, c].all (foldedForSure 8) = false) (h2 : [a, b, c].all (constantsAlone 8) = false) :
    swappedStores [.Tuple [.Name x px, .Name y py, .Name z pz] kt pt] (.Tuple [a, b, c] k2 p2) env = pure (some [x, y, z]) := by
  have kx : env.kindOf x = some .local := hx
  have ky : env.kindOf y = some .local := hy
  have kz : env.kindOf z = some .local := hz
  unfold swappedStores
  have nm : ([Expr.Name x px, Expr.Name y py, Expr.Name z pz].filterMap fun (t : Expr) => match t with
    | .Name id pos => if env.kindOf id == some .local && pos.line == px.line then some id else none
    | _ => none) = [x, y, z] := by
    rw [List.filterMap_cons_some (b := x) (by dsimp only; rw [kx, if_pos (by simp)]), List.filterMap_cons_some (b := y) (by dsimp only; rw [ky, if_pos (by rw [hl]; rfl)]), List.filterMap_cons_some (b := z) (by dsimp only; rw [kz, if_pos (by rw [hl']; rfl)]), List.filterMap_nil]
  dsimp only
  rw [if_neg (by rw [kind_fn hk]; simp)]
  refine (if_neg (star_any hs)).trans ?_
  erw [nm]
  have ed : [x, y, z].eraseDups = [x, y, z] := by
    rw [List.eraseDups_cons, List.filter_cons_of_pos (by rw [hn]; rfl), List.filter_cons_of_pos (by rw [hn']; rfl), List.filter_nil, List.eraseDups_cons, List.filter_cons_of_pos (by rw [hn2]; rfl), List.filter_nil, List.eraseDups_cons, List.filter_nil, List.eraseDups_nil]
  rw [ed, if_neg (by simp), if_neg (by rw [h1]; decide), if_neg (by rw [h2]; decide)]
/-! ### statements' checkers -/
def cellName (sc : Scope) (y : Str) : Bool := match sc.names.lookup y with | some .cell => true | _ => false
/-- a comprehension that is stored in a name as any value is -/
def cmpC (sc : Scope) (tg e : Expr) : Bool := match tg with
  | .Name y py => (match e with
    | .ListComp _ _ scope pos => cellName sc y || (!(py.line == pos.line) || scope.names.any fun (n, k) => n == y && (k == .local || k == .cell))
    | _ => false)
  | _ => false
def lcC (sc : Scope) (tg e : Expr) : Bool := match tg with
  | .Name y py => (match e with
    | .ListComp _ _ scope pos => locName sc tg && ((py.line == pos.line) && !(scope.names.any fun (n, k) => n == y && (k == .local || k == .cell)))
    | _ => false)
  | _ => false
def isLcM : Tg → E → Bool
  | .nm _, .al _ (.comp ..) => true
  | _, _ => false
def asgC (sc : Scope) (t : Tg) (e : E) (tg' e' : Expr) : Bool := match isComp e' with
  | false => nsC sc tg' e'
  | true => cmpC sc tg' e' || (isLcM t e && lcC sc tg' e')
def parC (N : List Str) (sc : Scope) (x y : Str) (px py : Pos) (a b : Expr) (i j : Nat) : Bool :=
  isAt N i x && (isAt N j y && (!(i == j) && (locName sc (.Name x px) && (locName sc (.Name y py) && ((py.line == px.line) && (!(y == x) && (noStars [a, b] && (![a, b].all (foldedForSure 8) && ![a, b].all (constantsAlone 8)))))))))
def parC3 (N : List Str) (sc : Scope) (x y z : Str) (px py pz : Pos) (a b c : Expr) (i j l : Nat) : Bool :=
  isAt N i x && (isAt N j y && (isAt N l z && (!(i == j) && (!(i == l) && (!(j == l) && (locName sc (.Name x px) && (locName sc (.Name y py) && (locName sc (.Name z pz) && ((py.line == px.line) && ((pz.line == px.line) && (!(y == x) && (!(z == x) && (!(z == y) &&
    (noStars [a, b, c] && (![a, b, c].all (foldedForSure 8) && ![a, b, c].all (constantsAlone 8))))))))))))))))
mutual
def chkS (Γ : Gm) (N : List Str) (sc : Scope) : S → Stmt → Bool
  | .asg t e, s => match s with
    | .Assign tgs e' _ => match tgs with
      | [tg'] => chkTg N sc t tg' && (chkE Γ N sc e e' && asgC sc t e tg' e')
      | _ => false
    | _ => false
  | .par2 i j a b, s => match s with
    | .Assign tgs e' _ => match tgs with
      | [.Tuple ts _ _] => match ts with
        | [.Name x px, .Name y py] => match e' with
          | .Tuple vs _ _ => match vs with
            | [a', b'] => parC N sc x y px py a' b' i j && (chkE Γ N sc a a' && chkE Γ N sc b b')
            | _ => false
          | _ => false
        | _ => false
      | _ => false
    | _ => false
  | .par3 i j l a b d, s => match s with
    | .Assign tgs e' _ => match tgs with
      | [.Tuple ts _ _] => match ts with
        | [.Name x px, .Name y py, .Name z pz] => match e' with
          | .Tuple vs _ _ => match vs with
            | [a', b', d'] => parC3 N sc x y z px py pz a' b' d' i j l && (chkE Γ N sc a a' && (chkE Γ N sc b b' && chkE Γ N sc d d'))
            | _ => false
          | _ => false
        | _ => false
      | _ => false
    | _ => false
  | .exp e, s => match s with
    | .Expr e' _ => !isComp e' && chkE Γ N sc e e'
    | _ => false
  | .sets a i e, s => match s with
    | .Assign tgs e' _ => match tgs with
      | [.Subscript a' i' _] => !isComp e' && (!isSl i' && (chkE Γ N sc a a' && (chkE Γ N sc i i' && chkE Γ N sc e e')))
      | _ => false
    | _ => false
  | .aug i o e, s => match s with
    | .AugAssign t o' e' _ => match t with
      | .Name x _ => isAt N i x && (isLc (sc.names.lookup x) && (decide (o' = bop o) && (decide (o = .add ∨ o = .sub) && chkE Γ N sc e e')))
      | _ => false
    | _ => false
  | .ret o, s => match s with
    | .Return o' _ => match o with
      | none => o'.isNone
      | some e => match o' with
        | some e' => chkE Γ N sc e e'
        | none => false
    | _ => false
  | .ite t a b, s => match s with
    | .If t' a' b' _ => chkT Γ N sc t t' && (chkB Γ N sc a a' && chkB Γ N sc b b')
    | _ => false
  | .for tg it body, s => match s with
    | .For tg' it' body' els _ => els.isEmpty && (!isSet it' && (chkTg N sc tg tg' && (chkI Γ N sc it it' && chkB Γ N sc body body')))
    | _ => false
  | .whl t body, s => match s with
    | .While t' body' els _ => els.isEmpty && (chkT Γ N sc t t' && chkB Γ N sc body body')
    | _ => false
  | .brk, s => match s with
    | .Break _ => true
    | _ => false
  | .cnt, s => match s with
    | .Continue _ => true
    | _ => false
  | .pass, s => match s with
    | .Pass _ => true
    | _ => false
  | .app a e, s => match s with
    | .Expr x _ => match x with
      | .Call f es ks cp => match f with
        | .Attribute o n ap => match es with
          | [e'] => ks.isEmpty && (decide (n = ("append" : Str)) && (noCall0 o && (!isStar e' && ((ap.endLine == cp.line) && (chkE Γ N sc a o && chkE Γ N sc e e')))))
          | _ => false
        | _ => false
      | _ => false
    | _ => false
  | .rz k f e, s => match s with
    | .Raise x y _ => match x with
      | some q => match q with
        | .Call g es ks _ => match g with
          | .Name z _ => y.isNone && (ks.isEmpty && (decide (z = Str.ofString k) && (isGlo sc z && (!isDbg z && (Γ.rz.contains (k, f) && (match es with
            | [a] => !isStar a && chkE Γ N sc e a
            | _ => false))))))
          | _ => false
        | _ => false
      | none => false
    | _ => false
  | .raise, _ => true
def chkB (Γ : Gm) (N : List Str) (sc : Scope) : List S → List Stmt → Bool
  | [], ss => ss.isEmpty
  | s :: ss, l => match l with
    | s' :: ss' => chkS Γ N sc s s' && chkB Γ N sc ss ss'
    | [] => false
end
end Py
end

section
set_option Elab.async false
set_option linter.all false
set_option maxRecDepth 100000
set_option maxHeartbeats 1000000
namespace Py
open PySem PySem.Spec PyProof.Rows L2
section
variable {T : Tb} {W : WX} {sc : Scope} {N : List Str} {X : Cx} (c : CtxS T W sc N X)
theorem sets_ne {α : Type} {l : List α} {i j : Nat} {a b : α} : (l.set i a).set j b = (l.set i a).set j b := rfl
theorem ss_exp {e : Expr} {pos : Pos} {te : Env → Hh → Res D} (he : PE X e (tE T W te)) (h1 : isComp e = false) : PS X (.Expr e pos) (tS T W fun env h => (te env h).to env fun _ h => .nx env h) :=
  tS_of (ps_expr he (nosw_of h1)) fun Dn σ H xx m h env R S q => ⟨xx, m, h, env, R, S, SvP.to S q fun x h1 m1 v H1 s1 R1 r1 q1 => q1 m1 σ H1 .refl R1 (S.mono s1)⟩
include c in
theorem ss_aug {i : Nat} {x : Str} {o : Bop} {e : Expr} {p pos : Pos} {te : Env → Hh → Res D} (he : PE X e (tE T W te)) (hi : X.N[i]? = some x) (hx : Loc X.env.scope x) (hf : X.fn x = true ∨ X.env.scope.names.lookup x = some .local) (ho : o = .add ∨ o = .sub) :
    PS X (.AugAssign (.Name x p) (bop o) e pos) (tS T W fun env h => match env[i]? with
      | some (some d) => (te env h).to env fun y h => match aug? o d y with
        | some z => .nx (env.set i (some z)) h
        | none => .stuck
      | _ => .stuck) := by
  have go : ∀ (o : Bop) (f : Int → Int → Int), PIp X (bop o) (ipI f) → (∀ d y z, aug? o d y = some z → ∃ a b, d = .int a ∧ y = .int b ∧ z = .int (f a b)) → PS X (.AugAssign (.Name x p) (bop o) e pos) (tS T W fun env h => match env[i]? with
      | some (some d) => (te env h).to env fun y h => match aug? o d y with
        | some z => .nx (env.set i (some z)) h
        | none => .stuck
      | _ => .stuck) := fun o f pip ha =>
    tS_of (ps_aug c.nd hi hx he pip hf) fun Dn σ H xx m h env R S q => by
      split at q
      · rename_i d ed
        obtain ⟨v, e1, r⟩ := S.2 i d ed
        refine ⟨v, e1, xx, m, h, env, R, S, SvP.to S q fun y h1 m1 w H1 s1 R1 r1 q1 => ?_⟩
        split at q1
        · rename_i z ez
          obtain ⟨a, b, rfl, rfl, rfl⟩ := ha _ _ _ ez
          obtain rfl := rd_int_iff.mp r
          obtain rfl := rd_int_iff.mp r1
          exact ⟨a, b, rfl, rfl, q1 m1 _ H1 .refl R1 ((S.mono s1).set i rd_int)⟩
        · exact q1.elim
      · exact q.elim
  rcases ho with rfl | rfl
  · exact go .add _ ip_add fun d y z e => by
      unfold aug? at e
      cases d <;> try (cases e; done)
      cases y <;> try (cases e; done)
      cases e
      exact ⟨_, _, rfl, rfl, rfl⟩
  · exact go .sub _ ip_sub fun d y z e => by
      unfold aug? at e
      cases d <;> try (cases e; done)
      cases y <;> try (cases e; done)
      cases e
      exact ⟨_, _, rfl, rfl, rfl⟩
include c in
theorem ss_par2 {i j : Nat} {x y : Str} {px py pt p2 pos : Pos} {kt k2 : Nat} {a b : Expr} {ta tb : Env → Hh → Res D} (ha : PE X a (tE T W ta)) (hb : PE X b (tE T W tb)) (hi : X.N[i]? = some x) (hj : X.N[j]? = some y) (hij : i ≠ j)
    (hx : X.env.scope.names.lookup x = some .local) (hy : X.env.scope.names.lookup y = some .local) (na : isStar a = false) (nb : isStar b = false)
    (hw : swappedStores [.Tuple [.Name x px, .Name y py] kt pt] (.Tuple [a, b] k2 p2) X.env = pure (some [x, y])) :
    PS X (.Assign [.Tuple [.Name x px, .Name y py] kt pt] (.Tuple [a, b] k2 p2) pos) (tS T W fun env h => (ta env h).to env fun x h => (tb env h).to env fun y h => .nx ((env.set i (some x)).set j (some y)) h) :=
  tS_of (ps_par c.calm c.nd hi hj hij hx hy (pa_cons ha (pa_cons hb pa_nil (starEach_of nb)) (starEach_of na)) hw) fun Dn σ H xx m h env R S q =>
    ⟨xx, m, h, env, R, S, SvP.to S q fun u h1 m1 v H1 s1 R1 r1 q1 => ⟨xx, m1, h1, env, R1, S.mono s1, SvP.to (S.mono s1) q1 fun u2 h2 m2 v2 H2 s2 R2 r2 q2 =>
      ⟨v, v2, rfl, q2 m2 _ H2 .refl R2 ((((S.mono s1).mono s2).set i (r1.mono s2)).set j r2)⟩⟩⟩
include c in
theorem ss_par3 {i j l : Nat} {x y z : Str} {px py pz pt p2 pos : Pos} {kt k2 : Nat} {a b d : Expr} {ta tb td : Env → Hh → Res D} (ha : PE X a (tE T W ta)) (hb : PE X b (tE T W tb)) (hd : PE X d (tE T W td)) (hi : X.N[i]? = some x) (hj : X.N[j]? = some y) (hl : X.N[l]? = some z)
    (hij : i ≠ j) (hil : i ≠ l) (hjl : j ≠ l) (hx : X.env.scope.names.lookup x = some .local) (hy : X.env.scope.names.lookup y = some .local) (hz : X.env.scope.names.lookup z = some .local) (na : isStar a = false) (nb : isStar b = false) (nd : isStar d = false)
    (hw : swappedStores [.Tuple [.Name x px, .Name y py, .Name z pz] kt pt] (.Tuple [a, b, d] k2 p2) X.env = pure (some [x, y, z])) :
    PS X (.Assign [.Tuple [.Name x px, .Name y py, .Name z pz] kt pt] (.Tuple [a, b, d] k2 p2) pos) (tS T W fun env h => (ta env h).to env fun x h => (tb env h).to env fun y h => (td env h).to env fun z h => .nx (((env.set i (some x)).set j (some y)).set l (some z)) h) :=
  tS_of (ps_par3 c.calm c.nd hi hj hl hij hil hjl hx hy hz (pa_cons ha (pa_cons hb (pa_cons hd pa_nil (starEach_of nd)) (starEach_of nb)) (starEach_of na)) hw) fun Dn σ H xx m h env R S q =>
    ⟨xx, m, h, env, R, S, SvP.to S q fun u h1 m1 v H1 s1 R1 r1 q1 => ⟨xx, m1, h1, env, R1, S.mono s1, SvP.to (S.mono s1) q1 fun u2 h2 m2 v2 H2 s2 R2 r2 q2 =>
      ⟨xx, m2, h2, env, R2, (S.mono s1).mono s2, SvP.to ((S.mono s1).mono s2) q2 fun u3 h3 m3 v3 H3 s3 R3 r3 q3 =>
        ⟨v, v2, v3, rfl, q3 m3 _ H3 .refl R3 ((((((S.mono s1).mono s2).mono s3).set i ((r1.mono s2).mono s3)).set j (r2.mono s3)).set l r3)⟩⟩⟩⟩
end
theorem PS.congr {T : Tb} {W : WX} {X : Cx} {s : Stmt} {f g : Env → Hh → SR} (p : PS X s (tS T W f)) (h : ∀ env hh, f env hh = g env hh) : PS X s (tS T W g) := by
  have : f = g := funext fun env => funext fun hh => h env hh
  rw [← this]
  exact p
theorem PSs.congr {T : Tb} {W : WX} {X : Cx} {s : List Stmt} {f g : Env → Hh → SR} (p : PSs X s (tS T W f)) (h : ∀ env hh, f env hh = g env hh) : PSs X s (tS T W g) := by
  have : f = g := funext fun env => funext fun hh => h env hh
  rw [← this]
  exact p
theorem locN_eq {sc : Scope} {y : Str} {p : Pos} (h : locName sc (.Name y p) = true) : sc.names.lookup y = some .local := by
  unfold locName at h
  dsimp only at h
  split at h
  · assumption
  · cases h
theorem cmp_no {sc : Scope} {tg e : Expr} {l : Nat} {env : PySem.Env} (he : env.scope = sc) (h : cmpC sc tg e = true) : swapsWithSole [tg] e l env = pure false := by
  subst he
  unfold cmpC at h
  split at h
  · rename_i y py
    split at h
    · rename_i elt gs scope pos
      show swapsWith (.ListComp elt gs scope pos) (some (.Name y py)) l env = pure false
      unfold swapsWith
      have z : (env.blockKind == .function && env.kindOf y == some .local && py.line == (Expr.ListComp elt gs scope pos).pos.line && !(scope.names.any fun (n, k) => n == y && (k == .local || k == .cell))) = false := by
        rw [Bool.or_eq_true, Bool.or_eq_true] at h
        rcases h with h | h | h
        · have : env.kindOf y = some .cell := by
            unfold cellName at h
            split at h
            · assumption
            · cases h
          rw [this]
          simp
        · have : (py.line == (Expr.ListComp elt gs scope pos).pos.line) = false := notb h
          rw [this]
          simp
        · rw [h]
          simp
      show (pure (env.blockKind == .function && env.kindOf y == some .local && py.line == (Expr.ListComp elt gs scope pos).pos.line && !(scope.names.any fun (n, k) => n == y && (k == .local || k == .cell))) : Sem Bool) = pure false
      rw [z]
    · cases h
  · cases h
theorem ss_asg' {T : Tb} {W : WX} {sc : Scope} {N : List Str} {X : Cx} {tg e : Expr} {pos : Pos} {tgm : Tg} {te : Env → Hh → Res D} (he : PE X e (tE T W te)) (hg : PG X tg (gT T tgm)) (h1 : swapsWithSole [tg] e pos.line X.env = pure false) (h2 : swappedStores [tg] e X.env = pure none) (h3 : isStar tg = false) :
    PS X (.Assign [tg] e pos) (tS T W fun env h => (te env h).to env fun x h => match asg? tgm x env with | some env' => .nx env' h | none => .stuck) :=
  tS_of (ps_asg he hg h1 h2 (by rw [each_cons h3]; rfl)) fun Dn σ H xx m h env R S q => ⟨xx, m, h, env, R, S, SvP.to S q fun x h1 m1 v H1 s1 R1 r1 q1 => by
    split at q1
    · rename_i env' ea
      exact ⟨xx, m1, h1, env, x, env', R1, S.mono s1, r1, ea, fun σ' S' _ => q1 m1 σ' H1 .refl R1 S'⟩
    · exact q1.elim⟩
section
variable {T : Tb} {N : List Str} {Γ : Gm} {cl : Cl} (g : GOk T Γ)
include g
theorem asg_ok {W : WX} {sc : Scope} {X : Cx} (c : CtxS T W sc N X) (ho : X.env.scope = sc) (fo : FOk T X cl Γ) {t : Tg} {e : E} {tg e' : Expr} {pos : Pos} (h1 : chkTg N sc t tg = true) (h2 : chkE Γ N sc e e' = true) (h3 : asgC sc t e tg e' = true) :
    PS X (.Assign [tg] e' pos) (tS T W (exc cl (.asg t e))) := by
  obtain ⟨pg, ns⟩ := tg_ok c.toCtx h1
  have pe := chkE_ok g c.toCtx fo e e' h2
  unfold asgC at h3
  split at h3
  · rename_i hc
    exact PS.congr (ss_asg' (sc := sc) (N := N) pe pg (sole_of hc) (nsC_ok (by rw [ho]; exact h3)) ns) fun _ _ => by rw [exc] <;> rfl
  · rw [Bool.or_eq_true] at h3
    rcases h3 with h3 | h3
    · have hw : swappedStores [tg] e' X.env = pure none := by
        unfold cmpC at h3
        split at h3
        · rfl
        · cases h3
      exact PS.congr (ss_asg' (sc := sc) (N := N) pe pg (cmp_no ho h3) hw ns) fun _ _ => by rw [exc] <;> rfl
    · replace h3 := and2 h3
      obtain ⟨h4, h5⟩ := h3
      unfold isLcM at h4
      split at h4
      · rename_i i mu elt tgm it cs own
        unfold lcC at h5
        split at h5
        · rename_i y py
          split at h5
          · rename_i elt' gs scope pos' hcc
            replace h5 := and2 h5
            obtain ⟨h5, h6⟩ := h5
            replace h6 := and2 h6
            obtain ⟨h6, h7⟩ := h6
            have hl := locN_eq h5
            rw [← ho] at hl
            unfold chkE at h2
            unfold chkA at h2
            dsimp only at h2
            split at h2
            · rename_i tg' iter' ifs' asy
              replace h2 := and2 h2
              obtain ⟨k1, h2⟩ := h2
              replace h2 := and2 h2
              obtain ⟨k2, h2⟩ := h2
              replace h2 := and2 h2
              obtain ⟨k3, h2⟩ := h2
              replace h2 := and2 h2
              obtain ⟨k4, h2⟩ := h2
              replace h2 := and2 h2
              obtain ⟨k5, h2⟩ := h2
              replace h2 := and2 h2
              obtain ⟨k6, h2⟩ := h2
              replace h2 := and2 h2
              obtain ⟨k7, k8⟩ := h2
              have k1 := of_decide_eq_true k1
              subst k1
              have ok := c.toCtx.blkOk k3
              unfold chkTg at h1
              have hy : X.N[i]? = some y := by
                rw [c.N]
                exact isAt_eq (and2 h1).1
              have p := ss_setLc (mu := mu) (py := py) (pos := pos') (spos := pos) c hy hl h6 (notb h7) (chkI_ok g c.toCtx fo it _ k6 (notb k2)) ok (fun s H C cls fp => (tg_ok (c.toCtx.blk ok s H C cls fp) k4).1)
                (fun s H C cls fp => chkCs_ok g.dull (c.toCtx.blk ok s H C cls fp) fo.blk cs _ k7) (fun s H C cls fp => chkE_ok g.dull (c.toCtx.blk ok s H C cls fp) fo.blk elt _ k8) (notSetI (notb k2)) (slots_mem k5)
              simp only [own_map] at p
              exact PS.congr p fun _ _ => by
                rw [exc, den, denA] <;> rfl
            · cases h2
          · cases h5
        · cases h5
      · cases h4
end
end Py
end

section
set_option Elab.async false
set_option linter.all false
set_option maxRecDepth 100000
set_option maxHeartbeats 1000000
namespace Py
open PySem PySem.Spec PyProof.Rows L2
theorem walk_body {c : Cl} {tg : Tg} {body : List S} : (bodyF tg fun env h => excs c body env h) = fun d env h => match asg? tg d env with
      | some env' => excs c body env' h
      | none => .stuck := rfl
section
variable {T : Tb} {N : List Str} {Γ : Gm} {cl : Cl} (g : GOk T Γ)
include g
mutual
theorem chkS_ok {W : WX} {sc : Scope} {X : Cx} (c : CtxS T W sc N X) (ho : X.env.scope = sc) (fo : FOk T X cl Γ) : ∀ (s : S) (s' : Stmt), chkS Γ N sc s s' = true → PS X s' (tS T W (exc cl s))
  | .asg t e, s', h => by
    unfold chkS at h
    split at h
    · split at h
      · replace h := and2 h
        obtain ⟨h1, h⟩ := h
        replace h := and2 h
        obtain ⟨h2, h3⟩ := h
        exact asg_ok g c ho fo h1 h2 h3
      · cases h
    · cases h
  | .par2 i j a b, s', h => by
    unfold chkS at h
    split at h
    · split at h
      · split at h
        · split at h
          · split at h
            · replace h := and2 h
              obtain ⟨h1, h⟩ := h
              replace h := and2 h
              obtain ⟨h2, h3⟩ := h
              unfold parC at h1
              simp only [Bool.and_eq_true] at h1
              obtain ⟨p1, p2, p3, p4, p5, p6, p7, p8, p9, p10⟩ := h1
              have lx := locN_eq p4
              have ly := locN_eq p5
              rw [← ho] at lx ly
              have kf : X.env.scope.kind = .function := c.kind
              have p8' := p8
              unfold noStars at p8'
              simp only [List.all_cons, List.all_nil, Bool.and_true, Bool.and_eq_true] at p8'
              have ix := isAt_eq p1
              have iy := isAt_eq p2
              rw [← c.N] at ix iy
              exact PS.congr (ss_par2 c (chkE_ok g c.toCtx fo a _ h2) (chkE_ok g c.toCtx fo b _ h3) ix iy (by simpa using p3) lx ly (notb p8'.1) (notb p8'.2) (sw2 kf lx ly p6 (notb p7) p8 (notb p9) (notb p10))) fun _ _ => by rw [exc]
            · cases h
          · cases h
        · cases h
      · cases h
    · cases h
  | .par3 i j l a b d, s', h => by
    unfold chkS at h
    split at h
    · split at h
      · split at h
        · split at h
          · split at h
            · replace h := and2 h
              obtain ⟨h1, h⟩ := h
              replace h := and2 h
              obtain ⟨h2, h⟩ := h
              replace h := and2 h
              obtain ⟨h3, h4⟩ := h
              unfold parC3 at h1
              simp only [Bool.and_eq_true] at h1
              obtain ⟨p1, p2, p3, q1, q2, q3, p4, p5, p6, r1, r2, r3, r4, r5, p8, p9, p10⟩ := h1
              have lx := locN_eq p4
              have ly := locN_eq p5
              have lz := locN_eq p6
              rw [← ho] at lx ly lz
              have kf : X.env.scope.kind = .function := c.kind
              have p8' := p8
              unfold noStars at p8'
              simp only [List.all_cons, List.all_nil, Bool.and_true, Bool.and_eq_true] at p8'
              have ix := isAt_eq p1
              have iy := isAt_eq p2
              have iz := isAt_eq p3
              rw [← c.N] at ix iy iz
              exact PS.congr (ss_par3 c (chkE_ok g c.toCtx fo a _ h2) (chkE_ok g c.toCtx fo b _ h3) (chkE_ok g c.toCtx fo d _ h4) ix iy iz (by simpa using q1) (by simpa using q2) (by simpa using q3) lx ly lz (notb p8'.1) (notb p8'.2.1) (notb p8'.2.2)
                (sw3 kf lx ly lz r1 r2 (notb r3) (notb r4) (notb r5) p8 (notb p9) (notb p10))) fun _ _ => by rw [exc]
            · cases h
          · cases h
        · cases h
      · cases h
    · cases h
  | .exp e, s', h => by
    unfold chkS at h
    split at h
    · replace h := and2 h
      obtain ⟨h1, h2⟩ := h
      exact PS.congr (ss_exp (chkE_ok g c.toCtx fo e _ h2) (notb h1)) fun _ _ => by rw [exc]
    · cases h
  | .sets a i e, s', h => by
    unfold chkS at h
    split at h
    · split at h
      · replace h := and2 h
        obtain ⟨h1, h⟩ := h
        replace h := and2 h
        obtain ⟨h2, h⟩ := h
        replace h := and2 h
        obtain ⟨h3, h⟩ := h
        replace h := and2 h
        obtain ⟨h4, h5⟩ := h
        exact PS.congr (ss_sets (chkE_ok g c.toCtx fo e _ h5) (chkE_ok g c.toCtx fo a _ h3) (chkE_ok g c.toCtx fo i _ h4) (notb h1) (notb h2)) fun _ _ => by rw [exc] <;> rfl
      · cases h
    · cases h
  | .aug i o e, s', h => by
    unfold chkS at h
    split at h
    · split at h
      · replace h := and2 h
        obtain ⟨h1, h⟩ := h
        replace h := and2 h
        obtain ⟨h2, h⟩ := h
        replace h := and2 h
        obtain ⟨h3, h⟩ := h
        replace h := and2 h
        obtain ⟨h4, h5⟩ := h
        rw [of_decide_eq_true h3]
        have ix := isAt_eq h1
        rw [← c.N] at ix
        have h4 := of_decide_eq_true h4
        rcases isLc_eq h2 with z | z
        · exact PS.congr (ss_aug c (chkE_ok g c.toCtx fo e _ h5) ix (.inl (c.loc _ z)) (.inr (c.loc _ z)) h4) fun _ _ => by rw [exc] <;> rfl
        · exact PS.congr (ss_aug c (chkE_ok g c.toCtx fo e _ h5) ix (.inr (c.cel _ z).1) (.inl (c.cel _ z).2) h4) fun _ _ => by rw [exc] <;> rfl
      · cases h
    · cases h
  | .ret none, s', h => by
    unfold chkS at h
    split at h
    · dsimp only at h
      rw [Option.isNone_iff_eq_none.mp h]
      exact PS.congr ss_retN fun _ _ => by rw [exc]
    · cases h
  | .ret (some e), s', h => by
    unfold chkS at h
    split at h
    · dsimp only at h
      split at h
      · exact PS.congr (ss_ret (chkE_ok g c.toCtx fo e _ h)) fun _ _ => by rw [exc]
      · cases h
    · cases h
  | .ite t a b, s', h => by
    unfold chkS at h
    split at h
    · replace h := and2 h
      obtain ⟨h1, h⟩ := h
      replace h := and2 h
      obtain ⟨h2, h3⟩ := h
      exact PS.congr (ss_if (chkT_ok g c.toCtx fo t _ h1) (chkB_ok c ho fo a _ h2) (chkB_ok c ho fo b _ h3)) fun _ _ => by rw [exc] <;> rfl
    · cases h
  | .for tg it body, s', h => by
    unfold chkS at h
    split at h
    · replace h := and2 h
      obtain ⟨h1, h⟩ := h
      replace h := and2 h
      obtain ⟨h2, h⟩ := h
      replace h := and2 h
      obtain ⟨h3, h⟩ := h
      replace h := and2 h
      obtain ⟨h4, h5⟩ := h
      rw [List.isEmpty_iff.mp h1]
      exact PS.congr (ss_for c (chkI_ok g c.toCtx fo it _ h4 (notb h2)) (tg_ok c.toCtx h3).1 (chkB_ok c ho fo body _ h5) (notSetI (notb h2))) fun _ _ => by rw [exc] <;> rfl
    · cases h
  | .whl t body, s', h => by
    unfold chkS at h
    split at h
    · replace h := and2 h
      obtain ⟨h1, h⟩ := h
      replace h := and2 h
      obtain ⟨h2, h3⟩ := h
      rw [List.isEmpty_iff.mp h1]
      exact PS.congr (ss_while c cl.turns (chkT_ok g c.toCtx fo t _ h2) (chkB_ok c ho fo body _ h3)) fun _ _ => by rw [exc] <;> rfl
    · cases h
  | .brk, s', h => by
    unfold chkS at h
    split at h
    · exact PS.congr ss_brk fun _ _ => by rw [exc]
    · cases h
  | .cnt, s', h => by
    unfold chkS at h
    split at h
    · exact PS.congr ss_cnt fun _ _ => by rw [exc]
    · cases h
  | .pass, s', h => by
    unfold chkS at h
    split at h
    · exact PS.congr ss_pass fun _ _ => by rw [exc]
    · cases h
  | .app a e, s', h => by
    unfold chkS at h
    split at h
    · split at h
      · split at h
        · split at h
          · replace h := and2 h
            obtain ⟨h1, h⟩ := h
            replace h := and2 h
            obtain ⟨h2, h⟩ := h
            replace h := and2 h
            obtain ⟨h3, h⟩ := h
            replace h := and2 h
            obtain ⟨h4, h⟩ := h
            replace h := and2 h
            obtain ⟨h5, h⟩ := h
            replace h := and2 h
            obtain ⟨h6, h7⟩ := h
            rw [List.isEmpty_iff.mp h1, of_decide_eq_true h2]
            exact PS.congr (ss_append c (chkE_ok g c.toCtx fo a _ h6) (chkE_ok g c.toCtx fo e _ h7) h3 (notb h4) h5) fun _ _ => by rw [exc] <;> rfl
          · cases h
        · cases h
      · cases h
    · cases h
  | .rz k f e, s', h => by
    unfold chkS at h
    split at h
    · split at h
      · split at h
        · split at h
          · replace h := and2 h
            obtain ⟨h1, h⟩ := h
            replace h := and2 h
            obtain ⟨h2, h⟩ := h
            replace h := and2 h
            obtain ⟨h3, h⟩ := h
            replace h := and2 h
            obtain ⟨h4, h⟩ := h
            replace h := and2 h
            obtain ⟨h5, h⟩ := h
            replace h := and2 h
            obtain ⟨h6, h⟩ := h
            rw [Option.isNone_iff_eq_none.mp h1, List.isEmpty_iff.mp h2]
            have h3 := of_decide_eq_true h3
            subst h3
            split at h
            · replace h := and2 h
              obtain ⟨h7, h8⟩ := h
              exact PS.congr (ss_rz c.toCtx (fo.rz _ _ h6) (fo.rm.elim (fun z => by rw [z] at h6; cases h6) id) (chkE_ok g c.toCtx fo e _ h8) (notb h7) (isGlo_eq h4) (notb h5)) fun _ _ => by rw [exc]
            · cases h
          · cases h
        · cases h
      · cases h
    · cases h
  | .raise, s', h => PS.congr ss_stuck fun _ _ => by rw [exc]
theorem chkB_ok {W : WX} {sc : Scope} {X : Cx} (c : CtxS T W sc N X) (ho : X.env.scope = sc) (fo : FOk T X cl Γ) : ∀ (ss : List S) (l : List Stmt), chkB Γ N sc ss l = true → PSs X l (tS T W (excs cl ss))
  | [], l, h => by
    unfold chkB at h
    rw [List.isEmpty_iff.mp h]
    exact PSs.congr ss_nil fun _ _ => by rw [excs]
  | s :: ss, l, h => by
    unfold chkB at h
    split at h
    · replace h := and2 h
      obtain ⟨h1, h2⟩ := h
      exact PSs.congr (ss_cons (chkS_ok c ho fo s _ h1) (chkB_ok c ho fo ss _ h2)) fun _ _ => by rw [excs]
    · cases h
end
end
end Py
end

section
set_option Elab.async false
set_option linter.all false
set_option maxRecDepth 100000
set_option maxHeartbeats 1000000
namespace Py
open PySem PySem.Spec PyProof.Rows L2
/-- a def: its name, its statement in the row, all its names (parameters first), how many parameters, its mirror -/
structure DF where
  nm : String
  st : Stmt
  N : List Str
  fd : FD
/-- it stands in the table, and its mirror was checked -/
structure DOk (T : Tb) (Γ : Gm) (d : DF) : Prop where
  fn : ∃ fa fd, T.mg (Str.ofString d.nm) = some (.ref fa) ∧ FunD T.K (Str.ofString d.nm) (Str.ofString d.nm) (defArgs d.st) (defBody d.st) (defScope d.st) [] [] fa fd ∧ Binds T.K fd (d.N.take d.fd.np) []
  sc : FnScope d.N (d.N.take d.fd.np) (defScope d.st)
  ln : d.N.length = d.fd.np + d.fd.nl
  ck : chkB Γ d.N (defScope d.st) d.fd.body (defBody d.st) = true
section
variable {T : Tb} {P : Program} {w : World} {base : Heap} {Γ : Gm} {cl : Cl}
theorem start_rs {m : List Addr} {H : Hp} {ds : List D} {vs : List V} {N : List Str} {n : Nat} (r : RDs T m H ds vs) (hl : N.length = vs.length + n) : RS T m H (ds.map some ++ List.replicate n none) (L2.start N vs) := by
  have l := r.length
  refine ⟨?_, fun i d e => ?_⟩
  · unfold L2.start
    rw [List.length_append, List.length_append, List.length_map, List.length_map, List.length_replicate, List.length_replicate, l]
    omega
  · by_cases hi : i < ds.length
    · rw [List.getElem?_append_left (by simpa using hi), List.getElem?_map] at e
      obtain ⟨d', e1, e2⟩ := Option.map_eq_some_iff.mp e
      cases e2
      obtain ⟨v, e3, r3⟩ := r.get e1
      refine ⟨v, ?_, r3⟩
      unfold L2.start
      rw [List.getElem?_append_left (by rw [List.length_map]; omega), List.getElem?_map, e3]
      rfl
    · rw [List.getElem?_append_right (by simpa using hi), List.getElem?_replicate] at e
      split at e <;> cases e
theorem run_ends {xx m : List Addr} {H : Hp} {h : Hh} {ds : List D} {f : FD} {Q : VK} {E : XK} (hl : ds.length = f.np) (q : EvP (T.ex xx) (fun C d _ H' => E C d H') [] m H (RD (T.ex xx)) (runF cl f ds h) Q) :
    SvP (T.ex xx) (fun C d _ H' => E C d H') m H (excs cl f.body (ds.map some ++ List.replicate f.nl none) h) { nx := fun _ H' => Q .non H', rt := Q } := by
  unfold runF at q
  rw [if_pos hl] at q
  split at q
  · rename_i e1
    rw [e1]
    exact fun m' σ' H' s R S => q m' .non H' s R rd_non
  · rename_i e1
    rw [e1]
    exact fun m' v H' s R r => q m' v H' s R r
  · rename_i e1
    rw [e1]
    exact fun m' C d σ' H' s R S rx => q m' C d H' s R rx
  · exact q.elim
theorem cx_of {N ps : List Str} {qual : Str} {scope : Scope} {f : Addr} {cd : Value} {A : Around} {outer : List PySem.Env} {s : Shared} {H : Hp} {E : XK} {k : Nat} (S : FnScope N ps scope) (hr : Room k (A.deeper (envOfC qual scope s.heap.objs.size f cd))) :
    CtxS T (fun C d _ H' => E C d H') scope N (cxOf (CX P w) P w T.K T.mg base N qual scope f cd A outer s H E) where
  K := rfl
  mg := rfl
  N := rfl
  nd := S.nd
  tk := takes_of rfl rfl rfl rfl
  calm := rfl
  un := hr.units
  kind := S.kind
  vis := fun x h => h
  loc := fun x h => h
  cel := fun x h => ⟨h, rfl⟩
  glo := fun x h => h
  fre := fun x h => .inr h
  po := passes_of rfl
/-- what holds of the program's classes, and of the names of defs as values -/
structure Sta (T : Tb) (P : Program) (w : World) (base : Heap) (Γ : Gm) (Pm : Pg) : Prop where
  ar : ∀ f n, (Pm.fns.lookup f).map (·.np) = some n → Γ.fns.lookup f = some n
  rz : ∀ k f, Γ.rz.contains (k, f) = true → RzAt T P w base k f
  sub : ∀ y k b, Pm.sub y k = some b → SubAt T y k b
  at_ : ∀ y f, Pm.at_ y f = true → AtAt T y f
  kw : Γ.kws = []
  rp : Γ.rp = false
theorem one_ok {d : DF} {k : Nat} {Pm : Pg} {call : String → List D → Hh → Res D} (g : GOk T Γ) (o : DOk T Γ d) (st : Sta T P w base Γ Pm) (he : Γ.ears = []) (hk : 2 ≤ k) (fo : ∀ f n, Γ.fns.lookup f = some n → FnAt T P w base k f n (call f)) : FnAt T P w base (k + 1) d.nm d.fd.np (runF (clN Pm call) d.fd) := by
  obtain ⟨fa, fd, hm, F, hb⟩ := o.fn
  have hln := o.ln
  have hps : (d.N.take d.fd.np).length = d.fd.np := by rw [List.length_take]; omega
  refine ⟨fa, fd, d.N.take d.fd.np, hm, F.kp, hb, hps, F.ok o.sc (fun vs H Q E h => ?_) fun cdv A outer s H vs Q E hr h => ?_⟩
  · obtain ⟨xx, m, hh, ds, hl, _⟩ := h
    rw [hl, hps]
  · obtain ⟨xx, m, hh, ds, hl, R, r, q⟩ := h
    have c := cx_of (T := T) (P := P) (w := w) (base := base) (outer := outer) (H := H) (E := E) o.sc hr
    have F1 : FOk T (cxOf (CX P w) P w T.K T.mg base d.N (Str.ofString d.nm) (defScope d.st) fa cdv A outer s H E) (clN Pm call) Γ :=
      ⟨fun f n hf => ⟨k, fo f n hf, hr⟩, st.ar, st.rz, .inr (hr.mono hk), st.sub, st.at_, (fun g hg => by rw [he] at hg; cases hg), (fun q hq => by rw [st.kw] at hq; cases hq), fun hp => by rw [st.rp] at hp; cases hp⟩
    refine ⟨tS T (fun C d _ H' => E C d H') (excs (clN Pm call) d.fd.body), chkB_ok g c rfl F1 d.fd.body _ o.ck, xx, m, hh, _, R, start_rs r (by rw [hl]; exact hln), run_ends (by rw [r.length, hl]) q⟩
theorem zero_ok {d : DF} {k : Nat} (o : DOk T Γ d) : FnAt T P w base k d.nm d.fd.np (fun _ _ => .stuck) := by
  obtain ⟨fa, fd, hm, F, hb⟩ := o.fn
  have hln := o.ln
  have hps : (d.N.take d.fd.np).length = d.fd.np := by rw [List.length_take]; omega
  refine ⟨fa, fd, _, hm, F.kp, hb, hps, ⟨fun vs H Q E h => ?_, fun A outer s H args us vs Q E hr he hb hv h => ?_⟩⟩
  · obtain ⟨xx, m, hh, ds, hl, _⟩ := h
    rw [hl, hps]
  · obtain ⟨xx, m, hh, ds, hl, R, r, q⟩ := h
    exact q.elim
/-- every def keeps its mirror's promise, by the depth of calls -/
theorem all_ok {ds : List DF} {Pm : Pg} (g : GOk T Γ) (h : ∀ d ∈ ds, DOk T Γ d) (hΓ : ∀ f n, Γ.fns.lookup f = some n → ∃ d ∈ ds, d.nm = f ∧ d.fd.np = n) (hP : ∀ d ∈ ds, Pm.fns.lookup d.nm = some d.fd) (st : Sta T P w base Γ Pm) (he : Γ.ears = []) :
    ∀ (k : Nat) (d : DF), d ∈ ds → FnAt T P w base (k + 2) d.nm d.fd.np (callN Pm k d.nm)
  | 0, d, hd => by
    have e : callN Pm 0 d.nm = fun _ _ => .stuck := funext fun _ => funext fun _ => by rw [callN]
    rw [e]
    exact zero_ok (h d hd)
  | k + 1, d, hd => by
    have e : callN Pm (k + 1) d.nm = runF (clN Pm (callN Pm k)) d.fd := funext fun a => funext fun b => by rw [callN, hP d hd]
    rw [e]
    refine one_ok g (h d hd) st he (by omega) fun f n hf => ?_
    obtain ⟨d', hd', rfl, rfl⟩ := hΓ f n hf
    exact all_ok g h hΓ hP st he k d' hd'
end
end Py
end

section
set_option Elab.async false
set_option linter.all false
set_option maxRecDepth 100000
set_option maxHeartbeats 2000000
namespace Py
open PySem PySem.Spec PyProof.Rows L2 LamX
/-- a def that hears stands as it is wanted -/
theorem ear_at {T : Tb} {X : Cx} {cl : Cl} {Γ : Gm} {g : String} {ga cc P CL : Addr} {k j : Nat} {a nf nc n : Str} {pg : Arguments} {sg : Scope} {bg tl : List Stmt} {dV kV doc pm cdv ct oc : Value} {an od : Option Addr} {osl : Array (Option Value)} {Ng : List Str} {ft : Env → Hh → SR}
    {p1 p2 p3 p4 p5 p6 p7 p8 p9 pa pb pc pd pe pf pt ph pi pj : Pos} {kt k2 kc : Nat} (hk2 : 2 ≤ k) (hr : Room (k + 2) X.A) (hF : ∀ f n, Γ.fns.lookup f = some n → FnAt T X.prog X.w X.base k f n (cl.call f))
    (hK : ∀ q ∈ Γ.kws, KwAt T X.prog X.w X.base k q.1 (q.2.1.map Str.ofString) q.2.2 (cl.call q.1)) (t0 : T.t0 = some (P, X.env.qual ++ "<lambda>")) (TB : TabB X.base X.mg cc P) (hcode : X.env.code = .ref cc) (hm : T.mg (Str.ofString g) = some (.ref ga)) (hk : PySem.W.keepIn T.K (.ref ga) = true)
    (lk : T.K.lookup ga = some ⟨oc, od, .func (PySem.W.fnOf (Str.ofString g) (Str.ofString g) pg bg sg dV kV doc pm an cdv ct), osl⟩) (hcg : PySem.W.codeIn T.K cdv (Str.ofString g) = true) (hb : L2.Binds T.K (PySem.W.fnOf (Str.ofString g) (Str.ofString g) pg bg sg dV kV doc pm an cdv ct) [a] []) (Sg : FnScope Ng [a] sg)
    (hbg : bg = .Assign [.Tuple [.Name nf p1, .Name nc p2] kt pt] (.Tuple [.List [] p3, .Constant .none kc p4] k2 p5) p6 ::
      .Try [.Expr (.Call (.Attribute (.Name nf p7) "append" pa) [.Call (.Name a pb) [] [] pc] [] pd) pe] [.ExceptHandler (some (.Name (Str.ofString cl.lia) pf)) (some n) [.Assign [.Name nc ph] (.Name n pi) pj] p8] [] [] p9 :: tl)
    (hN0 : Ng[0]? = some a) (hN1 : Ng[1]? = some nf) (hN2 : Ng[2]? = some nc) (hNj : Ng[j]? = some n) (hj : 2 < j) (h0 : sg.names.lookup a = some .local) (h1 : sg.names.lookup nf = some .local) (h2 : sg.names.lookup nc = some .local) (h3 : sg.names.lookup n = some .local)
    (hl : (p2.line == p1.line) = true) (hap : (pa.endLine == pd.line) = true) (hne : (nc == nf) = false)
    (da : (a == ("__debug__" : Str)) = false) (da' : (a == ("__classdict__" : Str)) = false) (df : (nf == ("__debug__" : Str)) = false) (df' : (nf == ("__classdict__" : Str)) = false) (dn : (n == ("__debug__" : Str)) = false) (dn' : (n == ("__classdict__" : Str)) = false)
    (hlg : sg.names.lookup (Str.ofString cl.lia) = some .globalImplicit) (hlm : T.mg (Str.ofString cl.lia) = some (.ref CL)) (hld : (Str.ofString cl.lia == ("__debug__" : Str)) = false)
    (htl : ∀ Z : Cx, CtxS T W0 sg Ng Z → Z.env.scope = sg → PSs Z tl (tS T W0 ft)) (hsub : ∀ y k b, cl.sub y k = some b → SubAt T y k b)
    (ht : ∀ l k h, cl.tail g l k h = fin? (ft (none :: some l :: some k :: List.replicate (Ng.length - 3) none) h)) : EarAt T X cl Γ g :=
  ⟨k, hk2, hr, hF, hK, fun W sc N c b params body scope p lpos pos ps hg hdb L B hk0 hbody =>
    PE.congr (se_hear (lia := cl.lia) (p1 := p1) (p2 := p2) (p3 := p3) (p4 := p4) (p5 := p5) (p6 := p6) (p7 := p7) (p8 := p8) (p9 := p9) c t0 TB hcode hm hk hdb hg lk hcg hb Sg hbg hN0 hN1 hN2 hNj hj h0 h1 h2 h3
      (fun env he => by subst he; exact sw2 Sg.kind h1 h2 hl hne rfl rfl rfl) hap da da' df df' dn dn' hlg hlm hld htl hsub hr L B hk0 hbody) fun env h => by
      rw [den]
      simp only [ht] <;> rfl⟩
end Py
end

section
set_option Elab.async false
set_option linter.all false
set_option maxRecDepth 100000
set_option maxHeartbeats 2000000
namespace Py
open PySem PySem.Spec PyProof.Rows L2 LamX
/-- at the law's call only the script and the tables of code objects are tracked -/
def scrH (K : PySem.W.Frag) (a : Addr) (ob : Obj) (xs : List V) (ts : List Addr) : Hp := fun b =>
  if b ∈ ts then some (.tbl #[]) else if b = a ∧ K.lookup a = none then some (.frz ob (.lst xs)) else none
section
variable {K : PySem.W.Frag} {a : Addr} {ob : Obj} {xs : List V} {ts : List Addr}
theorem scr_tab {b : Addr} (h : b ∈ ts) : scrH K a ob xs ts b = some (.tbl #[]) := if_pos h
theorem scr_some {b : Addr} {u : HO} (h : scrH K a ob xs ts b = some u) : (b ∈ ts ∧ u = .tbl #[]) ∨ (b = a ∧ K.lookup a = none ∧ u = .frz ob (.lst xs)) := by
  unfold scrH at h
  split at h
  · rename_i hb
    exact .inl ⟨hb, (Option.some.inj h).symm⟩
  · split at h
    · rename_i hb
      exact .inr ⟨hb.1, hb.2, (Option.some.inj h).symm⟩
    · cases h
theorem scr_none {b : Addr} (h1 : b ∉ ts) (h2 : b = a → K.lookup a ≠ none) : scrH K a ob xs ts b = none := by
  cases e : scrH K a ob xs ts b with
  | none => rfl
  | some u =>
    rcases scr_some e with ⟨h, _⟩ | ⟨h, h', _⟩
    · exact absurd h h1
    · exact absurd h' (h2 h)
end
section
variable {P : Program} {w : World} {K : PySem.W.Frag} {mg mb : Str → Option Value} {CX : CXT} {fa a : Addr} {cs : List (Addr × Addr)} {s₁ : Shared} {vs : List Value} {ns : List Int}
/-- the law's own call, its context known -/
theorem end_run (KX : K.In s₁.heap) (hns : s₁.heap.Ns mainGlobals mg) (hb : s₁.heap.Ns builtinsNs mb) (hbb : ∀ x : Str, x ≠ "__name__" → mb x = bootBuiltins x) (hlim : s₁.heap.NoLimit) (hg : s₁.gens = #[])
    (hT : ∀ p ∈ cs, s₁.heap.get? p.2 = some { cls := .none, data := .fields #[] }) (nT : ∀ p ∈ cs, K.lookup p.2 = none) (C : ∀ p ∈ cs, PySem.W.CodeHd s₁.heap p.1 p.2)
    (hbm : ∃ (bm : Addr) (ob : Obj), mg "__builtins__" = some (.ref bm) ∧ bm ≠ builtinsNs ∧ s₁.heap.get? bm = some ob ∧ ob.cls = .type "module" ∧ ob.dict = some builtinsNs ∧ ob.data = .plain)
    (ha : s₁.heap.get? a = some { cls := .type "list", data := .seq vs.toArray }) (hi : IntsAre vs ns) (hl : ns.length ≤ sizeLine)
    (F : ∀ (base : Heap) (H : Hp), (∀ p ∈ cs, TabB base mg p.1 p.2) → Env0 P w K mg base callerA [] s₁ H → (∀ p ∈ cs, H p.2 = some (.tbl #[])) → SqL K H a (ns.map V.int) →
      codeAny (model P w) callerA (.call (.ref fa) ⟨[.ref a], []⟩) (CR CX [] P w H s₁ (fun v _ => v = .bl true) fun _ _ _ => False) s₁)
    (hCX : ∀ H e s', CX [] H s₁ (fun _ _ _ => False) e s' → False) :
    codeAny (model P w) callerA (.call (.ref fa) ⟨[.ref a], []⟩) (fun r s' => r = .ok (.ret (.bool true)) ∧ OldK s₁.heap s'.heap ∧ s'.os = s₁.os ∧ AllBare s'.gens) s₁ := by
  let ob : Obj := { cls := .type "list", data := .seq vs.toArray }
  let ts := cs.map (·.2)
  let H : Hp := scrH K a ob (ns.map V.int) ts
  have hv := vals_ints hi
  have tabs : ∀ {b : Addr}, b ∈ ts → s₁.heap.get? b = some { cls := .none, data := .fields #[] } := fun {b} h => by
    obtain ⟨p, hp, rfl⟩ := List.mem_map.mp h
    exact hT p hp
  have inTs : ∀ {p : Addr × Addr}, p ∈ cs → p.2 ∈ ts := fun {p} hp => List.mem_map.mpr ⟨p, hp, rfl⟩
  -- the heap and the tracked objects agree
  have seen : HOk P w H s₁.heap := fun b u e => by
    rcases scr_some e with ⟨h, rfl⟩ | ⟨rfl, _, rfl⟩
    · exact tabs h
    · exact ⟨ha, by rw [List.length_map]; exact hl, vs, _, hv, ha⟩
  -- whatever is neither a list nor an empty table is not tracked
  have other : ∀ {b : Addr} {u : Obj}, s₁.heap.get? b = some u → (∀ xs n, u.data ≠ .seq xs n) → u.data ≠ .fields #[] → H b = none := fun {b u} e n1 n2 => by
    cases q : H b with
    | none => rfl
    | some z =>
      exfalso
      rcases scr_some q with ⟨h, _⟩ | ⟨rfl, _, _⟩
      · have := (tabs h).symm.trans e
        cases this
        exact n2 rfl
      · have := ha.symm.trans e
        cases this
        exact n1 _ _ rfl
  have up : ∀ {b : Addr} {u : Obj}, s₁.heap.get? b = some u → (∀ xs n, u.data ≠ .seq xs n) → u.data ≠ .fields #[] → (hidT s₁.heap H).get? b = some u := fun e n1 n2 => hidT_get e (other e n1 n2)
  have dict : ∀ {b : Addr} {m : Str → Option Value}, s₁.heap.Ns b m → (hidT s₁.heap H).Ns b m := fun {b m} ⟨u, es, ep, e, d, r⟩ =>
    ⟨u, es, ep, up e (fun _ _ z => by rw [d] at z; cases z) (fun z => by rw [d] at z; cases z), d, r⟩
  have kin : K.In (hidT s₁.heap H) := fun b u e => by
    refine hidT_get (KX b u e) (scr_none (fun hm => ?_) fun hq z => ?_)
    · obtain ⟨p, hp, rfl⟩ := List.mem_map.mp hm
      rw [nT p hp] at e
      cases e
    · subst hq
      rw [z] at e
      cases e
  have env : Env0 P w K mg (hidT s₁.heap H) callerA [] s₁ H :=
    { frames := rfl, mod := ⟨kin, dict hns, ⟨mb, dict hb, hbb⟩, hlim.elim fun mc hm => ⟨mc, dict hm.1, hm.2⟩⟩, bs := fun b u e => of_hidT e, bsz := by rw [hidT_size]; exact Nat.le_refl _, funs := trivial,
      frf := (fun b hb => by cases hb), hok := seen, bare := .of_eq hg }
  have tb : ∀ p ∈ cs, TabB (hidT s₁.heap H) mg p.1 p.2 := fun p hp => by
    obtain ⟨bm, om, m1, m2, m3, m4, m5, m6⟩ := hbm
    have nodict : ∀ {b : Addr} {u : Obj} {es : Array DictEntry} {ep : Nat}, s₁.heap.get? b = some u → u.data = .dict es ep → b ≠ p.2 := fun e d z => by
      subst z
      have := (hT p hp).symm.trans e
      cases this
      cases d
    obtain ⟨ug, eg, ng, g1, g2, _⟩ := hns
    refine ⟨?_, ⟨bm, om, m1, m2, fun z => ?_, fun z => ?_, up m3 (fun _ _ z => by rw [m6] at z; cases z) (fun z => by rw [m6] at z; cases z), m4, m5, m6⟩, nodict g1 g2⟩
    · obtain ⟨u, us, file, tf, flags, tg, inF, text, tt, e1, r1, r2, r3, r⟩ := C p hp
      exact ⟨u, us, file, tf, flags, tg, inF, text, tt, up e1 (fun _ _ z => by rw [r2] at z; cases z) (fun z => by
        rw [r2] at z
        cases z
        cases r3), r1, r2, r3, r⟩
    · subst z
      have := m3.symm.trans g1
      cases this
      rw [m6] at g2
      cases g2
    · subst z
      have := m3.symm.trans (hT p hp)
      cases this
      cases m6
  have sq : SqL K H a (ns.map V.int) := by
    have nt : a ∉ ts := fun h => by
      have := (tabs h).symm.trans ha
      cases this
    cases hk : K.lookup a with
    | none => exact .inl (.inr ⟨ob, by show scrH _ _ _ _ _ a = _; unfold scrH; rw [if_neg nt, if_pos ⟨rfl, hk⟩]⟩)
    | some u =>
      have e := (KX a u hk).symm.trans ha
      cases e
      exact .inr ⟨_, vs.toArray, _, hk, rfl, rfl, rfl, by rw [List.size_toArray, hi.length]; exact hl, by simpa using hv⟩
  refine codeAny_mono (F _ H tb env (fun p hp => scr_tab (inTs hp)) sq) fun r s' h => ?_
  match r, h with
  | .error e, h => exact (hCX H e s' h).elim
  | .ok .next, h => exact h.elim
  | .ok .brk, h => exact h.elim
  | .ok .cont, h => exact h.elim
  | .ok (.ret u), ⟨v, H', o1, o2, un, ok2, rv, (q : v = .bl true)⟩ =>
    subst q
    obtain rfl : u = .bool true := rv
    have nofr : ∀ b : Addr, b ∉ frs [] := fun b z => by cases z
    have noex : ∀ b : Addr, b ∉ ([] : List Addr) := fun b z => by cases z
    have grew : ∀ {b : Addr}, b ∈ ts → ∃ more : Array Value, s'.heap.get? b = some { cls := .none, data := .fields more } := fun {b} h => by
      obtain ⟨more, z⟩ := un.tbls b #[] (scr_tab h)
      exact ⟨_, ok2 b _ z⟩
    have same : ∀ (b : Addr) (u : Obj), b ∉ ts → s₁.heap.get? b = some u → s'.heap.get? b = some u := fun b u hb e => by
      cases q : H b with
      | none => exact un.keep b u e q (nofr b) (noex b)
      | some z =>
        rcases scr_some q with ⟨h, _⟩ | ⟨rfl, _, rfl⟩
        · exact absurd h hb
        · have z2 := (ok2 b _ (un.frzs b ob _ q)).1
          rw [ha] at e
          rw [z2, ← e]
    refine ⟨rfl, ⟨fun b u e => ?_, fun b u e => ?_⟩, o1, o2⟩
    · by_cases hb : b ∈ ts
      · have e1 := (tabs hb).symm.trans e
        cases e1
        obtain ⟨more, hm⟩ := grew hb
        obtain ⟨p, hp, rfl⟩ := List.mem_map.mp hb
        exact .inr (.inl ⟨((C p hp).tab (hT p hp)).isCodeTable, rfl, #[], more, rfl, by rw [Array.empty_append]; exact hm⟩)
      · exact .inl (same b u hb e)
    · by_cases hb : b ∈ ts
      · exact (grew hb).elim fun more hm => ⟨_, hm⟩
      · exact ⟨u, same b u hb e⟩
end
end Py
end

section
set_option Elab.async false
set_option linter.all false
set_option maxRecDepth 100000
set_option maxHeartbeats 2000000
namespace Py
open PySem PySem.Spec PyProof.Rows L2 NdefX LamX
/-! ### classes looked at by a Bool -/
theorem eqd {α : Type} [DecidableEq α] {a b : α} (h : decide (a = b) = true) : a = b := of_decide_eq_true h
def exoB (K : PySem.W.Frag) (C : Addr) : Bool := match K.lookup C with
  | some o => (match o.cls, o.data with
    | .type t, .cls cd => (match cd.mro, o.slots.toList with
      | .ref C' :: bm, [_, _, _, _, some (.builtin n), _] => decide (t = "type") && (decide (C' = C) && (decide (n = "ValueError.__new__") && (!cd.hasDel && (cd.hasDict && PySem.HandSPX.refsVE bm))))
      | _, _ => false)
    | _, _ => false)
  | none => false
theorem exoB_ok {K : PySem.W.Frag} {C : Addr} (h : exoB K C = true) : ∃ nm q N bs bm sn sub ab col dd k0 k1 k2 k3 k5, K.lookup C = some (excClassObj nm q C N bs bm true sn sub ab col dd k0 k1 k2 k3 k5 "ValueError.__new__") ∧ PySem.HandSPX.refsVE bm = true := by
  unfold exoB at h
  split at h
  · rename_i o ho
    obtain ⟨oc, od, dt, sl⟩ := o
    split at h
    · rename_i t cd h1 h2
      split at h
      · rename_i C' bm k0 k1 k2 k3 n k5 hm hs
        replace h := and2 h
        obtain ⟨ht, h⟩ := h
        replace h := and2 h
        obtain ⟨hC, h⟩ := h
        replace h := and2 h
        obtain ⟨hn, h⟩ := h
        replace h := and2 h
        obtain ⟨hd, h⟩ := h
        replace h := and2 h
        obtain ⟨hD, hr⟩ := h
        obtain ⟨nm, bs, mro, ns, qn, hd', sn, sub, ab, col, del⟩ := cd
        dsimp only at hm hs h1 h2 hd hD
        have hd := notb hd
        subst hm hd hD h1 h2
        have hsl : sl = #[k0, k1, k2, k3, some (.builtin n), k5] := by
          obtain ⟨l⟩ := sl
          dsimp only at hs
          rw [hs]
        rw [eqd ht, eqd hC, hsl, eqd hn] at ho
        exact ⟨_, _, _, _, _, _, _, _, _, _, _, _, _, _, _, ho, hr⟩
      · cases h
    · cases h
  · cases h
def oexB (K : PySem.W.Frag) (C : Addr) : Bool := exoB K C && (decide (PySem.W.findIn K (.ref C) "__setattr__" = some (some (.builtin "object.__setattr__"))) && (decide (PySem.W.subIn K (.ref C) (.type "BaseException") = some true) && (decide (PySem.W.typeIn K (.ref C) = some (.type "type")) && PySem.W.keepIn K (.ref C))))
theorem oexB_ok {K : PySem.W.Frag} {C : Addr} (h : oexB K C = true) : OexC K C := by
  replace h := and2 h
  obtain ⟨h1, h⟩ := h
  replace h := and2 h
  obtain ⟨h2, h⟩ := h
  replace h := and2 h
  obtain ⟨h3, h⟩ := h
  replace h := and2 h
  exact ⟨exoB_ok h1, eqd h2, eqd h3, eqd h.1, h.2⟩
def kxcB (K : PySem.W.Frag) (C : Addr) : Bool := (PySem.W.clsIn K C).isSome && (decide (PySem.W.findIn K (.ref C) "__getattribute__" = some (some (.builtin "BaseException.__getattribute__"))) && (decide (PySem.W.findIn K (.ref C) "__getattr__" = some none) &&
  (decide (PySem.W.subIn K (.ref C) (.type "BaseException") = some true) && (PySem.W.hasDictIn K C && (decide (PySem.W.findIn K (.ref C) "__class__" = some (some (.builtin "object.__class__"))) && (decide (PySem.W.specialIn K (.builtin "object.__class__") "__get__" = some (some (.builtin "getset_descriptor.__get__"))) &&
  (decide (PySem.W.takesIn K (.builtin "object.__class__") = some true) && decide (PySem.W.mroIn K C (.type "object") = some true))))))))
theorem kxcB_ok {K : PySem.W.Frag} {C : Addr} (h : kxcB K C = true) : KxC K C := by
  replace h := and2 h
  obtain ⟨h1, h⟩ := h
  replace h := and2 h
  obtain ⟨h2, h⟩ := h
  replace h := and2 h
  obtain ⟨h3, h⟩ := h
  replace h := and2 h
  obtain ⟨h4, h⟩ := h
  replace h := and2 h
  obtain ⟨h5, h⟩ := h
  replace h := and2 h
  obtain ⟨h6, h⟩ := h
  replace h := and2 h
  obtain ⟨h7, h⟩ := h
  replace h := and2 h
  exact ⟨h1, eqd h2, eqd h3, eqd h4, h5, eqd h6, eqd h7, eqd h.1, eqd h.2⟩
/-- the module's class x -/
abbrev cA (K : PySem.W.Frag) (x : String) : Addr := He.ga K (Str.ofString x)
def subB (K : PySem.W.Frag) (y k : String) (b : Bool) : Bool := decide (PySem.W.kitOne K (.ref (cA K y)) (.ref (cA K k)) = some b) && (decide (PySem.W.exmOne K (.ref (cA K y)) (.ref (cA K k)) = some b) && kxcB K (cA K y))
def attB (K : PySem.W.Frag) (y f : String) : Bool := kxcB K (cA K y) && decide (PySem.W.findIn K (.ref (cA K y)) (Str.ofString f) = some none)
section
variable {T : Tb} {h : Heap} (X : T.K.In h) (G : h.Ns mainGlobals T.mg)
include X G
theorem glB {x : String} (c : (He.Fa.glo (Str.ofString x)).ok T.K = true) : T.mg (Str.ofString x) = some (.ref (cA T.K x)) := He.glo_ok X G c
theorem sub_at {y k : String} {b : Bool} (gy : (He.Fa.glo (Str.ofString y)).ok T.K = true) (gk : (He.Fa.glo (Str.ofString k)).ok T.K = true) (c : subB T.K y k b = true) : SubAt T y k b := by
  replace c := and2 c
  obtain ⟨c1, c⟩ := c
  replace c := and2 c
  exact ⟨_, _, glB X G gy, glB X G gk, eqd c1, eqd c.1, kxcB_ok c.2⟩
theorem att_at {y f : String} (gy : (He.Fa.glo (Str.ofString y)).ok T.K = true) (c : attB T.K y f = true) : AtAt T y f := by
  replace c := and2 c
  exact ⟨_, glB X G gy, kxcB_ok c.1, eqd c.2⟩
end
/-! ### constants -/
mutual
def rdB (K : PySem.W.Frag) : D → Value → Bool
  | .non, v => (match v with | .none => true | _ => false)
  | .bl b, v => (match v with | .bool c => b == c | _ => false)
  | .int i, v => (match v with | .int j _ => decide (i = j) | _ => false)
  | .str s, v => (match v with | .str y _ => decide (SS s = y) | _ => false)
  | .tup ds, v => (match v with
    | .ref a => (match K.lookup a with
      | some o => (match o.cls, o.data with
        | .type t, .seq its _ => decide (t = "tuple") && (decide (its.size ≤ sizeLine) && rdsB K ds its.toList)
        | _, _ => false)
      | none => false)
    | _ => false)
  | _, _ => false
def rdsB (K : PySem.W.Frag) : List D → List Value → Bool
  | [], l => l.isEmpty
  | d :: ds, l => (match l with
    | v :: vs => rdB K d v && rdsB K ds vs
    | [] => false)
end
section
variable {T : Tb}
mutual
theorem rdB_ok : ∀ (d : D) (u : Value), rdB T.K d u = true → ∃ v, RelV v u ∧ ∀ xx m H, RD (T.ex xx) m H d v
  | .non, u, h => by
    unfold rdB at h
    split at h
    · exact ⟨.non, rfl, fun _ _ _ => rd_non⟩
    · cases h
  | .bl b, u, h => by
    unfold rdB at h
    split at h
    · exact ⟨.bl b, by rw [eq_of_beq h]; rfl, fun _ _ _ => rd_bl⟩
    · cases h
  | .int i, u, h => by
    unfold rdB at h
    split at h
    · exact ⟨.int i, ⟨_, by rw [eqd h]⟩, fun _ _ _ => rd_int⟩
    · cases h
  | .str s, u, h => by
    unfold rdB at h
    split at h
    · exact ⟨.str (SS s), ⟨_, by rw [eqd h]⟩, fun _ _ _ => rd_str⟩
    · cases h
  | .tup ds, u, h => by
    unfold rdB at h
    split at h
    · rename_i a
      split at h
      · rename_i o ho
        obtain ⟨oc, od, dt, sl⟩ := o
        split at h
        · rename_i t its n h1 h2
          dsimp only at h1 h2
          subst h1 h2
          replace h := and2 h
          obtain ⟨h1, h⟩ := h
          replace h := and2 h
          obtain ⟨h2, h3⟩ := h
          obtain ⟨vs, r1, r2⟩ := rdsB_ok ds its.toList h3
          have h1 := eqd h1
          subst h1
          refine ⟨.ref a, rfl, fun xx m H => ?_⟩
          unfold RD
          exact ⟨a, vs, rfl, .inr (.inr ⟨_, its, n, ho, rfl, rfl, of_decide_eq_true h2, r1⟩), r2 xx m H⟩
        · cases h
      · cases h
    · cases h
  | .lst _, u, h => by simp [rdB] at h
  | .fz _, u, h => by simp [rdB] at h
  | .dic _ _, u, h => by simp [rdB] at h
  | .obj _ _ _, u, h => by simp [rdB] at h
  | .ref _, u, h => by simp [rdB] at h
  | .clo _ _, u, h => by simp [rdB] at h
  | .nam _, u, h => by simp [rdB] at h
theorem rdsB_ok : ∀ (ds : List D) (us : List Value), rdsB T.K ds us = true → ∃ vs, Vals vs us ∧ ∀ xx m H, RDs (T.ex xx) m H ds vs
  | [], us, h => by
    unfold rdsB at h
    rw [List.isEmpty_iff.mp h]
    exact ⟨[], .nil, fun _ _ _ => .nil⟩
  | d :: ds, us, h => by
    unfold rdsB at h
    split at h
    · replace h := and2 h
      obtain ⟨v, r1, r2⟩ := rdB_ok d _ h.1
      obtain ⟨vs, q1, q2⟩ := rdsB_ok ds _ h.2
      exact ⟨v :: vs, .cons r1 q1, fun xx m H => .cons (r2 xx m H) (q2 xx m H)⟩
    · cases h
end
end
def gcB (K : PySem.W.Frag) (x : String) (d : D) : Bool := match PySem.W.nsIn K mainGlobals (Str.ofString x) with
  | some (some u) => rdB K d u
  | _ => false
theorem gc_at {T : Tb} {h : Heap} (X : T.K.In h) (G : h.Ns mainGlobals T.mg) {x : String} {d : D} (c : gcB T.K x d = true) : GC T (Str.ofString x) d := by
  unfold gcB at c
  split at c
  · rename_i u e
    obtain ⟨v, r1, r2⟩ := rdB_ok d u c
    exact ⟨u, v, PySem.W.mg_of X G e, r1, r2⟩
  · cases c
end Py
end

section
set_option Elab.async false
set_option linter.all false
set_option maxRecDepth 100000
set_option maxHeartbeats 2000000
namespace Py
open PySem PySem.Spec PyProof.Rows L2 NdefX LamX
/-! ### `def __init__(self, p): super().__init__(p); self.f = p` of an own exception -/
/-- the body's shape: self, p, f -/
def iniShape (s p f : Str) (body : List Stmt) : Bool := match body with
  | [.Expr (.Call (.Attribute (.Call (.Name su _) [] [] _) ini pa) [.Name p1 _] [] pc) pd, .Assign [.Attribute (.Name s1 _) f1 _] (.Name p2 _) _] =>
    decide (su = ("super" : Str)) && (decide (ini = ("__init__" : Str)) && (decide (p1 = p) && (decide (s1 = s) && (decide (f1 = f) && (decide (p2 = p) && (pa.endLine == pc.line && pc.endLine == pc.endLine))))))
  | _ => false
theorem iniShape_ok {s p f : Str} {body : List Stmt} (h : iniShape s p f body = true) : ∃ p0 q1 pa q2 pc pd q3 q4 q5 q6, body = [.Expr (.Call (.Attribute (.Call (.Name "super" p0) [] [] q1) "__init__" pa) [.Name p q2] [] pc) pd, .Assign [.Attribute (.Name s q3) f q4] (.Name p q5) q6] ∧ (pa.endLine == pc.line) = true := by
  unfold iniShape at h
  split at h
  · replace h := and2 h
    obtain ⟨h1, h⟩ := h
    replace h := and2 h
    obtain ⟨h2, h⟩ := h
    replace h := and2 h
    obtain ⟨h3, h⟩ := h
    replace h := and2 h
    obtain ⟨h4, h⟩ := h
    replace h := and2 h
    obtain ⟨h5, h⟩ := h
    replace h := and2 h
    obtain ⟨h6, h⟩ := h
    rw [eqd h1, eqd h2, eqd h3, eqd h4, eqd h5, eqd h6]
    exact ⟨_, _, _, _, _, _, _, _, _, _, rfl, (and2 h).1⟩
  · cases h
def fileB (P : Program) (K : PySem.W.Frag) (c : Addr) : Bool := match K.lookup c with
  | some oc => (match oc.data with
    | .fields vs => (match (vs[2]? : Option Value) with
      | some (.str g _) => (P.main.file : Str) == g
      | _ => false)
    | _ => false)
  | none => false
def cellB (K : PySem.W.Frag) (c D : Addr) : Bool := match K.lookup c with
  | some oc => (match oc.data with
    | .cell (some (.ref D')) => decide (D' = D)
    | _ => false)
  | none => false
theorem fileB_ok {P : Program} {K : PySem.W.Frag} {c : Addr} (h : fileB P K c = true) : ∃ (oc : Obj) (vs : Array Value) (g : Str) (t : Tok), K.lookup c = some oc ∧ oc.data = .fields vs ∧ vs[2]? = some (.str g t) ∧ ((P.main.file : Str) == g) = true := by
  unfold fileB at h
  split at h
  · rename_i oc ho
    split at h
    · rename_i vs hd
      split at h
      · rename_i g t hv
        exact ⟨oc, vs, g, t, ho, hd, hv, h⟩
      · cases h
    · cases h
  · cases h
theorem cellB_ok {K : PySem.W.Frag} {c D : Addr} (h : cellB K c D = true) : ∃ o0 : Obj, K.lookup c = some o0 ∧ o0.data = .cell (some (.ref D)) := by
  unfold cellB at h
  split at h
  · rename_i oc ho
    split at h
    · rename_i D' hd
      rw [eqd h] at hd
      exact ⟨oc, ho, hd⟩
    · cases h
  · cases h
/-- what the function's data says -/
def iniDat (P : Program) (K : PySem.W.Frag) (D : Addr) (f s p cn : Str) (body : List Stmt) (c0 c : Addr) (fd : FuncData) : Bool :=
  iniShape s p f body && (nscB [s, p, "__class__"] [s, p] ["__class__"] fd.scope && (decide (fd.scope.names.lookup ("super" : Str) = some .globalImplicit) && (!(s == ("__classdict__" : Str)) && (!(s == ("__debug__" : Str)) &&
    (!(p == ("__classdict__" : Str)) && (!(p == ("__debug__" : Str)) && (decide (fd.globals = mainGlobals) && (decide (fd.builtins = builtinsNs) && (decide (fd.defaults = .none) && (decide (fd.kwdefaults = .none) && (decide (fd.annotations = none) &&
    (PySem.W.codeIn K (.ref c) fd.qualname && (decide (cn = ("__class__" : Str)) && (fileB P K c && cellB K c0 D))))))))))))))
/-- the function at fI is such a def of the class D -/
def iniB (P : Program) (K : PySem.W.Frag) (fI D : Addr) (f : Str) : Bool := (match K.lookup fI with
  | some o => (match o.data with
    | .func fd => (match fd.params, fd.body, fd.closure, fd.code with
      | ⟨[], [⟨s, _, _⟩, ⟨p, _, _⟩], none, [], [], none, []⟩, .stmts body, [(cn, c0)], .ref c => iniDat P K D f s p cn body c0 c fd
      | _, _, _, _ => false)
    | _ => false)
  | none => false) && ((PySem.W.clsIn K D).isSome && (!(P.main.scope.names.lookup ("super" : Str)).isSome && (decide (PySem.W.nsIn K cStatics "thirdparty.any" = some none) && decide (PySem.W.typeIn K (.ref fI) = some (.type "function")))))
theorem cls_lk {K : PySem.W.Frag} {D : Addr} (h : (PySem.W.clsIn K D).isSome = true) : ∃ (oD : Obj) (cd : ClassData), K.lookup D = some oD ∧ oD.data = .cls cd := by
  unfold PySem.W.clsIn at h
  split at h
  · rename_i cd _ ho
    exact ⟨_, cd, ho, rfl⟩
  · cases h
theorem bind2 {nm q s p : Str} {a1 a3 : Option Expr} {a2 a4 : Pos} {bd : FuncBody} {sc : Scope} {gl bn : Addr} {cl : List (Str × Addr)} {doc pm code ct : Value} (h : s ≠ p) (us : List Value) (hl : us.length = 2) :
    bindArgs ⟨nm, q, ⟨[], [⟨s, a1, a2⟩, ⟨p, a3, a4⟩], none, [], [], none, []⟩, bd, sc, gl, cl, .none, .none, doc, pm, none, code, ct, bn⟩ ⟨us, []⟩ = pure ([s, p].zip us) := by
  match us, hl with
  | [u, v], _ =>
    have h1 : (p == s) = false := Bool.eq_false_iff.mpr fun z => h (eq_of_beq z).symm
    unfold bindArgs
    simp [seqItems?, List.lookup_cons, h1]
    rfl
section
variable {T : Tb} {P : Program} {w : World} {base : Heap}
theorem rz_of {k f : String} {C D fI : Addr} (gk : T.mg (Str.ofString k) = some (.ref C)) (ox : OexC T.K C) (hi : PySem.W.findIn T.K (.ref C) "__init__" = some (some (.ref fI))) (hms : T.mg "super" = none)
    (ic : IniC T.K C D) (hno : PySem.W.findIn T.K (.ref C) (Str.ofString f) = some none) (h : iniB P T.K fI D (Str.ofString f) = true) : RzAt T P w base k f := by
  replace h := and2 h
  obtain ⟨h, h'⟩ := h
  replace h' := and2 h'
  obtain ⟨hcl, h'⟩ := h'
  replace h' := and2 h'
  obtain ⟨htop, h'⟩ := h'
  replace h' := and2 h'
  obtain ⟨hopq, hty⟩ := h'
  split at h
  · rename_i o ho
    obtain ⟨oc, od, dt, sl⟩ := o
    split at h
    · rename_i fd hd
      dsimp only at hd
      subst hd
      obtain ⟨nm, q, pr, bd, sco, gl, cl, df, kd, doc, pm, an, code, ct, bn⟩ := fd
      split at h
      · rename_i s a1 a2 p a3 a4 body cn c0 c e1 e2 e3 e4
        dsimp only at e1 e2 e3 e4
        subst e1 e2 e3 e4
        unfold iniDat at h
        dsimp only at h
        replace h := and2 h
        obtain ⟨i1, h⟩ := h
        replace h := and2 h
        obtain ⟨i2, h⟩ := h
        replace h := and2 h
        obtain ⟨i3, h⟩ := h
        replace h := and2 h
        obtain ⟨i4, h⟩ := h
        replace h := and2 h
        obtain ⟨i5, h⟩ := h
        replace h := and2 h
        obtain ⟨i6, h⟩ := h
        replace h := and2 h
        obtain ⟨i7, h⟩ := h
        replace h := and2 h
        obtain ⟨i8, h⟩ := h
        replace h := and2 h
        obtain ⟨i9, h⟩ := h
        replace h := and2 h
        obtain ⟨j1, h⟩ := h
        replace h := and2 h
        obtain ⟨j2, h⟩ := h
        replace h := and2 h
        obtain ⟨j3, h⟩ := h
        replace h := and2 h
        obtain ⟨j4, h⟩ := h
        replace h := and2 h
        obtain ⟨j5, h⟩ := h
        replace h := and2 h
        obtain ⟨j6, j7⟩ := h
        have z8 := eqd i8
        have z9 := eqd i9
        have y1 := eqd j1
        have y2 := eqd j2
        have y3 := eqd j3
        have y5 := eqd j5
        subst z8 z9 y1 y2 y3 y5
        obtain ⟨p0, q1, pa, q2, pc, pd, q3, q4, q5, q6, rfl, hlin⟩ := iniShape_ok i1
        have S := nscope_by i2
        have nsp : s ≠ p := fun z => by
          have := S.nd
          rw [z] at this
          simp at this
        let F : NF := ⟨nm, q, ⟨[], [⟨s, a1, a2⟩, ⟨p, a3, a4⟩], none, [], [], none, []⟩, [.Expr (.Call (.Attribute (.Call (.Name "super" p0) [] [] q1) "__init__" pa) [.Name p q2] [] pc) pd, .Assign [.Attribute (.Name s q3) (Str.ofString f) q4] (.Name p q5) q6], sco, [("__class__", c0)], c⟩
        have IF : IniF P T.K fI D F := ⟨⟨oc, od, sl, doc, pm, ct, ho⟩, j4, fileB_ok j6, (cellB_ok j7).elim fun o0 z => ⟨c0, o0, rfl, z.1, z.2⟩, cls_lk hcl, notb htop, eqd hopq, eqd hty⟩
        have vs_ : ∀ {A : Around} {outer : List PySem.Env} {s' : Shared} {H : Hp} {E : XK}, PE (ncx (L2.CX P w) P w T.K T.mg base [s, p, "__class__"] F fI A outer s' H E) (.Name s q3) (tVar 0) := fun {A outer s' H E} => pe_var rfl (.inl (S.par s (by simp))) (notb i5) (notb i4)
        have vp_ : ∀ {A : Around} {outer : List PySem.Env} {s' : Shared} {H : Hp} {E : XK} {q : Pos}, PE (ncx (L2.CX P w) P w T.K T.mg base [s, p, "__class__"] F fI A outer s' H E) (.Name p q) (tVar 1) := fun {A outer s' H E q} => pe_var rfl (.inl (S.par p (by simp))) (notb i7) (notb i6)
        have FO := ini_ok (P := P) (w := w) (mg := T.mg) (base := base) (k := 0) (t := tOst T.K (Str.ofString f) (tVar 0) (tVar 1)) (F := F) (e := .Name p q2) (es := []) (ar := ⟨s, a1, a2⟩) (pl := fun env => plainOf (.Call (.Name "super" p0) [] [] q1) env) IF ho S rfl rfl rfl (notb i4) rfl (eqd i3) hms
          (fun A outer s' H E => ⟨_, pa_cons vp_ pa_nil, fun vs a ys hvs hl => by
            subst hvs
            obtain ⟨y, rfl⟩ : ∃ y, ys = [y] := by
              cases ys with
              | nil => cases hl
              | cons y r => cases r with
                | nil => exact ⟨y, rfl⟩
                | cons _ _ => cases hl
            exact ⟨[y], by simp, fun Q q => ⟨y, rfl, q⟩⟩⟩)
          (fun env => rfl) (fun env => rfl) (fun env => congrArg (bind _) (funext fun ov => congrArg (bind _) (funext fun _ => mcall_line rfl hlin)))
          (fun A outer s' H E => pss_one (ps_ost (X := ncx (L2.CX P w) P w T.K T.mg base [s, p, "__class__"] F fI A outer s' H E) (f := Str.ofString f) (p' := q4) (pos := q6) vs_ vp_ rfl))
        refine ⟨C, fI, _, [s, p], _, gk, ox, hi, eqd hty, Binds.all fun us hl => bind2 nsp us hl, FO, fun y a H1 Q hn hq => ?_⟩
        refine ⟨a, C, [y], rfl, rfl, ic, upd_same, ?_⟩
        refine ⟨y, rfl, .ref a, rfl, a, C, rfl, ox, hno, .inl ⟨upd_same, fun dx hdx hne => ?_⟩⟩
        have hdx' : H1 dx = none := by rw [upd_ne hne] at hdx; exact hdx
        exact hq dx hdx' hne
      · cases h
    · cases h
  · cases h
end
end Py
end

section
set_option Elab.async false
set_option linter.all false
set_option maxRecDepth 100000
set_option maxHeartbeats 2000000
namespace Py
open PySem PySem.Spec PyProof.Rows L2 LamX
/-- the law's table: where its code objects stand -/
abbrev Tl (K : PySem.W.Frag) (mg : Str → Option Value) (Pt : Addr) (q : Str) : Tb := ⟨K, mg, [], some (Pt, q ++ "<lambda>")⟩
section
variable {P : Program} {w : World} {K : PySem.W.Frag} {mg : Str → Option Value} {base : Heap} {H : Hp}
/-- the law's own frame -/
abbrev Xl (P : Program) (w : World) (K : PySem.W.Frag) (mg : Str → Option Value) (base : Heap) (dl : DF) (fa cc : Addr) (s : Shared) (H : Hp) (E : XK) : Cx :=
  cxOf (CX P w) P w K mg base dl.N (Str.ofString dl.nm) (defScope dl.st) fa (.ref cc) callerA [] s H E
theorem sqF {T : Tb} {m : List Addr} {a : Addr} {ns : List Int} (hK : T.K = K) (q : SqL K H a (ns.map V.int)) (n1 : a ∉ m) (n2 : a ∉ T.x) : RD T m H (.fz (ns.map D.int)) (.ref a) := by
  subst hK
  unfold RD
  have ri : ∀ l : List Int, RDs T m H (l.map D.int) (l.map V.int) := fun l => by
    induction l with
    | nil => exact .nil
    | cons i l ih => exact .cons rd_int ih
  refine ⟨a, ns.map V.int, rfl, ?_, ri ns⟩
  rcases q with q | q
  · exact .inl ⟨⟨n1, n2⟩, q⟩
  · exact .inr (.inr q)
theorem law_run {dl : DF} {Γ : Gm} {Pm : Pg} {dep k : Nat} {fa cc Pt a : Addr} {x q : Str} {s₁ : Shared} {ns : List Int} {oc dV kV doc pm ct : Value} {od an : Option Addr} {osl : Array (Option Value)}
    (lk : K.lookup fa = some ⟨oc, od, .func (PySem.W.fnOf (Str.ofString dl.nm) (Str.ofString dl.nm) (defArgs dl.st) (defBody dl.st) (defScope dl.st) dV kV doc pm an (.ref cc) ct), osl⟩) (hcd : PySem.W.codeIn K (.ref cc) (Str.ofString dl.nm) = true)
    (hb : ∀ (s : Shared) (u : Value), BindsTo s (PySem.W.fnOf (Str.ofString dl.nm) (Str.ofString dl.nm) (defArgs dl.st) (defBody dl.st) (defScope dl.st) dV kV doc pm an (.ref cc) ct) ⟨[u], []⟩ [(x, u)])
    (S : FnScope dl.N [x] (defScope dl.st)) (hnp : dl.fd.np = 1) (ln : dl.N.length = 1 + dl.fd.nl) (ck : chkB Γ dl.N (defScope dl.st) dl.fd.body (defBody dl.st) = true) (g : GOk (Tl K mg Pt q) Γ) (hr : Room (k + 1) callerA)
    (fo : ∀ (s : Shared) (H : Hp) (E : XK), Room k (callerA.deeper (envOfC (Str.ofString dl.nm) (defScope dl.st) s.heap.objs.size fa (.ref cc))) → FOk (Tl K mg Pt q) (Xl P w K mg base dl fa cc s H E) (clN Pm (callN Pm dep)) Γ)
    (law : ∃ h', runF (clN Pm (callN Pm dep)) dl.fd [.fz (ns.map D.int)] [.tab] = .ok (.bl true) h')
    (e0 : Env0 P w K mg base callerA [] s₁ H) (hP : H Pt = some (.tbl #[])) (sq : SqL K H a (ns.map V.int)) :
    codeAny (model P w) callerA (.call (.ref fa) ⟨[.ref a], []⟩) (CR (CX P w) [] P w H s₁ (fun v _ => v = .bl true) fun _ _ _ => False) s₁ := by
  refine run_ofS (N := dl.N) (ps := [x]) (us := [.ref a]) (vs := [.ref a]) lk hcd S hr e0 (hb s₁ (.ref a)) (.cons rfl .nil) rfl fun hr' => ?_
  obtain ⟨h', e⟩ := law
  have c := cx_of (T := Tl K mg Pt q) (P := P) (w := w) (base := base) (outer := []) (H := H) (E := fun _ _ _ => False) S hr'
  refine ⟨tS (Tl K mg Pt q) (fun C d _ H' => False) (excs (clN Pm (callN Pm dep)) dl.fd.body), chkB_ok g c rfl (fo s₁ H _ hr') dl.fd.body _ ck, [], [Pt], [.tab], _, ?_, start_rs (RDs.cons (sqF rfl sq ?_ ?_) .nil) (by rw [ln]; rfl), run_ends (Q := fun v _ => v = .bl true) (E := fun _ _ _ => False) (ds := [.fz (ns.map D.int)]) (f := dl.fd) (by rw [hnp]; rfl) ?_⟩
  · refine ⟨rfl, by simp, (fun b hb => by cases hb), fun i o e => ?_, fun p e => ?_⟩
    · match i, e with
      | 0, e =>
        cases e
        exact ⟨Pt, _, rfl, hP, Pt, _, #[], rfl, rfl, (by simp [TriplesOk]), fun pos cv z => by simp [codeAmong] at z⟩
      | i + 1, e => simp at e
    · cases e
      exact ⟨rfl, rfl⟩
  · intro z
    have z := List.mem_singleton.mp z
    subst z
    rcases sq with q | ⟨o, its, n, q, _⟩
    · rcases q with q | ⟨_, q⟩ <;> rw [hP] at q <;> cases q
    · have := (e0.bs _ _ (e0.mod.kin _ _ q)).2
      rw [hP] at this
      cases this
  · simp [Tb.ex]
  · rw [e]
    intro m' v H' st R' r'
    exact rd_bl_iff.mp r'
end
theorem cx_no {P : Program} {w : World} {H : Hp} {s : Shared} {e : Value} {s' : Shared} (h : CX P w [] H s (fun _ _ _ => False) e s') : False := by
  obtain ⟨_, _, _, _, _, _, _, _, _, _, _, _, z⟩ := h
  exact z
/-- what is known of the law's def and of the table at the head's heap -/
def LawAt (l : PySem.W.OpenLaw) (w : World) (mg : Str → Option Value) (fa : Addr) (h : Heap) (dl : DF) (Γ : Gm) (Pm : Pg) (dep k : Nat) (x q : Str) : Prop :=
  ∃ (K : PySem.W.Frag) (cc Pt : Addr) (oc dV kV doc pm ct : Value) (od an : Option Addr) (osl : Array (Option Value)), K.In h ∧ h.get? Pt = some { cls := .none, data := .fields #[] } ∧ K.lookup Pt = none ∧ PySem.W.CodeHd h cc Pt ∧
    K.lookup fa = some ⟨oc, od, .func (PySem.W.fnOf (Str.ofString dl.nm) (Str.ofString dl.nm) (defArgs dl.st) (defBody dl.st) (defScope dl.st) dV kV doc pm an (.ref cc) ct), osl⟩ ∧ PySem.W.codeIn K (.ref cc) (Str.ofString dl.nm) = true ∧
    (∀ (s : Shared) (u : Value), BindsTo s (PySem.W.fnOf (Str.ofString dl.nm) (Str.ofString dl.nm) (defArgs dl.st) (defBody dl.st) (defScope dl.st) dV kV doc pm an (.ref cc) ct) ⟨[u], []⟩ [(x, u)]) ∧ GOk (Tl K mg Pt q) Γ ∧
    ∀ base : Heap, TabB base mg cc Pt → ∀ (s : Shared) (H : Hp) (E : XK), Room k (callerA.deeper (envOfC (Str.ofString dl.nm) (defScope dl.st) s.heap.objs.size fa (.ref cc))) → FOk (Tl K mg Pt q) (Xl l.prog w K mg base dl fa cc s H E) (clN Pm (callN Pm dep)) Γ
theorem law_end {l : PySem.W.OpenLaw} {n k dep : Nat} {pq : Program} {loose : List Str} {XP : (Str → Option Value) → Heap → Prop} {YP : World → Heap → Prop} {d : DefRec} {dl : DF} {Γ : Gm} {Pm : Pg} {x q : Str}
    (hn : l.most = some n) (hn2 : n ≤ sizeLine) (hdf : d.params.defaults = []) (hr : Room (k + 1) callerA)
    (S : FnScope dl.N [x] (defScope dl.st)) (hnp : dl.fd.np = 1) (ln : dl.N.length = 1 + dl.fd.nl) (ck : chkB Γ dl.N (defScope dl.st) dl.fd.body (defBody dl.st) = true)
    (F : ∀ (w : World) (mg : Str → Option Value) (fa : Addr) (h : Heap), YP w h → h.Ns mainGlobals mg → mg d.name = some (.ref fa) → LawAt l w mg fa h dl Γ Pm dep k x q)
    (law : ∀ ns : List Int, ns.length ≤ n → (∀ z ∈ ns, Builtin.Int.intBits z ≤ 1048576) → ∃ h', runF (clN Pm (callN Pm dep)) dl.fd [.fz (ns.map D.int)] [.tab] = .ok (.bl true) h') :
    PySem.W.WalkO pq loose XP YP l.row.toRowW d [] (fun f vs => PySem.call f vs) := by
  refine Att.attach_callB hn hdf fun w s₀ s₁ mg mb fa o pm cd doc a vs ns G Y ho hd hcd hmg hobj hints hlen hbits hg => ?_
  obtain ⟨K, cc, Pt, oc, dV, kV, doc', pm', ct, od, an, osl, KX, hPt, nPt, hC, lk, hco, hb, g, fo⟩ := F w mg fa _ Y G.T.g hmg
  have one : ∀ {p : Addr × Addr}, p ∈ [(cc, Pt)] → p = (cc, Pt) := fun h => List.mem_singleton.mp h
  refine end_run (cs := [(cc, Pt)]) KX G.T.g G.T.b G.T.builtins G.T.nolimit hg (fun p hp => by rw [one hp]; exact hPt) (fun p hp => by rw [one hp]; exact nPt) (fun p hp => by rw [one hp]; exact hC) G.T.bmain hobj hints (Nat.le_trans hlen hn2) (fun base H hTB e0 hH hS => ?_) fun H e s' => cx_no (P := l.prog) (w := w)
  exact law_run lk hco hb S hnp ln ck g hr (fun s H E hr' => fo base (hTB (cc, Pt) List.mem_cons_self) s H E hr') (law ns hlen hbits) e0 (hH (cc, Pt) List.mem_cons_self) hS
end Py
end

section
set_option Elab.async false
set_option linter.all false
set_option maxRecDepth 100000
set_option maxHeartbeats 2000000
namespace Py
open PySem PySem.Spec PyProof.Rows L2 LamX
/-! ### a law's data -/
structure LD where
  ds : List DF
  dl : DF
  /-- the def that hears: its tail's mirror is its body -/
  de : List DF := []
  gk : List (String × D) := []
  free : List String := []
  cls : List String := []
  subT : List (String × String × Bool) := []
  atT : List (String × String) := []
  /-- raised: the class, its field, the class whose __init__ it is -/
  rzT : List (String × String × String) := []
  kws : List (String × List String × List Nat) := []
  lia : String := ""
def subF (t : List (String × String × Bool)) (y k : String) : Option Bool := (t.find? fun q => q.1 == y && q.2.1 == k).map (·.2.2)
namespace LD
variable (L : LD)
def pm : Pg := { fns := L.ds.map fun d => (d.nm, d.fd), sub := subF L.subT, at_ := fun y f => L.atT.contains (y, f), ears := L.de.map fun d => (d.nm, d.N.length - 3, d.fd.body), lia := L.lia }
def gm : Gm := { gk := L.gk, fns := L.ds.map fun d => (d.nm, d.fd.np), free := L.free, cls := L.cls, rz := L.rzT.map fun q => (q.1, q.2.1) }
def gl : Gm := { L.gm with ears := L.de.map (·.nm), kws := L.kws, rp := true }
/-- the tail's -/
def gt : Gm := { gk := L.gk, free := L.free, cls := L.cls }
def names : List String := L.ds.map (·.nm) ++ (L.dl.nm :: (L.de.map (·.nm) ++ L.cls))
def fa : List He.Fa := L.names.map (fun x => He.Fa.glo (Str.ofString x)) ++ L.free.map fun x => He.Fa.free (Str.ofString x)
def fn : List He.DefD := (L.ds ++ (L.dl :: L.de)).map fun d => ⟨(Str.ofString d.nm, none), Str.ofString d.nm, Str.ofString d.nm, defArgs d.st, defBody d.st, defScope d.st, [], []⟩
def tf : List He.Defn := [(Str.ofString L.dl.nm, none)]
def rzB (P : Program) (K : PySem.W.Frag) (k f Dn : String) : Bool := match PySem.W.findIn K (.ref (cA K k)) "__init__" with
  | some (some (.ref fI)) => oexB K (cA K k) && (decide (PySem.W.findIn K (.ref (cA K k)) (Str.ofString f) = some none) && (decide (PySem.W.subIn K (.ref (cA K k)) (.ref (cA K Dn)) = some true) &&
    (decide (PySem.W.ks_superIn K (cA K k) (cA K Dn) "__init__" = some (some (.builtin "ValueError.__init__"))) && (decide (PySem.W.subIn K (.ref (cA K k)) (.type "ValueError") = some true) && iniB P K fI (cA K Dn) (Str.ofString f)))))
  | _ => false
def ex (P : Program) (K : PySem.W.Frag) : Bool := (L.gk.all fun q => gcB K q.1 q.2) && ((L.subT.all fun q => subB K q.1 q.2.1 q.2.2) && ((L.atT.all fun q => attB K q.1 q.2) && L.rzT.all fun q => rzB P K q.1 q.2.1 q.2.2))
end LD
/-- a def's own facts -/
structure DSt (Γ : Gm) (d : DF) : Prop where
  sc : FnScope d.N (d.N.take d.fd.np) (defScope d.st)
  ln : d.N.length = d.fd.np + d.fd.nl
  ck : chkB Γ d.N (defScope d.st) d.fd.body (defBody d.st) = true
  bd : ∀ (kV doc pm : Value) (an : Option Addr) (cdv ct : Value) (us : List Value), us.length = (d.N.take d.fd.np).length → bindArgs (PySem.W.fnOf (Str.ofString d.nm) (Str.ofString d.nm) (defArgs d.st) (defBody d.st) (defScope d.st) .none kV doc pm an cdv ct) ⟨us, []⟩ = pure ((d.N.take d.fd.np).zip us)
/-! ### the def that hears -/
def earB (a nf nc n lia : Str) (bg : List Stmt) : Bool := match bg with
  | .Assign [.Tuple [.Name x1 p1, .Name x2 p2] _ _] (.Tuple [.List [] _, .Constant k0 _ _] _ _) _ :: .Try [.Expr (.Call (.Attribute (.Name x3 _) ap pa) [.Call (.Name x4 _) [] [] _] [] pd) _] [.ExceptHandler (some (.Name x5 _)) (some x6) [.Assign [.Name x7 _] (.Name x8 _) _] _] [] [] _ :: _ =>
    decide (x1 = nf) && (decide (x2 = nc) && (decide (x3 = nf) && (decide (ap = ("append" : Str)) && (decide (x4 = a) && (decide (x5 = lia) && (decide (x6 = n) && (decide (x7 = nc) && (decide (x8 = n) && (decide (k0 = .none) && (p2.line == p1.line && pa.endLine == pd.line))))))))))
  | _ => false
theorem earB_ok {a nf nc n lia : Str} {bg : List Stmt} (h : earB a nf nc n lia bg = true) : ∃ p1 p2 kt pt p3 kc p4 k2 p5 p6 p7 pa pb pc pd pe pf ph pi pj p8 p9,
    bg = .Assign [.Tuple [.Name nf p1, .Name nc p2] kt pt] (.Tuple [.List [] p3, .Constant .none kc p4] k2 p5) p6 ::
      .Try [.Expr (.Call (.Attribute (.Name nf p7) "append" pa) [.Call (.Name a pb) [] [] pc] [] pd) pe] [.ExceptHandler (some (.Name lia pf)) (some n) [.Assign [.Name nc ph] (.Name n pi) pj] p8] [] [] p9 :: bg.drop 2 ∧
    (p2.line == p1.line) = true ∧ (pa.endLine == pd.line) = true := by
  unfold earB at h
  split at h
  · replace h := and2 h
    obtain ⟨h1, h⟩ := h
    replace h := and2 h
    obtain ⟨h2, h⟩ := h
    replace h := and2 h
    obtain ⟨h3, h⟩ := h
    replace h := and2 h
    obtain ⟨h4, h⟩ := h
    replace h := and2 h
    obtain ⟨h5, h⟩ := h
    replace h := and2 h
    obtain ⟨h6, h⟩ := h
    replace h := and2 h
    obtain ⟨h7, h⟩ := h
    replace h := and2 h
    obtain ⟨h8, h⟩ := h
    replace h := and2 h
    obtain ⟨h9, h⟩ := h
    replace h := and2 h
    obtain ⟨h10, h⟩ := h
    replace h := and2 h
    obtain ⟨h11, h12⟩ := h
    have e1 := eqd h1
    have e2 := eqd h2
    have e3 := eqd h3
    have e4 := eqd h4
    have e5 := eqd h5
    have e6 := eqd h6
    have e7 := eqd h7
    have e8 := eqd h8
    have e9 := eqd h9
    have e10 := eqd h10
    subst e1 e2 e4 e5 e6 e7 e10
    rw [e3, e8, e9]
    exact ⟨_, _, _, _, _, _, _, _, _, _, _, _, _, _, _, _, _, _, _, _, _, _, rfl, h11, h12⟩
  · cases h
structure EarS (L : LD) (d : DF) (a nf nc n : Str) (j : Nat) : Prop where
  sh : earB a nf nc n (Str.ofString L.lia) (defBody d.st) = true
  sc : FnScope d.N [a] (defScope d.st)
  n0 : d.N[0]? = some a
  n1 : d.N[1]? = some nf
  n2 : d.N[2]? = some nc
  nj : d.N[j]? = some n
  hj : 2 < j
  h0 : (defScope d.st).names.lookup a = some .local
  h1 : (defScope d.st).names.lookup nf = some .local
  h2 : (defScope d.st).names.lookup nc = some .local
  h3 : (defScope d.st).names.lookup n = some .local
  ne : (nc == nf) = false
  da : (a == ("__debug__" : Str)) = false
  da' : (a == ("__classdict__" : Str)) = false
  df : (nf == ("__debug__" : Str)) = false
  df' : (nf == ("__classdict__" : Str)) = false
  dn : (n == ("__debug__" : Str)) = false
  dn' : (n == ("__classdict__" : Str)) = false
  lg : (defScope d.st).names.lookup (Str.ofString L.lia) = some .globalImplicit
  ld : (Str.ofString L.lia == ("__debug__" : Str)) = false
  lc : L.lia ∈ L.cls
  ck : chkB L.gt d.N (defScope d.st) d.fd.body ((defBody d.st).drop 2) = true
  lk : L.pm.ears.lookup d.nm = some (d.N.length - 3, d.fd.body)
  bd : ∀ (kV doc pm : Value) (an : Option Addr) (cdv ct : Value) (us : List Value), us.length = [a].length → bindArgs (PySem.W.fnOf (Str.ofString d.nm) (Str.ofString d.nm) (defArgs d.st) (defBody d.st) (defScope d.st) .none kV doc pm an cdv ct) ⟨us, []⟩ = pure ([a].zip us)
end Py
end

section
set_option Elab.async false
set_option linter.all false
set_option maxRecDepth 100000
set_option maxHeartbeats 2000000
namespace Py
open PySem PySem.Spec PyProof.Rows L2 LamX
theorem look_map {α β : Type} {f : String} {g : α → String} {v : α → β} : ∀ {ds : List α} {n : β}, (ds.map fun d => (g d, v d)).lookup f = some n → ∃ d ∈ ds, g d = f ∧ v d = n
  | [], n, h => by simp at h
  | d :: ds, n, h => by
    rw [List.map_cons, List.lookup_cons] at h
    split at h
    · rename_i e
      exact ⟨d, List.mem_cons_self, (eq_of_beq e).symm, Option.some.inj h⟩
    · obtain ⟨d', hd, e⟩ := look_map h
      exact ⟨d', List.mem_cons_of_mem _ hd, e⟩
theorem look_of {α β : Type} {g : α → String} {v : α → β} : ∀ {ds : List α}, (ds.map g).Nodup → ∀ d ∈ ds, (ds.map fun d => (g d, v d)).lookup (g d) = some (v d)
  | [], _, d, h => by cases h
  | d' :: ds, n, d, h => by
    rw [List.map_cons, List.nodup_cons] at n
    rw [List.map_cons, List.lookup_cons]
    rcases List.mem_cons.mp h with rfl | h
    · rw [beq_self_eq_true]
    · have : (g d == g d') = false := Bool.eq_false_iff.mpr fun z => n.1 (by rw [← eq_of_beq z]; exact List.mem_map.mpr ⟨d, h, rfl⟩)
      rw [this]
      exact look_of n.2 d h
theorem look_mem {β : Type} {a : String} {b : β} : ∀ {l : List (String × β)}, l.lookup a = some b → (a, b) ∈ l
  | [], h => by simp at h
  | (a', b') :: l, h => by
    rw [List.lookup_cons] at h
    split at h
    · rename_i e
      rw [eq_of_beq e, ← Option.some.inj h]
      exact List.mem_cons_self
    · exact List.mem_cons_of_mem _ (look_mem h)
theorem look_pm {ds : List DF} {f : String} {n : Nat} (h : ((ds.map fun d => (d.nm, d.fd)).lookup f).map (·.np) = some n) : (ds.map fun d => (d.nm, d.fd.np)).lookup f = some n := by
  induction ds with
  | nil => simp at h
  | cons d ds ih =>
    rw [List.map_cons, List.lookup_cons] at h ⊢
    split at h
    · exact h
    · exact ih h
section
variable {L : LD} {P : Program} {w : World} {K : PySem.W.Frag} {mg : Str → Option Value} {h : Heap} {Pt : Addr} {q : Str}
theorem subF_mem {t : List (String × String × Bool)} {y k : String} {b : Bool} (e : subF t y k = some b) : (y, k, b) ∈ t := by
  unfold subF at e
  obtain ⟨z, e1, e2⟩ := Option.map_eq_some_iff.mp e
  have e3 := List.find?_some e1
  rw [Bool.and_eq_true] at e3
  have m := List.mem_of_find?_eq_some e1
  obtain ⟨z1, z2, z3⟩ := z
  rw [← eq_of_beq e3.1, ← eq_of_beq e3.2, ← e2]
  exact m
variable (X : K.In h) (G : h.Ns mainGlobals mg) (c : He.SaysX L.fa L.fn [] L.tf (L.ex P) w h K)
include X G c
theorem glo_mem {x : String} (hx : x ∈ L.names) : (He.Fa.glo (Str.ofString x)).ok K = true :=
  He.SaysD.facts c.t.d (List.mem_append_left _ (List.mem_map.mpr ⟨x, hx, rfl⟩))
theorem glo_at {x : String} (hx : x ∈ L.names) : mg (Str.ofString x) = some (.ref (cA K x)) := He.glo_ok X G (glo_mem X G c hx)
theorem free_at {x : String} (hx : x ∈ L.free) : mg (Str.ofString x) = none := He.free_ok X G (He.SaysD.facts c.t.d (List.mem_append_right _ (List.mem_map.mpr ⟨x, hx, rfl⟩)))
theorem def_at {d : DF} (hd : d ∈ L.ds ++ (L.dl :: L.de)) : ∃ fd, FunD K (Str.ofString d.nm) (Str.ofString d.nm) (defArgs d.st) (defBody d.st) (defScope d.st) [] [] (cA K d.nm) fd :=
  He.SaysD.defs c.t.d (d := ⟨(Str.ofString d.nm, none), Str.ofString d.nm, Str.ofString d.nm, defArgs d.st, defBody d.st, defScope d.st, [], []⟩) (List.mem_map.mpr ⟨d, hd, rfl⟩)
theorem ex_gk : ∀ q ∈ L.gk, gcB K q.1 q.2 = true := fun q hq => List.all_eq_true.mp (and2 c.more).1 q hq
theorem ex_sub : ∀ q ∈ L.subT, subB K q.1 q.2.1 q.2.2 = true := fun q hq => List.all_eq_true.mp (and2 (and2 c.more).2).1 q hq
theorem ex_att : ∀ q ∈ L.atT, attB K q.1 q.2 = true := fun q hq => List.all_eq_true.mp (and2 (and2 (and2 c.more).2).2).1 q hq
theorem ex_rz : ∀ q ∈ L.rzT, LD.rzB P K q.1 q.2.1 q.2.2 = true := fun q hq => List.all_eq_true.mp (and2 (and2 (and2 c.more).2).2).2 q hq
theorem gok (Γ : Gm) (h1 : Γ.gk = L.gk) (h2 : Γ.free = L.free) (h3 : Γ.cls = L.cls) : GOk (Tl K mg Pt q) Γ where
  gk := fun x d e => by
    rw [h1] at e
    exact gc_at (T := Tl K mg Pt q) X G (ex_gk X G c (x, d) (look_mem e))
  free := fun x e => by
    rw [h2] at e
    exact free_at X G c (List.contains_iff_mem.mp e)
  cls := fun k e => by
    rw [h3] at e
    exact ⟨_, glo_at X G c (List.mem_append_right _ (List.mem_cons_of_mem _ (List.mem_append_right _ (List.contains_iff_mem.mp e))))⟩
theorem clsG {k : String} (hk : k ∈ L.cls) : k ∈ L.names := List.mem_append_right _ (List.mem_cons_of_mem _ (List.mem_append_right _ hk))
theorem subA (hc : ∀ q ∈ L.subT, q.1 ∈ L.cls ∧ q.2.1 ∈ L.cls) : ∀ y k b, L.pm.sub y k = some b → SubAt (Tl K mg Pt q) y k b := fun y k b e => by
  have m := subF_mem e
  obtain ⟨c1, c2⟩ := hc _ m
  exact sub_at (T := Tl K mg Pt q) X G (glo_mem X G c (clsG X G c c1)) (glo_mem X G c (clsG X G c c2)) (ex_sub X G c _ m)
theorem attA (hc : ∀ q ∈ L.atT, q.1 ∈ L.cls) : ∀ y f, L.pm.at_ y f = true → AtAt (Tl K mg Pt q) y f := fun y f e => by
  have m : (y, f) ∈ L.atT := List.contains_iff_mem.mp e
  exact att_at (T := Tl K mg Pt q) X G (glo_mem X G c (clsG X G c (hc _ m))) (ex_att X G c _ m)
theorem rzA {base : Heap} (hc : ∀ q ∈ L.rzT, q.1 ∈ L.cls) (hs : "super" ∈ L.free) : ∀ k f, (L.rzT.map fun q => (q.1, q.2.1)).contains (k, f) = true → RzAt (Tl K mg Pt q) P w base k f := fun k f e => by
  obtain ⟨⟨k', f', D⟩, m, e⟩ := List.mem_map.mp (List.contains_iff_mem.mp e)
  cases e
  have z := ex_rz X G c _ m
  unfold LD.rzB at z
  dsimp only at z
  split at z
  · rename_i fI hi
    replace z := and2 z
    obtain ⟨z1, z⟩ := z
    replace z := and2 z
    obtain ⟨z2, z⟩ := z
    replace z := and2 z
    obtain ⟨z3, z⟩ := z
    replace z := and2 z
    obtain ⟨z4, z⟩ := z
    replace z := and2 z
    obtain ⟨z5, z6⟩ := z
    exact rz_of (T := Tl K mg Pt q) (glo_at X G c (clsG X G c (hc _ m))) (oexB_ok z1) hi (free_at X G c hs) ⟨oexB_ok z1, eqd z3, eqd z4, eqd z5⟩ (eqd z2) z6
  · cases z
theorem dok {d : DF} (hd : d ∈ L.ds) (s : DSt L.gm d) : DOk (Tl K mg Pt q) L.gm d := by
  obtain ⟨fd, F⟩ := def_at X G c (List.mem_append_left _ hd)
  exact ⟨⟨_, fd, glo_at X G c (List.mem_append_left _ (List.mem_map.mpr ⟨d, hd, rfl⟩)), F, F.bindsN s.bd⟩, s.sc, s.ln, s.ck⟩
theorem sta_at {base : Heap} (hsub : ∀ q ∈ L.subT, q.1 ∈ L.cls ∧ q.2.1 ∈ L.cls) (hat : ∀ q ∈ L.atT, q.1 ∈ L.cls) (hrz : ∀ q ∈ L.rzT, q.1 ∈ L.cls) (hs : "super" ∈ L.free) : Sta (Tl K mg Pt q) P w base L.gm L.pm where
  ar := fun f n e => look_pm e
  rz := rzA X G c hrz hs
  sub := subA X G c hsub
  at_ := attA X G c hat
  kw := rfl
  rp := rfl
theorem defs_at {base : Heap} (hd : ∀ d ∈ L.ds, DSt L.gm d) (hn : (L.ds.map (·.nm)).Nodup) (st : Sta (Tl K mg Pt q) P w base L.gm L.pm) (k : Nat) : ∀ d ∈ L.ds, FnAt (Tl K mg Pt q) P w base (k + 2) d.nm d.fd.np (callN L.pm k d.nm) :=
  all_ok (gok X G c L.gm rfl rfl rfl) (fun d h => dok X G c h (hd d h)) (fun f n e => look_map e) (fun d h => look_of hn d h) st rfl k
/-- a def's own promise at its function object -/
theorem fn_at {base : Heap} {d : DF} {fa : Addr} {fd : FuncData} (hd : ∀ d ∈ L.ds, DSt L.gm d) (hn : (L.ds.map (·.nm)).Nodup) (st : Sta (Tl K mg Pt q) P w base L.gm L.pm) (k : Nat) (hm : d ∈ L.ds) (F : FunD K (Str.ofString d.nm) (Str.ofString d.nm) (defArgs d.st) (defBody d.st) (defScope d.st) [] [] fa fd) :
    FnOk P w K mg base (CX P w) (k + 1 + 2) fa fd (d.N.take d.fd.np) (spF (Tl K mg Pt q) d.fd.np (callN L.pm (k + 1) d.nm)) := by
  have e : callN L.pm (k + 1) d.nm = runF (clN L.pm (callN L.pm k)) d.fd := funext fun a => funext fun b => by rw [callN, show L.pm.fns.lookup d.nm = some d.fd from look_of hn d hm]
  rw [e]
  have s := hd d hm
  have hps : (d.N.take d.fd.np).length = d.fd.np := by rw [List.length_take, s.ln]; omega
  refine F.ok s.sc (fun vs H Q E h => ?_) fun cdv A outer s' H vs Q E hr h => ?_
  · obtain ⟨xx, m, hh, ds, hl, _⟩ := h
    rw [hl, hps]
  · obtain ⟨xx, m, hh, ds, hl, R, r, qq⟩ := h
    have cc := cx_of (T := Tl K mg Pt q) (P := P) (w := w) (base := base) (outer := outer) (H := H) (E := E) s.sc hr
    have F1 : FOk (Tl K mg Pt q) (cxOf (CX P w) P w K mg base d.N (Str.ofString d.nm) (defScope d.st) fa cdv A outer s' H E) (clN L.pm (callN L.pm k)) L.gm :=
      ⟨fun f n hf => by
        obtain ⟨d', hd', rfl, rfl⟩ := look_map hf
        exact ⟨k + 2, defs_at X G c hd hn st k d' hd', hr⟩, st.ar, st.rz, .inr (hr.mono (by omega)), st.sub, st.at_, (fun g hg => by cases hg), (fun q hq => by cases hq), fun hp => by cases hp⟩
    refine ⟨tS (Tl K mg Pt q) (fun C d _ H' => E C d H') (excs (clN L.pm (callN L.pm k)) d.fd.body), chkB_ok (gok X G c L.gm rfl rfl rfl) cc rfl F1 d.fd.body _ s.ck, xx, m, hh, _, R, start_rs r (by rw [hl]; exact s.ln), run_ends (by rw [r.length, hl]) qq⟩
/-- called by keywords -/
structure KwS (L : LD) (q : String × List String × List Nat) (d : DF) : Prop where
  mem : d ∈ L.ds
  nm : d.nm = q.1
  np : q.2.2.length = d.fd.np
  bd : ∀ (kV doc pm : Value) (an : Option Addr) (cdv ct : Value) (ws : List Value), ws.length = q.2.2.length → bindArgs (PySem.W.fnOf (Str.ofString d.nm) (Str.ofString d.nm) (defArgs d.st) (defBody d.st) (defScope d.st) .none kV doc pm an cdv ct) ⟨[], (q.2.1.map Str.ofString).zip ws⟩ =
    pure ((d.N.take d.fd.np).zip (q.2.2.map fun i => ws.getD i .none))
theorem kw_at {base : Heap} (hd : ∀ d ∈ L.ds, DSt L.gm d) (hn : (L.ds.map (·.nm)).Nodup) (st : Sta (Tl K mg Pt q) P w base L.gm L.pm) (k : Nat) {z : String × List String × List Nat} {d : DF} (s : KwS L z d) :
    KwAt (Tl K mg Pt q) P w base (k + 1 + 2) z.1 (z.2.1.map Str.ofString) z.2.2 (callN L.pm (k + 1) z.1) := by
  obtain ⟨fd, F⟩ := def_at X G c (List.mem_append_left _ s.mem)
  have e := s.nm
  have FO := fn_at X G c (base := base) (q := q) (Pt := Pt) hd hn st k s.mem F
  have hps : (d.N.take d.fd.np).length = d.fd.np := by rw [List.length_take, (hd d s.mem).ln]; omega
  refine ⟨cA K d.nm, fd, d.N.take d.fd.np, by rw [← e]; exact glo_at X G c (List.mem_append_left _ (List.mem_map.mpr ⟨d, s.mem, rfl⟩)), F.kp, fun s' ws KX hw => ?_, by rw [hps, s.np], by rw [s.np, ← e]; exact FO⟩
  obtain ⟨oc, od, dV, kV, doc, pm, an, cdv, ct, osl, rfl, lk, hcd, hD, hK⟩ := F.ex
  rcases hD with ⟨_, rfl⟩ | ⟨e, _⟩
  · exact .of_eq (s.bd kV doc pm an cdv ct ws hw)
  · exact absurd rfl e
/-- the def that hears, in the law's frame -/
theorem ear_of {base : Heap} {d : DF} {a nf nc n : Str} {j k dep : Nat} {cc fa : Addr} {s' : Shared} {H : Hp} {E : XK} {sl : Scope} {Nl : List Str} {ql : Str} (s : EarS L d a nf nc n j) (hm : d ∈ L.de) (st : Sta (Tl K mg Pt q) P w base L.gm L.pm)
    (hk2 : 2 ≤ k) (hr : Room (k + 2) (cxOf (CX P w) P w K mg base Nl ql sl fa (.ref cc) callerA [] s' H E).A) (hq : q = (envOfC ql sl s'.heap.objs.size fa (.ref cc)).qual)
    (hF : ∀ f n, L.gl.fns.lookup f = some n → FnAt (Tl K mg Pt q) P w base k f n (callN L.pm dep f)) (hK : ∀ z ∈ L.gl.kws, KwAt (Tl K mg Pt q) P w base k z.1 (z.2.1.map Str.ofString) z.2.2 (callN L.pm dep z.1)) (TB : TabB base mg cc Pt) :
    EarAt (Tl K mg Pt q) (cxOf (CX P w) P w K mg base Nl ql sl fa (.ref cc) callerA [] s' H E) (clN L.pm (callN L.pm dep)) L.gl d.nm := by
  obtain ⟨fd, F⟩ := def_at X G c (List.mem_append_right _ (List.mem_cons_of_mem _ hm))
  obtain ⟨p1, p2, kt, pt, p3, kc, p4, k2, p5, p6, p7, pa, pb, pc, pd, pe, pf, ph, pi, pj, p8, p9, hbg, hl, hap⟩ := earB_ok s.sh
  have hb := F.bindsN (ps := [a]) s.bd
  obtain ⟨oc, od, dV, kV, doc, pm, an, cdv, ct, osl, rfl, lk, hcd, hD, hKd⟩ := F.ex
  have F1 : ∀ Z : Cx, FOk (Tl K mg Pt q) Z { call := fun _ _ _ => .stuck, turns := 0, sub := L.pm.sub, at_ := L.pm.at_ } L.gt := fun Z =>
    ⟨(fun f n h => by cases h), (fun f n h => by cases h), (fun k f h => by cases h), .inl rfl, st.sub, st.at_, (fun g h => by cases h), (fun z h => by cases h), fun h => by cases h⟩
  refine ear_at (T := Tl K mg Pt q) (cl := clN L.pm (callN L.pm dep)) (ft := fun env h => excs { call := fun _ _ _ => .stuck, turns := 0, sub := L.pm.sub, at_ := L.pm.at_ } d.fd.body env h) hk2 hr hF hK (by rw [hq]; rfl) TB rfl
    (glo_at X G c (List.mem_append_right _ (List.mem_cons_of_mem _ (List.mem_append_left _ (List.mem_map.mpr ⟨d, hm, rfl⟩))))) F.kp lk hcd hb s.sc hbg s.n0 s.n1 s.n2 s.nj s.hj s.h0 s.h1 s.h2 s.h3 hl hap s.ne s.da s.da' s.df s.df' s.dn s.dn' s.lg
    (glo_at X G c (clsG X G c s.lc)) s.ld (fun Z cz hz => chkB_ok (gok X G c L.gt rfl rfl rfl) cz hz (F1 Z) d.fd.body _ s.ck) st.sub fun l k h => ?_
  show tailN L.pm d.nm l k h = _
  unfold tailN
  rw [s.lk]
  rfl
theorem law_at {l : PySem.W.OpenLaw} {fa : Addr} {dep : Nat} {x : Str} (hP : l.prog = P) (hd : ∀ d ∈ L.ds, DSt L.gm d) (hn : (L.ds.map (·.nm)).Nodup) (hsub : ∀ q ∈ L.subT, q.1 ∈ L.cls ∧ q.2.1 ∈ L.cls) (hat : ∀ q ∈ L.atT, q.1 ∈ L.cls) (hrz : ∀ q ∈ L.rzT, q.1 ∈ L.cls) (hs : "super" ∈ L.free)
    (hears : ∀ d ∈ L.de, ∃ a nf nc n j, EarS L d a nf nc n j) (hkws : ∀ z ∈ L.kws, ∃ d, KwS L z d) (hfa : mg (Str.ofString L.dl.nm) = some (.ref fa)) (hq : ∀ (L' a : Addr) (cd : Value), q = (envOfC (Str.ofString L.dl.nm) (defScope L.dl.st) L' a cd).qual)
    (hb : ∀ (kV doc pm : Value) (an : Option Addr) (cdv ct : Value) (us : List Value), us.length = [x].length → bindArgs (PySem.W.fnOf (Str.ofString L.dl.nm) (Str.ofString L.dl.nm) (defArgs L.dl.st) (defBody L.dl.st) (defScope L.dl.st) .none kV doc pm an cdv ct) ⟨us, []⟩ = pure ([x].zip us)) :
    LawAt l w mg fa h L.dl L.gl L.pm (dep + 1) (dep + 5) x q := by
  subst hP
  obtain ⟨fd, F⟩ := def_at X G c (List.mem_append_right _ (List.mem_cons_self (a := L.dl)))
  have ml : L.dl.nm ∈ L.names := List.mem_append_right _ List.mem_cons_self
  have ea : fa = cA K L.dl.nm := by
    have z := hfa.symm.trans (glo_at X G c ml)
    cases z
    rfl
  subst ea
  have hbn := fun (s : Shared) (u : Value) => FunD.bindsA (ps := [x]) F hb s [u] rfl
  obtain ⟨oc, od, dV, kV, doc, pm, an, cdv, ct, osl, rfl, lk, hcd, hD, hKd⟩ := F.ex
  obtain ⟨cc, rfl⟩ := He.codeIn_ref hcd
  have ec : He.codeOf K (Str.ofString L.dl.nm, none) = cc := He.codeOf_eq lk rfl
  have mt : (Str.ofString L.dl.nm, (none : Option Str)) ∈ L.tf := List.mem_cons_self
  have h1 := c.empty _ mt
  have h2 := c.out _ mt
  have h3 := PySem.W.codeHd_of_K X (c.hd _ mt)
  have e3 : (He.cT K (Str.ofString L.dl.nm, none)).1 = cc := ec
  rw [e3] at h3
  refine ⟨K, cc, _, oc, dV, kV, doc, pm, ct, od, an, osl, X, h1, h2, h3, lk, hcd, fun s u => hbn s u, gok X G c L.gl rfl rfl rfl, fun base TB s H E hr => ?_⟩
  have st : Sta (Tl K mg (He.cT K (Str.ofString L.dl.nm, none)).2 q) l.prog w base L.gm L.pm := sta_at X G c hsub hat hrz hs
  have hF : ∀ f n, L.gl.fns.lookup f = some n → FnAt (Tl K mg (He.cT K (Str.ofString L.dl.nm, none)).2 q) l.prog w base (dep + 1 + 2) f n (callN L.pm (dep + 1) f) := fun f n hf => by
    obtain ⟨d', hd', rfl, rfl⟩ := look_map hf
    exact defs_at X G c hd hn st (dep + 1) d' hd'
  have hK : ∀ z ∈ L.gl.kws, KwAt (Tl K mg (He.cT K (Str.ofString L.dl.nm, none)).2 q) l.prog w base (dep + 1 + 2) z.1 (z.2.1.map Str.ofString) z.2.2 (callN L.pm (dep + 1) z.1) := fun z hz => by
    obtain ⟨d, s⟩ := hkws z hz
    exact kw_at X G c hd hn st dep s
  have hr3 : Room (dep + 1 + 2) (Xl l.prog w K mg base L.dl (cA K L.dl.nm) cc s H E).A := hr.mono (by omega)
  exact ⟨fun f n hf => ⟨_, hF f n hf, hr3⟩, st.ar, st.rz, .inr (hr.mono (by omega)), st.sub, st.at_, (fun g hg => by
    obtain ⟨d, hd', rfl⟩ := List.mem_map.mp (List.contains_iff_mem.mp hg)
    obtain ⟨a, nf, nc, n, j, es⟩ := hears d hd'
    exact ear_of X G c es hd' st (by omega) (hr.mono (by omega)) (hq _ _ _) hF hK TB), (fun z hz => ⟨_, hK z hz, hr3⟩), fun _ => rfl⟩
end
end Py
end

section
set_option Elab.async false
set_option linter.all false
set_option maxRecDepth 100000
set_option maxHeartbeats 2000000
namespace Py
open PySem PySem.Spec PyProof.Rows L2 LamX
/-! ### the hook: what the module's names reach, and the process's statics -/
abbrev asY (g : Addr → Option Obj) (n : Nat) : List Addr := cStatics :: He.asD g n
def obsY (L : LD) (P : Program) (n : Nat) (g : Addr → Option Obj) : He.AlX :=
  let K := He.frT g (asY g n)
  (He.obsT L.fa L.fn [] K, L.ex P K && He.tabsB g L.tf K)
theorem saysY {L : LD} {P : Program} {n : Nat} {w : World} {h : Heap} (e : obsY L P n h.get? = He.valX L.fn [] w) : He.SaysX L.fa L.fn [] L.tf (L.ex P) w h (He.frT h.get? (asY h.get? n)) := by
  have a1 := congrArg Prod.fst e
  have a2 := and2 (show (L.ex P (He.frT h.get? (asY h.get? n)) && He.tabsB h.get? L.tf (He.frT h.get? (asY h.get? n))) = true from congrArg Prod.snd e)
  have tb : ∀ p ∈ L.tf, _ := fun p hp => and2 (List.all_eq_true.mp a2.2 p hp)
  have ob : ∀ p ∈ L.tf, ∃ o, h.get? (He.cT (He.frT h.get? (asY h.get? n)) p).2 = some o ∧ He.emptyTab o = true := fun p hp => by
    have z := (tb p hp).2
    split at z
    · rename_i o ho
      exact ⟨o, ho, z⟩
    · cases z
  refine { t := a1, more := a2.1, hd := fun p hp => (tb p hp).1, out := fun p hp => ?_, empty := fun p hp => ?_ }
  · obtain ⟨o, h1, h2⟩ := ob p hp
    exact He.frT_none h1 h2
  · obtain ⟨o, h1, h2⟩ := ob p hp
    rw [h1, He.emptyTab_eq h2]
def hookY (L : LD) (P : Program) (n : Nat) : PySem.W.Hook where
  α := He.AlX
  obs := fun s => obsY L P n s.heap.get?
  val := fun w => He.valX L.fn [] w
  says := fun w h => ∃ K : PySem.W.Frag, K.In h ∧ He.SaysX L.fa L.fn [] L.tf (L.ex P) w h K
  of := fun _ _ e => ⟨_, He.frT_in, saysY e⟩
  keeps := fun _ _ _ ⟨K, hK, z⟩ k => ⟨K, hK.keeps k, { t := z.t, more := z.more, hd := z.hd, out := z.out, empty := fun p hp => k _ _ (z.empty p hp) }⟩
theorem obsY_eq {L : LD} {P : Program} {n : Nat} {g : Addr → Option Obj} {s : Shared} (h : ∀ a, g a = s.heap.get? a) : obsY L P n g = (hookY L P n).obs s := by
  rw [show g = s.heap.get? from funext h]
  rfl
end Py
end

section
set_option linter.all false
set_option maxRecDepth 100000
namespace Py
/-! ### the mirror evaluated: what is done first is looked at first -/
theorem st_nx {c : Cl} {s : S} {ss : List S} {env env1 : Env} {h h1 : Hh} (e : exc c s env h = .nx env1 h1) : excs c (s :: ss) env h = excs c ss env1 h1 := by
  rw [excs, e]
  rfl
theorem st_rt {c : Cl} {s : S} {ss : List S} {env : Env} {h h1 : Hh} {d : D} (e : exc c s env h = .rt d h1) : excs c (s :: ss) env h = .rt d h1 := by
  rw [excs, e]
  rfl
theorem st_ex {c : Cl} {s : S} {ss : List S} {env env1 : Env} {h h1 : Hh} {d : D} (e : exc c s env h = .ex d env1 h1) : excs c (s :: ss) env h = .ex d env1 h1 := by
  rw [excs, e]
  rfl
theorem st_bk {c : Cl} {s : S} {ss : List S} {env env1 : Env} {h h1 : Hh} (e : exc c s env h = .bk env1 h1) : excs c (s :: ss) env h = .bk env1 h1 := by
  rw [excs, e]
  rfl
theorem x_asg {c : Cl} {t : Tg} {e : E} {env env1 : Env} {h h1 : Hh} {d : D} (e1 : den c e env h = .ok d h1) (e2 : asg? t d env = some env1) : exc c (.asg t e) env h = .nx env1 h1 := by
  rw [exc, e1, Res.to_ok, e2]
theorem x_ret {c : Cl} {e : E} {env : Env} {h h1 : Hh} {d : D} (e1 : den c e env h = .ok d h1) : exc c (.ret (some e)) env h = .rt d h1 := by
  rw [exc, e1, Res.to_ok]
theorem x_ift {c : Cl} {t : E} {a b : List S} {env : Env} {h h1 : Hh} {r : SR} (e1 : denT c t env h = .ok true h1) (e2 : excs c a env h1 = r) : exc c (.ite t a b) env h = r := by
  rw [exc, e1, Res.to_ok, ← e2]
theorem x_iff {c : Cl} {t : E} {a b : List S} {env : Env} {h h1 : Hh} {r : SR} (e1 : denT c t env h = .ok false h1) (e2 : excs c b env h1 = r) : exc c (.ite t a b) env h = r := by
  rw [exc, e1, Res.to_ok, ← e2]
def SR.fin (r : SR) : Res D := match r with
  | .nx _ h => .ok .non h
  | .rt d h => .ok d h
  | .ex x _ h => .exc x h
  | _ => .stuck
@[simp] theorem SR.fin_nx (e : Env) (h : Hh) : (SR.nx e h).fin = .ok .non h := rfl
@[simp] theorem SR.fin_rt (d : D) (h : Hh) : (SR.rt d h).fin = .ok d h := rfl
@[simp] theorem SR.fin_ex (x : D) (e : Env) (h : Hh) : (SR.ex x e h).fin = .exc x h := rfl
@[simp] theorem SR.fin_stuck : SR.stuck.fin = .stuck := rfl
theorem runF_eq {c : Cl} {f : FD} {ds : List D} {h : Hh} (hl : ds.length = f.np) : runF c f ds h = (excs c f.body (ds.map some ++ List.replicate f.nl none) h).fin := by
  unfold runF
  rw [if_pos hl]
  rfl
/-! ### operations at known values -/
section
variable {h : Hh} {a b : Int} {n : Nat} {ds : List D}
@[simp] theorem b_add : bin? .add (.int a) (.int b) = some (.int (a + b)) := rfl
@[simp] theorem b_sub : bin? .sub (.int a) (.int b) = some (.int (a - b)) := rfl
theorem b_mul_l (h1 : -18446744073709551616 < a) (h2 : a < 18446744073709551616) : bin? .mul (.int a) (.int b) = some (.int (a * b)) := if_pos (.inl ⟨h1, h2⟩)
theorem b_mul_r (h1 : -18446744073709551616 < b) (h2 : b < 18446744073709551616) : bin? .mul (.int a) (.int b) = some (.int (a * b)) := if_pos (.inr ⟨h1, h2⟩)
theorem b_fdiv (h1 : 0 < b) (h2 : b < 1073741824) : bin? .fdiv (.int a) (.int b) = some (.int (a / b)) := if_pos ⟨h1, h2⟩
theorem b_mod (h1 : 0 < b) : bin? .mod (.int a) (.int b) = some (.int (a % b)) := if_pos h1
theorem b_pow (h1 : 0 ≤ b) (h2 : b ≤ 1000) (h3 : -18446744073709551616 < a) (h4 : a < 18446744073709551616) : bin? .pow (.int a) (.int b) = some (.int (a ^ b.toNat)) := if_pos ⟨h1, h2, h3, h4⟩
@[simp] theorem ix_tup : ix? h (.tup ds) (.int a) = at? ds a := rfl
@[simp] theorem ix_lst : ix? h (.lst ds) (.int a) = at? ds a := rfl
@[simp] theorem ix_fz : ix? h (.fz ds) (.int a) = at? ds a := rfl
theorem ix_ref (e : h[n]? = some (.lst ds)) : ix? h (.ref n) (.int a) = at? ds a := by
  simp [ix?, items?, e]
theorem ixN_lit {n : Nat} (h1 : 0 ≤ a) (h2 : a < n) : ixN n a = some a.toNat := by
  unfold ixN
  rw [if_pos h1, if_pos h2]
theorem ixN_neg {n : Nat} (h1 : a < 0) (h2 : -(n : Int) ≤ a) : ixN n a = some (a + n).toNat := by
  unfold ixN
  rw [if_neg (by omega), if_pos h2]
@[simp] theorem cmp_gt : cmp? h .gt (.int a) (.int b) = some (decide (b < a)) := rfl
@[simp] theorem cmp_lt : cmp? h .lt (.int a) (.int b) = some (decide (a < b)) := rfl
@[simp] theorem cmp_le : cmp? h .le (.int a) (.int b) = some (decide (a ≤ b)) := rfl
@[simp] theorem cmp_ge : cmp? h .ge (.int a) (.int b) = some (decide (b ≤ a)) := rfl
@[simp] theorem bi_int_ : bi? h "int" [.int a] = some (.int a) := rfl
@[simp] theorem bi_int_b {x : Bool} : bi? h "int" [.bl x] = some (.int (b2 x)) := rfl
@[simp] theorem bi_abs_ : bi? h "abs" [.int a] = some (.int (if a < 0 then -a else a)) := rfl
@[simp] theorem bi_len_t : bi? h "len" [.tup ds] = some (.int ds.length) := rfl
@[simp] theorem bi_len_l : bi? h "len" [.lst ds] = some (.int ds.length) := rfl
@[simp] theorem bi_len_f : bi? h "len" [.fz ds] = some (.int ds.length) := rfl
@[simp] theorem bi_tup_t : bi? h "tuple" [.tup ds] = some (.tup ds) := rfl
@[simp] theorem bi_tup_l : bi? h "tuple" [.lst ds] = some (.tup ds) := rfl
@[simp] theorem wrap_f : wrap false ds h = .ok (.lst ds) h := rfl
@[simp] theorem wrap_t : wrap true ds h = .ok (.ref h.length) (h ++ [.lst ds]) := rfl
@[simp] theorem asg_nm {i : Nat} {d : D} {env : Env} : asg? (.nm i) d env = if i < env.length then some (env.set i (some d)) else none := rfl
end
/-! ### big steps -/
section
variable {c : Cl} {env : Env} {h h1 h2 h3 h4 : Hh} {a b e t : E} {x y z d : D} {es : List E} {xs : List D}
theorem ev_v {i : Nat} (q : env[i]? = some (some d)) : den c (.v i) env h = .ok d h := by rw [den, q]
theorem ev_k : den c (.k d) env h = .ok d h := by rw [den]
theorem ev_gk {n : String} : den c (.gk n d) env h = .ok d h := by rw [den]
theorem ev_gf {n : String} : den c (.gf n) env h = .ok (.nam n) h := by rw [den]
theorem ev_bin {o : Bop} (q1 : den c a env h = .ok x h1) (q2 : den c b env h1 = .ok y h2) (q3 : bin? o x y = some z) : den c (.bin o a b) env h = .ok z h2 := by
  rw [den, q1, Res.bind_ok, q2, Res.bind_ok, q3, Res.of_some]
theorem ev_neg {i : Int} (q1 : den c a env h = .ok (.int i) h1) : den c (.neg a) env h = .ok (.int (-i)) h1 := by rw [den, q1, Res.bind_ok]
theorem ev_not {r : Bool} (q1 : den c a env h = .ok (.bl r) h1) : den c (.not a) env h = .ok (.bl (!r)) h1 := by rw [den, q1, Res.bind_ok]
theorem ev_cmp {o : Cop} {r : Bool} (q1 : den c a env h = .ok x h1) (q2 : den c b env h1 = .ok y h2) (q3 : cmp? h2 o x y = some r) : den c (.cmp o a b) env h = .ok (.bl r) h2 := by
  rw [den, q1, Res.bind_ok, q2, Res.bind_ok, q3, Option.map_some, Res.of_some]
theorem ev_chain {o p : Cop} {r : Bool} (q1 : den c a env h = .ok x h1) (q2 : den c b env h1 = .ok y h2) (q3 : cmp? h2 o x y = some true) (q4 : den c e env h2 = .ok z h3) (q5 : cmp? h3 p y z = some r) : den c (.chain o p a b e) env h = .ok (.bl r) h3 := by
  rw [den, q1, Res.bind_ok, q2, Res.bind_ok, q3, Res.of_some, Res.bind_ok]
  simp only [q4, Res.bind_ok, q5, Option.map_some, Res.of_some]
theorem ev_chain0 {o p : Cop} (q1 : den c a env h = .ok x h1) (q2 : den c b env h1 = .ok y h2) (q3 : cmp? h2 o x y = some false) : den c (.chain o p a b e) env h = .ok (.bl false) h2 := by
  rw [den, q1, Res.bind_ok, q2, Res.bind_ok, q3, Res.of_some, Res.bind_ok]
theorem ev_ifet (q1 : denT c t env h = .ok true h1) (q2 : den c a env h1 = .ok x h2) : den c (.ife t a b) env h = .ok x h2 := by rw [den, q1, Res.bind_ok]; exact q2
theorem ev_ifef (q1 : denT c t env h = .ok false h1) (q2 : den c b env h1 = .ok x h2) : den c (.ife t a b) env h = .ok x h2 := by rw [den, q1, Res.bind_ok]; exact q2
theorem ev_tup {ss : List (Bool × E)} (q1 : densS c ss env h = .ok xs h1) (q2 : xs.length ≤ line) : den c (.tup ss) env h = .ok (.tup xs) h1 := by rw [den, q1, Res.bind_ok, if_pos q2]
theorem ev_alf {g : A} (q1 : denA c g env h = .ok xs h1) : den c (.al false g) env h = .ok (.lst xs) h1 := by rw [den, q1, Res.bind_ok]; rfl
theorem ev_alt {g : A} (q1 : denA c g env h = .ok xs h1) : den c (.al true g) env h = .ok (.ref h1.length) (h1 ++ [.lst xs]) := by rw [den, q1, Res.bind_ok]; rfl
theorem ev_ix (q1 : den c a env h = .ok x h1) (q2 : den c b env h1 = .ok y h2) (q3 : ix? h2 x y = some z) : den c (.ix a b) env h = .ok z h2 := by
  rw [den, q1, Res.bind_ok, q2, Res.bind_ok, q3, Res.of_some]
theorem ev_sl {lo hi : Option E} {l u : Option Int} (q1 : den c a env h = .ok x h1) (q2 : denO c lo env h1 = .ok l h2) (q3 : denO c hi env h2 = .ok u h3) (q4 : sl? x l u = some z) : den c (.sl a lo hi) env h = .ok z h3 := by
  rw [den, q1, Res.bind_ok, q2, Res.bind_ok, q3, Res.bind_ok, q4, Res.of_some]
theorem ev_call {f : String} {r : Res D} (q1 : dens c es env h = .ok xs h1) (q2 : c.call f xs h1 = r) : den c (.call f es) env h = r := by rw [den, q1, Res.bind_ok]; exact q2
theorem ev_bi {f : String} (q1 : dens c es env h = .ok xs h1) (q2 : bi? h1 f xs = some z) : den c (.bi f es) env h = .ok z h1 := by rw [den, q1, Res.bind_ok, q2, Res.of_some]
theorem ev_isi {cs : List String} {r : Bool} (q1 : den c a env h = .ok x h1) (q2 : isAny h1 x cs = some r) : den c (.isi a cs) env h = .ok (.bl r) h1 := by rw [den, q1, Res.bind_ok, q2, Option.map_some, Res.of_some]
theorem ev_andt {e2 : E} {r : Res D} (q1 : den c e env h = .ok (.bl true) h1) (q2 : den c (.and (e2 :: es)) env h1 = r) : den c (.and (e :: e2 :: es)) env h = r := by
  rw [den] at q2 ⊢
  rw [denAnd, q1, Res.bind_ok]
  exact q2
theorem ev_andf {e2 : E} (q1 : den c e env h = .ok (.bl false) h1) : den c (.and (e :: e2 :: es)) env h = .ok (.bl false) h1 := by
  rw [den, denAnd, q1, Res.bind_ok]
theorem ev_and1 {r : Res D} (q1 : den c e env h = r) : den c (.and [e]) env h = r := by
  rw [den, denAnd, q1]
theorem ev_ort {e2 : E} (q1 : den c e env h = .ok (.bl true) h1) : den c (.or (e :: e2 :: es)) env h = .ok (.bl true) h1 := by
  rw [den, denOr, q1, Res.bind_ok]
theorem ev_orf {e2 : E} {r : Res D} (q1 : den c e env h = .ok (.bl false) h1) (q2 : den c (.or (e2 :: es)) env h1 = r) : den c (.or (e :: e2 :: es)) env h = r := by
  rw [den] at q2 ⊢
  rw [denOr, q1, Res.bind_ok]
  exact q2
theorem ev_or1 {r : Res D} (q1 : den c e env h = r) : den c (.or [e]) env h = r := by
  rw [den, denOr, q1]
/-! arguments -/
theorem es_nil : dens c [] env h = .ok [] h := by rw [dens]
theorem es_cons (q1 : den c e env h = .ok x h1) (q2 : dens c es env h1 = .ok xs h2) : dens c (e :: es) env h = .ok (x :: xs) h2 := by rw [dens, q1, Res.bind_ok, q2, Res.bind_ok]
theorem ss_nil' : densS c [] env h = .ok [] h := by rw [densS]
theorem ss_plain {ss : List (Bool × E)} (q1 : den c e env h = .ok x h1) (q2 : densS c ss env h1 = .ok xs h2) : densS c ((false, e) :: ss) env h = .ok (x :: xs) h2 := by
  rw [densS, q1, Res.bind_ok]
  simp only [q2, Res.bind_ok]
theorem ss_star {ss : List (Bool × E)} {ys : List D} (q1 : den c e env h = .ok x h1) (q2 : items? h1 x = some ys) (q3 : densS c ss env h1 = .ok xs h2) : densS c ((true, e) :: ss) env h = .ok (ys ++ xs) h2 := by
  rw [densS, q1, Res.bind_ok]
  simp only [q2, q3, Res.bind_ok]
theorem o_none : denO c none env h = .ok none h := by rw [denO]
theorem o_some {i : Int} (q1 : den c e env h = .ok (.int i) h1) : denO c (some e) env h = .ok (some i) h1 := by rw [denO, q1, Res.bind_ok]
/-! new lists -/
theorem al_disp (q1 : dens c es env h = .ok xs h1) (q2 : xs.length ≤ line) : denA c (.disp es) env h = .ok xs h1 := by rw [denA, q1, Res.bind_ok, if_pos q2]
theorem al_of (q1 : den c e env h = .ok x h1) (q2 : items? h1 x = some xs) : denA c (.of e) env h = .ok xs h1 := by rw [denA, q1, Res.bind_ok, q2, Res.of_some]
theorem al_cat {ys : List D} (q1 : den c a env h = .ok x h1) (q2 : den c b env h1 = .ok y h2) (q3 : listed? h2 x = some xs) (q4 : listed? h2 y = some ys) (q5 : xs.length + ys.length ≤ line) : denA c (.cat a b) env h = .ok (xs ++ ys) h2 := by
  rw [denA, q1, Res.bind_ok, q2, Res.bind_ok, q3, q4]
  simp only [q5, if_true]
theorem al_rep {n : Int} (q1 : den c a env h = .ok x h1) (q2 : den c b env h1 = .ok (.int n) h2) (q3 : listed? h2 x = some xs) (q4 : -9223372036854775808 ≤ n ∧ n < 9223372036854775808 ∧ xs.length * n.toNat ≤ line) : denA c (.rep a b) env h = .ok (List.replicate n.toNat xs).flatten h2 := by
  rw [denA, q1, Res.bind_ok, q2, Res.bind_ok, q3]
  simp only [q4, and_self, if_true]
theorem al_sl {lo hi : Option E} {l u : Option Int} (q1 : den c a env h = .ok x h1) (q2 : denO c lo env h1 = .ok l h2) (q3 : denO c hi env h2 = .ok u h3) (q4 : rlist? h3 x = some xs) : denA c (.sl a lo hi) env h = .ok (cut xs l u) h3 := by
  rw [denA, q1, Res.bind_ok, q2, Res.bind_ok, q3, Res.bind_ok, q4]
/-- a comprehension's turn -/
def turnC (c : Cl) (elt : E) (tg : Tg) (cs : List E) (own : List Nat) (env : Env) (d : D) (h : Hh) : Res (Option D) := match asg? tg d (wipeE env own) with
  | some env' => (denC c cs env' h).nox.bind fun r h => match r with
    | true => (den c elt env' h).nox.bind fun y h => .ok (some y) h
    | false => .ok none h
  | none => .stuck
theorem al_comp {it : It} {tg : Tg} {cs : List E} {own : List Nat} {ds : List D} {g : Gd} {r : Res (List D)} (q1 : denI c it env h = .ok (ds, g) h1) (q2 : walkC g (turnC c e tg cs own env) ds [] h1 = r) : denA c (.comp e tg it cs own) env h = r := by
  rw [denA, q1, Res.bind_ok]
  exact q2
theorem wc_nil {g : Gd} {f : D → Hh → Res (Option D)} {acc : List D} (q : gdok g h = true) : walkC g f [] acc h = .ok acc h := by rw [walkC, if_pos q]
theorem wc_take {g : Gd} {f : D → Hh → Res (Option D)} {ds acc : List D} {r : Res (List D)} (q : gdok g h = true) (q1 : f d h = .ok (some y) h1) (q2 : acc.length < line) (q3 : walkC g f ds (acc ++ [y]) h1 = r) : walkC g f (d :: ds) acc h = r := by
  rw [walkC, if_pos q, q1, Res.bind_ok]
  simp only [q2, if_true]
  exact q3
theorem wc_skip {g : Gd} {f : D → Hh → Res (Option D)} {ds acc : List D} {r : Res (List D)} (q : gdok g h = true) (q1 : f d h = .ok none h1) (q3 : walkC g f ds acc h1 = r) : walkC g f (d :: ds) acc h = r := by
  rw [walkC, if_pos q, q1, Res.bind_ok]
  exact q3
theorem tc_yes {tg : Tg} {cs : List E} {own : List Nat} {env1 : Env} (q1 : asg? tg d (wipeE env own) = some env1) (q2 : denC c cs env1 h = .ok true h1) (q3 : den c e env1 h1 = .ok y h2) : turnC c e tg cs own env d h = .ok (some y) h2 := by
  unfold turnC
  rw [q1]
  simp only [q2, q3, Res.nox_ok, Res.bind_ok]
theorem tc_no {tg : Tg} {cs : List E} {own : List Nat} {env1 : Env} (q1 : asg? tg d (wipeE env own) = some env1) (q2 : denC c cs env1 h = .ok false h1) : turnC c e tg cs own env d h = .ok none h1 := by
  unfold turnC
  rw [q1]
  simp only [q2, Res.nox_ok, Res.bind_ok]
theorem c_nil : denC c [] env h = .ok true h := by rw [denC]
theorem c_one {r : Res Bool} (q : denT c e env h = r) : denC c [e] env h = r := by rw [denC]; exact q
theorem i_ex {q : List D × Gd} (q1 : den c e env h = .ok x h1) (q2 : src? h1 x = some q) : denI c (.ex e) env h = .ok q h1 := by rw [denI, q1, Res.bind_ok, q2, Res.of_some]
theorem i_rng {o : Option E} {l : Option Int} {n : Int} {ds : List D} (q1 : denO c o env h = .ok l h1) (q2 : den c b env h1 = .ok (.int n) h2) (q3 : rng? l n = some ds) : denI c (.rng o b) env h = .ok (ds, []) h2 := by
  rw [denI, q1, Res.bind_ok, q2, Res.bind_ok]
  simp only [q3, Option.map_some, Res.of_some]
/-! tests -/
theorem t_not {r : Bool} (q1 : denT c a env h = .ok r h1) : denT c (.not a) env h = .ok (!r) h1 := by rw [denT, q1, Res.bind_ok]
theorem t_cmp {o : Cop} {r : Bool} (q1 : den c a env h = .ok x h1) (q2 : den c b env h1 = .ok y h2) (q3 : cmp? h2 o x y = some r) : denT c (.cmp o a b) env h = .ok r h2 := by
  rw [denT, q1, Res.bind_ok, q2, Res.bind_ok, q3, Res.of_some]
theorem t_chain {o p : Cop} {r : Bool} (q1 : den c a env h = .ok x h1) (q2 : den c b env h1 = .ok y h2) (q3 : cmp? h2 o x y = some true) (q4 : den c e env h2 = .ok z h3) (q5 : cmp? h3 p y z = some r) : denT c (.chain o p a b e) env h = .ok r h3 := by
  rw [denT, q1, Res.bind_ok, q2, Res.bind_ok, q3, Res.of_some, Res.bind_ok]
  simp only [q4, Res.bind_ok, q5, Res.of_some]
theorem t_chain0 {o p : Cop} (q1 : den c a env h = .ok x h1) (q2 : den c b env h1 = .ok y h2) (q3 : cmp? h2 o x y = some false) : denT c (.chain o p a b e) env h = .ok false h2 := by
  rw [denT, q1, Res.bind_ok, q2, Res.bind_ok, q3, Res.of_some, Res.bind_ok]
theorem t_v {i : Nat} {r : Bool} (q : env[i]? = some (some d)) (q2 : truth? h d = some r) : denT c (.v i) env h = .ok r h := by rw [denT, q]; simp only [q2, Res.of_some]
theorem t_k {r : Bool} (q2 : truth? h d = some r) : denT c (.k d) env h = .ok r h := by rw [denT, q2, Res.of_some]
theorem t_ix {r : Bool} (q1 : den c a env h = .ok x h1) (q2 : den c b env h1 = .ok y h2) (q3 : ix? h2 x y = some z) (q4 : truth? h2 z = some r) : denT c (.ix a b) env h = .ok r h2 := by
  rw [denT, q1, Res.bind_ok, q2, Res.bind_ok, q3, Res.of_some, Res.bind_ok, q4, Res.of_some]
theorem t_call {f : String} {r : Bool} (q1 : dens c es env h = .ok xs h1) (q2 : c.call f xs h1 = .ok d h2) (q3 : truth? h2 d = some r) : denT c (.call f es) env h = .ok r h2 := by
  rw [denT, q1, Res.bind_ok, q2, Res.bind_ok, q3, Res.of_some]
theorem t_bi {f : String} {r : Bool} (q1 : dens c es env h = .ok xs h1) (q2 : bi? h1 f xs = some z) (q3 : truth? h1 z = some r) : denT c (.bi f es) env h = .ok r h1 := by
  rw [denT, q1, Res.bind_ok, q2, Res.of_some, Res.bind_ok, q3, Res.of_some]
theorem t_isi {cs : List String} {r : Bool} (q1 : den c a env h = .ok x h1) (q2 : isAny h1 x cs = some r) : denT c (.isi a cs) env h = .ok r h1 := by rw [denT, q1, Res.bind_ok, q2, Res.of_some]
theorem t_andt {e2 : E} {r : Res Bool} (q1 : denT c e env h = .ok true h1) (q2 : denT c (.and (e2 :: es)) env h1 = r) : denT c (.and (e :: e2 :: es)) env h = r := by
  rw [denT] at q2 ⊢
  rw [denTAnd, q1, Res.bind_ok]
  exact q2
theorem t_andf {e2 : E} (q1 : denT c e env h = .ok false h1) : denT c (.and (e :: e2 :: es)) env h = .ok false h1 := by
  rw [denT, denTAnd, q1, Res.bind_ok]
theorem t_and1 {r : Res Bool} (q1 : denT c e env h = r) : denT c (.and [e]) env h = r := by
  rw [denT, denTAnd, q1]
theorem t_ort {e2 : E} (q1 : denT c e env h = .ok true h1) : denT c (.or (e :: e2 :: es)) env h = .ok true h1 := by
  rw [denT, denTOr, q1, Res.bind_ok]
theorem t_orf {e2 : E} {r : Res Bool} (q1 : denT c e env h = .ok false h1) (q2 : denT c (.or (e2 :: es)) env h1 = r) : denT c (.or (e :: e2 :: es)) env h = r := by
  rw [denT] at q2 ⊢
  rw [denTOr, q1, Res.bind_ok]
  exact q2
theorem t_or1 {r : Res Bool} (q1 : denT c e env h = r) : denT c (.or [e]) env h = r := by
  rw [denT, denTOr, q1]
theorem t_andB {e2 : E} {b : Bool} {r : Res Bool} (q1 : denT c e env h = .ok b h1) (q2 : (b = true ∧ denT c (.and (e2 :: es)) env h1 = r) ∨ (b = false ∧ r = .ok false h1)) : denT c (.and (e :: e2 :: es)) env h = r := by
  rcases q2 with ⟨rfl, q2⟩ | ⟨rfl, rfl⟩
  · exact t_andt q1 q2
  · exact t_andf q1
theorem t_orB {e2 : E} {b : Bool} {r : Res Bool} (q1 : denT c e env h = .ok b h1) (q2 : (b = false ∧ denT c (.or (e2 :: es)) env h1 = r) ∨ (b = true ∧ r = .ok true h1)) : denT c (.or (e :: e2 :: es)) env h = r := by
  rcases q2 with ⟨rfl, q2⟩ | ⟨rfl, rfl⟩
  · exact t_orf q1 q2
  · exact t_ort q1
theorem ev_andB {e2 : E} {b : Bool} {r : Res D} (q1 : den c e env h = .ok (.bl b) h1) (q2 : (b = true ∧ den c (.and (e2 :: es)) env h1 = r) ∨ (b = false ∧ r = .ok (.bl false) h1)) : den c (.and (e :: e2 :: es)) env h = r := by
  rcases q2 with ⟨rfl, q2⟩ | ⟨rfl, rfl⟩
  · exact ev_andt q1 q2
  · exact ev_andf q1
theorem ev_orB {e2 : E} {b : Bool} {r : Res D} (q1 : den c e env h = .ok (.bl b) h1) (q2 : (b = false ∧ den c (.or (e2 :: es)) env h1 = r) ∨ (b = true ∧ r = .ok (.bl true) h1)) : den c (.or (e :: e2 :: es)) env h = r := by
  rcases q2 with ⟨rfl, q2⟩ | ⟨rfl, rfl⟩
  · exact ev_orf q1 q2
  · exact ev_ort q1
theorem ev_ifeB {k : Bool} {r : Res D} (q1 : denT c t env h = .ok k h1) (q2 : (k = true ∧ den c a env h1 = r) ∨ (k = false ∧ den c b env h1 = r)) : den c (.ife t a b) env h = r := by
  rcases q2 with ⟨rfl, q2⟩ | ⟨rfl, q2⟩
  · rw [den, q1, Res.bind_ok]; exact q2
  · rw [den, q1, Res.bind_ok]; exact q2
theorem x_ifB {k : Bool} {s1 s2 : List S} {r : SR} (q1 : denT c t env h = .ok k h1) (q2 : (k = true ∧ excs c s1 env h1 = r) ∨ (k = false ∧ excs c s2 env h1 = r)) : exc c (.ite t s1 s2) env h = r := by
  rcases q2 with ⟨rfl, q2⟩ | ⟨rfl, q2⟩
  · exact x_ift q1 q2
  · exact x_iff q1 q2
theorem st_go {s : S} {ss : List S} {r q : SR} (e : exc c s env h = r) (k : r.bind (fun env h => excs c ss env h) = q) : excs c (s :: ss) env h = q := by
  rw [excs, e]
  exact k
/-! statements -/
theorem x_par2 {i j : Nat} (q1 : den c a env h = .ok x h1) (q2 : den c b env h1 = .ok y h2) : exc c (.par2 i j a b) env h = .nx ((env.set i (some x)).set j (some y)) h2 := by
  rw [exc, q1, Res.to_ok, q2, Res.to_ok]
theorem x_par3 {i j l : Nat} (q1 : den c a env h = .ok x h1) (q2 : den c b env h1 = .ok y h2) (q3 : den c e env h2 = .ok z h3) : exc c (.par3 i j l a b e) env h = .nx (((env.set i (some x)).set j (some y)).set l (some z)) h3 := by
  rw [exc, q1, Res.to_ok, q2, Res.to_ok, q3, Res.to_ok]
theorem x_exp (q1 : den c a env h = .ok x h1) : exc c (.exp a) env h = .nx env h1 := by rw [exc, q1, Res.to_ok]
theorem x_sets {n k : Nat} {j : Int} {ds : List D} (q1 : den c e env h = .ok x h1) (q2 : den c a env h1 = .ok (.ref n) h2) (q3 : den c b env h2 = .ok (.int j) h3) (q4 : h3[n]? = some (.lst ds)) (q5 : ixN ds.length j = some k) : exc c (.sets a b e) env h = .nx env (h3.set n (.lst (ds.set k x))) := by
  rw [exc, q1, Res.to_ok, q2, Res.to_ok, q3, Res.to_ok]
  simp only [q4, q5]
theorem x_aug {i : Nat} {o : Bop} (q1 : env[i]? = some (some x)) (q2 : den c e env h = .ok y h1) (q3 : aug? o x y = some z) : exc c (.aug i o e) env h = .nx (env.set i (some z)) h1 := by
  rw [exc, q1]
  simp only [q2, Res.to_ok, q3]
theorem x_retN : exc c (.ret none) env h = .rt .non h := by rw [exc]
theorem x_app {n : Nat} {ds ds' : List D} (q1 : den c a env h = .ok (.ref n) h1) (q2 : h1[n]? = some (.lst ds')) (q3 : den c e env h1 = .ok x h2) (q4 : h2[n]? = some (.lst ds)) (q5 : ds.length < line) : exc c (.app a e) env h = .nx env (h2.set n (.lst (ds ++ [x]))) := by
  rw [exc, q1, Res.to_ok]
  simp only [q2, q3, Res.to_ok, q4, q5, if_true]
theorem x_for {tg : Tg} {it : It} {body : List S} {ds : List D} {g : Gd} {r : SR} (q1 : denI c it env h = .ok (ds, g) h1) (q2 : walkF g (fun d env h => match asg? tg d env with | some env' => excs c body env' h | none => .stuck) ds env h1 = r) : exc c (.for tg it body) env h = r := by
  rw [exc, q1, Res.to_ok]
  exact q2
theorem x_ss_nil : excs c [] env h = .nx env h := by rw [excs]
end
/-! tests that are known -/
theorem truth_bl {h : Hh} {b : Bool} : truth? h (.bl b) = some b := rfl
end Py
end

section
set_option linter.all false
set_option maxRecDepth 100000
namespace Py
/-! ### the mirror's runs, by what is wanted of their end -/
def Res.sat {α : Type} (r : Res α) (Q : α → Hh → Prop) : Prop := match r with
  | .ok a h => Q a h
  | _ => False
def SR.sat (r : SR) (N : Env → Hh → Prop) (R : D → Hh → Prop) : Prop := match r with
  | .nx e h => N e h
  | .rt d h => R d h
  | _ => False
section
variable {α β : Type} {Q : β → Hh → Prop} {N : Env → Hh → Prop} {R : D → Hh → Prop}
@[simp] theorem sat_ok {a : α} {h : Hh} {Q : α → Hh → Prop} : (Res.ok a h).sat Q = Q a h := rfl
@[simp] theorem sat_stuck {Q : α → Hh → Prop} : (Res.stuck : Res α).sat Q = False := rfl
@[simp] theorem sat_bind {r : Res α} {f : α → Hh → Res β} : (r.bind f).sat Q = r.sat fun a h => (f a h).sat Q := by cases r <;> rfl
@[simp] theorem ssat_nx {e : Env} {h : Hh} : (SR.nx e h).sat N R = N e h := rfl
@[simp] theorem ssat_rt {d : D} {h : Hh} : (SR.rt d h).sat N R = R d h := rfl
@[simp] theorem ssat_stuck : SR.stuck.sat N R = False := rfl
@[simp] theorem ssat_to {r : Res α} {env : Env} {f : α → Hh → SR} : (r.to env f).sat N R = r.sat fun a h => (f a h).sat N R := by cases r <;> rfl
@[simp] theorem ssat_bind {r : SR} {f : Env → Hh → SR} : (r.bind f).sat N R = r.sat (fun e h => (f e h).sat N R) R := by cases r <;> rfl
@[simp] theorem sat_of {o : Option α} {h : Hh} {Q : α → Hh → Prop} : (Res.of o h).sat Q = ∃ a, o = some a ∧ Q a h := by
  cases o <;> simp [Res.of]
theorem sat_eq {r : Res α} {a : α} {h : Hh} {Q : α → Hh → Prop} (e : r = .ok a h) (q : Q a h) : r.sat Q := by rw [e]; exact q
theorem Res.sat.imp {r : Res α} {Q Q' : α → Hh → Prop} (s : r.sat Q) (k : ∀ a h, Q a h → Q' a h) : r.sat Q' := by
  cases r with
  | ok a h => exact k a h s
  | _ => exact s
theorem SR.sat.imp {r : SR} {N' : Env → Hh → Prop} {R' : D → Hh → Prop} (s : r.sat N R) (k : ∀ e h, N e h → N' e h) (k' : ∀ d h, R d h → R' d h) : r.sat N' R' := by
  cases r with
  | nx e h => exact k e h s
  | rt d h => exact k' d h s
  | _ => exact s
theorem sat_run {c : Cl} {f : FD} {ds : List D} {h : Hh} {Q : D → Hh → Prop} (hl : ds.length = f.np) (s : (excs c f.body (ds.map some ++ List.replicate f.nl none) h).sat (fun _ h => Q .non h) Q) : (runF c f ds h).sat Q := by
  unfold runF
  rw [if_pos hl]
  cases e : excs c f.body (ds.map some ++ List.replicate f.nl none) h <;> rw [e] at s <;> first | exact s | exact s.elim
theorem sat_call {P : Pg} {n : Nat} {f : String} {fd : FD} {ds : List D} {h : Hh} {Q : D → Hh → Prop} (e : P.fns.lookup f = some fd) (hl : ds.length = fd.np) (s : (excs (clN P (callN P n)) fd.body (ds.map some ++ List.replicate fd.nl none) h).sat (fun _ h => Q .non h) Q) : (callN P (n + 1) f ds h).sat Q := by
  rw [callN, e]
  exact sat_run hl s
theorem call_of {P : Pg} {n : Nat} {f : String} {fd : FD} {ds : List D} {h : Hh} (e : P.fns.lookup f = some fd) : callN P (n + 1) f ds h = runF (clN P (callN P n)) fd ds h := by
  rw [callN, e]
theorem clN_call {P : Pg} {f : String → List D → Hh → Res D} : (clN P f).call = f := rfl
/-- a loop over what stands still -/
theorem sat_walkF {g : Gd} {f : D → Env → Hh → SR} (I : Nat → Env → Hh → Prop) : ∀ (ds : List D) (k : Nat) (env : Env) (h : Hh), (∀ i e h, I i e h → gdok g h = true) → (∀ (i : Nat) (d : D), ds[i]? = some d → ∀ e h, I (k + i) e h → (f d e h).sat (I (k + i + 1)) R) → I k env h →
    (∀ e h, I (k + ds.length) e h → N e h) → (walkF g f ds env h).sat N R
  | [], k, env, h, hg, _, hi, hN => by
    rw [walkF, if_pos (hg k env h hi)]
    exact hN _ _ hi
  | d :: ds, k, env, h, hg, hb, hi, hN => by
    rw [walkF, if_pos (hg k env h hi)]
    have z := hb 0 d rfl env h hi
    cases e : f d env h with
    | nx env2 h2 =>
      rw [e] at z
      refine sat_walkF I ds (k + 1) env2 h2 hg (fun i d' e' => ?_) z fun e h q => hN e h ?_
      · have := hb (i + 1) d' (by simpa using e')
        rw [show k + (i + 1) = k + 1 + i by omega] at this
        exact this
      · rw [List.length_cons, show k + (ds.length + 1) = k + 1 + ds.length by omega]
        exact q
    | rt d' h2 => rw [e] at z; exact z
    | bk _ _ => rw [e] at z; exact z.elim
    | ct _ _ => rw [e] at z; exact z.elim
    | ex _ _ _ => rw [e] at z; exact z.elim
    | stuck => rw [e] at z; exact z.elim
theorem ss_cons' {c : Cl} {s : S} {ss : List S} {env : Env} {h : Hh} (q : (exc c s env h).sat (fun e h => (excs c ss e h).sat N R) R) : (excs c (s :: ss) env h).sat N R := by
  rw [excs, ssat_bind]
  exact q
theorem ss_nil'' {c : Cl} {env : Env} {h : Hh} (q : N env h) : (excs c [] env h).sat N R := by
  rw [excs]
  exact q
theorem b_mul' {a b : Int} (h : (-big < a ∧ a < big) ∨ (-big < b ∧ b < big)) : bin? .mul (.int a) (.int b) = some (.int (a * b)) := if_pos h
theorem b_pow' {a b : Int} (h1 : 0 ≤ b) (h2 : b ≤ 1000) (h3 : -big < a) (h4 : a < big) : bin? .pow (.int a) (.int b) = some (.int (a ^ b.toNat)) := if_pos ⟨h1, h2, h3, h4⟩
theorem b_fdiv' {a b : Int} (h1 : 0 < b) (h2 : b < 1073741824) : bin? .fdiv (.int a) (.int b) = some (.int (a / b)) := if_pos ⟨h1, h2⟩
theorem b_mod' {a b : Int} (h1 : 0 < b) : bin? .mod (.int a) (.int b) = some (.int (a % b)) := if_pos h1
theorem ss_ite' {c : Cl} {t : E} {a b : List S} {env : Env} {h : Hh} (q : (denT c t env h).sat fun r h => (r = true → (excs c a env h).sat N R) ∧ (r = false → (excs c b env h).sat N R)) : (exc c (.ite t a b) env h).sat N R := by
  rw [exc, ssat_to]
  refine q.imp fun r h z => ?_
  cases r
  · exact z.2 rfl
  · exact z.1 rfl
end
section
variable {h : Hh} {ds ds' : List D} {n : Nat} {i j : Int} {s t : List Nat} {b c : Bool} {d e : D}
@[simp] theorem it_tup : items? h (.tup ds) = some ds := rfl
@[simp] theorem it_lst : items? h (.lst ds) = some ds := rfl
@[simp] theorem it_fz : items? h (.fz ds) = some ds := rfl
@[simp] theorem li_lst : listed? h (.lst ds) = some ds := rfl
@[simp] theorem rl_lst : rlist? h (.lst ds) = some ds := rfl
@[simp] theorem rl_fz : rlist? h (.fz ds) = some ds := rfl
@[simp] theorem is_nn : cmp? h .is .non .non = some true := rfl
@[simp] theorem is_in : cmp? h .is (.int i) .non = some false := rfl
@[simp] theorem is_sn : cmp? h .is (.str s) .non = some false := rfl
@[simp] theorem is_tn : cmp? h .is (.tup ds) .non = some false := rfl
@[simp] theorem is_ln : cmp? h .is (.lst ds) .non = some false := rfl
@[simp] theorem is_on {c : String} {ks : List String} : cmp? h .is (.obj c ks ds) .non = some false := rfl
@[simp] theorem isn_nn : cmp? h .isn .non .non = some false := rfl
@[simp] theorem isn_in : cmp? h .isn (.int i) .non = some true := rfl
@[simp] theorem isn_sn : cmp? h .isn (.str s) .non = some true := rfl
@[simp] theorem isn_tn : cmp? h .isn (.tup ds) .non = some true := rfl
@[simp] theorem eq_ss (h1 : okS s = true) (h2 : okS t = true) : cmp? h .eq (.str s) (.str t) = some (s == t) := by simp [cmp?, still, pure?, h1, h2, eqD]
@[simp] theorem eq_ii : cmp? h .eq (.int i) (.int j) = some (i == j) := by simp [cmp?, still, pure?, eqD]
@[simp] theorem ne_ii : cmp? h .ne (.int i) (.int j) = some (i != j) := by simp [cmp?, still, pure?, eqD, bne]
@[simp] theorem bi_all_l : bi? h "all" [.lst ds] = (bools? ds).map fun bs => .bl (bs.all id) := rfl
@[simp] theorem bi_any_l : bi? h "any" [.lst ds] = (bools? ds).map fun bs => .bl (bs.any id) := rfl
@[simp] theorem bi_len_s : bi? h "len" [.str s] = if s.length ≤ line then some (.int s.length) else none := rfl
@[simp] theorem tr_bl : truth? h (.bl b) = some b := rfl
@[simp] theorem tr_non : truth? h .non = some false := rfl
@[simp] theorem tr_int : truth? h (.int i) = some (i != 0) := rfl
@[simp] theorem ad_tt : bin? .add (.tup ds) (.tup ds') = if ds.length + ds'.length ≤ line then some (.tup (ds ++ ds')) else none := rfl
@[simp] theorem sl_t {lo hi : Option Int} : sl? (.tup ds) lo hi = some (.tup (cut ds lo hi)) := rfl
@[simp] theorem ty_int : tyN h (.int i) = some "int" := rfl
@[simp] theorem ty_bl : tyN h (.bl b) = some "bool" := rfl
@[simp] theorem ty_str : tyN h (.str s) = some "str" := rfl
@[simp] theorem ty_tup : tyN h (.tup ds) = some "tuple" := rfl
@[simp] theorem ty_lst : tyN h (.lst ds) = some "list" := rfl
@[simp] theorem ty_non : tyN h .non = some "NoneType" := rfl
@[simp] theorem ty_dic {ks vs : List D} : tyN h (.dic ks vs) = some "dict" := rfl
end
end Py
end

section
set_option Elab.async false
set_option linter.all false
set_option maxRecDepth 100000
set_option maxHeartbeats 0
namespace Py
open PySem PySem.Spec PyProof.Rows L2 LamX
/-! the law's data, printed by gen_law.py -/
def top (i : Nat) : PySem.Stmt := PySem.Challenge.pw_liarnamed_k49_rows_that_must_be_ahead.main.body.getD i (.Pass ⟨0, 0, 0, 0⟩)
abbrev g_LETTERS : D := .str [97, 98, 99, 100, 101, 102, 103, 104, 105, 106, 107, 108, 109, 110, 111, 112, 113, 114, 115, 116, 117, 118, 119, 120, 121, 122]
abbrev g_MOST_SIGNS : D := .int 8
abbrev g_LAST_PLACE : D := .int 999999999
abbrev g_HEARD : D := .str [104, 101, 97, 114, 100]
abbrev g_KEPT : D := .str [107, 101, 112, 116]
abbrev g_REFUSED : D := .str [114, 101, 102, 117, 115, 101, 100]
abbrev g_FENCED : D := .str [102, 101, 110, 99, 101, 100]
abbrev g_SWEPT : D := .str [115, 119, 101, 112, 116]
abbrev g_NO_STAMP : D := .tup [.int 0, .str []]
abbrev g_BY_CLIENTS : D := .tup [.str [104, 101, 97, 114, 100], .str [107, 101, 112, 116], .str [114, 101, 102, 117, 115, 101, 100]]
abbrev g_BY_KEEPER : D := .tup [.str [102, 101, 110, 99, 101, 100], .str [115, 119, 101, 112, 116]]
abbrev g_MOST_ANSWERS : D := .int 1000
abbrev g_MOST : D := .int 999999999
abbrev g_TIME : D := .str [116, 105, 109, 101]
abbrev g_STAMPS : D := .str [115, 116, 97, 109, 112, 115]
abbrev g_CLOSED : D := .str [99, 108, 111, 115, 101, 100]
abbrev g_REASONS : D := .tup [.str [116, 105, 109, 101], .str [115, 116, 97, 109, 112, 115], .str [99, 108, 111, 115, 101, 100]]
abbrev g_OPEN : D := .int (-1)
def fd_is_integer : FD := ⟨1, 0, [.ret (some (.and [.isi (.v 0) ["int"], .not (.isi (.v 0) ["bool"])]))]⟩
def df_is_integer : DF := ⟨"is_integer", top 4, ["value"], fd_is_integer⟩
def fd_is_within : FD := ⟨3, 0, [.ret (some (.and [.call "is_integer" [.v 0], .chain .le .le (.v 1) (.v 0) (.v 2)]))]⟩
def df_is_within : DF := ⟨"is_within", top 5, ["value", "least", "most"], fd_is_within⟩
def fd_is_name : FD := ⟨1, 1, [.ret (some (.and [.isi (.v 0) ["str"], .chain .le .le (.k (.int 1)) (.bi "len" [.v 0]) (.gk "MOST_SIGNS" g_MOST_SIGNS), .bi "all" [.al false (.comp (.cmp .inn (.v 1) (.gk "LETTERS" g_LETTERS)) (.nm 1) (.ex (.v 0)) [] [1])]]))]⟩
def df_is_name : DF := ⟨"is_name", top 6, ["value", "sign"], fd_is_name⟩
def fd_is_place : FD := ⟨1, 0, [.ret (some (.call "is_within" [.v 0, .k (.int 0), .gk "LAST_PLACE" g_LAST_PLACE]))]⟩
def df_is_place : DF := ⟨"is_place", top 7, ["value"], fd_is_place⟩
def fd_is_list : FD := ⟨1, 0, [.ret (some (.isi (.v 0) ["list", "tuple"]))]⟩
def df_is_list : DF := ⟨"is_list", top 8, ["value"], fd_is_list⟩
def fd_is_stamp : FD := ⟨1, 0, [.ite (.or [.not (.isi (.v 0) ["tuple"]), .cmp .ne (.bi "len" [.v 0]) (.k (.int 2)), .not (.call "is_within" [.ix (.v 0) (.k (.int 0)), .k (.int 0), .gk "MOST" g_MOST])]) [.ret (some (.k (.bl false)))] [], .ret (some (.ife (.cmp .eq (.ix (.v 0) (.k (.int 0))) (.k (.int 0))) (.cmp .eq (.v 0) (.gk "NO_STAMP" g_NO_STAMP)) (.call "is_name" [.ix (.v 0) (.k (.int 1))])))]⟩
def df_is_stamp : DF := ⟨"is_stamp", top 29, ["value"], fd_is_stamp⟩
def fd_is_owned : FD := ⟨2, 0, [.ite (.not (.isi (.v 1) ["str"])) [.ret (some (.k (.bl false)))] [], .ret (some (.ife (.cmp .is (.v 0) (.k (.non))) (.cmp .inn (.v 1) (.gk "BY_KEEPER" g_BY_KEEPER)) (.and [.call "is_name" [.v 0], .cmp .inn (.v 1) (.gk "BY_CLIENTS" g_BY_CLIENTS)])))]⟩
def df_is_owned : DF := ⟨"is_owned", top 30, ["owner", "kind"], fd_is_owned⟩
def fd_is_answer : FD := ⟨1, 6, [.ite (.or [.not (.isi (.v 0) ["tuple"]), .cmp .ne (.bi "len" [.v 0]) (.k (.int 7)), .not (.call "is_place" [.ix (.v 0) (.k (.int 0))]), .not (.call "is_owned" [.ix (.v 0) (.k (.int 1)), .ix (.v 0) (.k (.int 2))])]) [.ret (some (.k (.bl false)))] [], .asg (.tp [.nm 1, .nm 2, .nm 3, .nm 4, .nm 5]) (.sl (.v 0) (some (.k (.int 2))) none), .ite (.or [.not (.bi "all" [.al false (.comp (.call "is_within" [.v 6, .k (.int 0), .gk "MOST" g_MOST]) (.nm 6) (.ex (.tup [(false, .v 2), (false, .v 4), (false, .v 5)])) [] [6])]), .cmp .ge (.v 4) (.v 5)]) [.ret (some (.k (.bl false)))] [], .ret (some (.ife (.cmp .eq (.v 1) (.gk "REFUSED" g_REFUSED)) (.call "is_within" [.v 3, .v 2, .gk "MOST" g_MOST]) (.call "is_stamp" [.v 3])))]⟩
def df_is_answer : DF := ⟨"is_answer", top 31, ["value", "kind", "epoch", "told", "sent", "came", "one"], fd_is_answer⟩
def fd_told_row : FD := ⟨1, 1, [.asg (.nm 1) (.ife (.call "is_list" [.v 0]) (.bi "tuple" [.v 0]) (.v 0)), .ite (.or [.not (.isi (.v 1) ["tuple"]), .cmp .ne (.bi "len" [.v 1]) (.k (.int 7))]) [.ret (some (.v 1))] [], .ret (some (.tup [(true, .sl (.v 1) none (some (.k (.int 4)))), (false, .ife (.call "is_list" [.ix (.v 1) (.k (.int 4))]) (.bi "tuple" [.ix (.v 1) (.k (.int 4))]) (.ix (.v 1) (.k (.int 4)))), (true, .sl (.v 1) (some (.k (.int 5))) none)]))]⟩
def df_told_row : DF := ⟨"told_row", top 32, ["value", "row"], fd_told_row⟩
def fd_need_log : FD := ⟨1, 2, [.ite (.not (.call "is_list" [.v 0])) [.rz "BadValue" "part" (.k (.str [114, 111, 119, 115]))] [], .asg (.nm 1) (.bi "tuple" [.al false (.comp (.call "told_row" [.v 2]) (.nm 2) (.ex (.v 0)) [] [2])]), .ite (.not (.bi "all" [.al false (.comp (.call "is_answer" [.v 2]) (.nm 2) (.ex (.v 1)) [] [2])])) [.rz "BadValue" "part" (.k (.str [114, 111, 119, 115]))] [], .ite (.cmp .gt (.bi "len" [.v 1]) (.gk "MOST_ANSWERS" g_MOST_ANSWERS)) [.raise] [], .ret (some (.v 1))]⟩
def df_need_log : DF := ⟨"need_log", top 33, ["value", "rows", "row"], fd_need_log⟩
def fd_stamps_of : FD := ⟨1, 0, [.ite (.cmp .inn (.ix (.v 0) (.k (.int 2))) (.tup [(false, .gk "HEARD" g_HEARD), (false, .gk "FENCED" g_FENCED)])) [.ret (some (.tup [(false, .ix (.v 0) (.k (.int 4))), (false, .ix (.v 0) (.k (.int 4)))]))] [], .ret (some (.ife (.cmp .eq (.ix (.v 0) (.k (.int 2))) (.gk "REFUSED" g_REFUSED)) (.tup [(false, .gk "NO_STAMP" g_NO_STAMP), (false, .k (.non))]) (.tup [(false, .ix (.v 0) (.k (.int 4))), (false, .k (.non))])))]⟩
def df_stamps_of : DF := ⟨"stamps_of", top 40, ["row"], fd_stamps_of⟩
def fd_closed_of : FD := ⟨1, 0, [.ite (.cmp .inn (.ix (.v 0) (.k (.int 2))) (.tup [(false, .gk "HEARD" g_HEARD), (false, .gk "KEPT" g_KEPT)])) [.ret (some (.tup [(false, .gk "OPEN" g_OPEN), (false, .bin .sub (.ix (.v 0) (.k (.int 3))) (.k (.int 1)))]))] [], .ite (.cmp .eq (.ix (.v 0) (.k (.int 2))) (.gk "FENCED" g_FENCED)) [.ret (some (.tup [(false, .ix (.v 0) (.k (.int 3))), (false, .k (.non))]))] [], .ret (some (.ife (.cmp .eq (.ix (.v 0) (.k (.int 2))) (.gk "REFUSED" g_REFUSED)) (.tup [(false, .ix (.v 0) (.k (.int 4))), (false, .ix (.v 0) (.k (.int 4)))]) (.tup [(false, .gk "OPEN" g_OPEN), (false, .k (.non))])))]⟩
def df_closed_of : DF := ⟨"closed_of", top 41, ["row"], fd_closed_of⟩
def fd_is_below : FD := ⟨2, 0, [.ret (some (.and [.cmp .isn (.ix (.v 0) (.k (.int 1))) (.k (.non)), .cmp .lt (.ix (.v 0) (.k (.int 1))) (.ix (.v 1) (.k (.int 0)))]))]⟩
def df_is_below : DF := ⟨"is_below", top 42, ["one", "other"], fd_is_below⟩
def fd_is_ahead : FD := ⟨3, 0, [.ite (.cmp .eq (.v 2) (.gk "TIME" g_TIME)) [.ret (some (.cmp .le (.ix (.v 0) (.k (.int 6))) (.ix (.v 1) (.k (.int 5)))))] [], .ite (.cmp .eq (.v 2) (.gk "STAMPS" g_STAMPS)) [.ret (some (.call "is_below" [.call "stamps_of" [.v 0], .call "stamps_of" [.v 1]]))] [], .ret (some (.call "is_below" [.call "closed_of" [.v 0], .call "closed_of" [.v 1]]))]⟩
def df_is_ahead : DF := ⟨"is_ahead", top 43, ["one", "other", "reason"], fd_is_ahead⟩
def fd_reasons_for : FD := ⟨2, 1, [.ret (some (.al false (.comp (.v 2) (.nm 2) (.ex (.gk "REASONS" g_REASONS)) [.call "is_ahead" [.v 0, .v 1, .v 2]] [2])))]⟩
def df_reasons_for : DF := ⟨"reasons_for", top 44, ["one", "other", "reason"], fd_reasons_for⟩
def fd_ahead_by : FD := ⟨2, 2, [.asg (.tp [.nm 2, .nm 3]) (.call "need_log" [.al false (.disp [.v 0, .v 1])]), .ret (some (.bi "tuple" [.call "reasons_for" [.v 2, .v 3]]))]⟩
def df_ahead_by : DF := ⟨"ahead_by", top 45, ["one", "other", "first", "last"], fd_ahead_by⟩
def fd__law_pen : FD := ⟨1, 1, [.ret (some (.al true (.disp [.al false (.comp (.bi "int" [.v 1]) (.nm 1) (.ex (.al false (.sl (.v 0) none (some (.k (.int 63)))))) [] [1]), .k (.int 0), .k (.int 0)])))]⟩
def df__law_pen : DF := ⟨"_law_pen", top 47, ["script", "cell"], fd__law_pen⟩
def fd__law_draw : FD := ⟨2, 4, [.ite (.cmp .gt (.ix (.v 0) (.k (.int 2))) (.k (.int 0))) [.asg (.nm 2) (.bi "int" [.ix (.v 0) (.k (.int 2))]), .sets (.v 0) (.k (.int 2)) (.bin .fdiv (.v 2) (.v 1)), .ret (some (.bin .mod (.bi "int" [.v 2]) (.v 1)))] [], .asg (.nm 3) (.ix (.v 0) (.k (.int 1))), .sets (.v 0) (.k (.int 1)) (.bin .add (.v 3) (.k (.int 1))), .asg (.nm 4) (.bin .add (.bin .mul (.k (.int 25232)) (.v 3)) (.k (.int 51307))), .ite (.cmp .ne (.ix (.v 0) (.k (.int 0))) (.al false (.disp []))) [.asg (.nm 4) (.ix (.ix (.v 0) (.k (.int 0))) (.bin .mod (.bi "int" [.v 3]) (.bi "len" [.ix (.v 0) (.k (.int 0))])))] [], .ite (.and [.cmp .lt (.v 3) (.bi "len" [.ix (.v 0) (.k (.int 0))]), .cmp .ge (.bi "abs" [.v 4]) (.bin .pow (.k (.int 10)) (.k (.int 18)))]) [.asg (.nm 2) (.bin .add (.bin .mul (.k (.int 2)) (.bin .sub (.bi "abs" [.v 4]) (.bin .pow (.k (.int 10)) (.k (.int 18))))) (.bi "int" [.cmp .lt (.v 4) (.k (.int 0))])), .sets (.v 0) (.k (.int 2)) (.bin .fdiv (.bi "int" [.v 2]) (.v 1)), .ret (some (.bin .mod (.bi "int" [.v 2]) (.v 1)))] [], .asg (.nm 5) (.bin .mod (.bi "int" [.bin .pow (.bin .add (.bin .add (.bin .mod (.bi "int" [.v 4]) (.k (.int 2147483549))) (.bin .mul (.k (.int 25232)) (.v 3))) (.k (.int 51307))) (.k (.int 5))]) (.k (.int 2147483629))), .asg (.nm 5) (.bin .mod (.bi "int" [.bin .pow (.bin .add (.bin .add (.bin .mul (.v 5) (.bin .add (.bin .mul (.k (.int 2)) (.v 3)) (.k (.int 8297)))) (.bin .mul (.bin .mul (.k (.int 29387)) (.v 3)) (.v 3))) (.k (.int 25232))) (.k (.int 3))]) (.k (.int 2147483587))), .ret (some (.bin .mod (.bi "int" [.bin .fdiv (.v 5) (.k (.int 16))]) (.v 1)))]⟩
def df__law_draw : DF := ⟨"_law_draw", top 48, ["pen", "many", "left", "turn", "cell", "mixed"], fd__law_draw⟩
def fd__law_pick : FD := ⟨2, 0, [.ret (some (.ix (.v 1) (.call "_law_draw" [.v 0, .bi "len" [.v 1]])))]⟩
def df__law_pick : DF := ⟨"_law_pick", top 49, ["pen", "some"], fd__law_pick⟩
def fd__law_stamp_span : FD := ⟨1, 0, [.ite (.cmp .inn (.ix (.v 0) (.k (.int 2))) (.tup [(false, .k (.str [104, 101, 97, 114, 100])), (false, .k (.str [102, 101, 110, 99, 101, 100]))])) [.ret (some (.tup [(false, .ix (.v 0) (.k (.int 4))), (false, .ix (.v 0) (.k (.int 4)))]))] [], .ret (some (.ife (.cmp .eq (.ix (.v 0) (.k (.int 2))) (.k (.str [114, 101, 102, 117, 115, 101, 100]))) (.tup [(false, .tup [(false, .k (.int 0)), (false, .k (.str []))]), (false, .k (.non))]) (.tup [(false, .ix (.v 0) (.k (.int 4))), (false, .k (.non))])))]⟩
def df__law_stamp_span : DF := ⟨"_law_stamp_span", top 50, ["row"], fd__law_stamp_span⟩
def fd__law_closed_span : FD := ⟨1, 0, [.ite (.cmp .inn (.ix (.v 0) (.k (.int 2))) (.tup [(false, .k (.str [104, 101, 97, 114, 100])), (false, .k (.str [107, 101, 112, 116]))])) [.ret (some (.tup [(false, .neg (.k (.int 1))), (false, .bin .sub (.ix (.v 0) (.k (.int 3))) (.k (.int 1)))]))] [], .ite (.cmp .eq (.ix (.v 0) (.k (.int 2))) (.k (.str [102, 101, 110, 99, 101, 100]))) [.ret (some (.tup [(false, .ix (.v 0) (.k (.int 3))), (false, .k (.non))]))] [], .ret (some (.ife (.cmp .eq (.ix (.v 0) (.k (.int 2))) (.k (.str [114, 101, 102, 117, 115, 101, 100]))) (.tup [(false, .ix (.v 0) (.k (.int 4))), (false, .ix (.v 0) (.k (.int 4)))]) (.tup [(false, .neg (.k (.int 1))), (false, .k (.non))])))]⟩
def df__law_closed_span : DF := ⟨"_law_closed_span", top 51, ["row"], fd__law_closed_span⟩
def fd__law_is_ahead : FD := ⟨3, 3, [.ite (.cmp .eq (.v 2) (.k (.str [116, 105, 109, 101]))) [.ret (some (.cmp .le (.ix (.v 0) (.k (.int 6))) (.ix (.v 1) (.k (.int 5)))))] [], .asg (.nm 3) (.ife (.cmp .eq (.v 2) (.k (.str [115, 116, 97, 109, 112, 115]))) (.gf "_law_stamp_span") (.gf "_law_closed_span")), .par2 4 5 (.ix (.cv 3 [.v 0]) (.k (.int 1))) (.ix (.cv 3 [.v 1]) (.k (.int 0))), .ret (some (.and [.cmp .isn (.v 4) (.k (.non)), .cmp .lt (.v 4) (.v 5)]))]⟩
def df__law_is_ahead : DF := ⟨"_law_is_ahead", top 52, ["one", "other", "reason", "span", "end", "begin"], fd__law_is_ahead⟩
def fd__law_reasons : FD := ⟨2, 1, [.ret (some (.al false (.comp (.v 2) (.nm 2) (.ex (.tup [(false, .k (.str [116, 105, 109, 101])), (false, .k (.str [115, 116, 97, 109, 112, 115])), (false, .k (.str [99, 108, 111, 115, 101, 100]))])) [.call "_law_is_ahead" [.v 0, .v 1, .v 2]] [2])))]⟩
def df__law_reasons : DF := ⟨"_law_reasons", top 53, ["one", "other", "reason"], fd__law_reasons⟩
def fd__law_stamp : FD := ⟨2, 1, [.asg (.nm 2) (.call "_law_draw" [.v 0, .bin .add (.v 1) (.k (.int 1))]), .ret (some (.ife (.cmp .gt (.v 2) (.k (.int 0))) (.tup [(false, .v 2), (false, .call "_law_pick" [.v 0, .al false (.disp [.k (.str [97, 110, 110]), .k (.str [98, 111, 98]), .k (.str [122])])])]) (.tup [(false, .k (.int 0)), (false, .k (.str []))])))]⟩
def df__law_stamp : DF := ⟨"_law_stamp", top 54, ["pen", "most", "number"], fd__law_stamp⟩
def fd__law_told : FD := ⟨7, 1, [.asg (.nm 7) (.ife (.cmp .inn (.v 2) (.tup [(false, .k (.str [102, 101, 110, 99, 101, 100])), (false, .k (.str [115, 119, 101, 112, 116]))])) (.k (.non)) (.call "_law_pick" [.v 0, .al false (.disp [.k (.str [97, 110, 110]), .k (.str [98, 111, 98]), .k (.str [99, 105, 100]), .k (.str [97, 98, 99, 100, 101, 102, 103, 104])])])), .ret (some (.tup [(false, .v 1), (false, .v 7), (false, .v 2), (false, .v 3), (false, .v 4), (false, .v 5), (false, .v 6)]))]⟩
def df__law_told : DF := ⟨"_law_told", top 55, ["pen", "place", "kind", "epoch", "told", "sent", "came", "owner"], fd__law_told⟩
def fd__law_any_row : FD := ⟨3, 4, [.par2 3 4 (.call "_law_pick" [.v 0, .al false (.disp [.k (.str [104, 101, 97, 114, 100]), .k (.str [104, 101, 97, 114, 100]), .k (.str [107, 101, 112, 116]), .k (.str [102, 101, 110, 99, 101, 100]), .k (.str [115, 119, 101, 112, 116]), .k (.str [114, 101, 102, 117, 115, 101, 100])])]) (.call "_law_draw" [.v 0, .k (.int 6)]), .asg (.nm 5) (.ife (.cmp .eq (.v 3) (.k (.str [114, 101, 102, 117, 115, 101, 100]))) (.bin .add (.v 4) (.call "_law_draw" [.v 0, .k (.int 4)])) (.call "_law_stamp" [.v 0, .k (.int 4)])), .asg (.nm 6) (.call "_law_draw" [.v 0, .v 2]), .ret (some (.call "_law_told" [.v 0, .v 1, .v 3, .v 4, .v 5, .v 6, .bin .add (.bin .add (.v 6) (.k (.int 1))) (.call "_law_draw" [.v 0, .call "_law_pick" [.v 0, .al false (.disp [.k (.int 3), .v 2])]])]))]⟩
def df__law_any_row : DF := ⟨"_law_any_row", top 56, ["pen", "place", "most", "kind", "epoch", "told", "sent"], fd__law_any_row⟩
def fd__law_listed : FD := ⟨1, 1, [.ret (some (.ife (.isi (.v 0) ["list", "tuple"]) (.al false (.comp (.call "_law_listed" [.v 1]) (.nm 1) (.ex (.v 0)) [] [1])) (.v 0)))]⟩
def df__law_listed : DF := ⟨"_law_listed", top 57, ["value", "one"], fd__law_listed⟩
def fd_law : FD := ⟨1, 15, [.asg (.nm 1) (.call "_law_pen" [.v 0]), .for (.nm 2) (.rng none (.k (.int 20))) [.par2 3 4 (.call "_law_pick" [.v 1, .al false (.disp [.k (.int 0), .k (.int 7), .k (.int 999999999)])]) (.call "_law_pick" [.v 1, .al false (.disp [.k (.int 4), .k (.int 12), .k (.int 499999999)])]), .par2 5 6 (.call "_law_any_row" [.v 1, .v 3, .v 4]) (.call "_law_any_row" [.v 1, .v 3, .v 4]), .ite (.rne (.al false (.disp [.call "ahead_by" [.v 5, .v 6], .call "ahead_by" [.v 6, .v 5], .call "ahead_by" [.v 5, .v 5]])) (.al false (.disp [.bi "tuple" [.call "_law_reasons" [.v 5, .v 6]], .bi "tuple" [.call "_law_reasons" [.v 6, .v 5]], .tup []]))) [.ret (some (.k (.bl false)))] [], .ite (.cmp .ne (.ck "ahead_by" [.call "_law_listed" [.v 6], .al false (.of (.v 5))] [1, 0]) (.bi "tuple" [.call "_law_reasons" [.v 5, .v 6]])) [.ret (some (.k (.bl false)))] []], .asg (.nm 7) (.call "_law_pick" [.v 1, .al false (.disp [.k (.int 9), .bin .pow (.k (.int 10)) (.k (.int 8))])]), .par2 8 9 (.call "_law_draw" [.v 1, .v 7]) (.bin .add (.k (.int 1)) (.call "_law_draw" [.v 1, .v 7])), .asg (.tp [.nm 10, .nm 11]) (.tup [(false, .tup [(false, .k (.int 5)), (false, .k (.str [97, 110, 110])), (false, .k (.str [104, 101, 97, 114, 100])), (false, .bin .add (.v 8) (.k (.int 1))), (false, .tup [(false, .v 9), (false, .k (.str [98]))]), (false, .k (.int 3)), (false, .k (.int 6))]), (false, .tup [(false, .k (.int 5)), (false, .k (.non)), (false, .k (.str [102, 101, 110, 99, 101, 100])), (false, .bin .add (.v 8) (.k (.int 1))), (false, .tup [(false, .v 9), (false, .k (.str [98]))]), (false, .k (.int 6)), (false, .k (.int 9))])]), .ite (.or [.cmp .ne (.al false (.disp [.call "ahead_by" [.v 10, .v 11], .call "ahead_by" [.v 11, .v 10]])) (.al false (.disp [.tup [(false, .k (.str [116, 105, 109, 101])), (false, .k (.str [99, 108, 111, 115, 101, 100]))], .tup []])), .cmp .ne (.call "ahead_by" [.bin .add (.sl (.v 10) none (some (.k (.int 6)))) (.tup [(false, .k (.int 7))]), .v 11]) (.tup [(false, .k (.str [99, 108, 111, 115, 101, 100]))])]) [.ret (some (.k (.bl false)))] [], .asg (.nm 12) (.al false (.disp [.tup [(false, .k (.int 5)), (false, .k (.str [97, 110, 110])), (false, .k (.str [104, 101, 97, 114, 100])), (false, .bin .add (.v 8) (.k (.int 2))), (false, .tup [(false, .v 9), (false, .k (.str [98]))]), (false, .k (.int 3)), (false, .k (.int 6))], .tup [(false, .k (.int 5)), (false, .k (.str [97, 110, 110])), (false, .k (.str [104, 101, 97, 114, 100])), (false, .bin .add (.v 8) (.k (.int 1))), (false, .tup [(false, .v 9), (false, .k (.str [97]))]), (false, .k (.int 0)), (false, .k (.int 9))], .tup [(false, .k (.int 5)), (false, .k (.str [97, 110, 110])), (false, .k (.str [107, 101, 112, 116])), (false, .bin .add (.v 8) (.k (.int 1))), (false, .tup [(false, .bin .add (.v 9) (.k (.int 1))), (false, .k (.str [97]))]), (false, .k (.int 0)), (false, .k (.int 9))], .tup [(false, .k (.int 5)), (false, .k (.str [99, 105, 100])), (false, .k (.str [114, 101, 102, 117, 115, 101, 100])), (false, .k (.int 0)), (false, .bin .add (.v 8) (.k (.int 1))), (false, .k (.int 0)), (false, .k (.int 9))]])), .asg (.nm 12) (.al false (.cat (.v 12) (.al false (.disp [.tup [(false, .k (.int 5)), (false, .k (.str [99, 105, 100])), (false, .k (.str [114, 101, 102, 117, 115, 101, 100])), (false, .v 8), (false, .v 8), (false, .k (.int 0)), (false, .k (.int 9))]])))), .asg (.nm 13) (.al false (.disp [.tup [], .tup [(false, .k (.str [115, 116, 97, 109, 112, 115])), (false, .k (.str [99, 108, 111, 115, 101, 100]))], .tup [(false, .k (.str [99, 108, 111, 115, 101, 100]))], .tup [], .tup [(false, .k (.str [99, 108, 111, 115, 101, 100]))]])), .ite (.or [.cmp .ne (.al false (.comp (.call "ahead_by" [.v 5, .bin .add (.sl (.v 11) none (some (.k (.int 5)))) (.tup [(false, .k (.int 4)), (false, .k (.int 9))])]) (.nm 5) (.ex (.v 12)) [] [5])) (.v 13), .cmp .ne (.al false (.comp (.call "ahead_by" [.ix (.v 12) (.k (.int 2)), .v 5]) (.nm 5) (.ex (.v 12)) [] [5])) (.al false (.disp [.tup [], .tup [], .tup [], .tup [(false, .k (.str [99, 108, 111, 115, 101, 100]))], .tup []]))]) [.ret (some (.k (.bl false)))] [], .asg (.nm 14) (.al false (.disp [.k (.non), .k (.int 5), .tup [], .k (.str [114, 111, 119]), .sl (.v 10) none (some (.k (.int 6))), .bin .add (.v 10) (.tup [(false, .k (.int 1))]), .tup [(false, .k (.int 5)), (false, .k (.str [97, 110, 110])), (false, .k (.str [104, 101, 97, 114, 100])), (false, .k (.int 1)), (false, .tup [(false, .k (.int 1)), (false, .k (.str [98]))]), (false, .k (.int 3)), (false, .k (.int 3))], .bin .add (.tup [(false, .neg (.k (.int 1)))]) (.sl (.v 10) (some (.k (.int 1))) none), .bin .add (.tup [(false, .k (.bl true))]) (.sl (.v 10) (some (.k (.int 1))) none), .bin .add (.bin .add (.sl (.v 10) none (some (.k (.int 1)))) (.tup [(false, .k (.non))])) (.sl (.v 10) (some (.k (.int 2))) none)])), .asg (.nm 14) (.al false (.cat (.v 14) (.al false (.disp [.bin .add (.bin .add (.sl (.v 11) none (some (.k (.int 1)))) (.tup [(false, .k (.str [97, 110, 110]))])) (.sl (.v 11) (some (.k (.int 2))) none)])))), .asg (.nm 14) (.al false (.cat (.v 14) (.al false (.disp [.bin .add (.bin .add (.sl (.v 10) none (some (.k (.int 2)))) (.tup [(false, .k (.str [104, 101, 97, 114]))])) (.sl (.v 10) (some (.k (.int 3))) none), .bin .add (.bin .add (.sl (.v 10) none (some (.k (.int 3)))) (.tup [(false, .neg (.k (.int 1)))])) (.sl (.v 10) (some (.k (.int 4))) none), .bin .add (.bin .add (.sl (.v 10) none (some (.k (.int 4)))) (.tup [(false, .tup [(false, .k (.int 0)), (false, .k (.str [98]))])])) (.sl (.v 10) (some (.k (.int 5))) none), .bin .add (.bin .add (.sl (.v 10) none (some (.k (.int 4)))) (.tup [(false, .tup [(false, .k (.int 1)), (false, .k (.str []))])])) (.sl (.v 10) (some (.k (.int 5))) none)])))), .asg (.nm 14) (.al false (.cat (.v 14) (.al false (.disp [.bin .add (.bin .add (.sl (.v 10) none (some (.k (.int 4)))) (.tup [(false, .k (.int 3))])) (.sl (.v 10) (some (.k (.int 5))) none), .bin .add (.sl (.v 10) none (some (.k (.int 5)))) (.tup [(false, .neg (.k (.int 1))), (false, .k (.int 4))]), .dic0])))), .asg (.nm 14) (.al false (.cat (.v 14) (.al false (.disp [.tup [(false, .k (.int 5)), (false, .k (.str [99, 105, 100])), (false, .k (.str [114, 101, 102, 117, 115, 101, 100])), (false, .k (.int 4)), (false, .k (.int 3)), (false, .k (.int 1)), (false, .k (.int 2))], .tup [(false, .k (.int 5)), (false, .k (.str [99, 105, 100])), (false, .k (.str [114, 101, 102, 117, 115, 101, 100])), (false, .k (.int 4)), (false, .tup [(false, .k (.int 4)), (false, .k (.str [97]))]), (false, .k (.int 1)), (false, .k (.int 2))], .tup [(false, .k (.int 5)), (false, .k (.str [110, 105, 110, 101, 115, 105, 103, 110, 115])), (false, .k (.str [104, 101, 97, 114, 100])), (false, .k (.int 1)), (false, .tup [(false, .k (.int 1)), (false, .k (.str [98]))]), (false, .k (.int 1)), (false, .k (.int 2))], .bin .add (.bin .add (.sl (.v 10) none (some (.k (.int 4)))) (.tup [(false, .tup [(false, .k (.bl true)), (false, .k (.str [98]))])])) (.sl (.v 10) (some (.k (.int 5))) none)])))), .asg (.nm 15) (.call "_law_pick" [.v 1, .v 14]), .ret (some (.cmp .eq (.al false (.disp [.hear "_law_hear" (.call "ahead_by" [.v 15, .v 10]), .hear "_law_hear" (.call "ahead_by" [.v 10, .v 15])])) (.al false (.rep (.al false (.disp [.tup [(false, .k (.str [118, 97, 108, 117, 101])), (false, .k (.str [114, 111, 119, 115]))]])) (.k (.int 2))))))]⟩
def df_law : DF := ⟨"law", top 59, ["script", "pen", "turn", "place", "most", "one", "other", "size", "e", "n", "first", "last", "near", "due", "bad", "odd"], fd_law⟩
def fd__law_hear : FD := ⟨1, 7, [.ite (.cmp .is (.v 2) (.k (.non))) [.ret (some (.v 1))] [], .ite (.isc (.v 2) "TooMany") [.ret (some (.tup [(false, .k (.str [109, 97, 110, 121])), (false, .att (.v 2) "what"), (false, .att (.v 2) "most")]))] [], .asg (.nm 4) (.al false (.disp [.tup [(false, .k (.str [110, 117, 109, 98, 101, 114])), (false, .isc (.v 2) "BadNumber")], .tup [(false, .k (.str [118, 97, 108, 117, 101])), (false, .isc (.v 2) "BadValue")], .tup [(false, .k (.str [114, 117, 110])), (false, .isc (.v 2) "BadRun")], .tup [(false, .k (.str [109, 105, 115, 102, 105, 116])), (false, .isc (.v 2) "Misfit")]])), .asg (.nm 5) (.al false (.comp (.v 6) (.tp [.nm 6, .nm 7]) (.ex (.al false (.cat (.v 4) (.al false (.disp [.tup [(false, .k (.str [110, 111, 116, 104, 105, 110, 103])), (false, .isc (.v 2) "Nothing")]]))))) [.v 7] [6, 7])), .ret (some (.ife (.cmp .eq (.bi "len" [.v 5]) (.k (.int 1))) (.tup [(false, .ix (.v 5) (.k (.int 0))), (false, .att (.v 2) "part")]) (.tup [(false, .k (.str [111, 116, 104, 101, 114]))])))]⟩
def df__law_hear : DF := ⟨"_law_hear", top 58, ["ask", "found", "caught", "error", "some", "words", "word", "is_one"], fd__law_hear⟩
def LA : LD where
  ds := [df_is_integer, df_is_within, df_is_name, df_is_place, df_is_list, df_is_stamp, df_is_owned, df_is_answer, df_told_row, df_need_log, df_stamps_of, df_closed_of, df_is_below, df_is_ahead, df_reasons_for, df_ahead_by, df__law_pen, df__law_draw, df__law_pick, df__law_stamp_span, df__law_closed_span, df__law_is_ahead, df__law_reasons, df__law_stamp, df__law_told, df__law_any_row, df__law_listed]
  dl := df_law
  de := [df__law_hear]
  gk := [("LETTERS", g_LETTERS), ("MOST_SIGNS", g_MOST_SIGNS), ("LAST_PLACE", g_LAST_PLACE), ("HEARD", g_HEARD), ("KEPT", g_KEPT), ("REFUSED", g_REFUSED), ("FENCED", g_FENCED), ("SWEPT", g_SWEPT), ("NO_STAMP", g_NO_STAMP), ("BY_CLIENTS", g_BY_CLIENTS), ("BY_KEEPER", g_BY_KEEPER), ("MOST_ANSWERS", g_MOST_ANSWERS), ("MOST", g_MOST), ("TIME", g_TIME), ("STAMPS", g_STAMPS), ("CLOSED", g_CLOSED), ("REASONS", g_REASONS), ("OPEN", g_OPEN)]
  free := ["len", "int", "abs", "tuple", "all", "any", "list", "isinstance", "range", "repr", "str", "bool", "super", "dict"]
  cls := ["LiarError", "PartError", "BadNumber", "BadRun", "BadValue", "Misfit", "Nothing", "TooMany"]
  subT := [("BadValue", "LiarError", true), ("BadValue", "TooMany", false), ("BadValue", "BadNumber", false), ("BadValue", "BadValue", true), ("BadValue", "BadRun", false), ("BadValue", "Misfit", false), ("BadValue", "Nothing", false)]
  atT := [("BadValue", "part")]
  rzT := [("BadValue", "part", "PartError")]
  kws := [("ahead_by", ["other", "one"], [1, 0])]
  lia := "LiarError"
theorem ck_is_integer : chkB LA.gm df_is_integer.N (defScope df_is_integer.st) df_is_integer.fd.body (defBody df_is_integer.st) = true := by decide +kernel
theorem ck_is_within : chkB LA.gm df_is_within.N (defScope df_is_within.st) df_is_within.fd.body (defBody df_is_within.st) = true := by decide +kernel
theorem ck_is_name : chkB LA.gm df_is_name.N (defScope df_is_name.st) df_is_name.fd.body (defBody df_is_name.st) = true := by decide +kernel
theorem ck_is_place : chkB LA.gm df_is_place.N (defScope df_is_place.st) df_is_place.fd.body (defBody df_is_place.st) = true := by decide +kernel
theorem ck_is_list : chkB LA.gm df_is_list.N (defScope df_is_list.st) df_is_list.fd.body (defBody df_is_list.st) = true := by decide +kernel
theorem ck_is_stamp : chkB LA.gm df_is_stamp.N (defScope df_is_stamp.st) df_is_stamp.fd.body (defBody df_is_stamp.st) = true := by decide +kernel
theorem ck_is_owned : chkB LA.gm df_is_owned.N (defScope df_is_owned.st) df_is_owned.fd.body (defBody df_is_owned.st) = true := by decide +kernel
theorem ck_is_answer : chkB LA.gm df_is_answer.N (defScope df_is_answer.st) df_is_answer.fd.body (defBody df_is_answer.st) = true := by decide +kernel
theorem ck_told_row : chkB LA.gm df_told_row.N (defScope df_told_row.st) df_told_row.fd.body (defBody df_told_row.st) = true := by decide +kernel
theorem ck_need_log : chkB LA.gm df_need_log.N (defScope df_need_log.st) df_need_log.fd.body (defBody df_need_log.st) = true := by decide +kernel
theorem ck_stamps_of : chkB LA.gm df_stamps_of.N (defScope df_stamps_of.st) df_stamps_of.fd.body (defBody df_stamps_of.st) = true := by decide +kernel
theorem ck_closed_of : chkB LA.gm df_closed_of.N (defScope df_closed_of.st) df_closed_of.fd.body (defBody df_closed_of.st) = true := by decide +kernel
theorem ck_is_below : chkB LA.gm df_is_below.N (defScope df_is_below.st) df_is_below.fd.body (defBody df_is_below.st) = true := by decide +kernel
theorem ck_is_ahead : chkB LA.gm df_is_ahead.N (defScope df_is_ahead.st) df_is_ahead.fd.body (defBody df_is_ahead.st) = true := by decide +kernel
theorem ck_reasons_for : chkB LA.gm df_reasons_for.N (defScope df_reasons_for.st) df_reasons_for.fd.body (defBody df_reasons_for.st) = true := by decide +kernel
theorem ck_ahead_by : chkB LA.gm df_ahead_by.N (defScope df_ahead_by.st) df_ahead_by.fd.body (defBody df_ahead_by.st) = true := by decide +kernel
theorem ck__law_pen : chkB LA.gm df__law_pen.N (defScope df__law_pen.st) df__law_pen.fd.body (defBody df__law_pen.st) = true := by decide +kernel
theorem ck__law_draw : chkB LA.gm df__law_draw.N (defScope df__law_draw.st) df__law_draw.fd.body (defBody df__law_draw.st) = true := by decide +kernel
theorem ck__law_pick : chkB LA.gm df__law_pick.N (defScope df__law_pick.st) df__law_pick.fd.body (defBody df__law_pick.st) = true := by decide +kernel
theorem ck__law_stamp_span : chkB LA.gm df__law_stamp_span.N (defScope df__law_stamp_span.st) df__law_stamp_span.fd.body (defBody df__law_stamp_span.st) = true := by decide +kernel
theorem ck__law_closed_span : chkB LA.gm df__law_closed_span.N (defScope df__law_closed_span.st) df__law_closed_span.fd.body (defBody df__law_closed_span.st) = true := by decide +kernel
theorem ck__law_is_ahead : chkB LA.gm df__law_is_ahead.N (defScope df__law_is_ahead.st) df__law_is_ahead.fd.body (defBody df__law_is_ahead.st) = true := by decide +kernel
theorem ck__law_reasons : chkB LA.gm df__law_reasons.N (defScope df__law_reasons.st) df__law_reasons.fd.body (defBody df__law_reasons.st) = true := by decide +kernel
theorem ck__law_stamp : chkB LA.gm df__law_stamp.N (defScope df__law_stamp.st) df__law_stamp.fd.body (defBody df__law_stamp.st) = true := by decide +kernel
theorem ck__law_told : chkB LA.gm df__law_told.N (defScope df__law_told.st) df__law_told.fd.body (defBody df__law_told.st) = true := by decide +kernel
theorem ck__law_any_row : chkB LA.gm df__law_any_row.N (defScope df__law_any_row.st) df__law_any_row.fd.body (defBody df__law_any_row.st) = true := by decide +kernel
theorem ck__law_listed : chkB LA.gm df__law_listed.N (defScope df__law_listed.st) df__law_listed.fd.body (defBody df__law_listed.st) = true := by decide +kernel
theorem ck_law : chkB LA.gl df_law.N (defScope df_law.st) df_law.fd.body (defBody df_law.st) = true := by decide +kernel
theorem ck__law_hear : chkB LA.gt df__law_hear.N (defScope df__law_hear.st) df__law_hear.fd.body ((defBody df__law_hear.st).drop 2) = true := by decide +kernel
theorem ds_is_integer : DSt LA.gm df_is_integer := ⟨⟨rfl, rfl, rfl, by decide +kernel, rfl, by decide +kernel, by decide +kernel⟩, rfl, ck_is_integer, fun _ _ _ _ _ _ us hl => match us, hl with | [_], _ => rfl⟩
theorem ds_is_within : DSt LA.gm df_is_within := ⟨⟨rfl, rfl, rfl, by decide +kernel, rfl, by decide +kernel, by decide +kernel⟩, rfl, ck_is_within, fun _ _ _ _ _ _ us hl => match us, hl with | [_, _, _], _ => rfl⟩
theorem ds_is_name : DSt LA.gm df_is_name := ⟨⟨rfl, rfl, rfl, by decide +kernel, rfl, by decide +kernel, by decide +kernel⟩, rfl, ck_is_name, fun _ _ _ _ _ _ us hl => match us, hl with | [_], _ => rfl⟩
theorem ds_is_place : DSt LA.gm df_is_place := ⟨⟨rfl, rfl, rfl, by decide +kernel, rfl, by decide +kernel, by decide +kernel⟩, rfl, ck_is_place, fun _ _ _ _ _ _ us hl => match us, hl with | [_], _ => rfl⟩
theorem ds_is_list : DSt LA.gm df_is_list := ⟨⟨rfl, rfl, rfl, by decide +kernel, rfl, by decide +kernel, by decide +kernel⟩, rfl, ck_is_list, fun _ _ _ _ _ _ us hl => match us, hl with | [_], _ => rfl⟩
theorem ds_is_stamp : DSt LA.gm df_is_stamp := ⟨⟨rfl, rfl, rfl, by decide +kernel, rfl, by decide +kernel, by decide +kernel⟩, rfl, ck_is_stamp, fun _ _ _ _ _ _ us hl => match us, hl with | [_], _ => rfl⟩
theorem ds_is_owned : DSt LA.gm df_is_owned := ⟨⟨rfl, rfl, rfl, by decide +kernel, rfl, by decide +kernel, by decide +kernel⟩, rfl, ck_is_owned, fun _ _ _ _ _ _ us hl => match us, hl with | [_, _], _ => rfl⟩
theorem ds_is_answer : DSt LA.gm df_is_answer := ⟨⟨rfl, rfl, rfl, by decide +kernel, rfl, by decide +kernel, by decide +kernel⟩, rfl, ck_is_answer, fun _ _ _ _ _ _ us hl => match us, hl with | [_], _ => rfl⟩
theorem ds_told_row : DSt LA.gm df_told_row := ⟨⟨rfl, rfl, rfl, by decide +kernel, rfl, by decide +kernel, by decide +kernel⟩, rfl, ck_told_row, fun _ _ _ _ _ _ us hl => match us, hl with | [_], _ => rfl⟩
theorem ds_need_log : DSt LA.gm df_need_log := ⟨⟨rfl, rfl, rfl, by decide +kernel, rfl, by decide +kernel, by decide +kernel⟩, rfl, ck_need_log, fun _ _ _ _ _ _ us hl => match us, hl with | [_], _ => rfl⟩
theorem ds_stamps_of : DSt LA.gm df_stamps_of := ⟨⟨rfl, rfl, rfl, by decide +kernel, rfl, by decide +kernel, by decide +kernel⟩, rfl, ck_stamps_of, fun _ _ _ _ _ _ us hl => match us, hl with | [_], _ => rfl⟩
theorem ds_closed_of : DSt LA.gm df_closed_of := ⟨⟨rfl, rfl, rfl, by decide +kernel, rfl, by decide +kernel, by decide +kernel⟩, rfl, ck_closed_of, fun _ _ _ _ _ _ us hl => match us, hl with | [_], _ => rfl⟩
theorem ds_is_below : DSt LA.gm df_is_below := ⟨⟨rfl, rfl, rfl, by decide +kernel, rfl, by decide +kernel, by decide +kernel⟩, rfl, ck_is_below, fun _ _ _ _ _ _ us hl => match us, hl with | [_, _], _ => rfl⟩
theorem ds_is_ahead : DSt LA.gm df_is_ahead := ⟨⟨rfl, rfl, rfl, by decide +kernel, rfl, by decide +kernel, by decide +kernel⟩, rfl, ck_is_ahead, fun _ _ _ _ _ _ us hl => match us, hl with | [_, _, _], _ => rfl⟩
theorem ds_reasons_for : DSt LA.gm df_reasons_for := ⟨⟨rfl, rfl, rfl, by decide +kernel, rfl, by decide +kernel, by decide +kernel⟩, rfl, ck_reasons_for, fun _ _ _ _ _ _ us hl => match us, hl with | [_, _], _ => rfl⟩
theorem ds_ahead_by : DSt LA.gm df_ahead_by := ⟨⟨rfl, rfl, rfl, by decide +kernel, rfl, by decide +kernel, by decide +kernel⟩, rfl, ck_ahead_by, fun _ _ _ _ _ _ us hl => match us, hl with | [_, _], _ => rfl⟩
theorem ds__law_pen : DSt LA.gm df__law_pen := ⟨⟨rfl, rfl, rfl, by decide +kernel, rfl, by decide +kernel, by decide +kernel⟩, rfl, ck__law_pen, fun _ _ _ _ _ _ us hl => match us, hl with | [_], _ => rfl⟩
theorem ds__law_draw : DSt LA.gm df__law_draw := ⟨⟨rfl, rfl, rfl, by decide +kernel, rfl, by decide +kernel, by decide +kernel⟩, rfl, ck__law_draw, fun _ _ _ _ _ _ us hl => match us, hl with | [_, _], _ => rfl⟩
theorem ds__law_pick : DSt LA.gm df__law_pick := ⟨⟨rfl, rfl, rfl, by decide +kernel, rfl, by decide +kernel, by decide +kernel⟩, rfl, ck__law_pick, fun _ _ _ _ _ _ us hl => match us, hl with | [_, _], _ => rfl⟩
theorem ds__law_stamp_span : DSt LA.gm df__law_stamp_span := ⟨⟨rfl, rfl, rfl, by decide +kernel, rfl, by decide +kernel, by decide +kernel⟩, rfl, ck__law_stamp_span, fun _ _ _ _ _ _ us hl => match us, hl with | [_], _ => rfl⟩
theorem ds__law_closed_span : DSt LA.gm df__law_closed_span := ⟨⟨rfl, rfl, rfl, by decide +kernel, rfl, by decide +kernel, by decide +kernel⟩, rfl, ck__law_closed_span, fun _ _ _ _ _ _ us hl => match us, hl with | [_], _ => rfl⟩
theorem ds__law_is_ahead : DSt LA.gm df__law_is_ahead := ⟨⟨rfl, rfl, rfl, by decide +kernel, rfl, by decide +kernel, by decide +kernel⟩, rfl, ck__law_is_ahead, fun _ _ _ _ _ _ us hl => match us, hl with | [_, _, _], _ => rfl⟩
theorem ds__law_reasons : DSt LA.gm df__law_reasons := ⟨⟨rfl, rfl, rfl, by decide +kernel, rfl, by decide +kernel, by decide +kernel⟩, rfl, ck__law_reasons, fun _ _ _ _ _ _ us hl => match us, hl with | [_, _], _ => rfl⟩
theorem ds__law_stamp : DSt LA.gm df__law_stamp := ⟨⟨rfl, rfl, rfl, by decide +kernel, rfl, by decide +kernel, by decide +kernel⟩, rfl, ck__law_stamp, fun _ _ _ _ _ _ us hl => match us, hl with | [_, _], _ => rfl⟩
theorem ds__law_told : DSt LA.gm df__law_told := ⟨⟨rfl, rfl, rfl, by decide +kernel, rfl, by decide +kernel, by decide +kernel⟩, rfl, ck__law_told, fun _ _ _ _ _ _ us hl => match us, hl with | [_, _, _, _, _, _, _], _ => rfl⟩
theorem ds__law_any_row : DSt LA.gm df__law_any_row := ⟨⟨rfl, rfl, rfl, by decide +kernel, rfl, by decide +kernel, by decide +kernel⟩, rfl, ck__law_any_row, fun _ _ _ _ _ _ us hl => match us, hl with | [_, _, _], _ => rfl⟩
theorem ds__law_listed : DSt LA.gm df__law_listed := ⟨⟨rfl, rfl, rfl, by decide +kernel, rfl, by decide +kernel, by decide +kernel⟩, rfl, ck__law_listed, fun _ _ _ _ _ _ us hl => match us, hl with | [_], _ => rfl⟩
theorem ds_all : ∀ d ∈ LA.ds, DSt LA.gm d := by
  intro d h
  rcases List.mem_cons.mp h with rfl | h
  · exact ds_is_integer
  rcases List.mem_cons.mp h with rfl | h
  · exact ds_is_within
  rcases List.mem_cons.mp h with rfl | h
  · exact ds_is_name
  rcases List.mem_cons.mp h with rfl | h
  · exact ds_is_place
  rcases List.mem_cons.mp h with rfl | h
  · exact ds_is_list
  rcases List.mem_cons.mp h with rfl | h
  · exact ds_is_stamp
  rcases List.mem_cons.mp h with rfl | h
  · exact ds_is_owned
  rcases List.mem_cons.mp h with rfl | h
  · exact ds_is_answer
  rcases List.mem_cons.mp h with rfl | h
  · exact ds_told_row
  rcases List.mem_cons.mp h with rfl | h
  · exact ds_need_log
  rcases List.mem_cons.mp h with rfl | h
  · exact ds_stamps_of
  rcases List.mem_cons.mp h with rfl | h
  · exact ds_closed_of
  rcases List.mem_cons.mp h with rfl | h
  · exact ds_is_below
  rcases List.mem_cons.mp h with rfl | h
  · exact ds_is_ahead
  rcases List.mem_cons.mp h with rfl | h
  · exact ds_reasons_for
  rcases List.mem_cons.mp h with rfl | h
  · exact ds_ahead_by
  rcases List.mem_cons.mp h with rfl | h
  · exact ds__law_pen
  rcases List.mem_cons.mp h with rfl | h
  · exact ds__law_draw
  rcases List.mem_cons.mp h with rfl | h
  · exact ds__law_pick
  rcases List.mem_cons.mp h with rfl | h
  · exact ds__law_stamp_span
  rcases List.mem_cons.mp h with rfl | h
  · exact ds__law_closed_span
  rcases List.mem_cons.mp h with rfl | h
  · exact ds__law_is_ahead
  rcases List.mem_cons.mp h with rfl | h
  · exact ds__law_reasons
  rcases List.mem_cons.mp h with rfl | h
  · exact ds__law_stamp
  rcases List.mem_cons.mp h with rfl | h
  · exact ds__law_told
  rcases List.mem_cons.mp h with rfl | h
  · exact ds__law_any_row
  rcases List.mem_cons.mp h with rfl | h
  · exact ds__law_listed
  cases h
theorem sc_law : FnScope df_law.N ["script"] (defScope df_law.st) := ⟨rfl, rfl, rfl, by decide +kernel, rfl, by decide +kernel, by decide +kernel⟩
theorem kw_ahead_by : KwS LA ("ahead_by", ["other", "one"], [1, 0]) df_ahead_by := ⟨List.mem_cons_of_mem _ (List.mem_cons_of_mem _ (List.mem_cons_of_mem _ (List.mem_cons_of_mem _ (List.mem_cons_of_mem _ (List.mem_cons_of_mem _ (List.mem_cons_of_mem _ (List.mem_cons_of_mem _ (List.mem_cons_of_mem _ (List.mem_cons_of_mem _ (List.mem_cons_of_mem _ (List.mem_cons_of_mem _ (List.mem_cons_of_mem _ (List.mem_cons_of_mem _ (List.mem_cons_of_mem _ (List.mem_cons_self))))))))))))))), rfl, rfl, fun _ _ _ _ _ _ ws hl => match ws, hl with | [_, _], _ => rfl⟩
theorem kws_all : ∀ z ∈ LA.kws, ∃ d, KwS LA z d := by
  intro z h
  rcases List.mem_cons.mp h with rfl | h
  · exact ⟨_, kw_ahead_by⟩
  cases h
theorem es__law_hear : EarS LA df__law_hear "ask" "found" "caught" "error" 3 := ⟨by decide +kernel, ⟨rfl, rfl, rfl, by decide +kernel, rfl, by decide +kernel, by decide +kernel⟩, rfl, rfl, rfl, rfl, by decide, rfl, rfl, rfl, rfl, by decide, by decide, by decide, by decide, by decide, by decide, by decide, rfl, by decide, List.mem_cons_self, ck__law_hear, rfl, fun _ _ _ _ _ _ us hl => match us, hl with | [_], _ => rfl⟩
theorem es_all : ∀ d ∈ LA.de, ∃ a nf nc n j, EarS LA d a nf nc n j := by
  intro d h
  rcases List.mem_cons.mp h with rfl | h
  · exact ⟨_, _, _, _, _, es__law_hear⟩
  cases h
abbrev R : PySem.W.OpenRow := PySem.W.OpenLaw.row PySem.Challenge.rw_liarnamed_k49_rows_that_must_be_ahead
abbrev PR : PySem.Program := (PySem.Challenge.rw_liarnamed_k49_rows_that_must_be_ahead).prog
abbrev hk : PySem.W.Hook := hookY LA PR 5
def ob (s : PySem.W.SharedT) : He.AlX := obsY LA PR 5 (HandSHeadRun.getT s)
theorem ob_eq (s : PySem.W.SharedT) : ob s = hk.obs s.abs := obsY_eq (HandSHeadRun.getT_eq s)
def loose0 : List Str := ["LETTERS", "MOST_SIGNS", "LAST_PLACE", "is_integer", "is_within", "is_name", "is_place", "is_list", "LiarError", "PartError", "BadNumber", "BadRun", "BadValue", "Misfit", "Nothing", "TooMany", "HEARD", "KEPT", "REFUSED", "FENCED"]
def loose1 : List Str := ["SWEPT", "NO_STAMP", "BY_CLIENTS", "BY_KEEPER", "MOST_ANSWERS", "MOST", "is_stamp", "is_owned", "is_answer", "told_row", "need_log", "TIME", "STAMPS", "CLOSED", "REASONS", "OPEN", "stamps_of", "closed_of", "is_below", "is_ahead"]
def loose2 : List Str := ["reasons_for", "ahead_by", "_law_pen", "_law_draw", "_law_pick", "_law_stamp_span", "_law_closed_span", "_law_is_ahead", "_law_reasons", "_law_stamp", "_law_told", "_law_any_row", "_law_listed", "_law_hear"]
def loose : List Str := loose0 ++ loose1 ++ loose2
theorem run (w : World) : HandSHeadRun.RunEq R (PySem.W.view R.prog [59]) hk ob 6000 loose w := by
  intro os
  kernel_rfl
theorem holds_of (law : ∀ ns : List Int, ns.length ≤ 63 → (∀ z ∈ ns, Builtin.Int.intBits z ≤ 1048576) → ∃ h', runF (clN LA.pm (callN LA.pm 21)) fd_law [.fz (ns.map D.int)] [.tab] = .ok (.bl true) h') : (PySem.Challenge.rw_liarnamed_k49_rows_that_must_be_ahead).Holds := by
  w_on; o_law
  refine HandSHeadRun.head_any (r := PySem.W.OpenLaw.row PySem.Challenge.rw_liarnamed_k49_rows_that_must_be_ahead) (q := PySem.W.view (PySem.W.OpenLaw.row PySem.Challenge.rw_liarnamed_k49_rows_that_must_be_ahead).prog [59]) (H := hk) (ob := ob) (M := 6000) (loose := loose) (d := HandSHeadRun.topDef (PySem.W.OpenLaw.row PySem.Challenge.rw_liarnamed_k49_rows_that_must_be_ahead).prog 59) (kwd := []) ob_eq
    (by kernel_rfl) (fun s => by kernel_rfl) run (by kernel_rfl) (by kernel_rfl) (by kernel_rfl) (by rfl) (by first | assumption | decide +kernel) (by decide +kernel) ⟨rfl, rfl, rfl, rfl, rfl, by decide +kernel⟩ ?hw ?hc
  case hw => w_witness2
  case hc =>
    refine law_end (l := PySem.Challenge.rw_liarnamed_k49_rows_that_must_be_ahead) (n := 63) (k := 25) (dep := 21) (dl := df_law) (Γ := LA.gl) (Pm := LA.pm) (x := "script") (q := (envOfC "law" (defScope df_law.st) 0 0 .none).qual) rfl (by decide) (by kernel_rfl) ⟨rfl, by decide, by decide⟩ sc_law rfl rfl ck_law (fun w mg fa h Y G hmg0 => ?_) law
    obtain ⟨K, KX, c⟩ := Y
    have hmg : mg ("law" : Str) = some (.ref fa) := by
      have e : (HandSHeadRun.topDef (PySem.W.OpenLaw.row PySem.Challenge.rw_liarnamed_k49_rows_that_must_be_ahead).prog 59).name = ("law" : Str) := by kernel_rfl
      rw [← e]
      exact hmg0
    exact law_at (L := LA) (dep := 20) KX G c rfl ds_all (by decide +kernel) (by decide +kernel) (by decide +kernel) (by decide +kernel) (by decide +kernel) es_all kws_all hmg (fun _ _ _ => rfl) (fun _ _ _ _ _ _ us hl => match us, hl with | [_], _ => rfl)
end Py
end

section
set_option Elab.async false
set_option linter.all false
set_option maxRecDepth 100000
set_option maxHeartbeats 4000000
namespace Py
abbrev penO (cells : List Int) (turn left : Int) : Ob := .lst [.lst (cells.map D.int), .int turn, .int left]
abbrev penH (cells : List Int) (turn left : Int) : Hh := [.tab, penO cells turn left]
theorem mod_range {a m : Int} (hm : 0 < m) : 0 ≤ a % m ∧ a % m < m := ⟨Int.emod_nonneg _ (by omega), Int.emod_lt_of_pos _ hm⟩
theorem mix1 {c t : Int} (h1 : 0 ≤ c) (h2 : c < 2147483549) (ht : 0 ≤ t) (ht2 : t < 1000000) : -big < c + 25232 * t + 51307 ∧ c + 25232 * t + 51307 < big := by unfold big; omega
theorem mix2 {c t : Int} (h1 : 0 ≤ c) (h2 : c < 2147483629) (ht : 0 ≤ t) (ht2 : t < 1000000) : -big < c * (2 * t + 8297) + 29387 * t * t + 25232 ∧ c * (2 * t + 8297) + 29387 * t * t + 25232 < big := by
  have a1 : 0 ≤ c * (2 * t + 8297) := Int.mul_nonneg h1 (by omega)
  have a2 : c * (2 * t + 8297) ≤ 2147483629 * 2008297 := Int.mul_le_mul (by omega) (by omega) (by omega) (by omega)
  have a3 : 0 ≤ 29387 * t * t := Int.mul_nonneg (by omega) ht
  have a4 : 29387 * t * t ≤ (29387 * 1000000) * 1000000 := Int.mul_le_mul (by omega) (by omega) (by omega) (by omega)
  unfold big
  omega
theorem small_big {t : Int} (ht : 0 ≤ t) (ht2 : t < 1000000000000) : -big < t ∧ t < big := by unfold big; omega
theorem ix_pen {cells : List Int} {turn left i : Int} : ix? (penH cells turn left) (.ref 1) (.int i) = at? [.lst (cells.map D.int), .int turn, .int left] i := rfl
theorem ix_pen0 {cells : List Int} {turn left : Int} : ix? (penH cells turn left) (.ref 1) (.int 0) = some (.lst (cells.map D.int)) := rfl
variable {n : Nat} {cells : List Int} {turn left many : Int} {Q : D → Hh → Prop}
theorem s_mix {cell : Int} {e2 e5 : Option D} {h : Hh} {N : Env → Hh → Prop} (ht : 0 ≤ turn) (ht2 : turn < 1000000) (hm : 0 < many) (hm2 : many < 1073741824) (k : ∀ d, 0 ≤ d → d < many → Q (.int d) h) :
    (excs (clN LA.pm (callN LA.pm n)) (fd__law_draw.body.drop 6) [some (.ref 1), some (.int many), e2, some (.int turn), some (.int cell), e5] h).sat N Q := by
  have m1 := mod_range (a := cell) (m := 2147483549) (by decide)
  have k1 := mix1 m1.1 m1.2 ht ht2
  have m2 := mod_range (a := (cell % 2147483549 + 25232 * turn + 51307) ^ 5) (m := 2147483629) (by decide)
  have k2 := mix2 m2.1 m2.2 ht ht2
  have s1 := small_big ht (by omega)
  have s2 := small_big (t := 2 * turn + 8297) (by omega) (by omega)
  have m3 := fun x => mod_range (a := x) hm
  have l1 : -big < 29387 ∧ 29387 < big := by decide
  unfold fd__law_draw
  simp only [List.drop]
  refine ss_cons' ?_
  simp [exc, den, denT, denAnd, denOr, denTAnd, denTOr, dens, densS, denO, denA, denC, at?, ixN, asg?, asgs?, isAny, isA, lt?, ltF, clN_call, wrap, b_mul' (.inr s1), b_mod', b_pow' (b := 5) (by decide) (by decide) k1.1 k1.2]
  refine ss_cons' ?_
  simp [exc, den, denT, denAnd, denOr, denTAnd, denTOr, dens, densS, denO, denA, denC, at?, ixN, asg?, asgs?, isAny, isA, lt?, ltF, clN_call, wrap, b_mul' (.inr s1), b_mul' (.inr s2), b_mod', b_pow' (b := 3) (by decide) (by decide) k2.1 k2.2]
  refine ss_cons' ?_
  simp [exc, den, denT, denAnd, denOr, denTAnd, denTOr, dens, densS, denO, denA, denC, at?, ixN, asg?, asgs?, isAny, isA, lt?, ltF, clN_call, wrap, b_mod', b_fdiv', hm]
  exact k _ (m3 _).1 (m3 _).2
theorem at_cells {cells : List Int} {t : Int} (h1 : 0 ≤ t) (h2 : t < cells.length) : ∃ z, at? (cells.map D.int) t = some (.int z) := by
  refine ⟨cells[t.toNat]'(by omega), ?_⟩
  unfold at? ixN
  rw [if_pos h1, if_pos (by simpa using h2)]
  simp only [Option.bind_some, List.getElem?_map]
  rw [List.getElem?_eq_getElem (by omega)]
  rfl
theorem ne_cells {cells : List Int} {h : Hh} : cmp? h .ne (.lst (cells.map D.int)) (.lst []) = some (!cells.isEmpty) := by
  have p : ∀ l : List Int, pures? 59 (l.map D.int) = true := fun l => by
    induction l with
    | nil => rfl
    | cons a l ih => simp [pures?, pure?, ih]
  cases cells with
  | nil => rfl
  | cons a l => simp [cmp?, still, pure?, pures?, p, eqD, eqDs]
theorem s_draw (ht : 0 ≤ turn) (ht2 : turn < 1000000) (hl : 0 ≤ left) (hm : 0 < many) (hm2 : many < 1073741824)
    (k : ∀ d t' l', 0 ≤ d → d < many → turn ≤ t' → t' ≤ turn + 1 → 0 ≤ l' → Q (.int d) (penH cells t' l')) : (callN LA.pm (n + 1) "_law_draw" [.ref 1, .int many] (penH cells turn left)).sat Q := by
  refine sat_call (fd := fd__law_draw) rfl rfl ?_
  have m3 := fun x => mod_range (a := x) hm
  have dv : ∀ x : Int, 0 ≤ x → 0 ≤ x / many := fun x hx => Int.ediv_nonneg hx (by omega)
  have cut := fun {cell : Int} {e2 e5 : Option D} {h : Hh} {N : Env → Hh → Prop} => s_mix (n := n) (Q := Q) (cell := cell) (e2 := e2) (e5 := e5) (h := h) (N := N) ht ht2 hm hm2
  unfold fd__law_draw at cut ⊢
  simp only [List.drop] at cut
  refine ss_cons' (ss_ite' ?_)
  simp [exc, den, denT, denAnd, denOr, denTAnd, denTOr, dens, densS, denO, denA, denC, at?, ixN, asg?, asgs?, isAny, isA, lt?, ltF, clN_call, wrap, ix_pen]
  refine ⟨fun hp => ?_, fun hn => ss_nil'' ?_⟩
  · refine ss_cons' ?_
    simp [exc, den, denT, denAnd, denOr, denTAnd, denTOr, dens, densS, denO, denA, denC, at?, ixN, asg?, asgs?, isAny, isA, lt?, ltF, clN_call, wrap, ix_pen]
    refine ss_cons' ?_
    simp [exc, den, denT, denAnd, denOr, denTAnd, denTOr, dens, densS, denO, denA, denC, at?, ixN, asg?, asgs?, isAny, isA, lt?, ltF, clN_call, wrap, b_fdiv' hm hm2]
    refine ss_cons' ?_
    simp [exc, den, denT, denAnd, denOr, denTAnd, denTOr, dens, densS, denO, denA, denC, at?, ixN, asg?, asgs?, isAny, isA, lt?, ltF, clN_call, wrap, b_mod' hm]
    exact k _ _ _ (m3 _).1 (m3 _).2 (by omega) (by omega) (dv _ hl)
  refine ss_cons' ?_
  simp [exc, den, denT, denAnd, denOr, denTAnd, denTOr, dens, densS, denO, denA, denC, at?, ixN, asg?, asgs?, isAny, isA, lt?, ltF, clN_call, wrap, ix_pen]
  refine ss_cons' ?_
  simp [exc, den, denT, denAnd, denOr, denTAnd, denTOr, dens, densS, denO, denA, denC, at?, ixN, asg?, asgs?, isAny, isA, lt?, ltF, clN_call, wrap]
  refine ss_cons' ?_
  simp [exc, den, denT, denAnd, denOr, denTAnd, denTOr, dens, densS, denO, denA, denC, at?, ixN, asg?, asgs?, isAny, isA, lt?, ltF, clN_call, wrap, b_mul' (.inr (small_big ht (by omega)))]
  refine ss_cons' (ss_ite' ?_)
  have l0 : left = 0 := by omega
  subst l0
  -- with whichever cell
  have rest : ∀ cell : Int, (excs (clN LA.pm (callN LA.pm n)) (fd__law_draw.body.drop 5) [some (.ref 1), some (.int many), none, some (.int turn), some (.int cell), none] (penH cells (turn + 1) 0)).sat (fun _ h => Q .non h) Q := fun cell => by
    unfold fd__law_draw
    simp only [List.drop]
    refine ss_cons' (ss_ite' ?_)
    by_cases h1 : turn < (cells.length : Int)
    · simp [exc, den, denT, denAnd, denOr, denTAnd, denTOr, dens, densS, denO, denA, denC, at?, ixN, asg?, asgs?, isAny, isA, lt?, ltF, clN_call, wrap, ix_pen, h1, b_pow' (a := 10) (b := 18) (by decide) (by decide) (by decide) (by decide)]
      refine ⟨fun hp => ?_, fun hn => ss_nil'' (cut fun d a b => k d _ _ a b (by omega) (by omega) (by omega))⟩
      refine ss_cons' ?_
      simp [exc, den, denT, denAnd, denOr, denTAnd, denTOr, dens, densS, denO, denA, denC, at?, ixN, asg?, asgs?, isAny, isA, lt?, ltF, clN_call, wrap, b_pow' (a := 10) (b := 18) (by decide) (by decide) (by decide) (by decide), b_mul' (a := 2) (.inl (by decide))]
      have nn : 0 ≤ 2 * ((if cell < 0 then -cell else cell) - 1000000000000000000) + b2 (decide (cell < 0)) := by
        have : 0 ≤ b2 (decide (cell < 0)) := by unfold b2; split <;> decide
        omega
      refine ss_cons' ?_
      simp [exc, den, denT, denAnd, denOr, denTAnd, denTOr, dens, densS, denO, denA, denC, at?, ixN, asg?, asgs?, isAny, isA, lt?, ltF, clN_call, wrap, b_fdiv' hm hm2]
      refine ss_cons' ?_
      simp [exc, den, denT, denAnd, denOr, denTAnd, denTOr, dens, densS, denO, denA, denC, at?, ixN, asg?, asgs?, isAny, isA, lt?, ltF, clN_call, wrap, b_mod' hm]
      exact k _ _ _ (m3 _).1 (m3 _).2 (by omega) (by omega) (dv _ nn)
    · simp [exc, den, denT, denAnd, denOr, denTAnd, denTOr, dens, densS, denO, denA, denC, at?, ixN, asg?, asgs?, isAny, isA, lt?, ltF, clN_call, wrap, ix_pen, h1]
      exact ss_nil'' (cut fun d a b => k d _ _ a b (by omega) (by omega) (by omega))
  unfold fd__law_draw at rest
  simp only [List.drop] at rest
  simp [exc, den, denT, denAnd, denOr, denTAnd, denTOr, dens, densS, denO, denA, denC, at?, ixN, asg?, asgs?, isAny, isA, lt?, ltF, clN_call, wrap, ix_pen, ne_cells]
  refine ⟨fun he => ?_, fun he => ss_nil'' (rest _)⟩
  have hc : 0 < (cells.length : Int) := by
    cases cells with
    | nil => exact absurd rfl he
    | cons a l => simp
  have mr := mod_range (a := turn) hc
  obtain ⟨z, hz⟩ := at_cells mr.1 mr.2
  refine ss_cons' ?_
  simp [exc, den, dens, asg?, ix_pen0, b_mod' hc, hz]
  exact ss_nil'' (rest _)
theorem s_pick {some_ : List D} (ht : 0 ≤ turn) (ht2 : turn < 1000000) (hl : 0 ≤ left) (hm : some_ ≠ []) (hm2 : some_.length < 1073741824)
    (k : ∀ d t' l', d ∈ some_ → turn ≤ t' → t' ≤ turn + 1 → 0 ≤ l' → Q d (penH cells t' l')) : (callN LA.pm (n + 2) "_law_pick" [.ref 1, .lst some_] (penH cells turn left)).sat Q := by
  have l0 : 0 < some_.length := List.length_pos_iff.mpr hm
  refine sat_call (fd := fd__law_pick) rfl rfl ?_
  unfold fd__law_pick
  refine ss_cons' ?_
  simp [exc, den, dens, clN_call]
  refine s_draw ht ht2 hl (by omega) (by omega) fun d t' l' a b c e f => ?_
  have hd : at? some_ d = some (some_[d.toNat]'(by omega)) := by
    unfold at? ixN
    rw [if_pos a, if_pos b]
    simp
  exact ⟨_, hd, k _ _ _ (List.getElem_mem _) c e f⟩
end Py
end

section
set_option Elab.async false
set_option linter.all false
set_option maxRecDepth 100000
set_option maxHeartbeats 4000000
namespace Py
abbrev kH : List Nat := [104, 101, 97, 114, 100]
abbrev kK : List Nat := [107, 101, 112, 116]
abbrev kR : List Nat := [114, 101, 102, 117, 115, 101, 100]
abbrev kF : List Nat := [102, 101, 110, 99, 101, 100]
abbrev kS : List Nat := [115, 119, 101, 112, 116]
abbrev ann : List Nat := [97, 110, 110]
abbrev bob : List Nat := [98, 111, 98]
abbrev cid : List Nat := [99, 105, 100]
abbrev ah : List Nat := [97, 98, 99, 100, 101, 102, 103, 104]
abbrev nms : List (List Nat) := [ann, bob, cid, ah, [122], [97], [98]]
inductive Stamp : D → Prop
  | zero : Stamp (.tup [.int 0, .str []])
  | nm (n : Int) (s : List Nat) (h1 : 1 ≤ n) (h2 : n ≤ 999999999) (hs : s ∈ nms) : Stamp (.tup [.int n, .str s])
inductive Own : D → List Nat → Prop
  | c (s k : List Nat) (hs : s ∈ nms) (hk : k = kH ∨ k = kK ∨ k = kR) : Own (.str s) k
  | k (k : List Nat) (hk : k = kF ∨ k = kS) : Own .non k
inductive Told : List Nat → Int → D → Prop
  | r (e t : Int) (h1 : e ≤ t) (h2 : t ≤ 999999999) : Told kR e (.int t)
  | s (k : List Nat) (e : Int) (d : D) (hk : k = kH ∨ k = kK ∨ k = kF ∨ k = kS) (hd : Stamp d) : Told k e d
structure RowF (pl : Int) (ow : D) (k : List Nat) (ep : Int) (tl : D) (se ca : Int) : Prop where
  p0 : 0 ≤ pl
  p1 : pl ≤ 999999999
  ow : Own ow k
  e0 : 0 ≤ ep
  e1 : ep ≤ 999999999
  tl : Told k ep tl
  s0 : 0 ≤ se
  s1 : se < ca
  c1 : ca ≤ 999999999
abbrev rowD (pl : Int) (ow : D) (k : List Nat) (ep : Int) (tl : D) (se ca : Int) : D := .tup [.int pl, ow, .str k, .int ep, tl, .int se, .int ca]
def Row (d : D) : Prop := ∃ pl ow k ep tl se ca, d = rowD pl ow k ep tl se ca ∧ RowF pl ow k ep tl se ca
section
variable {n : Nat} {h : Hh}
theorem c_is_integer {v : Int} : callN LA.pm (n + 1) "is_integer" [.int v] h = .ok (.bl true) h := by
  rw [call_of (fd := fd_is_integer) rfl]
  simp [runF, fd_is_integer, excs, exc, den, denT, denAnd, denOr, denTAnd, denTOr, dens, densS, denO, denA, denC, at?, ixN, asg?, asgs?, isAny, isA, lt?, ltF, clN_call, wrap]
theorem c_is_within {v l m : Int} : callN LA.pm (n + 2) "is_within" [.int v, .int l, .int m] h = .ok (.bl (decide (l ≤ v) && decide (v ≤ m))) h := by
  rw [call_of (fd := fd_is_within) rfl]
  simp [runF, fd_is_within, excs, exc, den, denT, denAnd, denOr, denTAnd, denTOr, dens, densS, denO, denA, denC, at?, ixN, asg?, asgs?, isAny, isA, lt?, ltF, clN_call, wrap, c_is_integer]
  cases decide (l ≤ v) <;> simp
theorem c_is_name {s : List Nat} (hs : s ∈ nms) : callN LA.pm (n + 1) "is_name" [.str s] h = .ok (.bl true) h := by
  simp only [List.mem_cons, List.not_mem_nil, or_false] at hs
  rcases hs with rfl | rfl | rfl | rfl | rfl | rfl | rfl <;> kernel_rfl
theorem c_is_place {v : Int} (h0 : 0 ≤ v) (h1 : v ≤ 999999999) : callN LA.pm (n + 3) "is_place" [.int v] h = .ok (.bl true) h := by
  rw [call_of (fd := fd_is_place) rfl]
  simp [runF, fd_is_place, excs, exc, den, denT, denAnd, denOr, denTAnd, denTOr, dens, densS, denO, denA, denC, at?, ixN, asg?, asgs?, isAny, isA, lt?, ltF, clN_call, wrap, c_is_within, h0, h1]
theorem c_is_list_tup {ds : List D} : callN LA.pm (n + 1) "is_list" [.tup ds] h = .ok (.bl true) h := by
  rw [call_of (fd := fd_is_list) rfl]
  simp [runF, fd_is_list, excs, exc, den, denT, denAnd, denOr, denTAnd, denTOr, dens, densS, denO, denA, denC, at?, ixN, asg?, asgs?, isAny, isA, lt?, ltF, clN_call, wrap]
theorem c_is_list_lst {ds : List D} : callN LA.pm (n + 1) "is_list" [.lst ds] h = .ok (.bl true) h := by
  rw [call_of (fd := fd_is_list) rfl]
  simp [runF, fd_is_list, excs, exc, den, denT, denAnd, denOr, denTAnd, denTOr, dens, densS, denO, denA, denC, at?, ixN, asg?, asgs?, isAny, isA, lt?, ltF, clN_call, wrap]
theorem c_is_list_int {v : Int} : callN LA.pm (n + 1) "is_list" [.int v] h = .ok (.bl false) h := by
  rw [call_of (fd := fd_is_list) rfl]
  simp [runF, fd_is_list, excs, exc, den, denT, denAnd, denOr, denTAnd, denTOr, dens, densS, denO, denA, denC, at?, ixN, asg?, asgs?, isAny, isA, lt?, ltF, clN_call, wrap]
theorem c_is_stamp {d : D} (hd : Stamp d) : callN LA.pm (n + 3) "is_stamp" [d] h = .ok (.bl true) h := by
  rw [call_of (fd := fd_is_stamp) rfl]
  cases hd with
  | zero => simp [runF, fd_is_stamp, excs, exc, den, denT, denAnd, denOr, denTAnd, denTOr, dens, densS, denO, denA, denC, at?, ixN, asg?, asgs?, isAny, isA, lt?, ltF, clN_call, wrap, c_is_within]; kernel_rfl
  | nm n s h1 h2 hs =>
    have h0 : 0 ≤ n := by omega
    have h3 : (n == 0) = false := by simp; omega
    simp [runF, fd_is_stamp, excs, exc, den, denT, denAnd, denOr, denTAnd, denTOr, dens, densS, denO, denA, denC, at?, ixN, asg?, asgs?, isAny, isA, lt?, ltF, clN_call, wrap, c_is_within, c_is_name hs, h0, h2, h3]
theorem c_is_owned {d : D} {k : List Nat} (hd : Own d k) : callN LA.pm (n + 3) "is_owned" [d, .str k] h = .ok (.bl true) h := by
  rw [call_of (fd := fd_is_owned) rfl]
  cases hd with
  | c s k hs hk => rcases hk with rfl | rfl | rfl <;> simp [runF, fd_is_owned, excs, exc, den, denT, denAnd, denOr, denTAnd, denTOr, dens, densS, denO, denA, denC, at?, ixN, asg?, asgs?, isAny, isA, lt?, ltF, clN_call, wrap, c_is_name hs, cmp?, in?, flat, eqF]
  | k k hk => rcases hk with rfl | rfl <;> simp [runF, fd_is_owned, excs, exc, den, denT, denAnd, denOr, denTAnd, denTOr, dens, densS, denO, denA, denC, at?, ixN, asg?, asgs?, isAny, isA, lt?, ltF, clN_call, wrap, cmp?, in?, flat, eqF]
end
end Py
end

section
set_option Elab.async false
set_option linter.all false
set_option maxRecDepth 100000
set_option maxHeartbeats 4000000
namespace Py
section
variable {n : Nat} {h : Hh} {pl : Int} {ow : D} {k : List Nat} {ep : Int} {tl : D} {se ca : Int}
theorem okS_k (hk : k = kH ∨ k = kK ∨ k = kR ∨ k = kF ∨ k = kS) : okS k = true := by rcases hk with rfl | rfl | rfl | rfl | rfl <;> rfl
theorem c_is_answer (r : RowF pl ow k ep tl se ca) : callN LA.pm (n + 5) "is_answer" [rowD pl ow k ep tl se ca] h = .ok (.bl true) h := by
  obtain ⟨p0, p1, ho, e0, e1, ht, s0, s1, c1⟩ := r
  have a1 : se ≤ 999999999 := by omega
  have a2 : 0 ≤ ca := by omega
  have a3 : ¬ ca ≤ se := by omega
  rw [call_of (fd := fd_is_answer) rfl]
  cases ht with
  | r e t h1 h2 => simp [runF, fd_is_answer, excs, exc, den, denT, denAnd, denOr, denTAnd, denTOr, dens, densS, denO, denA, denC, at?, ixN, asg?, asgs?, isAny, isA, lt?, ltF, clN_call, wrap, denI, src?, rng?, walkC, gdok, wipeE, line, bools?, cut, sIx, c_is_place p0 p1, c_is_owned ho, c_is_within, e0, e1, s0, a1, a2, a3, c1, h1, h2, okS]
  | s k e d hk hd => rcases hk with rfl | rfl | rfl | rfl <;> simp [runF, fd_is_answer, excs, exc, den, denT, denAnd, denOr, denTAnd, denTOr, dens, densS, denO, denA, denC, at?, ixN, asg?, asgs?, isAny, isA, lt?, ltF, clN_call, wrap, denI, src?, rng?, walkC, gdok, wipeE, line, bools?, cut, sIx, c_is_place p0 p1, c_is_owned ho, c_is_within, c_is_stamp hd, e0, e1, s0, a1, a2, a3, c1, okS]
theorem c_told_row (r : RowF pl ow k ep tl se ca) : callN LA.pm (n + 2) "told_row" [rowD pl ow k ep tl se ca] h = .ok (rowD pl ow k ep tl se ca) h := by
  obtain ⟨p0, p1, ho, e0, e1, ht, s0, s1, c1⟩ := r
  rw [call_of (fd := fd_told_row) rfl]
  cases ht with
  | r e t h1 h2 => simp [runF, fd_told_row, excs, exc, den, denT, denAnd, denOr, denTAnd, denTOr, dens, densS, denO, denA, denC, at?, ixN, asg?, asgs?, isAny, isA, lt?, ltF, clN_call, wrap, denI, src?, rng?, walkC, gdok, wipeE, line, bools?, cut, sIx, c_is_list_tup, c_is_list_lst, c_is_list_int]
  | s k e d hk hd => cases hd <;> simp [runF, fd_told_row, excs, exc, den, denT, denAnd, denOr, denTAnd, denTOr, dens, densS, denO, denA, denC, at?, ixN, asg?, asgs?, isAny, isA, lt?, ltF, clN_call, wrap, denI, src?, rng?, walkC, gdok, wipeE, line, bools?, cut, sIx, c_is_list_tup, c_is_list_lst, c_is_list_int]
end
end Py
end

section
set_option Elab.async false
set_option linter.all false
set_option maxRecDepth 100000
set_option maxHeartbeats 4000000
namespace Py
abbrev qT : List Nat := [116, 105, 109, 101]
abbrev qS : List Nat := [115, 116, 97, 109, 112, 115]
abbrev qC : List Nat := [99, 108, 111, 115, 101, 100]
abbrev noSt : D := .tup [.int 0, .str []]
def st1 (k : List Nat) (tl : D) : D := if k = kR then noSt else tl
def st2 (k : List Nat) (tl : D) : D := if k = kH ∨ k = kF then tl else .non
def cl1 (k : List Nat) (ep : Int) (tl : D) : D := if k = kF then .int ep else if k = kR then tl else .int (-1)
def cl2 (k : List Nat) (ep : Int) (tl : D) : D := if k = kH ∨ k = kK then .int (ep - 1) else if k = kR then tl else .non
def belowB (e b : D) : Bool := match e with | .non => false | e => (lt? e b).getD false
@[simp] theorem belowB_non {b : D} : belowB .non b = false := rfl
theorem c_below_ {e b : D} (he : e = .non ∨ ∃ c, lt? e b = some c) : (e = .non ∧ belowB e b = false) ∨ ∃ c, (∀ h : Hh, cmp? h .isn e .non = some true) ∧ (∀ h : Hh, cmp? h .lt e b = some c) ∧ belowB e b = c := by
  rcases he with rfl | ⟨c, hc⟩
  · exact .inl ⟨rfl, rfl⟩
  · cases e with
    | non => exact .inl ⟨rfl, rfl⟩
    | _ => exact .inr ⟨c, fun _ => rfl, fun _ => hc, by simp [belowB, hc]⟩
section
variable {n : Nat} {h : Hh} {pl : Int} {ow : D} {k : List Nat} {ep : Int} {tl : D} {se ca : Int} {pl' : Int} {ow' : D} {k' : List Nat} {ep' : Int} {tl' : D} {se' ca' : Int}
def Kd (k : List Nat) : Prop := k = kH ∨ k = kK ∨ k = kR ∨ k = kF ∨ k = kS
theorem c_stamps_of (hk : Kd k) : callN LA.pm (n + 1) "stamps_of" [rowD pl ow k ep tl se ca] h = .ok (.tup [st1 k tl, st2 k tl]) h := by
  rw [call_of (fd := fd_stamps_of) rfl]
  rcases hk with rfl | rfl | rfl | rfl | rfl <;> simp [runF, fd_stamps_of, excs, exc, den, denT, denAnd, denOr, denTAnd, denTOr, dens, densS, denO, denA, denC, at?, ixN, asg?, asgs?, isAny, isA, lt?, ltF, clN_call, wrap, denI, src?, rng?, walkC, gdok, wipeE, line, bools?, cut, sIx, cmp?, in?, flat, eqF, eqD, still, pure?, okS, st1, st2]
theorem c_closed_of (hk : Kd k) : callN LA.pm (n + 1) "closed_of" [rowD pl ow k ep tl se ca] h = .ok (.tup [cl1 k ep tl, cl2 k ep tl]) h := by
  rw [call_of (fd := fd_closed_of) rfl]
  rcases hk with rfl | rfl | rfl | rfl | rfl <;> simp [runF, fd_closed_of, excs, exc, den, denT, denAnd, denOr, denTAnd, denTOr, dens, densS, denO, denA, denC, at?, ixN, asg?, asgs?, isAny, isA, lt?, ltF, clN_call, wrap, denI, src?, rng?, walkC, gdok, wipeE, line, bools?, cut, sIx, cmp?, in?, flat, eqF, eqD, still, pure?, okS, cl1, cl2]
theorem c_lstamp (hk : Kd k) : callN LA.pm (n + 1) "_law_stamp_span" [rowD pl ow k ep tl se ca] h = .ok (.tup [st1 k tl, st2 k tl]) h := by
  rw [call_of (fd := fd__law_stamp_span) rfl]
  rcases hk with rfl | rfl | rfl | rfl | rfl <;> simp [runF, fd__law_stamp_span, excs, exc, den, denT, denAnd, denOr, denTAnd, denTOr, dens, densS, denO, denA, denC, at?, ixN, asg?, asgs?, isAny, isA, lt?, ltF, clN_call, wrap, denI, src?, rng?, walkC, gdok, wipeE, line, bools?, cut, sIx, cmp?, in?, flat, eqF, eqD, still, pure?, okS, st1, st2]
theorem c_lclosed (hk : Kd k) : callN LA.pm (n + 1) "_law_closed_span" [rowD pl ow k ep tl se ca] h = .ok (.tup [cl1 k ep tl, cl2 k ep tl]) h := by
  rw [call_of (fd := fd__law_closed_span) rfl]
  rcases hk with rfl | rfl | rfl | rfl | rfl <;> simp [runF, fd__law_closed_span, excs, exc, den, denT, denAnd, denOr, denTAnd, denTOr, dens, densS, denO, denA, denC, at?, ixN, asg?, asgs?, isAny, isA, lt?, ltF, clN_call, wrap, denI, src?, rng?, walkC, gdok, wipeE, line, bools?, cut, sIx, cmp?, in?, flat, eqF, eqD, still, pure?, okS, cl1, cl2]
theorem c_is_below {x e b y : D} (he : e = .non ∨ ∃ c, lt? e b = some c) : callN LA.pm (n + 1) "is_below" [.tup [x, e], .tup [b, y]] h = .ok (.bl (belowB e b)) h := by
  rw [call_of (fd := fd_is_below) rfl]
  rcases c_below_ he with ⟨rfl, e2⟩ | ⟨c, h1, h2, e2⟩
  · simp [runF, fd_is_below, excs, exc, den, denAnd, at?, ixN, e2]
  · simp [runF, fd_is_below, excs, exc, den, denAnd, at?, ixN, h1, h2, e2]
theorem c_ahead_t : callN LA.pm (n + 1) "is_ahead" [rowD pl ow k ep tl se ca, rowD pl' ow' k' ep' tl' se' ca', .str qT] h = .ok (.bl (decide (ca ≤ se'))) h := by
  rw [call_of (fd := fd_is_ahead) rfl]
  simp [runF, fd_is_ahead, excs, exc, den, denT, denAnd, denOr, denTAnd, denTOr, dens, densS, denO, denA, denC, at?, ixN, asg?, asgs?, isAny, isA, lt?, ltF, clN_call, wrap, denI, src?, rng?, walkC, gdok, wipeE, line, bools?, cut, sIx, okS]
theorem c_ahead_s (hk : Kd k) (hk' : Kd k') (he : st2 k tl = .non ∨ ∃ c, lt? (st2 k tl) (st1 k' tl') = some c) : callN LA.pm (n + 2) "is_ahead" [rowD pl ow k ep tl se ca, rowD pl' ow' k' ep' tl' se' ca', .str qS] h = .ok (.bl (belowB (st2 k tl) (st1 k' tl'))) h := by
  rw [call_of (fd := fd_is_ahead) rfl]
  simp [runF, fd_is_ahead, excs, exc, den, denT, denAnd, denOr, denTAnd, denTOr, dens, densS, denO, denA, denC, at?, ixN, asg?, asgs?, isAny, isA, lt?, ltF, clN_call, wrap, denI, src?, rng?, walkC, gdok, wipeE, line, bools?, cut, sIx, okS, c_stamps_of hk, c_stamps_of hk', c_is_below he]
theorem c_ahead_c (hk : Kd k) (hk' : Kd k') (he : cl2 k ep tl = .non ∨ ∃ c, lt? (cl2 k ep tl) (cl1 k' ep' tl') = some c) : callN LA.pm (n + 2) "is_ahead" [rowD pl ow k ep tl se ca, rowD pl' ow' k' ep' tl' se' ca', .str qC] h = .ok (.bl (belowB (cl2 k ep tl) (cl1 k' ep' tl'))) h := by
  rw [call_of (fd := fd_is_ahead) rfl]
  simp [runF, fd_is_ahead, excs, exc, den, denT, denAnd, denOr, denTAnd, denTOr, dens, densS, denO, denA, denC, at?, ixN, asg?, asgs?, isAny, isA, lt?, ltF, clN_call, wrap, denI, src?, rng?, walkC, gdok, wipeE, line, bools?, cut, sIx, okS, c_closed_of hk, c_closed_of hk', c_is_below he]
theorem ar_ss {f : String → List D → Hh → Res D} : (clN LA.pm f).ar "_law_stamp_span" = some 1 := rfl
theorem ar_cs {f : String → List D → Hh → Res D} : (clN LA.pm f).ar "_law_closed_span" = some 1 := rfl
theorem c_lahead_t : callN LA.pm (n + 1) "_law_is_ahead" [rowD pl ow k ep tl se ca, rowD pl' ow' k' ep' tl' se' ca', .str qT] h = .ok (.bl (decide (ca ≤ se'))) h := by
  rw [call_of (fd := fd__law_is_ahead) rfl]
  simp [runF, fd__law_is_ahead, excs, exc, den, denT, denAnd, denOr, denTAnd, denTOr, dens, densS, denO, denA, denC, at?, ixN, asg?, asgs?, isAny, isA, lt?, ltF, clN_call, wrap, denI, src?, rng?, walkC, gdok, wipeE, line, bools?, cut, sIx, okS]
theorem c_lahead_s (hk : Kd k) (hk' : Kd k') (he : st2 k tl = .non ∨ ∃ c, lt? (st2 k tl) (st1 k' tl') = some c) : callN LA.pm (n + 2) "_law_is_ahead" [rowD pl ow k ep tl se ca, rowD pl' ow' k' ep' tl' se' ca', .str qS] h = .ok (.bl (belowB (st2 k tl) (st1 k' tl'))) h := by
  rw [call_of (fd := fd__law_is_ahead) rfl]
  rcases c_below_ he with ⟨e1, e2⟩ | ⟨c, h1, h2, e2⟩
  · simp [runF, fd__law_is_ahead, excs, exc, den, denT, denAnd, dens, asg?, at?, ixN, okS, ar_ss, clN_call, c_lstamp hk, c_lstamp hk', e1, e2]
  · simp [runF, fd__law_is_ahead, excs, exc, den, denT, denAnd, dens, asg?, at?, ixN, okS, ar_ss, clN_call, c_lstamp hk, c_lstamp hk', h1, h2, e2]
theorem c_lahead_c (hk : Kd k) (hk' : Kd k') (he : cl2 k ep tl = .non ∨ ∃ c, lt? (cl2 k ep tl) (cl1 k' ep' tl') = some c) : callN LA.pm (n + 2) "_law_is_ahead" [rowD pl ow k ep tl se ca, rowD pl' ow' k' ep' tl' se' ca', .str qC] h = .ok (.bl (belowB (cl2 k ep tl) (cl1 k' ep' tl'))) h := by
  rw [call_of (fd := fd__law_is_ahead) rfl]
  rcases c_below_ he with ⟨e1, e2⟩ | ⟨c, h1, h2, e2⟩
  · simp [runF, fd__law_is_ahead, excs, exc, den, denT, denAnd, dens, asg?, at?, ixN, okS, ar_cs, clN_call, c_lclosed hk, c_lclosed hk', e1, e2]
  · simp [runF, fd__law_is_ahead, excs, exc, den, denT, denAnd, dens, asg?, at?, ixN, okS, ar_cs, clN_call, c_lclosed hk, c_lclosed hk', h1, h2, e2]
def rsn (b1 b2 b3 : Bool) : List D := (if b1 then [.str qT] else []) ++ ((if b2 then [.str qS] else []) ++ (if b3 then [.str qC] else []))
theorem c_reasons (hk : Kd k) (hk' : Kd k') (h1 : st2 k tl = .non ∨ ∃ c, lt? (st2 k tl) (st1 k' tl') = some c) (h2 : cl2 k ep tl = .non ∨ ∃ c, lt? (cl2 k ep tl) (cl1 k' ep' tl') = some c) :
    callN LA.pm (n + 3) "reasons_for" [rowD pl ow k ep tl se ca, rowD pl' ow' k' ep' tl' se' ca'] h = .ok (.lst (rsn (decide (ca ≤ se')) (belowB (st2 k tl) (st1 k' tl')) (belowB (cl2 k ep tl) (cl1 k' ep' tl')))) h := by
  rw [call_of (fd := fd_reasons_for) rfl]
  simp [runF, fd_reasons_for, excs, exc, den, denT, denAnd, denOr, denTAnd, denTOr, dens, densS, denO, denA, denC, at?, ixN, asg?, asgs?, isAny, isA, lt?, ltF, clN_call, wrap, denI, src?, rng?, walkC, gdok, wipeE, line, bools?, cut, sIx, c_ahead_t, c_ahead_s hk hk' h1, c_ahead_c hk hk' h2]
  generalize decide (ca ≤ se') = b1
  generalize belowB (st2 k tl) (st1 k' tl') = b2
  generalize belowB (cl2 k ep tl) (cl1 k' ep' tl') = b3
  cases b1 <;> cases b2 <;> cases b3 <;> simp [rsn]
theorem c_lreasons (hk : Kd k) (hk' : Kd k') (h1 : st2 k tl = .non ∨ ∃ c, lt? (st2 k tl) (st1 k' tl') = some c) (h2 : cl2 k ep tl = .non ∨ ∃ c, lt? (cl2 k ep tl) (cl1 k' ep' tl') = some c) :
    callN LA.pm (n + 3) "_law_reasons" [rowD pl ow k ep tl se ca, rowD pl' ow' k' ep' tl' se' ca'] h = .ok (.lst (rsn (decide (ca ≤ se')) (belowB (st2 k tl) (st1 k' tl')) (belowB (cl2 k ep tl) (cl1 k' ep' tl')))) h := by
  rw [call_of (fd := fd__law_reasons) rfl]
  simp [runF, fd__law_reasons, excs, exc, den, denT, denAnd, denOr, denTAnd, denTOr, dens, densS, denO, denA, denC, at?, ixN, asg?, asgs?, isAny, isA, lt?, ltF, clN_call, wrap, denI, src?, rng?, walkC, gdok, wipeE, line, bools?, cut, sIx, c_lahead_t, c_lahead_s hk hk' h1, c_lahead_c hk hk' h2]
  generalize decide (ca ≤ se') = b1
  generalize belowB (st2 k tl) (st1 k' tl') = b2
  generalize belowB (cl2 k ep tl) (cl1 k' ep' tl') = b3
  cases b1 <;> cases b2 <;> cases b3 <;> simp [rsn]
end
end Py
end

section
set_option Elab.async false
set_option linter.all false
set_option maxRecDepth 100000
set_option maxHeartbeats 4000000
namespace Py
theorem lt_stamp {a b : D} (ha : Stamp a) (hb : Stamp b) : ∃ c, lt? a b = some c := by
  cases ha <;> cases hb <;> simp [lt?, cmpT, ltF]
theorem kd_own {o : D} {k : List Nat} (h : Own o k) : Kd k := by
  cases h with
  | c s k hs hk => rcases hk with h | h | h <;> simp [Kd, h]
  | k k hk => rcases hk with h | h <;> simp [Kd, h]
section
variable {n : Nat} {h : Hh} {pl : Int} {ow : D} {k : List Nat} {ep : Int} {tl : D} {se ca : Int} {pl' : Int} {ow' : D} {k' : List Nat} {ep' : Int} {tl' : D} {se' ca' : Int}
theorem st_stamp (ht : Told k ep tl) : Stamp (st1 k tl) ∧ (st2 k tl = .non ∨ Stamp (st2 k tl)) := by
  cases ht with
  | r e t h1 h2 => simp [st1, st2, Stamp.zero]
  | s k e d hk hd => rcases hk with rfl | rfl | rfl | rfl <;> simp [st1, st2, hd]
theorem cl_int (ht : Told k ep tl) : (∃ i, cl1 k ep tl = .int i) ∧ (cl2 k ep tl = .non ∨ ∃ i, cl2 k ep tl = .int i) := by
  cases ht with
  | r e t h1 h2 => simp [cl1, cl2]
  | s k e d hk hd => rcases hk with rfl | rfl | rfl | rfl <;> simp [cl1, cl2]
theorem cmp_st (r : RowF pl ow k ep tl se ca) (r' : RowF pl' ow' k' ep' tl' se' ca') : st2 k tl = .non ∨ ∃ c, lt? (st2 k tl) (st1 k' tl') = some c := by
  rcases (st_stamp r.tl).2 with h | h
  · exact .inl h
  · exact .inr (lt_stamp h (st_stamp r'.tl).1)
theorem cmp_cl (r : RowF pl ow k ep tl se ca) (r' : RowF pl' ow' k' ep' tl' se' ca') : cl2 k ep tl = .non ∨ ∃ c, lt? (cl2 k ep tl) (cl1 k' ep' tl') = some c := by
  rcases (cl_int r.tl).2 with h | ⟨i, h⟩
  · exact .inl h
  · obtain ⟨j, h2⟩ := (cl_int r'.tl).1
    rw [h, h2]
    exact .inr ⟨_, rfl⟩
theorem c_need_log {x y a b : D} (hx : ∀ n h, callN LA.pm (n + 2) "told_row" [x] h = .ok a h) (hy : ∀ n h, callN LA.pm (n + 2) "told_row" [y] h = .ok b h) (ra : ∀ n h, callN LA.pm (n + 5) "is_answer" [a] h = .ok (.bl true) h) (rb : ∀ n h, callN LA.pm (n + 5) "is_answer" [b] h = .ok (.bl true) h) :
    callN LA.pm (n + 6) "need_log" [.lst [x, y]] h = .ok (.tup [a, b]) h := by
  rw [call_of (fd := fd_need_log) rfl]
  simp [runF, fd_need_log, excs, exc, den, denT, denAnd, denOr, denTAnd, denTOr, dens, densS, denO, denA, denC, at?, ixN, asg?, asgs?, isAny, isA, lt?, ltF, clN_call, wrap, denI, src?, rng?, walkC, gdok, wipeE, line, bools?, cut, sIx, c_is_list_lst, hx, hy, ra, rb]
abbrev rsnR (k : List Nat) (ep : Int) (tl : D) (ca : Int) (k' : List Nat) (ep' : Int) (tl' : D) (se' : Int) : List D := rsn (decide (ca ≤ se')) (belowB (st2 k tl) (st1 k' tl')) (belowB (cl2 k ep tl) (cl1 k' ep' tl'))
theorem c_ahead_by {x y : D} (r : RowF pl ow k ep tl se ca) (r' : RowF pl' ow' k' ep' tl' se' ca') (hx : ∀ n h, callN LA.pm (n + 2) "told_row" [x] h = .ok (rowD pl ow k ep tl se ca) h) (hy : ∀ n h, callN LA.pm (n + 2) "told_row" [y] h = .ok (rowD pl' ow' k' ep' tl' se' ca') h) :
    callN LA.pm (n + 7) "ahead_by" [x, y] h = .ok (.tup (rsnR k ep tl ca k' ep' tl' se')) h := by
  rw [call_of (fd := fd_ahead_by) rfl]
  simp [runF, fd_ahead_by, excs, exc, den, denT, denAnd, denOr, denTAnd, denTOr, dens, densS, denO, denA, denC, at?, ixN, asg?, asgs?, isAny, isA, lt?, ltF, clN_call, wrap, denI, src?, rng?, walkC, gdok, wipeE, line, bools?, cut, sIx, c_need_log hx hy (fun n h => c_is_answer r) (fun n h => c_is_answer r'), c_reasons (kd_own r.ow) (kd_own r'.ow) (cmp_st r r') (cmp_cl r r')]
theorem c_lreas (r : RowF pl ow k ep tl se ca) (r' : RowF pl' ow' k' ep' tl' se' ca') : callN LA.pm (n + 3) "_law_reasons" [rowD pl ow k ep tl se ca, rowD pl' ow' k' ep' tl' se' ca'] h = .ok (.lst (rsnR k ep tl ca k' ep' tl' se')) h := c_lreasons (kd_own r.ow) (kd_own r'.ow) (cmp_st r r') (cmp_cl r r')
/-- a row as lists -/
theorem c_listed_f {d : D} (hd : (∃ i, d = .int i) ∨ (∃ s, d = .str s) ∨ d = .non) : callN LA.pm (n + 1) "_law_listed" [d] h = .ok d h := by
  rw [call_of (fd := fd__law_listed) rfl]
  rcases hd with ⟨i, rfl⟩ | ⟨s, rfl⟩ | rfl <;> simp [runF, fd__law_listed, excs, exc, den, denT, denAnd, denOr, denTAnd, denTOr, dens, densS, denO, denA, denC, at?, ixN, asg?, asgs?, isAny, isA, lt?, ltF, clN_call, wrap, denI, src?, rng?, walkC, gdok, wipeE, line, bools?, cut, sIx]
theorem c_listed_s {d : D} (hd : Stamp d) : ∃ a b, d = .tup [a, b] ∧ callN LA.pm (n + 2) "_law_listed" [d] h = .ok (.lst [a, b]) h := by
  have f := fun (d : D) hd => c_listed_f (n := n) (h := h) (d := d) hd
  cases hd with
  | zero =>
    refine ⟨_, _, rfl, ?_⟩
    rw [call_of (fd := fd__law_listed) rfl]
    simp [runF, fd__law_listed, excs, exc, den, denT, denAnd, denOr, denTAnd, denTOr, dens, densS, denO, denA, denC, at?, ixN, asg?, asgs?, isAny, isA, lt?, ltF, clN_call, wrap, denI, src?, rng?, walkC, gdok, wipeE, line, bools?, cut, sIx, f]
  | nm i s h1 h2 hs =>
    refine ⟨_, _, rfl, ?_⟩
    rw [call_of (fd := fd__law_listed) rfl]
    simp [runF, fd__law_listed, excs, exc, den, denT, denAnd, denOr, denTAnd, denTOr, dens, densS, denO, denA, denC, at?, ixN, asg?, asgs?, isAny, isA, lt?, ltF, clN_call, wrap, denI, src?, rng?, walkC, gdok, wipeE, line, bools?, cut, sIx, f]
def ltd (d : D) : D := match d with | .tup ds => .lst ds | d => d
theorem c_listed_t (ht : Told k ep tl) : callN LA.pm (n + 2) "_law_listed" [tl] h = .ok (ltd tl) h := by
  cases ht with
  | r e t h1 h2 => exact c_listed_f (.inl ⟨_, rfl⟩)
  | s k e d hk hd =>
    obtain ⟨a, b, rfl, e⟩ := c_listed_s (n := n) (h := h) hd
    exact e
theorem c_listed (r : RowF pl ow k ep tl se ca) : callN LA.pm (n + 3) "_law_listed" [rowD pl ow k ep tl se ca] h = .ok (.lst [.int pl, ow, .str k, .int ep, ltd tl, .int se, .int ca]) h := by
  have f := fun (d : D) hd => c_listed_f (n := n + 1) (h := h) (d := d) hd
  have ho : callN LA.pm (n + 2) "_law_listed" [ow] h = .ok ow h := f _ (by cases r.ow <;> simp)
  rw [call_of (fd := fd__law_listed) rfl]
  simp [runF, fd__law_listed, excs, exc, den, denT, denAnd, denOr, denTAnd, denTOr, dens, densS, denO, denA, denC, at?, ixN, asg?, asgs?, isAny, isA, lt?, ltF, clN_call, wrap, denI, src?, rng?, walkC, gdok, wipeE, line, bools?, cut, sIx, f, c_listed_t r.tl, ho]
theorem c_told_l (r : RowF pl ow k ep tl se ca) : callN LA.pm (n + 2) "told_row" [.lst [.int pl, ow, .str k, .int ep, tl, .int se, .int ca]] h = .ok (rowD pl ow k ep tl se ca) h := by
  obtain ⟨p0, p1, ho, e0, e1, ht, s0, s1, c1⟩ := r
  rw [call_of (fd := fd_told_row) rfl]
  cases ht with
  | r e t h1 h2 => simp [runF, fd_told_row, excs, exc, den, denT, denAnd, denOr, denTAnd, denTOr, dens, densS, denO, denA, denC, at?, ixN, asg?, asgs?, isAny, isA, lt?, ltF, clN_call, wrap, denI, src?, rng?, walkC, gdok, wipeE, line, bools?, cut, sIx, c_is_list_tup, c_is_list_lst, c_is_list_int]
  | s k e d hk hd => cases hd <;> simp [runF, fd_told_row, excs, exc, den, denT, denAnd, denOr, denTAnd, denTOr, dens, densS, denO, denA, denC, at?, ixN, asg?, asgs?, isAny, isA, lt?, ltF, clN_call, wrap, denI, src?, rng?, walkC, gdok, wipeE, line, bools?, cut, sIx, c_is_list_tup, c_is_list_lst, c_is_list_int]
theorem c_told_ll (r : RowF pl ow k ep tl se ca) : callN LA.pm (n + 2) "told_row" [.lst [.int pl, ow, .str k, .int ep, ltd tl, .int se, .int ca]] h = .ok (rowD pl ow k ep tl se ca) h := by
  obtain ⟨p0, p1, ho, e0, e1, ht, s0, s1, c1⟩ := r
  rw [call_of (fd := fd_told_row) rfl]
  cases ht with
  | r e t h1 h2 => simp [runF, fd_told_row, excs, exc, den, denT, denAnd, denOr, denTAnd, denTOr, dens, densS, denO, denA, denC, at?, ixN, asg?, asgs?, isAny, isA, lt?, ltF, clN_call, wrap, denI, src?, rng?, walkC, gdok, wipeE, line, bools?, cut, sIx, c_is_list_tup, c_is_list_lst, c_is_list_int, ltd]
  | s k e d hk hd => cases hd <;> simp [runF, fd_told_row, excs, exc, den, denT, denAnd, denOr, denTAnd, denTOr, dens, densS, denO, denA, denC, at?, ixN, asg?, asgs?, isAny, isA, lt?, ltF, clN_call, wrap, denI, src?, rng?, walkC, gdok, wipeE, line, bools?, cut, sIx, c_is_list_tup, c_is_list_lst, c_is_list_int, ltd]
end
end Py
end

section
set_option Elab.async false
set_option linter.all false
set_option maxRecDepth 100000
set_option maxHeartbeats 4000000
namespace Py
section
variable {n : Nat} {cells : List Int} {turn left many : Int} {Q : D → Hh → Prop}
theorem s_stamp {most : Int} (ht : 0 ≤ turn) (ht2 : turn < 999990) (hl : 0 ≤ left) (hm : 0 ≤ most) (hm2 : most < 999999999)
    (k : ∀ d t' l', Stamp d → turn ≤ t' → t' ≤ turn + 2 → 0 ≤ l' → Q d (penH cells t' l')) : (callN LA.pm (n + 3) "_law_stamp" [.ref 1, .int most] (penH cells turn left)).sat Q := by
  refine sat_call (fd := fd__law_stamp) rfl rfl ?_
  unfold fd__law_stamp
  refine ss_cons' ?_
  simp [exc, den, denT, denAnd, denOr, denTAnd, denTOr, dens, densS, denO, denA, denC, at?, ixN, asg?, asgs?, isAny, isA, lt?, ltF, clN_call, wrap, denI, src?, rng?, walkC, gdok, wipeE, line, bools?, cut, sIx]
  refine s_draw ht (by omega) hl (by omega) (by omega) fun d t' l' a b c e f => ?_
  try simp
  refine ss_cons' ?_
  by_cases hd : 0 < d
  · simp [exc, den, denT, denAnd, denOr, denTAnd, denTOr, dens, densS, denO, denA, denC, at?, ixN, asg?, asgs?, isAny, isA, lt?, ltF, clN_call, wrap, denI, src?, rng?, walkC, gdok, wipeE, line, bools?, cut, sIx, hd]
    refine s_pick (by omega) (by omega) f (by decide) (by decide) fun x t'' l'' hx c' e' f' => ?_
    try simp [line]
    refine k _ _ _ ?_ (by omega) (by omega) f'
    simp only [List.mem_cons, List.not_mem_nil, or_false] at hx
    rcases hx with rfl | rfl | rfl <;> exact .nm _ _ (by omega) (by omega) (by decide)
  · simp [exc, den, denT, denAnd, denOr, denTAnd, denTOr, dens, densS, denO, denA, denC, at?, ixN, asg?, asgs?, isAny, isA, lt?, ltF, clN_call, wrap, denI, src?, rng?, walkC, gdok, wipeE, line, bools?, cut, sIx, hd, line]
    exact k _ _ _ .zero (by omega) (by omega) f
theorem s_told {pl ep se ca : Int} {kd : List Nat} {tl : D} (ht : 0 ≤ turn) (ht2 : turn < 999990) (hl : 0 ≤ left) (hk : Kd kd)
    (k : ∀ ow t' l', Own ow kd → turn ≤ t' → t' ≤ turn + 1 → 0 ≤ l' → Q (rowD pl ow kd ep tl se ca) (penH cells t' l')) : (callN LA.pm (n + 3) "_law_told" [.ref 1, .int pl, .str kd, .int ep, tl, .int se, .int ca] (penH cells turn left)).sat Q := by
  refine sat_call (fd := fd__law_told) rfl rfl ?_
  unfold fd__law_told
  refine ss_cons' ?_
  have fin : ∀ ow t' l', Own ow kd → turn ≤ t' → t' ≤ turn + 1 → 0 ≤ l' → (excs (clN LA.pm (callN LA.pm (n + 2))) (fd__law_told.body.drop 1) [some (.ref 1), some (.int pl), some (.str kd), some (.int ep), some tl, some (.int se), some (.int ca), some ow] (penH cells t' l')).sat (fun _ h => Q .non h) Q := fun ow t' l' a b c d => by
    unfold fd__law_told
    simp only [List.drop]
    refine ss_cons' ?_
    simp [exc, den, denT, denAnd, denOr, denTAnd, denTOr, dens, densS, denO, denA, denC, at?, ixN, asg?, asgs?, isAny, isA, lt?, ltF, clN_call, wrap, denI, src?, rng?, walkC, gdok, wipeE, line, bools?, cut, sIx, line]
    exact k _ _ _ a b c d
  unfold fd__law_told at fin
  simp only [List.drop] at fin
  have own : ∀ x : D, x ∈ ([.str [97, 110, 110], .str [98, 111, 98], .str [99, 105, 100], .str [97, 98, 99, 100, 101, 102, 103, 104]] : List D) → (kd = kH ∨ kd = kK ∨ kd = kR) → Own x kd := fun x hx hk => by
    simp only [List.mem_cons, List.not_mem_nil, or_false] at hx
    rcases hx with rfl | rfl | rfl | rfl <;> exact .c _ _ (by decide) hk
  rcases hk with rfl | rfl | rfl | rfl | rfl
  · simp [exc, den, denT, denAnd, denOr, denTAnd, denTOr, dens, densS, denO, denA, denC, at?, ixN, asg?, asgs?, isAny, isA, lt?, ltF, clN_call, wrap, denI, src?, rng?, walkC, gdok, wipeE, line, bools?, cut, sIx, cmp?, in?, flat, eqF]
    exact s_pick ht (by omega) hl (by decide) (by decide) fun x t'' l'' hx c' e' f' => by
      try simp
      exact fin _ _ _ (own x hx (.inl rfl)) c' e' f'
  · simp [exc, den, denT, denAnd, denOr, denTAnd, denTOr, dens, densS, denO, denA, denC, at?, ixN, asg?, asgs?, isAny, isA, lt?, ltF, clN_call, wrap, denI, src?, rng?, walkC, gdok, wipeE, line, bools?, cut, sIx, cmp?, in?, flat, eqF]
    exact s_pick ht (by omega) hl (by decide) (by decide) fun x t'' l'' hx c' e' f' => by
      try simp
      exact fin _ _ _ (own x hx (.inr (.inl rfl))) c' e' f'
  · simp [exc, den, denT, denAnd, denOr, denTAnd, denTOr, dens, densS, denO, denA, denC, at?, ixN, asg?, asgs?, isAny, isA, lt?, ltF, clN_call, wrap, denI, src?, rng?, walkC, gdok, wipeE, line, bools?, cut, sIx, cmp?, in?, flat, eqF]
    exact s_pick ht (by omega) hl (by decide) (by decide) fun x t'' l'' hx c' e' f' => by
      try simp
      exact fin _ _ _ (own x hx (.inr (.inr rfl))) c' e' f'
  · simp [exc, den, denT, denAnd, denOr, denTAnd, denTOr, dens, densS, denO, denA, denC, at?, ixN, asg?, asgs?, isAny, isA, lt?, ltF, clN_call, wrap, denI, src?, rng?, walkC, gdok, wipeE, line, bools?, cut, sIx, cmp?, in?, flat, eqF]
    exact fin _ _ _ (.k _ (.inl rfl)) (by omega) (by omega) hl
  · simp [exc, den, denT, denAnd, denOr, denTAnd, denTOr, dens, densS, denO, denA, denC, at?, ixN, asg?, asgs?, isAny, isA, lt?, ltF, clN_call, wrap, denI, src?, rng?, walkC, gdok, wipeE, line, bools?, cut, sIx, cmp?, in?, flat, eqF]
    exact fin _ _ _ (.k _ (.inr rfl)) (by omega) (by omega) hl
theorem s_any {pl most : Int} (ht : 0 ≤ turn) (ht2 : turn < 999900) (hl : 0 ≤ left) (p0 : 0 ≤ pl) (p1 : pl ≤ 999999999) (hm : 4 ≤ most) (hm2 : most ≤ 499999999)
    (k : ∀ pl ow kd ep tl se ca t' l', RowF pl ow kd ep tl se ca → turn ≤ t' → t' ≤ turn + 10 → 0 ≤ l' → Q (rowD pl ow kd ep tl se ca) (penH cells t' l')) : (callN LA.pm (n + 4) "_law_any_row" [.ref 1, .int pl, .int most] (penH cells turn left)).sat Q := by
  refine sat_call (fd := fd__law_any_row) rfl rfl ?_
  unfold fd__law_any_row
  refine ss_cons' ?_
  simp [exc, den, denT, denAnd, denOr, denTAnd, denTOr, dens, densS, denO, denA, denC, at?, ixN, asg?, asgs?, isAny, isA, lt?, ltF, clN_call, wrap, denI, src?, rng?, walkC, gdok, wipeE, line, bools?, cut, sIx]
  refine s_pick ht (by omega) hl (by decide) (by decide) fun kd t1 l1 hk a1 b1 c1 => ?_
  obtain ⟨kd, rfl, hK⟩ : ∃ kd', kd = .str kd' ∧ Kd kd' := by
    simp only [List.mem_cons, List.not_mem_nil, or_false] at hk
    rcases hk with rfl | rfl | rfl | rfl | rfl | rfl <;> exact ⟨_, rfl, by simp [Kd]⟩
  try simp
  refine s_draw (by omega) (by omega) c1 (by omega) (by omega) fun ep t2 l2 a2 b2 c2 d2 e2 => ?_
  try simp
  -- from a told thing on
  have rest : ∀ tl t3 l3, Told kd ep tl → t2 ≤ t3 → t3 ≤ t2 + 2 → 0 ≤ l3 → (excs (clN LA.pm (callN LA.pm (n + 3))) (fd__law_any_row.body.drop 2) [some (.ref 1), some (.int pl), some (.int most), some (.str kd), some (.int ep), some tl, none] (penH cells t3 l3)).sat (fun _ h => Q .non h) Q := fun tl t3 l3 hT a3 b3 c3 => by
    unfold fd__law_any_row
    simp only [List.drop]
    refine ss_cons' ?_
    simp [exc, den, denT, denAnd, denOr, denTAnd, denTOr, dens, densS, denO, denA, denC, at?, ixN, asg?, asgs?, isAny, isA, lt?, ltF, clN_call, wrap, denI, src?, rng?, walkC, gdok, wipeE, line, bools?, cut, sIx]
    refine s_draw (by omega) (by omega) c3 (by omega) (by omega) fun se t4 l4 a4 b4 c4 d4 e4 => ?_
    try simp
    refine ss_cons' ?_
    simp [exc, den, denT, denAnd, denOr, denTAnd, denTOr, dens, densS, denO, denA, denC, at?, ixN, asg?, asgs?, isAny, isA, lt?, ltF, clN_call, wrap, denI, src?, rng?, walkC, gdok, wipeE, line, bools?, cut, sIx]
    refine s_pick (by omega) (by omega) e4 (by simp) (by simp) fun m t5 l5 hm' a5 b5 c5 => ?_
    obtain ⟨m, rfl, hm0, hm1⟩ : ∃ m', m = .int m' ∧ 0 < m' ∧ m' ≤ most := by
      simp only [List.mem_cons, List.not_mem_nil, or_false] at hm'
      rcases hm' with rfl | rfl
      · exact ⟨_, rfl, by decide, by omega⟩
      · exact ⟨_, rfl, by omega, by omega⟩
    refine s_draw (by omega) (by omega) c5 (by omega) (by omega) fun x t6 l6 a6 b6 c6 d6 e6 => ?_
    try simp
    refine s_told (by omega) (by omega) e6 hK fun ow t7 l7 hO a7 b7 c7 => ?_
    exact k _ _ _ _ _ _ _ _ _ ⟨p0, p1, hO, a2, by omega, hT, a4, by omega, by omega⟩ (by omega) (by omega) c7
  unfold fd__law_any_row at rest
  simp only [List.drop] at rest
  refine ss_cons' ?_
  rcases hK with rfl | rfl | rfl | rfl | rfl
  · simp [exc, den, denT, denAnd, denOr, denTAnd, denTOr, dens, densS, denO, denA, denC, at?, ixN, asg?, asgs?, isAny, isA, lt?, ltF, clN_call, wrap, denI, src?, rng?, walkC, gdok, wipeE, line, bools?, cut, sIx, okS]
    exact s_stamp (by omega) (by omega) e2 (by omega) (by omega) fun d t3 l3 hd a3 b3 c3 => by (try simp); exact rest _ _ _ (.s _ _ _ (by simp) hd) a3 b3 c3
  · simp [exc, den, denT, denAnd, denOr, denTAnd, denTOr, dens, densS, denO, denA, denC, at?, ixN, asg?, asgs?, isAny, isA, lt?, ltF, clN_call, wrap, denI, src?, rng?, walkC, gdok, wipeE, line, bools?, cut, sIx, okS]
    exact s_stamp (by omega) (by omega) e2 (by omega) (by omega) fun d t3 l3 hd a3 b3 c3 => by (try simp); exact rest _ _ _ (.s _ _ _ (by simp) hd) a3 b3 c3
  · simp [exc, den, denT, denAnd, denOr, denTAnd, denTOr, dens, densS, denO, denA, denC, at?, ixN, asg?, asgs?, isAny, isA, lt?, ltF, clN_call, wrap, denI, src?, rng?, walkC, gdok, wipeE, line, bools?, cut, sIx, okS]
    exact s_draw (by omega) (by omega) e2 (by omega) (by omega) fun d t3 l3 a3 b3 c3 d3 e3 => by (try simp); exact rest _ _ _ (.r _ _ (by omega) (by omega)) (by omega) (by omega) e3
  · simp [exc, den, denT, denAnd, denOr, denTAnd, denTOr, dens, densS, denO, denA, denC, at?, ixN, asg?, asgs?, isAny, isA, lt?, ltF, clN_call, wrap, denI, src?, rng?, walkC, gdok, wipeE, line, bools?, cut, sIx, okS]
    exact s_stamp (by omega) (by omega) e2 (by omega) (by omega) fun d t3 l3 hd a3 b3 c3 => by (try simp); exact rest _ _ _ (.s _ _ _ (by simp) hd) a3 b3 c3
  · simp [exc, den, denT, denAnd, denOr, denTAnd, denTOr, dens, densS, denO, denA, denC, at?, ixN, asg?, asgs?, isAny, isA, lt?, ltF, clN_call, wrap, denI, src?, rng?, walkC, gdok, wipeE, line, bools?, cut, sIx, okS]
    exact s_stamp (by omega) (by omega) e2 (by omega) (by omega) fun d t3 l3 hd a3 b3 c3 => by (try simp); exact rest _ _ _ (.s _ _ _ (by simp) hd) a3 b3 c3
end
end Py
end

section
set_option Elab.async false
set_option linter.all false
set_option maxRecDepth 100000
set_option maxHeartbeats 4000000
namespace Py
abbrev qRows : List Nat := [114, 111, 119, 115]
abbrev badV : D := .obj "BadValue" ["part"] [.str qRows]
section
variable {n : Nat} {h : Hh}
theorem c_int_no {d : D} (hd : d = .non ∨ (∃ b, d = .bl b) ∨ (∃ s, d = .str s) ∨ (∃ ds, d = .tup ds)) : callN LA.pm (n + 1) "is_integer" [d] h = .ok (.bl false) h := by
  rw [call_of (fd := fd_is_integer) rfl]
  rcases hd with rfl | ⟨b, rfl⟩ | ⟨s, rfl⟩ | ⟨ds, rfl⟩ <;> simp [runF, fd_is_integer, excs, exc, den, denT, denAnd, denOr, denTAnd, denTOr, dens, densS, denO, denA, denC, at?, ixN, asg?, asgs?, isAny, isA, lt?, ltF, clN_call, wrap]
theorem c_within_no {d : D} {l m : Int} (hd : d = .non ∨ (∃ b, d = .bl b) ∨ (∃ s, d = .str s) ∨ (∃ ds, d = .tup ds)) : callN LA.pm (n + 2) "is_within" [d, .int l, .int m] h = .ok (.bl false) h := by
  rw [call_of (fd := fd_is_within) rfl]
  simp [runF, fd_is_within, excs, exc, den, denT, denAnd, denOr, denTAnd, denTOr, dens, densS, denO, denA, denC, at?, ixN, asg?, asgs?, isAny, isA, lt?, ltF, clN_call, wrap, c_int_no hd]
theorem nm_no1 : callN LA.pm (n + 1) "is_name" [.str [110, 105, 110, 101, 115, 105, 103, 110, 115]] h = .ok (.bl false) h := by kernel_rfl
theorem nm_no2 : callN LA.pm (n + 1) "is_name" [.str []] h = .ok (.bl false) h := by kernel_rfl
theorem pl_no {v : Int} (hv : ¬ (0 ≤ v ∧ v ≤ 999999999)) : callN LA.pm (n + 3) "is_place" [.int v] h = .ok (.bl false) h := by
  rw [call_of (fd := fd_is_place) rfl]
  simp [runF, fd_is_place, excs, exc, den, denT, denAnd, denOr, denTAnd, denTOr, dens, densS, denO, denA, denC, at?, ixN, asg?, asgs?, isAny, isA, lt?, ltF, clN_call, wrap, c_is_within]
  omega
theorem pl_nob {b : Bool} : callN LA.pm (n + 3) "is_place" [.bl b] h = .ok (.bl false) h := by
  rw [call_of (fd := fd_is_place) rfl]
  simp [runF, fd_is_place, excs, exc, den, denT, denAnd, denOr, denTAnd, denTOr, dens, densS, denO, denA, denC, at?, ixN, asg?, asgs?, isAny, isA, lt?, ltF, clN_call, wrap, c_within_no]
def Bad (d : D) : Prop := ∃ a, (∀ n h, callN LA.pm (n + 2) "told_row" [d] h = .ok a h) ∧ ∀ n h, callN LA.pm (n + 5) "is_answer" [a] h = .ok (.bl false) h
theorem c_need_bad {x y a b : D} {p q : Bool} (hx : ∀ n h, callN LA.pm (n + 2) "told_row" [x] h = .ok a h) (hy : ∀ n h, callN LA.pm (n + 2) "told_row" [y] h = .ok b h) (ra : ∀ n h, callN LA.pm (n + 5) "is_answer" [a] h = .ok (.bl p) h) (rb : ∀ n h, callN LA.pm (n + 5) "is_answer" [b] h = .ok (.bl q) h) (hpq : (p && q) = false) :
    callN LA.pm (n + 6) "need_log" [.lst [x, y]] h = .exc badV h := by
  rw [call_of (fd := fd_need_log) rfl]
  simp [runF, fd_need_log, excs, exc, den, denT, denAnd, denOr, denTAnd, denTOr, dens, densS, denO, denA, denC, at?, ixN, asg?, asgs?, isAny, isA, lt?, ltF, clN_call, wrap, denI, src?, rng?, walkC, gdok, wipeE, line, bools?, cut, sIx, c_is_list_lst, hx, hy, ra, rb, hpq]
theorem c_by_bad {x y : D} (hb : callN LA.pm (n + 6) "need_log" [.lst [x, y]] h = .exc badV h) : callN LA.pm (n + 7) "ahead_by" [x, y] h = .exc badV h := by
  rw [call_of (fd := fd_ahead_by) rfl]
  simp [runF, fd_ahead_by, excs, exc, den, denT, denAnd, denOr, denTAnd, denTOr, dens, densS, denO, denA, denC, at?, ixN, asg?, asgs?, isAny, isA, lt?, ltF, clN_call, wrap, denI, src?, rng?, walkC, gdok, wipeE, line, bools?, cut, sIx, hb]
theorem c_hear {m : Nat} : tailN LA.pm "_law_hear" (.ref m) badV h = .ok (.tup [.str [118, 97, 108, 117, 101], .str qRows]) h := by kernel_rfl
end
end Py
end

section
set_option Elab.async false
set_option linter.all false
set_option maxRecDepth 100000
set_option maxHeartbeats 8000000
namespace Py
section
variable {n : Nat} {h : Hh} {pl : Int} {ow : D} {k : List Nat} {ep : Int} {tl : D} {se ca : Int} {pl' : Int} {ow' : D} {k' : List Nat} {ep' : Int} {tl' : D} {se' ca' : Int}
theorem lt_self_nat : ∀ s : List Nat, decide (s < s) = false := fun s => by simp
theorem below_stamp {d : D} (hd : Stamp d) : belowB d d = false := by
  cases hd <;> simp [belowB, lt?, cmpT, ltF, lexD, eqF]
theorem rsn_self (r : RowF pl ow k ep tl se ca) : rsnR k ep tl ca k ep tl se = [] := by
  obtain ⟨p0, p1, ho, e0, e1, ht, s0, s1, c1⟩ := r
  have a3 : ¬ ca ≤ se := by omega
  have hs : belowB (st2 k tl) (st1 k tl) = false := by
    cases ht with
    | r e t h1 h2 => simp [st1, st2]
    | s k e d hk hd => rcases hk with rfl | rfl | rfl | rfl <;> simp [st1, st2, below_stamp hd]
  have hc : belowB (cl2 k ep tl) (cl1 k ep tl) = false := by
    cases ht with
    | r e t h1 h2 => simp [cl1, cl2, belowB, lt?, ltF]
    | s k e d hk hd => rcases hk with rfl | rfl | rfl | rfl <;> simp [cl1, cl2, belowB, lt?, ltF] <;> omega
  unfold rsnR
  rw [hs, hc]
  simp [rsn, a3]
theorem rsn_ne (a b c : Bool) : cmp? h .ne (.tup (rsn a b c)) (.tup (rsn a b c)) = some false := by
  cases a <;> cases b <;> cases c <;> kernel_rfl
theorem rsn_shows (a b c d e f : Bool) : shows (.lst [.tup (rsn a b c), .tup (rsn d e f), .tup []]) = true := by
  cases a <;> cases b <;> cases c <;> cases d <;> cases e <;> cases f <;> kernel_rfl
theorem walk_id {f : D → Hh → Res (Option D)} : ∀ (ds acc : List D), (∀ d ∈ ds, ∀ h, f d h = .ok (some d) h) → acc.length + ds.length ≤ line → walkC [] f ds acc h = .ok (acc ++ ds) h
  | [], acc, _, _ => by simp [walkC, gdok]
  | d :: ds, acc, hf, hl => by
    rw [walkC, if_pos (show gdok [] h = true from rfl), hf d List.mem_cons_self h]
    simp only [Res.bind_ok]
    rw [if_pos (by simp at hl; omega), walk_id ds (acc ++ [d]) (fun d' h' => hf d' (List.mem_cons_of_mem _ h')) (by simp at hl ⊢; omega)]
    simp
theorem c_pen {cells : List Int} (hl : cells.length ≤ 63) : callN LA.pm (n + 1) "_law_pen" [.fz (cells.map D.int)] [.tab] = .ok (.ref 1) (penH cells 0 0) := by
  have e1 : cut (cells.map D.int) none (some 63) = cells.map D.int := by
    show (List.drop 0 (cells.map D.int)).take (min 63 (cells.map D.int).length - 0) = _
    rw [List.drop_zero, List.take_of_length_le]
    rw [List.length_map]
    omega
  rw [call_of (fd := fd__law_pen) rfl]
  simp [runF, fd__law_pen, excs, exc, den, dens, denA, denI, denO, src?, clN_call, e1, wrap]
  rw [walk_id _ _ (fun d hd h => by
    obtain ⟨i, _, rfl⟩ := List.mem_map.mp hd
    simp [asg?, wipeE, denC, den, dens]) (by simp [line]; omega)]
  simp [line, wrap]
end
end Py
end

section
set_option Elab.async false
set_option linter.all false
set_option maxRecDepth 100000
set_option maxHeartbeats 8000000
namespace Py
theorem sat_out {r : Res D} (s : r.sat fun d _ => d = .bl true) : ∃ h', r = .ok (.bl true) h' := by
  cases r with
  | ok d h => exact ⟨h, by rw [show d = .bl true from s]⟩
  | _ => exact s.elim
abbrev loopB : List S := match fd_law.body with
  | [_, .for _ _ b, _, _, _, _, _, _, _, _, _, _, _, _, _, _, _] => b
  | _ => []
section
variable {n : Nat} {ns : List Int} {N : Env → Hh → Prop} {R : D → Hh → Prop}
theorem s_turn {s o2 o3 o4 o5 o6 : Option D} {t l : Int} (ht : 0 ≤ t) (ht2 : t < 900000) (hl : 0 ≤ l) (k : ∀ o3 o4 o5 o6 t' l', t ≤ t' → t' ≤ t + 22 → 0 ≤ l' → N [s, some (.ref 1), o2, o3, o4, o5, o6, none, none, none, none, none, none, none, none, none] (penH ns t' l')) :
    (excs (clN LA.pm (callN LA.pm (n + 10))) loopB [s, some (.ref 1), o2, o3, o4, o5, o6, none, none, none, none, none, none, none, none, none] (penH ns t l)).sat N R := by
  show (excs _ (match fd_law.body with | [_, .for _ _ b, _, _, _, _, _, _, _, _, _, _, _, _, _, _, _] => b | _ => []) _ _).sat N R
  unfold fd_law
  dsimp only
  refine ss_cons' ?_
  simp [exc, den, denT, denAnd, denOr, denTAnd, denTOr, dens, densS, denO, denA, denC, at?, ixN, asg?, asgs?, isAny, isA, lt?, ltF, clN_call, wrap, denI, src?, rng?, walkC, gdok, wipeE, line, bools?, cut, sIx]
  refine s_pick ht (by omega) hl (by simp) (by simp) fun pl t1 l1 hp a1 b1 c1 => ?_
  obtain ⟨pl, rfl, hp0, hp1⟩ : ∃ p, pl = .int p ∧ 0 ≤ p ∧ p ≤ 999999999 := by
    simp only [List.mem_cons, List.not_mem_nil, or_false] at hp
    rcases hp with rfl | rfl | rfl <;> exact ⟨_, rfl, by decide, by decide⟩
  refine s_pick (by omega) (by omega) c1 (by simp) (by simp) fun mo t2 l2 hm a2 b2 c2 => ?_
  obtain ⟨mo, rfl, hm0, hm1⟩ : ∃ p, mo = .int p ∧ 4 ≤ p ∧ p ≤ 499999999 := by
    simp only [List.mem_cons, List.not_mem_nil, or_false] at hm
    rcases hm with rfl | rfl | rfl <;> exact ⟨_, rfl, by decide, by decide⟩
  refine ss_cons' ?_
  simp [exc, den, denT, denAnd, denOr, denTAnd, denTOr, dens, densS, denO, denA, denC, at?, ixN, asg?, asgs?, isAny, isA, lt?, ltF, clN_call, wrap, denI, src?, rng?, walkC, gdok, wipeE, line, bools?, cut, sIx]
  refine s_any (by omega) (by omega) c2 hp0 hp1 hm0 hm1 fun q1 w1 k1 e1 d1 s1 x1 t3 l3 r1 a3 b3 c3 => ?_
  refine s_any (by omega) (by omega) c3 hp0 hp1 hm0 hm1 fun q2 w2 k2 e2 d2 s2 x2 t4 l4 r2 a4 b4 c4 => ?_
  refine ss_cons' (ss_ite' ?_)
  have told := fun {pl ow k ep tl se ca} (r : RowF pl ow k ep tl se ca) n h => c_told_row (n := n) (h := h) r
  simp [den, denT, dens, densS, denA, line, wrap, clN_call, c_ahead_by r1 r2 (told r1) (told r2), c_ahead_by r2 r1 (told r2) (told r1), c_ahead_by r1 r1 (told r1) (told r1), c_lreas r1 r2, c_lreas r2 r1, rsn_self r1, rsn_shows, D.beq_self]
  refine ss_nil'' ?_
  refine ss_cons' (ss_ite' ?_)
  have told2 := fun {x} (e : x = D.lst [.int q2, w2, .str k2, .int e2, ltd d2, .int s2, .int x2]) n h => e ▸ c_told_ll (n := n) (h := h) r2
  simp [den, denT, dens, denA, line, wrap, clN_call, c_listed r2, c_ahead_by r1 r2 (fun n h => c_told_l (n := n) (h := h) r1) (fun n h => c_told_ll (n := n) (h := h) r2), c_lreas r1 r2, rsn_ne]
  refine ss_nil'' (ss_nil'' ?_)
  exact k _ _ _ _ _ _ (by omega) (by omega) c4
end
end Py
end

section
set_option Elab.async false
set_option linter.all false
set_option maxRecDepth 100000
set_option maxHeartbeats 8000000
namespace Py
section
variable {n : Nat} {ns : List Int} {N : Env → Hh → Prop} {e m : Int} {h : Hh}
theorem bad_nt {d : D} (ht : ∀ n h, callN LA.pm (n + 1) "is_list" [d] h = .ok (.bl false) h) (hd : ∀ h, isAny h d ["tuple"] = some false) : Bad d := by
  refine ⟨d, fun n h => ?_, fun n h => ?_⟩
  · rw [call_of (fd := fd_told_row) rfl]
    simp [runF, fd_told_row, excs, exc, den, denT, denTOr, dens, asg?, clN_call, ht, hd]
  · rw [call_of (fd := fd_is_answer) rfl]
    simp [runF, fd_is_answer, excs, exc, den, denT, denTOr, dens, asg?, clN_call, hd]
theorem bad_len {ds : List D} (hl : ds.length ≠ 7) : Bad (.tup ds) := by
  have hl' : ((ds.length : Int) != 7) = true := by simp; omega
  refine ⟨.tup ds, fun n h => ?_, fun n h => ?_⟩
  · rw [call_of (fd := fd_told_row) rfl]
    simp [runF, fd_told_row, excs, exc, den, denT, denAnd, denOr, denTAnd, denTOr, dens, densS, denO, denA, denC, at?, ixN, asg?, asgs?, isAny, isA, lt?, ltF, clN_call, wrap, c_is_list_tup, hl']
  · rw [call_of (fd := fd_is_answer) rfl]
    simp [runF, fd_is_answer, excs, exc, den, denT, denAnd, denOr, denTAnd, denTOr, dens, densS, denO, denA, denC, at?, ixN, asg?, asgs?, isAny, isA, lt?, ltF, clN_call, wrap, hl']
/-- seven parts, the fifth no list -/
theorem told7 {a b c d f g i : D} (hf : ∀ n h, callN LA.pm (n + 1) "is_list" [f] h = .ok (.bl false) h ∨ ∃ ds, f = .tup ds) : ∀ n h, callN LA.pm (n + 2) "told_row" [.tup [a, b, c, d, f, g, i]] h = .ok (.tup [a, b, c, d, f, g, i]) h := fun n h => by
  rw [call_of (fd := fd_told_row) rfl]
  rcases hf n h with hf | ⟨ds, rfl⟩
  · simp [runF, fd_told_row, excs, exc, den, denT, denAnd, denOr, denTAnd, denTOr, dens, densS, denO, denA, denC, at?, ixN, asg?, asgs?, isAny, isA, lt?, ltF, clN_call, wrap, denI, src?, rng?, walkC, gdok, wipeE, line, bools?, cut, sIx, c_is_list_tup, hf]
  · simp [runF, fd_told_row, excs, exc, den, denT, denAnd, denOr, denTAnd, denTOr, dens, densS, denO, denA, denC, at?, ixN, asg?, asgs?, isAny, isA, lt?, ltF, clN_call, wrap, denI, src?, rng?, walkC, gdok, wipeE, line, bools?, cut, sIx, c_is_list_tup]
abbrev firstD (e m : Int) : D := rowD 5 (.str ann) kH e (.tup [.int m, .str [98]]) 3 6
abbrev lastD (e m : Int) : D := rowD 5 .non kF e (.tup [.int m, .str [98]]) 6 9
abbrev badL (e m : Int) : List D := [D.non, D.int 5, D.tup [], D.str [114, 111, 119],
  D.tup [D.int 5, D.str ann, D.str kH, D.int e, D.tup [D.int m, D.str [98]], D.int 3],
  D.tup [D.int 5, D.str ann, D.str kH, D.int e, D.tup [D.int m, D.str [98]], D.int 3, D.int 6, D.int 1],
  D.tup [D.int 5, D.str ann, D.str kH, D.int 1, D.tup [D.int 1, D.str [98]], D.int 3, D.int 3],
  D.tup [D.int (-1), D.str ann, D.str kH, D.int e, D.tup [D.int m, D.str [98]], D.int 3, D.int 6],
  D.tup [D.bl true, D.str ann, D.str kH, D.int e, D.tup [D.int m, D.str [98]], D.int 3, D.int 6],
  D.tup [D.int 5, D.non, D.str kH, D.int e, D.tup [D.int m, D.str [98]], D.int 3, D.int 6],
  D.tup [D.int 5, D.str ann, D.str kF, D.int e, D.tup [D.int m, D.str [98]], D.int 6, D.int 9],
  D.tup [D.int 5, D.str ann, D.str [104, 101, 97, 114], D.int e, D.tup [D.int m, D.str [98]], D.int 3, D.int 6],
  D.tup [D.int 5, D.str ann, D.str kH, D.int (-1), D.tup [D.int m, D.str [98]], D.int 3, D.int 6],
  D.tup [D.int 5, D.str ann, D.str kH, D.int e, D.tup [D.int 0, D.str [98]], D.int 3, D.int 6],
  D.tup [D.int 5, D.str ann, D.str kH, D.int e, D.tup [D.int 1, D.str []], D.int 3, D.int 6],
  D.tup [D.int 5, D.str ann, D.str kH, D.int e, D.int 3, D.int 3, D.int 6],
  D.tup [D.int 5, D.str ann, D.str kH, D.int e, D.tup [D.int m, D.str [98]], D.int (-1), D.int 4],
  D.dic [] [],
  D.tup [D.int 5, D.str cid, D.str kR, D.int 4, D.int 3, D.int 1, D.int 2],
  D.tup [D.int 5, D.str cid, D.str kR, D.int 4, D.tup [D.int 4, D.str [97]], D.int 1, D.int 2],
  D.tup [D.int 5, D.str [110, 105, 110, 101, 115, 105, 103, 110, 115], D.str kH, D.int 1, D.tup [D.int 1, D.str [98]], D.int 1, D.int 2],
  D.tup [D.int 5, D.str ann, D.str kH, D.int e, D.tup [D.bl true, D.str [98]], D.int 3, D.int 6]]
theorem il_non : callN LA.pm (n + 1) "is_list" [.non] h = .ok (.bl false) h := by kernel_rfl
theorem il_str {s : List Nat} : callN LA.pm (n + 1) "is_list" [.str s] h = .ok (.bl false) h := by kernel_rfl
theorem il_dic {s t : List D} : callN LA.pm (n + 1) "is_list" [.dic s t] h = .ok (.bl false) h := by kernel_rfl
theorem ow1 {s k : List Nat} (hs : s ∈ nms) (hk : k = kF ∨ k = [104, 101, 97, 114]) : callN LA.pm (n + 3) "is_owned" [.str s, .str k] h = .ok (.bl false) h := by
  rw [call_of (fd := fd_is_owned) rfl]
  rcases hk with rfl | rfl <;> simp [runF, fd_is_owned, excs, exc, den, denT, denAnd, denOr, denTAnd, denTOr, dens, densS, denO, denA, denC, at?, ixN, asg?, asgs?, isAny, isA, lt?, ltF, clN_call, wrap, c_is_name hs, cmp?, in?, flat, eqF]
theorem ow2 : callN LA.pm (n + 3) "is_owned" [.non, .str kH] h = .ok (.bl false) h := by
  rw [call_of (fd := fd_is_owned) rfl]
  simp [runF, fd_is_owned, excs, exc, den, denT, denAnd, denOr, denTAnd, denTOr, dens, densS, denO, denA, denC, at?, ixN, asg?, asgs?, isAny, isA, lt?, ltF, clN_call, wrap, cmp?, in?, flat, eqF]
theorem ow3 : callN LA.pm (n + 3) "is_owned" [.str [110, 105, 110, 101, 115, 105, 103, 110, 115], .str kH] h = .ok (.bl false) h := by
  rw [call_of (fd := fd_is_owned) rfl]
  simp [runF, fd_is_owned, excs, exc, den, denT, denAnd, denOr, denTAnd, denTOr, dens, densS, denO, denA, denC, at?, ixN, asg?, asgs?, isAny, isA, lt?, ltF, clN_call, wrap, nm_no1, cmp?, in?, flat, eqF]
theorem sp1 : callN LA.pm (n + 3) "is_stamp" [.tup [.int 0, .str [98]]] h = .ok (.bl false) h := by
  rw [call_of (fd := fd_is_stamp) rfl]
  simp [runF, fd_is_stamp, excs, exc, den, denT, denAnd, denOr, denTAnd, denTOr, dens, densS, denO, denA, denC, at?, ixN, asg?, asgs?, isAny, isA, lt?, ltF, clN_call, wrap, c_is_within, cmp?, still, pure?, pures?, okS, eqD, eqDs]
theorem sp2 : callN LA.pm (n + 3) "is_stamp" [.tup [.int 1, .str []]] h = .ok (.bl false) h := by
  rw [call_of (fd := fd_is_stamp) rfl]
  simp [runF, fd_is_stamp, excs, exc, den, denT, denAnd, denOr, denTAnd, denTOr, dens, densS, denO, denA, denC, at?, ixN, asg?, asgs?, isAny, isA, lt?, ltF, clN_call, wrap, c_is_within, nm_no2]
theorem sp3 {v : Int} : callN LA.pm (n + 3) "is_stamp" [.int v] h = .ok (.bl false) h := by
  rw [call_of (fd := fd_is_stamp) rfl]
  simp [runF, fd_is_stamp, excs, exc, den, denT, denAnd, denOr, denTAnd, denTOr, dens, densS, denO, denA, denC, at?, ixN, asg?, asgs?, isAny, isA, lt?, ltF, clN_call, wrap]
theorem sp4 {s : List Nat} : callN LA.pm (n + 3) "is_stamp" [.tup [.bl true, .str s]] h = .ok (.bl false) h := by
  rw [call_of (fd := fd_is_stamp) rfl]
  simp [runF, fd_is_stamp, excs, exc, den, denT, denAnd, denOr, denTAnd, denTOr, dens, densS, denO, denA, denC, at?, ixN, asg?, asgs?, isAny, isA, lt?, ltF, clN_call, wrap, c_within_no]
theorem ans7 {a b c d f g i : D} (hf : ∀ n h, callN LA.pm (n + 1) "is_list" [f] h = .ok (.bl false) h ∨ ∃ ds, f = .tup ds) (hA : ∀ n h, callN LA.pm (n + 5) "is_answer" [.tup [a, b, c, d, f, g, i]] h = .ok (.bl false) h) : Bad (.tup [a, b, c, d, f, g, i]) := ⟨_, told7 hf, hA⟩
theorem bad_all (e0 : 0 ≤ e) (e1 : e ≤ 999999999) (m0 : 1 ≤ m) (m1 : m ≤ 999999999) : ∀ d ∈ badL e m, Bad d := by
  have sb : Stamp (.tup [.int m, .str [98]]) := .nm _ _ m0 m1 (by decide)
  have sb1 : Stamp (.tup [.int 1, .str [98]]) := .nm _ _ (by decide) (by decide) (by decide)
  have p5 : ∀ n h, callN LA.pm (n + 3) "is_place" [.int 5] h = .ok (.bl true) h := fun n h => c_is_place (by decide) (by decide)
  have oA : ∀ n h, callN LA.pm (n + 3) "is_owned" [.str ann, .str kH] h = .ok (.bl true) h := fun n h => c_is_owned (.c _ _ (by decide) (by simp))
  have oC : ∀ n h, callN LA.pm (n + 3) "is_owned" [.str cid, .str kR] h = .ok (.bl true) h := fun n h => c_is_owned (.c _ _ (by decide) (by simp))
  have pm : ∀ n h, callN LA.pm (n + 3) "is_place" [.int (-1)] h = .ok (.bl false) h := fun n h => pl_no (by decide)
  have pb : ∀ n h, callN LA.pm (n + 3) "is_place" [.bl true] h = .ok (.bl false) h := fun n h => pl_nob
  have tt : ∀ {ds : List D} (n : Nat) (h : Hh), callN LA.pm (n + 1) "is_list" [.tup ds] h = .ok (.bl false) h ∨ ∃ ds', D.tup ds = .tup ds' := fun n h => .inr ⟨_, rfl⟩
  have ti : ∀ {i : Int} (n : Nat) (h : Hh), callN LA.pm (n + 1) "is_list" [.int i] h = .ok (.bl false) h ∨ ∃ ds', D.int i = .tup ds' := fun n h => .inl c_is_list_int
  intro d hd
  simp only [List.mem_cons, List.not_mem_nil, or_false] at hd
  rcases hd with rfl | rfl | rfl | rfl | rfl | rfl | rfl | rfl | rfl | rfl | rfl | rfl | rfl | rfl | rfl | rfl | rfl | rfl | rfl | rfl | rfl | rfl
  · exact bad_nt (fun _ _ => il_non) fun _ => rfl
  · exact bad_nt (fun _ _ => c_is_list_int) fun _ => rfl
  · exact bad_len (by decide)
  · exact bad_nt (fun _ _ => il_str) fun _ => rfl
  · exact bad_len (by simp)
  · exact bad_len (by simp)
  all_goals first
    | exact bad_nt (fun _ _ => il_dic) fun _ => rfl
    | (refine ans7 (by first | exact tt | exact ti) fun n h => ?_
       rw [call_of (fd := fd_is_answer) rfl]
       simp [runF, fd_is_answer, excs, exc, den, denT, denAnd, denOr, denTAnd, denTOr, dens, densS, denO, denA, denC, at?, ixN, asg?, asgs?, isAny, isA, lt?, ltF, clN_call, wrap, denI, src?, rng?, walkC, gdok, wipeE, line, bools?, cut, sIx, p5, oA, oC, pm, pb, ow1, ow2, ow3, sp1, sp2, sp3, sp4, c_is_within, c_within_no, c_is_stamp sb, c_is_stamp sb1, e0, e1, okS]; done)
end
end Py
end

section
set_option Elab.async false
set_option linter.all false
set_option maxRecDepth 100000
set_option maxHeartbeats 8000000
namespace Py
section
variable {n : Nat} {ns : List Int} {N : Env → Hh → Prop} {e m : Int} {h : Hh}
theorem by_bad {d : D} {e m : Int} (hb : Bad d) (r : RowF 5 (.str ann) kH e (.tup [.int m, .str [98]]) 3 6) : (∀ n h, callN LA.pm (n + 7) "ahead_by" [d, firstD e m] h = .exc badV h) ∧ ∀ n h, callN LA.pm (n + 7) "ahead_by" [firstD e m, d] h = .exc badV h := by
  obtain ⟨a, h1, h2⟩ := hb
  exact ⟨fun n h => c_by_bad (c_need_bad h1 (fun n h => c_told_row r) h2 (fun n h => c_is_answer r) rfl), fun n h => c_by_bad (c_need_bad (fun n h => c_told_row r) h1 (fun n h => c_is_answer r) h2 rfl)⟩
theorem d_hear {f : String → List D → Hh → Res D} {b : E} {env : Env} {h h1 : Hh} (e : den (clN LA.pm f) b env (h ++ [.lst []]) = .exc badV h1) : den (clN LA.pm f) (.hear "_law_hear" b) env h = .ok (.tup [.str [118, 97, 108, 117, 101], .str qRows]) h1 := by
  rw [den, e]
  show (if (clN LA.pm f).sub "BadValue" (clN LA.pm f).lia = some true then (clN LA.pm f).tail "_law_hear" (.ref h.length) badV h1 else .stuck) = _
  rw [if_pos (show (clN LA.pm f).sub "BadValue" (clN LA.pm f).lia = some true from (show LA.pm.sub "BadValue" LA.pm.lia = some true by decide +kernel))]
  exact c_hear (m := h.length) (h := h1)
theorem s_end {s o2 o3 o4 o5 o6 o7 o8 o9 o12 o13 : Option D} {t l : Int} (e0 : 0 ≤ e) (e1 : e ≤ 999999999) (m0 : 1 ≤ m) (m1 : m ≤ 999999999) (ht : 0 ≤ t) (ht2 : t < 999990) (hl : 0 ≤ l) :
    (excs (clN LA.pm (callN LA.pm (n + 10))) (fd_law.body.drop 10) [s, some (.ref 1), o2, o3, o4, o5, o6, o7, o8, o9, some (firstD e m), some (lastD e m), o12, o13, none, none] (penH ns t l)).sat N (fun d _ => d = .bl true) := by
  have hbad := bad_all e0 e1 m0 m1
  have rF : RowF 5 (.str ann) kH e (.tup [.int m, .str [98]]) 3 6 := ⟨by decide, by decide, .c _ _ (by decide) (by simp), e0, e1, .s _ _ _ (by simp) (.nm _ _ m0 m1 (by decide)), by decide, by decide, by decide⟩
  unfold fd_law
  dsimp only [List.drop]
  refine ss_cons' ?_
  simp [exc, den, denT, denAnd, denOr, denTAnd, denTOr, dens, densS, denO, denA, denC, at?, ixN, asg?, asgs?, isAny, isA, lt?, ltF, clN_call, wrap, denI, src?, rng?, walkC, gdok, wipeE, line, bools?, cut, sIx]
  refine ss_cons' ?_
  simp [exc, den, denT, denAnd, denOr, denTAnd, denTOr, dens, densS, denO, denA, denC, at?, ixN, asg?, asgs?, isAny, isA, lt?, ltF, clN_call, wrap, denI, src?, rng?, walkC, gdok, wipeE, line, bools?, cut, sIx]
  refine ss_cons' ?_
  simp [exc, den, denT, denAnd, denOr, denTAnd, denTOr, dens, densS, denO, denA, denC, at?, ixN, asg?, asgs?, isAny, isA, lt?, ltF, clN_call, wrap, denI, src?, rng?, walkC, gdok, wipeE, line, bools?, cut, sIx]
  refine ss_cons' ?_
  simp [exc, den, denT, denAnd, denOr, denTAnd, denTOr, dens, densS, denO, denA, denC, at?, ixN, asg?, asgs?, isAny, isA, lt?, ltF, clN_call, wrap, denI, src?, rng?, walkC, gdok, wipeE, line, bools?, cut, sIx]
  refine ss_cons' ?_
  simp [exc, den, denT, denAnd, denOr, denTAnd, denTOr, dens, densS, denO, denA, denC, at?, ixN, asg?, asgs?, isAny, isA, lt?, ltF, clN_call, wrap, denI, src?, rng?, walkC, gdok, wipeE, line, bools?, cut, sIx]
  refine ss_cons' ?_
  simp [exc, den, dens, clN_call]
  refine s_pick ht (by omega) hl (by simp) (by simp) fun d t1 l1 hd a1 b1 c1 => ?_
  obtain ⟨h1, h2⟩ := by_bad (hbad d hd) rF
  try simp [asg?]
  refine ss_cons' ?_
  generalize hE : ([s, some (D.ref 1), o2, o3, o4, o5, o6, o7, o8, o9, _, _, _, _, _, _] : Env) = env
  generalize hH : penH ns t1 l1 = hh
  have q1 : ∀ h, den (clN LA.pm (callN LA.pm (n + 10))) (.hear "_law_hear" (.call "ahead_by" [.v 15, .v 10])) env h = .ok (.tup [.str [118, 97, 108, 117, 101], .str qRows]) (h ++ [.lst []]) := fun h => d_hear (by rw [← hE]; simp [den, dens, clN_call, h1])
  have q2 : ∀ h, den (clN LA.pm (callN LA.pm (n + 10))) (.hear "_law_hear" (.call "ahead_by" [.v 10, .v 15])) env h = .ok (.tup [.str [118, 97, 108, 117, 101], .str qRows]) (h ++ [.lst []]) := fun h => d_hear (by rw [← hE]; simp [den, dens, clN_call, h2])
  have q3 : ∀ h, den (clN LA.pm (callN LA.pm (n + 10))) (.al false (.rep (.al false (.disp [.tup [(false, .k (.str [118, 97, 108, 117, 101])), (false, .k (.str [114, 111, 119, 115]))]])) (.k (.int 2)))) env h = .ok (.lst [.tup [.str [118, 97, 108, 117, 101], .str qRows], .tup [.str [118, 97, 108, 117, 101], .str qRows]]) h := fun h => by simp [exc, den, denT, denAnd, denOr, denTAnd, denTOr, dens, densS, denO, denA, denC, at?, ixN, asg?, asgs?, isAny, isA, lt?, ltF, clN_call, wrap, denI, src?, rng?, walkC, gdok, wipeE, line, bools?, cut, sIx, List.replicate]
  have q4 : ∀ h : Hh, cmp? h .eq (.lst [.tup [.str [118, 97, 108, 117, 101], .str qRows], .tup [.str [118, 97, 108, 117, 101], .str qRows]]) (.lst [.tup [.str [118, 97, 108, 117, 101], .str qRows], .tup [.str [118, 97, 108, 117, 101], .str qRows]]) = some true := fun h => by kernel_rfl
  rw [exc, ev_cmp (ev_alf (al_disp (es_cons (q1 _) (es_cons (q2 _) es_nil)) (by decide))) (q3 _) (q4 _)]
  simp
end
end Py
end

section
set_option Elab.async false
set_option linter.all false
set_option maxRecDepth 100000
set_option maxHeartbeats 8000000
namespace Py
section
variable {n : Nat} {ns : List Int} {N : Env → Hh → Prop} {e m : Int} {h : Hh}
abbrev fst7 (e m x : Int) (c : Int) : D := rowD 5 (.str ann) kH x (.tup [.int m, .str [98]]) 3 c
abbrev lst9 (e m x : Int) (s : Int) : D := rowD 5 .non kF x (.tup [.int m, .str [98]]) s 9
theorem rf_own {s : List Nat} {k : List Nat} {ep : Int} {tl : D} {se ca : Int} (hs : s ∈ nms) (hk : k = kH ∨ k = kK ∨ k = kR) (e0 : 0 ≤ ep) (e1 : ep ≤ 999999999) (ht : Told k ep tl) (s0 : 0 ≤ se) (s1 : se < ca) (c1 : ca ≤ 999999999) : RowF 5 (.str s) k ep tl se ca := ⟨by decide, by decide, .c _ _ hs hk, e0, e1, ht, s0, s1, c1⟩
theorem rf_non {k : List Nat} {ep : Int} {tl : D} {se ca : Int} (hk : k = kF ∨ k = kS) (e0 : 0 ≤ ep) (e1 : ep ≤ 999999999) (ht : Told k ep tl) (s0 : 0 ≤ se) (s1 : se < ca) (c1 : ca ≤ 999999999) : RowF 5 .non k ep tl se ca := ⟨by decide, by decide, .k _ hk, e0, e1, ht, s0, s1, c1⟩
theorem stm {m : Int} {s : List Nat} (h1 : 1 ≤ m) (h2 : m ≤ 999999999) (hs : s ∈ nms) : Stamp (.tup [.int m, .str s]) := .nm _ _ h1 h2 hs
theorem s_tail {s o2 o3 o4 o5 o6 : Option D} {t l : Int} (ht : 0 ≤ t) (ht2 : t < 900000) (hl : 0 ≤ l) :
    (excs (clN LA.pm (callN LA.pm (n + 10))) (fd_law.body.drop 2) [s, some (.ref 1), o2, o3, o4, o5, o6, none, none, none, none, none, none, none, none, none] (penH ns t l)).sat N (fun d _ => d = .bl true) := by
  unfold fd_law
  dsimp only [List.drop]
  refine ss_cons' ?_
  simp [exc, den, denT, denAnd, denOr, denTAnd, denTOr, dens, densS, denO, denA, denC, at?, ixN, asg?, asgs?, isAny, isA, lt?, ltF, clN_call, wrap, denI, src?, rng?, walkC, gdok, wipeE, line, bools?, cut, sIx, b_pow' (a := 10) (b := 8) (by decide) (by decide) (by decide) (by decide)]
  refine s_pick ht (by omega) hl (by simp) (by simp) fun sz t1 l1 hp a1 b1 c1 => ?_
  obtain ⟨sz, rfl, hp0, hp1⟩ : ∃ p, sz = .int p ∧ 0 < p ∧ p ≤ 100000000 := by
    simp only [List.mem_cons, List.not_mem_nil, or_false] at hp
    rcases hp with rfl | rfl <;> exact ⟨_, rfl, by decide, by decide⟩
  refine ss_cons' ?_
  simp [exc, den, denT, denAnd, denOr, denTAnd, denTOr, dens, densS, denO, denA, denC, at?, ixN, asg?, asgs?, isAny, isA, lt?, ltF, clN_call, wrap, denI, src?, rng?, walkC, gdok, wipeE, line, bools?, cut, sIx]
  refine s_draw (by omega) (by omega) c1 hp0 (by omega) fun e t2 l2 e0 e1 a2 b2 c2 => ?_
  refine s_draw (by omega) (by omega) c2 hp0 (by omega) fun m t3 l3 m0 m1 a3 b3 c3 => ?_
  simp
  refine ss_cons' ?_
  simp [exc, den, denT, denAnd, denOr, denTAnd, denTOr, dens, densS, denO, denA, denC, at?, ixN, asg?, asgs?, isAny, isA, lt?, ltF, clN_call, wrap, denI, src?, rng?, walkC, gdok, wipeE, line, bools?, cut, sIx]
  generalize hm : 1 + m = m'
  have told := fun {pl ow k ep tl se ca} (r : RowF pl ow k ep tl se ca) n h => c_told_row (n := n) (h := h) r
  have sb : Stamp (.tup [.int m', .str [98]]) := stm (by omega) (by omega) (by decide)
  have sa : Stamp (.tup [.int m', .str [97]]) := stm (by omega) (by omega) (by decide)
  have sa2 : Stamp (.tup [.int (m' + 1), .str [97]]) := stm (by omega) (by omega) (by decide)
  have rF : RowF 5 (.str ann) kH (e + 1) (.tup [.int m', .str [98]]) 3 6 := rf_own (by decide) (by simp) (by omega) (by omega) (.s _ _ _ (by simp) sb) (by decide) (by decide) (by decide)
  have rF7 : RowF 5 (.str ann) kH (e + 1) (.tup [.int m', .str [98]]) 3 7 := rf_own (by decide) (by simp) (by omega) (by omega) (.s _ _ _ (by simp) sb) (by decide) (by decide) (by decide)
  have rL : RowF 5 .non kF (e + 1) (.tup [.int m', .str [98]]) 6 9 := rf_non (by simp) (by omega) (by omega) (.s _ _ _ (by simp) sb) (by decide) (by decide) (by decide)
  have rL4 : RowF 5 .non kF (e + 1) (.tup [.int m', .str [98]]) 4 9 := rf_non (by simp) (by omega) (by omega) (.s _ _ _ (by simp) sb) (by decide) (by decide) (by decide)
  have n0 : RowF 5 (.str ann) kH (e + 2) (.tup [.int m', .str [98]]) 3 6 := rf_own (by decide) (by simp) (by omega) (by omega) (.s _ _ _ (by simp) sb) (by decide) (by decide) (by decide)
  have n1 : RowF 5 (.str ann) kH (e + 1) (.tup [.int m', .str [97]]) 0 9 := rf_own (by decide) (by simp) (by omega) (by omega) (.s _ _ _ (by simp) sa) (by decide) (by decide) (by decide)
  have n2 : RowF 5 (.str ann) kK (e + 1) (.tup [.int (m' + 1), .str [97]]) 0 9 := rf_own (by decide) (by simp) (by omega) (by omega) (.s _ _ _ (by simp) sa2) (by decide) (by decide) (by decide)
  have n3 : RowF 5 (.str cid) kR 0 (.int (e + 1)) 0 9 := rf_own (by decide) (by simp) (by omega) (by omega) (.r _ _ (by omega) (by omega)) (by decide) (by decide) (by decide)
  have n4 : RowF 5 (.str cid) kR e (.int e) 0 9 := rf_own (by decide) (by simp) (by omega) (by omega) (.r _ _ (by omega) (by omega)) (by decide) (by decide) (by decide)
  have lt97 : ([97] : List Nat) < [98] := by decide
  have z1 : e < e + 1 := by omega
  have z2 : -1 ≤ e := by omega
  have z3 : e + 1 ≤ e + 2 - 1 := by omega
  have by_ := fun {pl ow k ep tl se ca pl' ow' k' ep' tl' se' ca'} (r : RowF pl ow k ep tl se ca) (r' : RowF pl' ow' k' ep' tl' se' ca') {n h} => c_ahead_by (n := n) (h := h) r r' (told r) (told r')
  have b1 : ∀ n h, callN LA.pm (n + 7) "ahead_by" [rowD 5 (.str ann) kH (e + 1) (.tup [.int m', .str [98]]) 3 6, rowD 5 .non kF (e + 1) (.tup [.int m', .str [98]]) 6 9] h = .ok (.tup [.str qT, .str qC]) h := fun n h => (by_ rF rL).trans (by simp [rsnR, rsn, st1, st2, cl1, cl2, belowB, lt?, cmpT, ltF, lexD, eqF, lt97, z1, z2, z3])
  have b2 : ∀ n h, callN LA.pm (n + 7) "ahead_by" [rowD 5 .non kF (e + 1) (.tup [.int m', .str [98]]) 6 9, rowD 5 (.str ann) kH (e + 1) (.tup [.int m', .str [98]]) 3 6] h = .ok (.tup []) h := fun n h => (by_ rL rF).trans (by simp [rsnR, rsn, st1, st2, cl1, cl2, belowB, lt?, cmpT, ltF, lexD, eqF, lt97, z1, z2, z3])
  have b3 : ∀ n h, callN LA.pm (n + 7) "ahead_by" [rowD 5 (.str ann) kH (e + 1) (.tup [.int m', .str [98]]) 3 7, rowD 5 .non kF (e + 1) (.tup [.int m', .str [98]]) 6 9] h = .ok (.tup [.str qC]) h := fun n h => (by_ rF7 rL).trans (by simp [rsnR, rsn, st1, st2, cl1, cl2, belowB, lt?, cmpT, ltF, lexD, eqF, lt97, z1, z2, z3])
  have g0 : ∀ n h, callN LA.pm (n + 7) "ahead_by" [rowD 5 (.str ann) kH (e + 2) (.tup [.int m', .str [98]]) 3 6, rowD 5 .non kF (e + 1) (.tup [.int m', .str [98]]) 4 9] h = .ok (.tup []) h := fun n h => (by_ n0 rL4).trans (by simp [rsnR, rsn, st1, st2, cl1, cl2, belowB, lt?, cmpT, ltF, lexD, eqF, lt97, z1, z2, z3])
  have g1 : ∀ n h, callN LA.pm (n + 7) "ahead_by" [rowD 5 (.str ann) kH (e + 1) (.tup [.int m', .str [97]]) 0 9, rowD 5 .non kF (e + 1) (.tup [.int m', .str [98]]) 4 9] h = .ok (.tup [.str qS, .str qC]) h := fun n h => (by_ n1 rL4).trans (by simp [rsnR, rsn, st1, st2, cl1, cl2, belowB, lt?, cmpT, ltF, lexD, eqF, lt97, z1, z2, z3])
  have g2 : ∀ n h, callN LA.pm (n + 7) "ahead_by" [rowD 5 (.str ann) kK (e + 1) (.tup [.int (m' + 1), .str [97]]) 0 9, rowD 5 .non kF (e + 1) (.tup [.int m', .str [98]]) 4 9] h = .ok (.tup [.str qC]) h := fun n h => (by_ n2 rL4).trans (by simp [rsnR, rsn, st1, st2, cl1, cl2, belowB, lt?, cmpT, ltF, lexD, eqF, lt97, z1, z2, z3])
  have g3 : ∀ n h, callN LA.pm (n + 7) "ahead_by" [rowD 5 (.str cid) kR 0 (.int (e + 1)) 0 9, rowD 5 .non kF (e + 1) (.tup [.int m', .str [98]]) 4 9] h = .ok (.tup []) h := fun n h => (by_ n3 rL4).trans (by simp [rsnR, rsn, st1, st2, cl1, cl2, belowB, lt?, cmpT, ltF, lexD, eqF, lt97, z1, z2, z3])
  have g4 : ∀ n h, callN LA.pm (n + 7) "ahead_by" [rowD 5 (.str cid) kR e (.int e) 0 9, rowD 5 .non kF (e + 1) (.tup [.int m', .str [98]]) 4 9] h = .ok (.tup [.str qC]) h := fun n h => (by_ n4 rL4).trans (by simp [rsnR, rsn, st1, st2, cl1, cl2, belowB, lt?, cmpT, ltF, lexD, eqF, lt97, z1, z2, z3])
  have f0 : ∀ n h, callN LA.pm (n + 7) "ahead_by" [rowD 5 (.str ann) kK (e + 1) (.tup [.int (m' + 1), .str [97]]) 0 9, rowD 5 (.str ann) kH (e + 2) (.tup [.int m', .str [98]]) 3 6] h = .ok (.tup []) h := fun n h => (by_ n2 n0).trans (by simp [rsnR, rsn, st1, st2, cl1, cl2, belowB, lt?, cmpT, ltF, lexD, eqF, lt97, z1, z2, z3])
  have f1 : ∀ n h, callN LA.pm (n + 7) "ahead_by" [rowD 5 (.str ann) kK (e + 1) (.tup [.int (m' + 1), .str [97]]) 0 9, rowD 5 (.str ann) kH (e + 1) (.tup [.int m', .str [97]]) 0 9] h = .ok (.tup []) h := fun n h => (by_ n2 n1).trans (by simp [rsnR, rsn, st1, st2, cl1, cl2, belowB, lt?, cmpT, ltF, lexD, eqF, lt97, z1, z2, z3])
  have f2 : ∀ n h, callN LA.pm (n + 7) "ahead_by" [rowD 5 (.str ann) kK (e + 1) (.tup [.int (m' + 1), .str [97]]) 0 9, rowD 5 (.str ann) kK (e + 1) (.tup [.int (m' + 1), .str [97]]) 0 9] h = .ok (.tup []) h := fun n h => (by_ n2 n2).trans (by simp [rsnR, rsn, st1, st2, cl1, cl2, belowB, lt?, cmpT, ltF, lexD, eqF, lt97, z1, z2, z3])
  have f3 : ∀ n h, callN LA.pm (n + 7) "ahead_by" [rowD 5 (.str ann) kK (e + 1) (.tup [.int (m' + 1), .str [97]]) 0 9, rowD 5 (.str cid) kR 0 (.int (e + 1)) 0 9] h = .ok (.tup [.str qC]) h := fun n h => (by_ n2 n3).trans (by simp [rsnR, rsn, st1, st2, cl1, cl2, belowB, lt?, cmpT, ltF, lexD, eqF, lt97, z1, z2, z3])
  have f4 : ∀ n h, callN LA.pm (n + 7) "ahead_by" [rowD 5 (.str ann) kK (e + 1) (.tup [.int (m' + 1), .str [97]]) 0 9, rowD 5 (.str cid) kR e (.int e) 0 9] h = .ok (.tup []) h := fun n h => (by_ n2 n4).trans (by simp [rsnR, rsn, st1, st2, cl1, cl2, belowB, lt?, cmpT, ltF, lexD, eqF, lt97, z1, z2, z3])
  clear by_ told rF rF7 rL rL4 n0 n1 n2 n3 n4
  refine ss_cons' (ss_ite' ?_)
  simp [exc, den, denT, denAnd, denOr, denTAnd, denTOr, dens, densS, denO, denA, denC, at?, ixN, asg?, asgs?, isAny, isA, lt?, ltF, clN_call, wrap, denI, src?, rng?, walkC, gdok, wipeE, line, bools?, cut, sIx, b1, b2, b3, cmp?, still, pure?, pures?, okS, eqD, eqDs]
  refine ss_nil'' ?_
  refine ss_cons' ?_
  simp [exc, den, denT, denAnd, denOr, denTAnd, denTOr, dens, densS, denO, denA, denC, at?, ixN, asg?, asgs?, isAny, isA, lt?, ltF, clN_call, wrap, denI, src?, rng?, walkC, gdok, wipeE, line, bools?, cut, sIx]
  refine ss_cons' ?_
  simp [exc, den, denT, denAnd, denOr, denTAnd, denTOr, dens, densS, denO, denA, denC, at?, ixN, asg?, asgs?, isAny, isA, lt?, ltF, clN_call, wrap, denI, src?, rng?, walkC, gdok, wipeE, line, bools?, cut, sIx]
  refine ss_cons' ?_
  simp [exc, den, denT, denAnd, denOr, denTAnd, denTOr, dens, densS, denO, denA, denC, at?, ixN, asg?, asgs?, isAny, isA, lt?, ltF, clN_call, wrap, denI, src?, rng?, walkC, gdok, wipeE, line, bools?, cut, sIx]
  refine ss_cons' (ss_ite' ?_)
  simp [exc, den, denT, denAnd, denOr, denTAnd, denTOr, dens, densS, denO, denA, denC, at?, ixN, asg?, asgs?, isAny, isA, lt?, ltF, clN_call, wrap, denI, src?, rng?, walkC, gdok, wipeE, line, bools?, cut, sIx, g0, g1, g2, g3, g4, f0, f1, f2, f3, f4, cmp?, still, pure?, pures?, okS, eqD, eqDs]
  refine ss_nil'' ?_
  exact s_end (by omega) (by omega) (by omega) (by omega) (by omega) (by omega) c3
end
end Py
end

section
set_option Elab.async false
set_option linter.all false
set_option maxRecDepth 100000
set_option maxHeartbeats 8000000
namespace Py
theorem law_k49 (ns : List Int) (hl : ns.length ≤ 63) : ∃ h', runF (clN LA.pm (callN LA.pm 21)) fd_law [.fz (ns.map D.int)] [.tab] = .ok (.bl true) h' := by
  refine sat_out (sat_run rfl ?_)
  have turn := fun {N : Env → Hh → Prop} {R : D → Hh → Prop} {s o2 o3 o4 o5 o6 : Option D} {t l : Int} => s_turn (n := 11) (ns := ns) (N := N) (R := R) (s := s) (o2 := o2) (o3 := o3) (o4 := o4) (o5 := o5) (o6 := o6) (t := t) (l := l)
  have tail := fun {N : Env → Hh → Prop} {s o2 o3 o4 o5 o6 : Option D} {t l : Int} => s_tail (n := 11) (ns := ns) (N := N) (s := s) (o2 := o2) (o3 := o3) (o4 := o4) (o5 := o5) (o6 := o6) (t := t) (l := l)
  have pen := c_pen (n := 20) hl
  unfold fd_law at tail ⊢
  dsimp only [loopB, fd_law] at turn
  dsimp only [List.drop] at tail
  refine ss_cons' ?_
  simp [exc, den, dens, clN_call, pen, asg?]
  refine ss_cons' ?_
  simp [exc, den, denI, denO, rng?]
  refine sat_walkF (I := fun i env h => ∃ o2 o3 o4 o5 o6 t l, env = [some (.fz (ns.map D.int)), some (.ref 1), o2, o3, o4, o5, o6, none, none, none, none, none, none, none, none, none] ∧ h = penH ns t l ∧ 0 ≤ t ∧ t ≤ 22 * i ∧ 0 ≤ l) _ 0 _ _ (fun _ _ _ _ => rfl) (fun i d hd env h ⟨o2, o3, o4, o5, o6, t, l, he, hh, h0, h1, h2⟩ => ?_)
    ⟨none, none, none, none, none, 0, 0, rfl, rfl, by decide, by decide, by decide⟩ (fun env h ⟨o2, o3, o4, o5, o6, t, l, he, hh, h0, h1, h2⟩ => ?_)
  · subst he hh
    have hi : i < 20 := by
      have := (List.getElem?_eq_some_iff.mp hd).1
      have e : (rngF 0 20).length = 20 := rfl
      rw [e] at this
      exact this
    simp [asg?]
    refine turn h0 (by omega) h2 fun p3 p4 p5 p6 t' l' a b c => ?_
    exact ⟨⟨_, _, _, _, _, rfl⟩, _, _, rfl, by omega, by omega, c⟩
  · subst he hh
    refine tail h0 ?_ h2
    have e : (rngF 0 20).length = 20 := rfl
    rw [e] at h1
    omega
end Py
end
theorem PySem.Challenge.cw_liarnamed_k49_rows_that_must_be_ahead_holds : PySem.Challenge.rw_liarnamed_k49_rows_that_must_be_ahead.Holds :=
  Py.holds_of fun ns h1 _ => Py.law_k49 ns h1

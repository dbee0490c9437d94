import PyProof.Rows.All
import Wide.All
import OpenK.AllK
import Wide.FinOn
import HandS.ForMost
import HandS.Exc
import HandS.Deep
import HandS.TupAny
import HandS.Walk
import HandS.IsInst
import HandS.NoneIn
import HandS.More
import HandS.AnyAll
import HandS.CallSlots
import HandS.ExcOwn
import HandS.Ends
import HandS.HeadEnd
import HandS.Flow
import HandS.RaiseMore
import HandS.WordsDict
import HandS.Zip
import KE.GoesEnum
import HandS.GenList
import HandS.EndTab
import HandS.HeadHook2
import HandS.EndBits
import HandS.HeadHook4
import HandS.Head2
import PySem.Challenge.RW_matchgraph_k09_cuts_twice
section
set_option maxHeartbeats 0
/-! EvCore: a small evaluator for the functional part of Python, in core Lean: data, cells, combinators. -/
set_option linter.all false
namespace Ev
/-- the longest list or text (2^24) -/
def SL : Nat := 16777216

/-- plain data -/
inductive D where
  | non | bl (b : Bool) | int (i : Int) | str (s : String) | tup (ds : List D) | lst (ds : List D)
deriving Inhabited

/-- a key of a dict -/
inductive Ky where
  | i (n : Int) | s (x : String)
deriving DecidableEq, Inhabited
/-- what an expression gives: plain data, a mutable cell, a dict that stays as it is, an instance that stays as it is, a list of such -/
inductive R where
  | d (x : D) | p (n : Nat) | dic (kvs : List (Ky × R)) | ins (c : String) (fs : List (String × R)) | ls (rs : List R) | scr (ns : List Int) | rep (x : D)
deriving Inhabited

inductive Cell where
  | lst (ds : List D) | dic (kvs : List (Ky × R)) | ins (c : String) (fs : List (String × R)) | dead
abbrev Mem := List Cell

/-- a slot of a frame: nothing yet; a value; a list or dict of the frame's own (nobody else has it) -/
inductive Sl where
  | un | v (r : R) | own (rs : List R) | odic (kvs : List (Ky × R))
abbrev Env := List Sl

structure Exn where
  cls : String
  fs : List (String × R)

inductive Out (α : Type) where
  | ok (a : α) (μ : Mem) | exn (x : Exn) (μ : Mem) | no

@[inline] def Out.bind {α β : Type} (o : Out α) (f : α → Mem → Out β) : Out β :=
  match o with
  | .ok a μ => f a μ
  | .exn x μ => .exn x μ
  | .no => .no
@[simp] theorem bind_ok {α β : Type} (a : α) (μ : Mem) (f : α → Mem → Out β) : (Out.ok a μ).bind f = f a μ := rfl
@[simp] theorem bind_exn {α β : Type} (x : Exn) (μ : Mem) (f : α → Mem → Out β) : (Out.exn x μ : Out α).bind f = .exn x μ := rfl
@[simp] theorem bind_no {α β : Type} (f : α → Mem → Out β) : (Out.no : Out α).bind f = .no := rfl
theorem bind_assoc {α β γ : Type} (o : Out α) (f : α → Mem → Out β) (g : β → Mem → Out γ) : (o.bind f).bind g = o.bind fun a μ => (f a μ).bind g := by cases o <;> rfl
theorem bind_eq_ok {α β : Type} {o : Out α} {f : α → Mem → Out β} {b : β} {μ : Mem} (h : o.bind f = .ok b μ) : ∃ a μ1, o = .ok a μ1 ∧ f a μ1 = .ok b μ := by
  cases o with
  | ok a μ1 => exact ⟨a, μ1, rfl, h⟩
  | exn x μ1 => cases h
  | no => cases h

/-! ### data -/
mutual
def D.eqv : D → D → Bool
  | .non, .non => true
  | .bl a, .bl b => a == b
  | .bl a, .int j => (if a then 1 else 0) == j
  | .int i, .bl b => i == (if b then 1 else 0)
  | .int i, .int j => i == j
  | .str x, .str y => x == y
  | .lst xs, .lst ys => D.eqvL xs ys
  | .tup xs, .tup ys => D.eqvL xs ys
  | .non, .bl _ | .non, .int _ | .non, .str _ | .non, .lst _ | .non, .tup _ => false
  | .bl _, .non | .bl _, .str _ | .bl _, .lst _ | .bl _, .tup _ => false
  | .int _, .non | .int _, .str _ | .int _, .lst _ | .int _, .tup _ => false
  | .str _, .non | .str _, .bl _ | .str _, .int _ | .str _, .lst _ | .str _, .tup _ => false
  | .lst _, .non | .lst _, .bl _ | .lst _, .int _ | .lst _, .str _ | .lst _, .tup _ => false
  | .tup _, .non | .tup _, .bl _ | .tup _, .int _ | .tup _, .str _ | .tup _, .lst _ => false
def D.eqvL : List D → List D → Bool
  | [], [] => true
  | x :: xs, y :: ys => D.eqv x y && D.eqvL xs ys
  | [], _ :: _ => false
  | _ :: _, [] => false
end
mutual
def D.dep : D → Nat
  | .tup xs => D.depL xs + 1
  | .lst xs => D.depL xs + 1
  | .non | .bl _ | .int _ | .str _ => 0
def D.depL : List D → Nat
  | [] => 0
  | x :: xs => max (D.dep x) (D.depL xs)
end
mutual
/-- as built: the same -/
def D.same : D → D → Bool
  | .non, .non => true
  | .bl a, .bl b => a == b
  | .int i, .int j => i == j
  | .str x, .str y => x == y
  | .lst xs, .lst ys => D.sameL xs ys
  | .tup xs, .tup ys => D.sameL xs ys
  | _, _ => false
def D.sameL : List D → List D → Bool
  | [], [] => true
  | x :: xs, y :: ys => D.same x y && D.sameL xs ys
  | _, _ => false
end
mutual
theorem D.eq_of_same : ∀ {x y : D}, D.same x y = true → x = y
  | .non, y, h => by cases y <;> simp [D.same] at h ⊢
  | .bl _, y, h => by cases y <;> simp [D.same] at h ⊢; exact h
  | .int _, y, h => by cases y <;> simp [D.same] at h ⊢; exact h
  | .str _, y, h => by cases y <;> simp [D.same] at h ⊢; exact h
  | .tup xs, y, h => by cases y <;> simp [D.same] at h ⊢; exact D.eqL_of_same h
  | .lst xs, y, h => by cases y <;> simp [D.same] at h ⊢; exact D.eqL_of_same h
theorem D.eqL_of_same : ∀ {xs ys : List D}, D.sameL xs ys = true → xs = ys
  | [], [], _ => rfl
  | [], _ :: _, h => by simp [D.sameL] at h
  | _ :: _, [], h => by simp [D.sameL] at h
  | x :: xs, y :: ys, h => by
    simp only [D.sameL, Bool.and_eq_true] at h
    rw [D.eq_of_same h.1, D.eqL_of_same h.2]
end
mutual
theorem D.same_self : ∀ x : D, D.same x x = true
  | .non => by simp [D.same]
  | .bl _ => by simp [D.same]
  | .int _ => by simp [D.same]
  | .str _ => by simp [D.same]
  | .tup xs => by simp only [D.same]; exact D.sameL_self xs
  | .lst xs => by simp only [D.same]; exact D.sameL_self xs
theorem D.sameL_self : ∀ xs : List D, D.sameL xs xs = true
  | [] => by simp [D.sameL]
  | x :: xs => by simp [D.sameL, D.same_self x, D.sameL_self xs]
end
mutual
/-- what repr writes is at most so long -/
def D.cost : D → Nat
  | .non => 4
  | .bl _ => 5
  | .int i => if i.natAbs < 1000000000000 then 13 else SL + 1
  | .str s => 10 * s.length + 2
  | .tup ds => D.costL ds + 3
  | .lst ds => D.costL ds + 3
def D.costL : List D → Nat
  | [] => 0
  | d :: ds => D.cost d + 2 + D.costL ds
end
/-- the most that two data may be deep when they are compared -/
def EqDep : Nat := 64
def eqD (x y : D) : Option Bool := if min x.dep y.dep ≤ EqDep then some (x.eqv y) else none

def valR : R → Option D
  | .d x => some x
  | _ => none
def valsR : List R → Option (List D)
  | [] => some []
  | .d x :: rs => (valsR rs).map (x :: ·)
  | _ :: _ => none
@[simp] theorem valsR_nil : valsR [] = some [] := rfl
@[simp] theorem valsR_cons (x : D) (rs : List R) : valsR (.d x :: rs) = (valsR rs).map (x :: ·) := rfl
@[simp] theorem valsR_map {α : Type} (f : α → D) : ∀ xs : List α, valsR (xs.map fun x => R.d (f x)) = some (xs.map f)
  | [] => rfl
  | x :: xs => by simp [valsR_map f xs]
/-- a list of values as a value -/
def mkL (rs : List R) : R := match valsR rs with
  | some ds => .d (.lst ds)
  | none => .ls rs
/-- a value as it may be read now -/
def vw (μ : Mem) : R → R
  | .p n => match μ[n]? with
    | some (.lst ds) => .d (.lst ds)
    | some (.dic kvs) => .dic kvs
    | _ => .p n
  | r => r
theorem vw_lst {μ : Mem} {n : Nat} {ds : List D} (h : μ[n]? = some (.lst ds)) : vw μ (.p n) = .d (.lst ds) := by simp only [vw, h]
theorem vw_cdic {μ : Mem} {n : Nat} {ds} (h : μ[n]? = some (.dic ds)) : vw μ (.p n) = .dic ds := by simp only [vw, h]
theorem vw_cins {μ : Mem} {n : Nat} {c fs} (h : μ[n]? = some (.ins c fs)) : vw μ (.p n) = .p n := by simp only [vw, h]
theorem vw_dead {μ : Mem} {n : Nat} (h : μ[n]? = some .dead) : vw μ (.p n) = .p n := by simp only [vw, h]
theorem vw_none {μ : Mem} {n : Nat} (h : μ[n]? = none) : vw μ (.p n) = .p n := by simp only [vw, h]
@[simp] theorem vw_ins (μ : Mem) (c fs) : vw μ (.ins c fs) = .ins c fs := rfl
@[simp] theorem vw_d (μ : Mem) (x : D) : vw μ (.d x) = .d x := rfl
@[simp] theorem vw_dic (μ : Mem) (x) : vw μ (.dic x) = .dic x := rfl
@[simp] theorem vw_rep (μ : Mem) (x) : vw μ (.rep x) = .rep x := rfl
@[simp] theorem vw_scr (μ : Mem) (x) : vw μ (.scr x) = .scr x := rfl
@[simp] theorem vw_ls (μ : Mem) (x) : vw μ (.ls x) = .ls x := rfl

def keyOf : D → Option Ky
  | .int i => some (.i i)
  | .str x => some (.s x)
  | _ => none
def valK (kvs : List (Ky × R)) (k : Ky) : Option R := (kvs.find? fun kv => decide (kv.1 = k)).map (·.2)
def putK (kvs : List (Ky × R)) (k : Ky) (v : R) : List (Ky × R) :=
  if kvs.any (fun kv => decide (kv.1 = k)) then kvs.map fun kv => if kv.1 = k then (kv.1, v) else kv else kvs ++ [(k, v)]
def lift {α : Type} (o : Option α) (μ : Mem) : Out α := match o with
  | some a => .ok a μ
  | none => .no
@[simp] theorem lift_some {α : Type} (a : α) (μ : Mem) : lift (some a) μ = .ok a μ := rfl
@[simp] theorem lift_none {α : Type} (μ : Mem) : lift (none : Option α) μ = .no := rfl

/-! ### operators on values -/
def small (i : Int) : Bool := decide (-18446744073709551616 < i) && decide (i < 18446744073709551616)
def addR : R → R → Option R
  | .d (.int a), .d (.int b) => some (.d (.int (a + b)))
  | .d (.str a), .d (.str b) => if a.length + b.length ≤ SL then some (.d (.str (a ++ b))) else none
  | .d (.lst a), .d (.lst b) => if a.length + b.length ≤ SL then some (.d (.lst (a ++ b))) else none
  | .d (.tup a), .d (.tup b) => if a.length + b.length ≤ SL then some (.d (.tup (a ++ b))) else none
  | _, _ => none
/-- two lists, a new one -/
def addL : R → R → Option R
  | .d (.lst a), .d (.lst b) => if a.length + b.length ≤ SL then some (.d (.lst (a ++ b))) else none
  | _, _ => none
def subR : R → R → Option R
  | .d (.int a), .d (.int b) => some (.d (.int (a - b)))
  | _, _ => none
def mulR : R → R → Option R
  | .d (.int a), .d (.int b) => if small a || small b then some (.d (.int (a * b))) else none
  | .d (.lst a), .d (.int k) => if small k && decide (-9223372036854775808 ≤ k) && decide (k < 9223372036854775808) && decide (a.length * k.toNat ≤ SL) then some (.d (.lst (List.replicate k.toNat a).flatten)) else none
  | _, _ => none
def modR : R → R → Option R
  | .d (.int a), .d (.int b) => if 0 < b then some (.d (.int (a % b))) else none
  | _, _ => none
def fdivR : R → R → Option R
  | .d (.int a), .d (.int b) => if 0 < b ∧ b < 1073741824 then some (.d (.int (a / b))) else none
  | _, _ => none
def powR : R → R → Option R
  | .d (.int a), .d (.int b) => if 0 ≤ b ∧ b ≤ 1000000 ∧ small a then some (.d (.int (a ^ b.toNat))) else none
  | _, _ => none
def cmpR (f : Int → Int → Bool) : R → R → Option Bool
  | .d (.int a), .d (.int b) => some (f a b)
  | _, _ => none
def ltR := cmpR fun a b => decide (a < b)
def leR := cmpR fun a b => decide (a ≤ b)
def gtR := cmpR fun a b => decide (b < a)
def geR := cmpR fun a b => decide (b ≤ a)
def eqR : R → R → Option Bool
  | .d x, .d y => eqD x y
  | .rep x, .rep y => if x.same y then some true else none
  | _, _ => none
def neR (x y : R) : Option Bool := (eqR x y).map not
/-- x is True, x is False -/
def isR : R → R → Option Bool
  | .d (.bl a), .d (.bl b) => some (a == b)
  | _, _ => none
def isNonR : R → Bool
  | .d .non => true
  | _ => false
/-- x in y: a list, a tuple -/
def inR : R → R → Option Bool
  | .d x, .d (.lst ys) => if min x.dep (D.depL ys) ≤ EqDep then some (ys.any fun y => y.eqv x) else none
  | .d x, .d (.tup ys) => if min x.dep (D.depL ys) ≤ EqDep then some (ys.any fun y => y.eqv x) else none
  | .d x, .dic kvs => (keyOf x).map fun k => (valK kvs k).isSome
  | _, _ => none
def ninR (x y : R) : Option Bool := (inR x y).map not
def truthR : R → Option Bool
  | .d .non => some false
  | .d (.bl b) => some b
  | .d (.int i) => some (i != 0)
  | .d (.str s) => if s.length ≤ SL then some ((s.length : Int) != 0) else none
  | .d (.tup ds) => some (!ds.isEmpty)
  | .d (.lst ds) => some (!ds.isEmpty)
  | .dic kvs => some (!kvs.isEmpty)
  | .ls rs => some (!rs.isEmpty)
  | .scr ns => some (!ns.isEmpty)
  | _ => none
/-- the place i of n, from the end where it is below nought -/
def ixN (n : Nat) (i : Int) : Option Nat := if 0 ≤ i then (if i < n then some i.toNat else none) else if -(n : Int) ≤ i then some (i + n).toNat else none
def atI {α : Type} (xs : List α) (i : Int) : Option α := (ixN xs.length i).bind fun j => xs[j]?
def idxR : R → R → Option R
  | .d (.tup ds), .d (.int i) => (atI ds i).map .d
  | .d (.lst ds), .d (.int i) => (atI ds i).map .d
  | .ls rs, .d (.int i) => atI rs i
  | .scr ns, .d (.int i) => (atI ns i).map fun n => .d (.int n)
  | .dic kvs, .d x => (keyOf x).bind (valK kvs)
  | .d (.str s), .d (.int i) => if s.length ≤ SL then (atI s.toList i).map fun c => .d (.str (String.ofList [c])) else none
  | _, _ => none
def sIx (n d : Nat) : Option Int → Nat
  | none => d
  | some k => if k < 0 then (k + n).toNat else min k.toNat n
def cut {α : Type} (xs : List α) (lo hi : Option Int) : List α := (xs.drop (sIx xs.length 0 lo)).take (sIx xs.length xs.length hi - sIx xs.length 0 lo)
def slcR (r : R) (lo hi : Option Int) : Option R := match r with
  | .d (.tup ds) => some (.d (.tup (cut ds lo hi)))
  | .d (.lst ds) => some (.d (.lst (cut ds lo hi)))
  | _ => none

/-! ### combinators: expressions -/
abbrev E := Env → Mem → Out R
abbrev T := Env → Mem → Out Bool
abbrev Fn := String → List R → Mem → Out R

@[irreducible] def eV (i : Nat) (ρ : Env) (μ : Mem) : Out R := match ρ[i]? with
  | some (.v r) => .ok r μ
  | _ => .no
/-- a list or dict of one's own, as it stands -/
@[irreducible] def eB (i : Nat) (ρ : Env) (μ : Mem) : Out R := match ρ[i]? with
  | some (.own rs) => .ok (mkL rs) μ
  | some (.odic kvs) => .ok (.dic kvs) μ
  | _ => .no
@[irreducible] def eC (x : D) (_ : Env) (μ : Mem) : Out R := .ok (.d x) μ
def evs : List E → Env → Mem → Out (List R)
  | [], _, μ => .ok [] μ
  | e :: es, ρ, μ => (e ρ μ).bind fun r μ => (evs es ρ μ).bind fun rs μ => .ok (r :: rs) μ
@[simp] theorem evs_nil (ρ : Env) (μ : Mem) : evs [] ρ μ = .ok [] μ := rfl
@[simp] theorem evs_cons (e : E) (es : List E) (ρ : Env) (μ : Mem) : evs (e :: es) ρ μ = (e ρ μ).bind fun r μ => (evs es ρ μ).bind fun rs μ => .ok (r :: rs) μ := rfl
theorem evs_len : ∀ {es : List E} {ρ : Env} {μ : Mem} {rs : List R} {μ' : Mem}, evs es ρ μ = .ok rs μ' → rs.length = es.length
  | [], _, _, _, _, h => by cases h; rfl
  | e :: es, ρ, μ, rs, μ', h => by
    rw [evs_cons] at h
    obtain ⟨r, μ1, h1, h2⟩ := bind_eq_ok h
    obtain ⟨rs', μ2, h3, h4⟩ := bind_eq_ok h2
    cases h4
    rw [List.length_cons, List.length_cons, evs_len h3]
@[irreducible] def eTup (es : List E) (ρ : Env) (μ : Mem) : Out R := (evs es ρ μ).bind fun rs μ => match valsR rs with
  | some ds => if ds.length ≤ SL then .ok (.d (.tup ds)) μ else .no
  | none => .no
@[irreducible] def eLst (es : List E) (ρ : Env) (μ : Mem) : Out R := (evs es ρ μ).bind fun rs μ => match valsR rs with
  | some ds => if ds.length ≤ SL then .ok (.d (.lst ds)) μ else .no
  | none => .no
@[irreducible] def eOp (f : R → R → Option R) (a b : E) (ρ : Env) (μ : Mem) : Out R := (a ρ μ).bind fun x μ => (b ρ μ).bind fun y μ => lift (f (vw μ x) (vw μ y)) μ
@[irreducible] def eNeg (a : E) (ρ : Env) (μ : Mem) : Out R := (a ρ μ).bind fun x μ => match x with
  | .d (.int i) => .ok (.d (.int (-i))) μ
  | _ => .no
/-- a comparison as a test -/
@[irreducible] def tCmp (f : R → R → Option Bool) (a b : E) (ρ : Env) (μ : Mem) : Out Bool := (a ρ μ).bind fun x μ => (b ρ μ).bind fun y μ => lift (f (vw μ x) (vw μ y)) μ
@[irreducible] def tCh (f g : R → R → Option Bool) (a b c : E) (ρ : Env) (μ : Mem) : Out Bool := (a ρ μ).bind fun x μ => (b ρ μ).bind fun y μ => (lift (f (vw μ x) (vw μ y)) μ).bind fun k μ =>
  if k then (c ρ μ).bind fun z μ => lift (g (vw μ y) (vw μ z)) μ else .ok false μ
@[irreducible] def tIsN (a : E) (ρ : Env) (μ : Mem) : Out Bool := (a ρ μ).bind fun x μ => .ok (isNonR x) μ
@[irreducible] def tNotN (a : E) (ρ : Env) (μ : Mem) : Out Bool := (a ρ μ).bind fun x μ => .ok (!isNonR x) μ
/-- a test as a value -/
@[irreducible] def eT (t : T) (ρ : Env) (μ : Mem) : Out R := (t ρ μ).bind fun b μ => .ok (.d (.bl b)) μ
/-- a value as a test -/
@[irreducible] def tE (e : E) (ρ : Env) (μ : Mem) : Out Bool := (e ρ μ).bind fun x μ => lift (truthR (vw μ x)) μ
@[irreducible] def tAnd (a b : T) (ρ : Env) (μ : Mem) : Out Bool := (a ρ μ).bind fun k μ => if k then b ρ μ else .ok false μ
@[irreducible] def tOr (a b : T) (ρ : Env) (μ : Mem) : Out Bool := (a ρ μ).bind fun k μ => if k then .ok true μ else b ρ μ
@[irreducible] def tNot (a : T) (ρ : Env) (μ : Mem) : Out Bool := (a ρ μ).bind fun k μ => .ok (!k) μ
/-- and, or as values -/
@[irreducible] def eAnd (a b : E) (ρ : Env) (μ : Mem) : Out R := (a ρ μ).bind fun x μ => match truthR (vw μ x) with
  | some true => b ρ μ
  | some false => .ok x μ
  | none => .no
@[irreducible] def eOr (a b : E) (ρ : Env) (μ : Mem) : Out R := (a ρ μ).bind fun x μ => match truthR (vw μ x) with
  | some false => b ρ μ
  | some true => .ok x μ
  | none => .no
@[irreducible] def eNot (a : E) (ρ : Env) (μ : Mem) : Out R := (a ρ μ).bind fun x μ => (lift (truthR (vw μ x)) μ).bind fun b μ => .ok (.d (.bl (!b))) μ
@[irreducible] def eIf (c : T) (a b : E) (ρ : Env) (μ : Mem) : Out R := (c ρ μ).bind fun k μ => if k then a ρ μ else b ρ μ
/-- an end of a slice -/
abbrev O := Env → Mem → Out (Option Int)
@[irreducible] def oN (_ : Env) (μ : Mem) : Out (Option Int) := .ok none μ
@[irreducible] def oE (e : E) (ρ : Env) (μ : Mem) : Out (Option Int) := (e ρ μ).bind fun x μ => match x with
  | .d (.int i) => .ok (some i) μ
  | _ => .no
@[irreducible] def eSlc (a : E) (lo hi : O) (ρ : Env) (μ : Mem) : Out R := (a ρ μ).bind fun x μ => (lo ρ μ).bind fun l μ => (hi ρ μ).bind fun h μ => lift (slcR (vw μ x) l h) μ
@[irreducible] def eIdx (a i : E) (ρ : Env) (μ : Mem) : Out R := eOp idxR a i ρ μ
/-- a def of the module -/
@[irreducible] def eCall (C : Fn) (f : String) (es : List E) (ρ : Env) (μ : Mem) : Out R := (evs es ρ μ).bind fun rs μ => C f rs μ
/-- a built-in by values -/
@[irreducible] def eBi (f : List R → Option R) (es : List E) (ρ : Env) (μ : Mem) : Out R := (evs es ρ μ).bind fun rs μ => lift (f (rs.map (vw μ))) μ

/-- a dict display: at most 15 written items -/
def pairsR : List R → Option (List (Ky × R))
  | [] => some []
  | .d k :: v :: rs => (keyOf k).bind fun k => (pairsR rs).map fun l => (k, v) :: l
  | _ => none
def mergeK (kvs more : List (Ky × R)) : List (Ky × R) := more.foldl (fun acc kv => putK acc kv.1 kv.2) kvs
/-- {k: v, ..}: the keys and values in turn -/
@[irreducible] def eDic (es : List E) (ρ : Env) (μ : Mem) : Out R := (evs es ρ μ).bind fun rs μ => match pairsR rs with
  | some kvs => if kvs.length ≤ 15 then .ok (.dic (mergeK [] kvs)) μ else .no
  | none => .no
/-- d.get(k), d.get(k, x) -/
def getR (kvs : List (Ky × R)) (y z : R) : Option R := match y with
  | .d y => (keyOf y).map fun k => (valK kvs k).getD z
  | _ => none
@[irreducible] def eGet1 (a k : E) (ρ : Env) (μ : Mem) : Out R := (a ρ μ).bind fun x μ => match x with
  | .dic kvs => (k ρ μ).bind fun y μ => lift (getR kvs y (.d .non)) μ
  | _ => .no
@[irreducible] def eGet2 (a k z : E) (ρ : Env) (μ : Mem) : Out R := (a ρ μ).bind fun x μ => match x with
  | .dic kvs => (k ρ μ).bind fun y μ => (z ρ μ).bind fun z μ => lift (getR kvs y z) μ
  | _ => .no

/-! ### built-ins -/
def lenR : List R → Option R
  | [.d (.tup ds)] => some (.d (.int ds.length))
  | [.d (.lst ds)] => some (.d (.int ds.length))
  | [.ls rs] => some (.d (.int rs.length))
  | [.scr ns] => some (.d (.int ns.length))
  | [.dic kvs] => some (.d (.int kvs.length))
  | [.d (.str s)] => if s.length ≤ SL then some (.d (.int s.length)) else none
  | _ => none
def intR : List R → Option R
  | [.d (.int i)] => some (.d (.int i))
  | [.d (.bl b)] => some (.d (.int (if b then 1 else 0)))
  | _ => none
def boolR : List R → Option R
  | [.d (.int i)] => some (.d (.bl (i != 0)))
  | [.d (.bl b)] => some (.d (.bl b))
  | _ => none
def tupleR : List R → Option R
  | [.d (.tup ds)] => some (.d (.tup ds))
  | [.d (.lst ds)] => some (.d (.tup ds))
  | _ => none
def listR : List R → Option R
  | [.d (.tup ds)] => some (.d (.lst ds))
  | [.d (.lst ds)] => some (.d (.lst ds))
  | _ => none
def dictR : List R → Option R
  | [.dic kvs] => some (.dic kvs)
  | _ => none
def intsD : List D → Option (List Int)
  | [] => some []
  | .int i :: ds => (intsD ds).map (i :: ·)
  | _ :: _ => none
def maxI (x : Int) : List Int → Int
  | [] => x
  | y :: ys => maxI (if y > x then y else x) ys
def minI (x : Int) : List Int → Int
  | [] => x
  | y :: ys => minI (if y < x then y else x) ys
def maxR : List R → Option R
  | [.d (.int a), .d (.int b)] => some (.d (.int (if b > a then b else a)))
  | [.d (.lst ds)] => match intsD ds with
    | some (x :: xs) => some (.d (.int (maxI x xs)))
    | _ => none
  | _ => none
def minR : List R → Option R
  | [.d (.int a), .d (.int b)] => some (.d (.int (if b < a then b else a)))
  | [.d (.lst ds)] => match intsD ds with
    | some (x :: xs) => some (.d (.int (minI x xs)))
    | _ => none
  | _ => none
def sumI : List Int → Int
  | [] => 0
  | x :: xs => x + sumI xs
def sumR : List R → Option R
  | [.d (.lst ds)] => (intsD ds).map fun ns => .d (.int (sumI ns))
  | _ => none
/-- numbers that str and repr may write -/
def shortInt (i : Int) : Bool := decide (i.natAbs.log2 < 1920)
def strR : List R → Option R
  | [.d (.int i)] => if shortInt i then some (.d (.str (toString i))) else none
  | [.d (.str s)] => some (.d (.str s))
  | _ => none
/-- isinstance(x, T) by the type's name -/
def tyN : R → Option String
  | .d .non => some "NoneType"
  | .d (.bl _) => some "bool"
  | .d (.int _) => some "int"
  | .d (.str _) => some "str"
  | .d (.tup _) => some "tuple"
  | .d (.lst _) => some "list"
  | .ls _ => some "list"
  | .dic _ => some "dict"
  | .rep _ => some "str"
  | _ => none
def isB (T a : String) : Bool := a == T || (a == "bool" && T == "int")
def isinR (T : String) : List R → Option R
  | [r] => (tyN r).map fun a => .d (.bl (isB T a))
  | _ => none

/-! ### repr -/
def reprR : List R → Option R
  | [.d x] => if x.dep ≤ EqDep ∧ x.cost ≤ SL then some (.rep x) else none
  | _ => none

/-! ### what is walked, targets -/
abbrev It := Env → Mem → Out (List R)
def itemsR : R → Option (List R)
  | .d (.tup ds) => some (ds.map .d)
  | .d (.lst ds) => some (ds.map .d)
  | .ls rs => some rs
  | .scr ns => some (ns.map fun n => .d (.int n))
  | _ => none
@[irreducible] def iE (e : E) (ρ : Env) (μ : Mem) : Out (List R) := (e ρ μ).bind fun x μ => lift (itemsR x) μ
def enumF (k : Nat) : List D → List R
  | [] => []
  | x :: xs => .d (.tup [.int k, x]) :: enumF (k + 1) xs
@[irreducible] def iEnum (e : E) (ρ : Env) (μ : Mem) : Out (List R) := (e ρ μ).bind fun x μ => match x with
  | .d (.tup ds) => .ok (enumF 0 ds) μ
  | .d (.lst ds) => .ok (enumF 0 ds) μ
  | _ => .no
def zipF : List D → List D → List R
  | x :: xs, y :: ys => .d (.tup [x, y]) :: zipF xs ys
  | _, _ => []
@[irreducible] def iZip (a b : E) (ρ : Env) (μ : Mem) : Out (List R) := (a ρ μ).bind fun x μ => (b ρ μ).bind fun y μ => match x, y with
  | .d (.lst xs), .d (.lst ys) => .ok (zipF xs ys) μ
  | .d (.tup xs), .d (.tup ys) => .ok (zipF xs ys) μ
  | _, _ => .no
def rangeF (lo : Int) : Nat → List R
  | 0 => []
  | n + 1 => .d (.int lo) :: rangeF (lo + 1) n
def inRange62 (i : Int) : Bool := decide (-4611686018427387904 ≤ i) && decide (i < 4611686018427387904)
@[irreducible] def iRange1 (a : E) (ρ : Env) (μ : Mem) : Out (List R) := (a ρ μ).bind fun x μ => match x with
  | .d (.int n) => if inRange62 n then .ok (rangeF 0 n.toNat) μ else .no
  | _ => .no
@[irreducible] def iRange2 (a b : E) (ρ : Env) (μ : Mem) : Out (List R) := (a ρ μ).bind fun x μ => (b ρ μ).bind fun y μ => match x, y with
  | .d (.int lo), .d (.int hi) => if inRange62 lo && inRange62 hi then .ok (rangeF lo (hi - lo).toNat) μ else .no
  | _, _ => .no

/-- a target -/
abbrev Tg := R → Env → Option Env
@[irreducible] def tgN (i : Nat) (r : R) (ρ : Env) : Option Env := some (ρ.set i (.v r))
def tgs : List Tg → List R → Env → Option Env
  | [], [], ρ => some ρ
  | t :: ts, r :: rs, ρ => (t r ρ).bind fun ρ => tgs ts rs ρ
  | _, _, _ => none
@[irreducible] def tgT (ts : List Tg) (r : R) (ρ : Env) : Option Env := match r with
  | .d (.tup ds) => tgs ts (ds.map .d) ρ
  | .d (.lst ds) => tgs ts (ds.map .d) ρ
  | _ => none

/-- what may not raise -/
def Out.nx {α : Type} : Out α → Out α
  | .ok a μ => .ok a μ
  | .exn _ _ => .no
  | .no => .no
@[simp] theorem nx_ok {α : Type} (a : α) (μ : Mem) : (Out.ok a μ).nx = .ok a μ := rfl
@[simp] theorem nx_exn {α : Type} (a : Exn) (μ : Mem) : (Out.exn a μ : Out α).nx = .no := rfl
@[simp] theorem nx_no {α : Type} : (Out.no : Out α).nx = .no := rfl
theorem nx_eq_ok {α : Type} {o : Out α} {a : α} {μ : Mem} (h : o.nx = .ok a μ) : o = .ok a μ := by
  cases o with
  | ok b ν => exact h
  | exn e ν => cases h
  | no => cases h
def compL (t : Tg) (c : T) (elt : E) : List R → Env → Mem → Out (List R)
  | [], _, μ => .ok [] μ
  | x :: xs, ρ, μ => match t x ρ with
    | none => .no
    | some ρ1 => (c ρ1 μ).nx.bind fun k μ =>
      if k then (elt ρ1 μ).nx.bind fun y μ => (compL t c elt xs ρ μ).bind fun ys μ => .ok (y :: ys) μ
      else compL t c elt xs ρ μ
@[simp] theorem compL_nil (t : Tg) (c : T) (elt : E) (ρ : Env) (μ : Mem) : compL t c elt [] ρ μ = .ok [] μ := rfl
theorem compL_cons (t : Tg) (c : T) (elt : E) (x : R) (xs : List R) (ρ : Env) (μ : Mem) : compL t c elt (x :: xs) ρ μ = match t x ρ with
    | none => .no
    | some ρ1 => (c ρ1 μ).nx.bind fun k μ =>
      if k then (elt ρ1 μ).nx.bind fun y μ => (compL t c elt xs ρ μ).bind fun ys μ => .ok (y :: ys) μ
      else compL t c elt xs ρ μ := rfl
theorem compL_exn (t : Tg) (c : T) (elt : E) : ∀ (xs : List R) (ρ : Env) (μ : Mem) (e : Exn) (μ' : Mem), compL t c elt xs ρ μ ≠ .exn e μ'
  | [], _, _, _, _, h => by cases h
  | x :: xs, ρ, μ, e, μ', h => by
    rw [compL_cons] at h
    cases ht : t x ρ with
    | none => rw [ht] at h; cases h
    | some ρ1 =>
      rw [ht] at h
      dsimp only at h
      cases hc : c ρ1 μ with
      | no => rw [hc] at h; cases h
      | exn => rw [hc] at h; cases h
      | ok k μ2 =>
        rw [hc] at h
        cases k with
        | false => exact compL_exn t c elt xs ρ μ2 e μ' h
        | true =>
          cases he : elt ρ1 μ2 with
          | no => simp [he] at h
          | exn => simp [he] at h
          | ok y μ3 =>
            simp [he] at h
            cases hr : compL t c elt xs ρ μ3 with
            | no => rw [hr] at h; cases h
            | exn e2 μ4 => exact compL_exn t c elt xs ρ μ3 e2 μ4 hr
            | ok ys μ4 => rw [hr] at h; cases h
@[irreducible] def tYes (_ : Env) (μ : Mem) : Out Bool := .ok true μ
/-- the block's own names forgotten -/
def wipeE (ρ : Env) : List Nat → Env
  | [] => ρ
  | v :: vs => (wipeE ρ vs).set v .un
/-- [elt for t in it if c]; own: the places of the block's own names -/
@[irreducible] def eComp (own : List Nat) (t : Tg) (it : It) (c : T) (elt : E) (ρ : Env) (μ : Mem) : Out R := (it ρ μ).bind fun xs μ => (compL t c elt xs (wipeE ρ own) μ).bind fun ys μ =>
  if ys.length ≤ SL then .ok (mkL ys) μ else .no

/-- all (k: true), any (k: false) of a generator expression whose items are truth values -/
def allL (k : Bool) (t : Tg) (elt : E) : List R → Env → Mem → Out Bool
  | [], _, μ => .ok k μ
  | x :: xs, ρ, μ => match t x ρ with
    | none => .no
    | some ρ1 => (elt ρ1 μ).nx.bind fun y μ => match y with
      | .d (.bl b) => if b = k then allL k t elt xs ρ μ else .ok b μ
      | _ => .no
@[simp] theorem allL_nil (k : Bool) (t : Tg) (elt : E) (ρ : Env) (μ : Mem) : allL k t elt [] ρ μ = .ok k μ := rfl
theorem allL_cons (k : Bool) (t : Tg) (elt : E) (x : R) (xs : List R) (ρ : Env) (μ : Mem) : allL k t elt (x :: xs) ρ μ = match t x ρ with
    | none => .no
    | some ρ1 => (elt ρ1 μ).nx.bind fun y μ => match y with
      | .d (.bl b) => if b = k then allL k t elt xs ρ μ else .ok b μ
      | _ => .no := rfl
@[irreducible] def eAll (k : Bool) (own : List Nat) (t : Tg) (it : It) (elt : E) (ρ : Env) (μ : Mem) : Out R := (it ρ μ).bind fun xs μ => (allL k t elt xs (wipeE ρ own) μ).nx.bind fun b μ => .ok (.d (.bl b)) μ

/-! ### statements -/
inductive Fl where
  | nx (ρ : Env) | rt (r : R) | bk (ρ : Env) | ct (ρ : Env)
abbrev S := Env → Mem → Out Fl
@[irreducible] def sNil (ρ : Env) (μ : Mem) : Out Fl := .ok (.nx ρ) μ
@[irreducible] def sq (a b : S) (ρ : Env) (μ : Mem) : Out Fl := (a ρ μ).bind fun f μ => match f with
  | .nx ρ => b ρ μ
  | f => .ok f μ
@[irreducible] def sX (e : E) (ρ : Env) (μ : Mem) : Out Fl := (e ρ μ).bind fun _ μ => .ok (.nx ρ) μ
@[irreducible] def sAs (t : Tg) (e : E) (ρ : Env) (μ : Mem) : Out Fl := (e ρ μ).bind fun r μ => match t r ρ with
  | some ρ => .ok (.nx ρ) μ
  | none => .no
/-- x op= e: intsD, texts -/
@[irreducible] def sAug (i : Nat) (f : R → R → Option R) (e : E) (ρ : Env) (μ : Mem) : Out Fl := match ρ[i]? with
  | some (.v x) => (e ρ μ).bind fun y μ => (lift (f x y) μ).bind fun z μ => .ok (.nx (ρ.set i (.v z))) μ
  | _ => .no
/-- x, y = a, b -/
@[irreducible] def sPar (i j : Nat) (a b : E) (ρ : Env) (μ : Mem) : Out Fl := (a ρ μ).bind fun x μ => (b ρ μ).bind fun y μ => .ok (.nx ((ρ.set i (.v x)).set j (.v y))) μ
def iaddR : R → R → Option R
  | .d (.int a), .d (.int b) => some (.d (.int (a + b)))
  | .d (.str a), .d (.str b) => if a.length + b.length ≤ SL then some (.d (.str (a ++ b))) else none
  | _, _ => none
/-- name = a new list (dict), the frame's own -/
@[irreducible] def sOwn (i : Nat) (e : E) (ρ : Env) (μ : Mem) : Out Fl := (e ρ μ).bind fun r μ => match r with
  | .d (.lst ds) => .ok (.nx (ρ.set i (.own (ds.map .d)))) μ
  | .ls rs => .ok (.nx (ρ.set i (.own rs))) μ
  | .dic kvs => .ok (.nx (ρ.set i (.odic kvs))) μ
  | _ => .no
/-- name = a new list, in a cell that others may have too -/
@[irreducible] def sCell (i : Nat) (e : E) (ρ : Env) (μ : Mem) : Out Fl := (e ρ μ).bind fun r μ => match r with
  | .d (.lst ds) => .ok (.nx (ρ.set i (.v (.p μ.length)))) (μ ++ [.lst ds])
  | _ => .no
/-- from here on the list of one's own stays as it is -/
@[irreducible] def sFrz (i : Nat) (ρ : Env) (μ : Mem) : Out Fl := match ρ[i]? with
  | some (.own rs) => .ok (.nx (ρ.set i (.v (mkL rs)))) μ
  | some (.odic kvs) => .ok (.nx (ρ.set i (.v (.dic kvs)))) μ
  | _ => .no
/-- x.append(e), x.extend(e), x.reverse(), x a list of one's own -/
@[irreducible] def sApp (i : Nat) (e : E) (ρ : Env) (μ : Mem) : Out Fl := match ρ[i]? with
  | some (.own xs) => (e ρ μ).bind fun r μ => if xs.length < SL then .ok (.nx (ρ.set i (.own (xs ++ [r])))) μ else .no
  | _ => .no
def extR : R → Option (List R)
  | .d (.lst ds) => some (ds.map .d)
  | .ls ys => some ys
  | _ => none
@[irreducible] def sExt (i : Nat) (e : E) (ρ : Env) (μ : Mem) : Out Fl := match ρ[i]? with
  | some (.own xs) => (e ρ μ).bind fun r μ => match extR (vw μ r) with
    | some ys => if xs.length + ys.length ≤ SL then .ok (.nx (ρ.set i (.own (xs ++ ys)))) μ else .no
    | none => .no
  | _ => .no
@[irreducible] def sRev (i : Nat) (ρ : Env) (μ : Mem) : Out Fl := match ρ[i]? with
  | some (.own xs) => .ok (.nx (ρ.set i (.own xs.reverse))) μ
  | _ => .no
/-- a[i] = e, a a cell's list -/
@[irreducible] def sSet (a i e : E) (ρ : Env) (μ : Mem) : Out Fl := (e ρ μ).bind fun z μ => (a ρ μ).bind fun x μ => (i ρ μ).bind fun k μ => match x, k, z with
  | .p n, .d (.int k), .d z => (match μ[n]? with
    | some (.lst ds) => (match ixN ds.length k with
      | some j => .ok (.nx ρ) (μ.set n (.lst (ds.set j z)))
      | none => .no)
    | _ => .no)
  | _, _, _ => .no
/-- x[i] = e, x a dict of one's own, a list of one's own -/
@[irreducible] def sSetD (a : Nat) (i e : E) (ρ : Env) (μ : Mem) : Out Fl := (e ρ μ).bind fun z μ => match ρ[a]? with
  | some (.odic kvs) => (i ρ μ).bind fun k μ => match k with
    | .d k => (match keyOf k with
      | some k => if kvs.length < SL then .ok (.nx (ρ.set a (.odic (putK kvs k z)))) μ else .no
      | none => .no)
    | _ => .no
  | _ => .no
@[irreducible] def sSetI (a : Nat) (i e : E) (ρ : Env) (μ : Mem) : Out Fl := (e ρ μ).bind fun z μ => match ρ[a]? with
  | some (.own rs) => (i ρ μ).bind fun k μ => match k with
    | .d (.int k) => (match ixN rs.length k with
      | some j => .ok (.nx (ρ.set a (.own (rs.set j z)))) μ
      | none => .no)
    | _ => .no
  | _ => .no
@[irreducible] def sRet (e : E) (ρ : Env) (μ : Mem) : Out Fl := (e ρ μ).bind fun r μ => .ok (.rt r) μ
@[irreducible] def sRetN (_ : Env) (μ : Mem) : Out Fl := .ok (.rt (.d .non)) μ
@[irreducible] def sIf (c : T) (a b : S) (ρ : Env) (μ : Mem) : Out Fl := (c ρ μ).bind fun k μ => if k then a ρ μ else b ρ μ
@[irreducible] def sBrk (ρ : Env) (μ : Mem) : Out Fl := .ok (.bk ρ) μ
@[irreducible] def sCnt (ρ : Env) (μ : Mem) : Out Fl := .ok (.ct ρ) μ
def forL (t : Tg) (b : S) : List R → S
  | [], ρ, μ => .ok (.nx ρ) μ
  | x :: xs, ρ, μ => match t x ρ with
    | none => .no
    | some ρ1 => (b ρ1 μ).bind fun f μ => match f with
      | .nx ρ => forL t b xs ρ μ
      | .ct ρ => forL t b xs ρ μ
      | .bk ρ => .ok (.nx ρ) μ
      | .rt r => .ok (.rt r) μ
@[irreducible] def sFor (t : Tg) (it : It) (b : S) (ρ : Env) (μ : Mem) : Out Fl := (it ρ μ).bind fun xs μ => forL t b xs ρ μ
def whL (c : T) (b : S) : Nat → S
  | 0, _, _ => .no
  | n + 1, ρ, μ => (c ρ μ).bind fun k μ => if k then (b ρ μ).bind fun f μ => match f with
      | .nx ρ => whL c b n ρ μ
      | .ct ρ => whL c b n ρ μ
      | .bk ρ => .ok (.nx ρ) μ
      | .rt r => .ok (.rt r) μ
    else .ok (.nx ρ) μ
/-- a while: at most W turns -/
@[irreducible] def sWhile (W : Nat) (c : T) (b : S) (ρ : Env) (μ : Mem) : Out Fl := whL c b W ρ μ

/-! ### defs -/
mutual
def okR (m : Nat) : R → Bool
  | .p n => decide (n < m)
  | .dic kvs => okKs m kvs
  | .ins _ fs => okFs m fs
  | .ls rs => okRs m rs
  | .d _ => true
  | .scr _ => true
  | .rep _ => true
def okRs (m : Nat) : List R → Bool
  | [] => true
  | r :: rs => okR m r && okRs m rs
def okKs (m : Nat) : List (Ky × R) → Bool
  | [] => true
  | (_, r) :: rs => okR m r && okKs m rs
def okFs (m : Nat) : List (String × R) → Bool
  | [] => true
  | (_, r) :: rs => okR m r && okFs m rs
end
def okCell (m : Nat) : Cell → Bool
  | .ins _ fs => okFs m fs
  | .dic kvs => okKs m kvs
  | .lst _ => true
  | .dead => true
/-- a def ends: its own cells go -/
def fin (m : Nat) (r : R) (μ : Mem) : Out R :=
  if μ.length = m then .ok r μ
  else if okR m r && (μ.take m).all (okCell m) then .ok r (μ.take m) else .no
structure Def where
  /-- how many parameters, how many names -/
  np : Nat
  nl : Nat
  body : Fn → S
def runB (nl : Nat) (b : S) (args : List R) (μ : Mem) : Out R :=
  (b (args.map .v ++ List.replicate (nl - args.length) .un) μ).bind fun f μ' => match f with
    | .rt r => fin μ.length r μ'
    | .nx _ => fin μ.length (.d .non) μ'
    | _ => .no
def callN (P : String → Option Def) : Nat → Fn
  | 0, _, _, _ => .no
  | n + 1, f, args, μ => match P f with
    | some d => if args.length = d.np then runB d.nl (d.body (callN P n)) args μ else .no
    | none => .no
end Ev
end

section
set_option maxHeartbeats 0
set_option Elab.async false
set_option linter.all false
set_option maxRecDepth 100000
/-! EvRep: what the evaluator's data are in the layer's heap. -/
namespace EvS
open PySem PySem.Spec PyProof.Rows L2

/-! ### data -/
abbrev St8 (s : String) : Str := Str.ofString s
mutual
def toPy : Ev.D → PyData
  | .non => .none
  | .bl b => .bool b
  | .int i => .int i
  | .str s => .str (Str.ofString s)
  | .tup ds => .tuple (toPyL ds)
  | .lst ds => .list (toPyL ds)
def toPyL : List Ev.D → List PyData
  | [] => []
  | d :: ds => toPy d :: toPyL ds
end
theorem toPyL_map : ∀ ds : List Ev.D, toPyL ds = ds.map toPy
  | [] => rfl
  | d :: ds => by rw [toPyL, toPyL_map ds, List.map_cons]

theorem ofString_inj {a b : String} (h : Str.ofString a = Str.ofString b) : a = b := by
  rw [Str.ofString_eq_toList, Str.ofString_eq_toList] at h
  have h1 : (a.toList.map Char.toNat).toArray = (b.toList.map Char.toNat).toArray := congrArg Str.cps h
  have h2 : a.toList.map Char.toNat = b.toList.map Char.toNat := by simpa using congrArg Array.toList h1
  have h3 : a.toList = b.toList := by
    refine List.map_inj_right (f := Char.toNat) (fun x y e => ?_) |>.mp h2
    exact Char.toNat_inj.mp e
  exact String.toList_injective h3
theorem ofString_eq (a b : String) : (Str.ofString a == Str.ofString b) = (a == b) := by
  by_cases e : a = b
  · subst e; simp
  · have h : ¬ Str.ofString a = Str.ofString b := fun q => e (ofString_inj q)
    rw [beq_eq_false_iff_ne.mpr e]
    exact beq_eq_false_iff_ne.mpr h
theorem cps_ofString (a : String) : (Str.ofString a).cps.toList = a.toList.map Char.toNat := by rw [Str.ofString_eq_toList]
theorem len_ofString (a : String) : (Str.ofString a).length = a.length := by
  rw [Str.ofString_eq_toList]
  show (a.toList.map Char.toNat).toArray.size = a.length
  simp [String.length_toList]
theorem ofString_append (a b : String) : Str.ofString (a ++ b) = Str.ofString a ++ Str.ofString b := by
  rw [Str.ofString_eq_toList, Str.ofString_eq_toList, Str.ofString_eq_toList]
  show _ = Str.mk ((a.toList.map Char.toNat).toArray ++ (b.toList.map Char.toNat).toArray)
  simp
theorem strOk_ofString (a : String) : PyData.strOk (Str.ofString a) = true := by
  unfold PyData.strOk
  rw [Str.ofString_eq_toList]
  simp only [List.all_toArray, List.all_map, List.all_eq_true, Function.comp, decide_eq_true_eq]
  intro c _
  have h := c.valid
  have h2 : c.toNat = c.val.toNat := rfl
  simp only [UInt32.isValidChar, Nat.isValidChar] at h
  omega

mutual
theorem eqv_toPy : ∀ x y : Ev.D, PyData.eqv (toPy x) (toPy y) = Ev.D.eqv x y
  | .non, y => by cases y <;> simp [toPy, PyData.eqv, Ev.D.eqv]
  | .bl b, y => by cases y <;> simp [toPy, PyData.eqv, Ev.D.eqv]
  | .int b, y => by cases y <;> simp [toPy, PyData.eqv, Ev.D.eqv]
  | .str b, y => by cases y <;> simp [toPy, PyData.eqv, Ev.D.eqv, ofString_eq]
  | .tup xs, y => by
    cases y with
    | tup ys => simp only [toPy, PyData.eqv, Ev.D.eqv]; exact eqvL_toPy xs ys
    | _ => simp [toPy, PyData.eqv, Ev.D.eqv]
  | .lst xs, y => by
    cases y with
    | lst ys => simp only [toPy, PyData.eqv, Ev.D.eqv]; exact eqvL_toPy xs ys
    | _ => simp [toPy, PyData.eqv, Ev.D.eqv]
theorem eqvL_toPy : ∀ xs ys : List Ev.D, PyData.eqvAll (toPyL xs) (toPyL ys) = Ev.D.eqvL xs ys
  | [], [] => by simp [toPyL, PyData.eqvAll, Ev.D.eqvL]
  | [], _ :: _ => by simp [toPyL, PyData.eqvAll, Ev.D.eqvL]
  | _ :: _, [] => by simp [toPyL, PyData.eqvAll, Ev.D.eqvL]
  | x :: xs, y :: ys => by simp only [toPyL, PyData.eqvAll, Ev.D.eqvL]; rw [eqv_toPy x y, eqvL_toPy xs ys]
end
mutual
theorem canLay_toPy : ∀ x : Ev.D, (toPy x).canLay0 = true
  | .non => by simp [toPy, PyData.canLay0]
  | .bl b => by simp [toPy, PyData.canLay0]
  | .int b => by simp [toPy, PyData.canLay0]
  | .str b => by simp only [toPy, PyData.canLay0]; exact strOk_ofString b
  | .tup xs => by simp only [toPy, PyData.canLay0]; exact canLayL_toPy xs
  | .lst xs => by simp only [toPy, PyData.canLay0]; exact canLayL_toPy xs
theorem canLayL_toPy : ∀ xs : List Ev.D, PyData.canLayAll0 (toPyL xs) = true
  | [] => by simp [toPyL, PyData.canLayAll0]
  | x :: xs => by simp only [toPyL, PyData.canLayAll0]; rw [canLay_toPy x, canLayL_toPy xs]; rfl
end
mutual
theorem dep_toPy : ∀ x : Ev.D, (toPy x).depth = x.dep
  | .non => by simp [toPy, PyData.depth, Ev.D.dep]
  | .bl b => by simp [toPy, PyData.depth, Ev.D.dep]
  | .int b => by simp [toPy, PyData.depth, Ev.D.dep]
  | .str b => by simp [toPy, PyData.depth, Ev.D.dep]
  | .tup xs => by simp only [toPy, PyData.depth, Ev.D.dep]; rw [depL_toPy xs]
  | .lst xs => by simp only [toPy, PyData.depth, Ev.D.dep]; rw [depL_toPy xs]
theorem depL_toPy : ∀ xs : List Ev.D, PyData.depthAll (toPyL xs) = Ev.D.depL xs
  | [] => by simp [toPyL, PyData.depthAll, Ev.D.depL]
  | x :: xs => by simp only [toPyL, PyData.depthAll, Ev.D.depL]; rw [dep_toPy x, depL_toPy xs]
end
theorem SL_eq : Ev.SL = sizeLine := by rw [sizeLine_eq]; rfl

/-! ### heaps -/
theorem Same.seqT {K : PySem.W.Frag} {H H' : Hp} {a : Addr} {xs : List V} (e : Same H H') (h : SqT K H a xs) : SqT K H' a xs := by
  rcases h with (h | ⟨o, h⟩) | h
  · exact .inl (.inl (e _ _ h))
  · exact .inl (.inr ⟨o, e _ _ h⟩)
  · exact .inr h
mutual
theorem Dp.mono {K : PySem.W.Frag} {H H' : Hp} (e : Same H H') : ∀ {v : V} {d : PyData}, Dp K H v d → Dp K H' v d
  | _, _, .non => .non
  | _, _, .bl b => .bl b
  | _, _, .int i => .int i
  | _, _, .str x => .str x
  | _, _, .lst h h2 => .lst (e.seq h) (DpAll.mono e h2)
  | _, _, .tup h h2 => .tup (Same.seqT e h) (DpAll.mono e h2)
theorem DpAll.mono {K : PySem.W.Frag} {H H' : Hp} (e : Same H H') : ∀ {vs : List V} {ds : List PyData}, DpAll K H vs ds → DpAll K H' vs ds
  | _, _, .nil => .nil
  | _, _, .cons h h2 => .cons (Dp.mono e h) (DpAll.mono e h2)
end
/-! plain data at a value: tuples, lists that stay as they are -/
mutual
inductive DR (K : PySem.W.Frag) (G : Hp) : V → Ev.D → Prop
  | non : DR K G .non .non
  | bl (b : Bool) : DR K G (.bl b) (.bl b)
  | int (i : Int) : DR K G (.int i) (.int i)
  | str (s : String) : DR K G (.str (Str.ofString s)) (.str s)
  | tup {a : Addr} {xs : List V} {ds : List Ev.D} : SqT K G a xs → DRs K G xs ds → DR K G (.ref a) (.tup ds)
  | lst {a : Addr} {xs : List V} {ds : List Ev.D} : G a = some (.lst xs) → DRs K G xs ds → DR K G (.ref a) (.lst ds)
inductive DRs (K : PySem.W.Frag) (G : Hp) : List V → List Ev.D → Prop
  | nil : DRs K G [] []
  | cons {v : V} {vs : List V} {d : Ev.D} {ds : List Ev.D} : DR K G v d → DRs K G vs ds → DRs K G (v :: vs) (d :: ds)
end
mutual
theorem DR.mono {K : PySem.W.Frag} {H H' : Hp} (e : Same H H') : ∀ {v : V} {d : Ev.D}, DR K H v d → DR K H' v d
  | _, _, .non => .non
  | _, _, .bl b => .bl b
  | _, _, .int i => .int i
  | _, _, .str x => .str x
  | _, _, .lst h h2 => .lst (e _ _ h) (DRs.mono e h2)
  | _, _, .tup h h2 => .tup (Same.seqT e h) (DRs.mono e h2)
theorem DRs.mono {K : PySem.W.Frag} {H H' : Hp} (e : Same H H') : ∀ {vs : List V} {ds : List Ev.D}, DRs K H vs ds → DRs K H' vs ds
  | _, _, .nil => .nil
  | _, _, .cons h h2 => .cons (DR.mono e h) (DRs.mono e h2)
end
mutual
theorem DR.dp {K : PySem.W.Frag} {H : Hp} : ∀ {v : V} {d : Ev.D}, DR K H v d → Dp K H v (toPy d)
  | _, _, .non => by simp only [toPy]; exact .non
  | _, _, .bl b => by simp only [toPy]; exact .bl b
  | _, _, .int i => by simp only [toPy]; exact .int i
  | _, _, .str x => by simp only [toPy]; exact .str _
  | _, _, .lst h h2 => by simp only [toPy]; exact .lst (.inl (.inl h)) (DRs.dp h2)
  | _, _, .tup h h2 => by simp only [toPy]; exact .tup h (DRs.dp h2)
theorem DRs.dp {K : PySem.W.Frag} {H : Hp} : ∀ {vs : List V} {ds : List Ev.D}, DRs K H vs ds → DpAll K H vs (toPyL ds)
  | _, _, .nil => .nil
  | _, _, .cons h h2 => by simp only [toPyL]; exact .cons (DR.dp h) (DRs.dp h2)
end
theorem DRs.len {K : PySem.W.Frag} {H : Hp} : ∀ {vs : List V} {ds : List Ev.D}, DRs K H vs ds → vs.length = ds.length
  | _, _, .nil => rfl
  | _, _, .cons _ h2 => by simp [DRs.len h2]
theorem DRs.get {K : PySem.W.Frag} {H : Hp} : ∀ {vs : List V} {ds : List Ev.D} {i : Nat} {d : Ev.D}, DRs K H vs ds → ds[i]? = some d → ∃ v, vs[i]? = some v ∧ DR K H v d
  | _, _, _, _, .nil, e => by simp at e
  | _, _, 0, _, .cons h _, e => by simp at e; subst e; exact ⟨_, rfl, h⟩
  | _, _, i + 1, _, .cons _ h2, e => by
    obtain ⟨v, h3, h4⟩ := DRs.get (i := i) h2 (by simpa using e)
    exact ⟨v, by simpa using h3, h4⟩
theorem DRs.append {K : PySem.W.Frag} {H : Hp} : ∀ {vs ws : List V} {ds es : List Ev.D}, DRs K H vs ds → DRs K H ws es → DRs K H (vs ++ ws) (ds ++ es)
  | _, _, _, _, .nil, h => h
  | _, _, _, _, .cons a b, h => .cons a (DRs.append b h)
theorem DRs.take {K : PySem.W.Frag} {H : Hp} : ∀ {vs : List V} {ds : List Ev.D} (n : Nat), DRs K H vs ds → DRs K H (vs.take n) (ds.take n)
  | _, _, 0, _ => .nil
  | _, _, _ + 1, .nil => .nil
  | _, _, n + 1, .cons a b => .cons a (DRs.take n b)
theorem DRs.drop {K : PySem.W.Frag} {H : Hp} : ∀ {vs : List V} {ds : List Ev.D} (n : Nat), DRs K H vs ds → DRs K H (vs.drop n) (ds.drop n)
  | _, _, 0, h => h
  | _, _, _ + 1, .nil => .nil
  | _, _, n + 1, .cons _ b => DRs.drop n b
theorem DRs.set {K : PySem.W.Frag} {H : Hp} {v : V} {d : Ev.D} (h : DR K H v d) : ∀ {vs : List V} {ds : List Ev.D} (n : Nat), DRs K H vs ds → DRs K H (vs.set n v) (ds.set n d)
  | _, _, _, .nil => .nil
  | _, _, 0, .cons _ b => .cons h b
  | _, _, n + 1, .cons a b => .cons a (DRs.set h n b)
theorem DRs.rep {K : PySem.W.Frag} {H : Hp} {vs : List V} {ds : List Ev.D} (h : DRs K H vs ds) : ∀ n : Nat, DRs K H (List.replicate n vs).flatten (List.replicate n ds).flatten
  | 0 => .nil
  | n + 1 => by rw [List.replicate_succ, List.replicate_succ, List.flatten_cons, List.flatten_cons]; exact DRs.append h (DRs.rep h n)

/-- the module's facts that data lean on: the written part; where a class of the module stands -/
-- the classes by their names; the code objects of the defs that hold generator expressions, with their tables
structure Cn where
  cls : String → Addr
  tabs : List (Addr × Addr)
structure Ct where
  K : PySem.W.Frag
  ca : Cn
def kyK : Ev.Ky → Key
  | .i n => .inl n
  | .s x => .inr (Str.ofString x)
theorem kyK_inj {a b : Ev.Ky} (h : kyK a = kyK b) : a = b := by
  cases a <;> cases b <;> simp [kyK] at h
  · rw [h]
  · rw [ofString_inj h]

mutual
inductive RR (Γ : Ct) (φ : List Addr) (G : Hp) : V → Ev.R → Prop
  | d {v : V} {x : Ev.D} : DR Γ.K G v x → RR Γ φ G v (.d x)
  | p {n : Nat} {a : Addr} : φ[n]? = some a → RR Γ φ G (.ref a) (.p n)
  | dic {a : Addr} {ks : List (Key × V)} {kvs : List (Ev.Ky × Ev.R)} : G a = some (.dK ks) → RKs Γ φ G ks kvs → RR Γ φ G (.ref a) (.dic kvs)
  | ins {a dx : Addr} {c : String} {fs : List (Str × V)} {gs : List (String × Ev.R)} : G a = some (.ins (Γ.ca.cls c) dx fs) → G dx = some (.own a) → RFs Γ φ G fs gs → RR Γ φ G (.ref a) (.ins c gs)
  | ls {a : Addr} {xs : List V} {rs : List Ev.R} : G a = some (.lst xs) → RRs Γ φ G xs rs → RR Γ φ G (.ref a) (.ls rs)
  | scr {a : Addr} {ns : List Int} : SqL Γ.K G a (ns.map V.int) → RR Γ φ G (.ref a) (.scr ns)
  | rep {x : Ev.D} : RR Γ φ G (.str (toPy x).shown) (.rep x)
inductive RRs (Γ : Ct) (φ : List Addr) (G : Hp) : List V → List Ev.R → Prop
  | nil : RRs Γ φ G [] []
  | cons {v : V} {vs : List V} {r : Ev.R} {rs : List Ev.R} : RR Γ φ G v r → RRs Γ φ G vs rs → RRs Γ φ G (v :: vs) (r :: rs)
inductive RKs (Γ : Ct) (φ : List Addr) (G : Hp) : List (Key × V) → List (Ev.Ky × Ev.R) → Prop
  | nil : RKs Γ φ G [] []
  | cons {k : Ev.Ky} {v : V} {ks : List (Key × V)} {r : Ev.R} {rs : List (Ev.Ky × Ev.R)} : RR Γ φ G v r → RKs Γ φ G ks rs → RKs Γ φ G ((kyK k, v) :: ks) ((k, r) :: rs)
inductive RFs (Γ : Ct) (φ : List Addr) (G : Hp) : List (Str × V) → List (String × Ev.R) → Prop
  | nil : RFs Γ φ G [] []
  | cons {k : String} {v : V} {ks : List (Str × V)} {r : Ev.R} {rs : List (String × Ev.R)} : RR Γ φ G v r → RFs Γ φ G ks rs → RFs Γ φ G ((Str.ofString k, v) :: ks) ((k, r) :: rs)
end
section
variable {Γ : Ct} {φ φ' : List Addr} {G G' : Hp}
mutual
theorem RR.mono (e : Same G G') (hp : ∀ (n : Nat) (a : Addr), φ[n]? = some a → φ'[n]? = some a) : ∀ {v : V} {r : Ev.R}, RR Γ φ G v r → RR Γ φ' G' v r
  | _, _, .d h => .d (DR.mono e h)
  | _, _, .p h => .p (hp _ _ h)
  | _, _, .dic h h2 => .dic (e _ _ h) (RKs.mono e hp h2)
  | _, _, .ins h h1 h2 => .ins (e _ _ h) (e _ _ h1) (RFs.mono e hp h2)
  | _, _, .ls h h2 => .ls (e _ _ h) (RRs.mono e hp h2)
  | _, _, .scr h => .scr (e.seq h)
  | _, _, .rep => .rep
theorem RRs.mono (e : Same G G') (hp : ∀ (n : Nat) (a : Addr), φ[n]? = some a → φ'[n]? = some a) : ∀ {v : List V} {r : List Ev.R}, RRs Γ φ G v r → RRs Γ φ' G' v r
  | _, _, .nil => .nil
  | _, _, .cons h h2 => .cons (RR.mono e hp h) (RRs.mono e hp h2)
theorem RKs.mono (e : Same G G') (hp : ∀ (n : Nat) (a : Addr), φ[n]? = some a → φ'[n]? = some a) : ∀ {v : List (Key × V)} {r : List (Ev.Ky × Ev.R)}, RKs Γ φ G v r → RKs Γ φ' G' v r
  | _, _, .nil => .nil
  | _, _, .cons h h2 => .cons (RR.mono e hp h) (RKs.mono e hp h2)
theorem RFs.mono (e : Same G G') (hp : ∀ (n : Nat) (a : Addr), φ[n]? = some a → φ'[n]? = some a) : ∀ {v : List (Str × V)} {r : List (String × Ev.R)}, RFs Γ φ G v r → RFs Γ φ' G' v r
  | _, _, .nil => .nil
  | _, _, .cons h h2 => .cons (RR.mono e hp h) (RFs.mono e hp h2)
end
theorem RRs.len : ∀ {vs : List V} {rs : List Ev.R}, RRs Γ φ G vs rs → vs.length = rs.length
  | _, _, .nil => rfl
  | _, _, .cons _ h => by simp [RRs.len h]
theorem RRs.get : ∀ {vs : List V} {rs : List Ev.R} {i : Nat} {r : Ev.R}, RRs Γ φ G vs rs → rs[i]? = some r → ∃ v, vs[i]? = some v ∧ RR Γ φ G v r
  | _, _, _, _, .nil, e => by simp at e
  | _, _, 0, _, .cons h _, e => by simp at e; subst e; exact ⟨_, rfl, h⟩
  | _, _, i + 1, _, .cons _ h2, e => by
    obtain ⟨v, h3, h4⟩ := RRs.get (i := i) h2 (by simpa using e)
    exact ⟨v, by simpa using h3, h4⟩
theorem RRs.append : ∀ {vs ws : List V} {rs ss : List Ev.R}, RRs Γ φ G vs rs → RRs Γ φ G ws ss → RRs Γ φ G (vs ++ ws) (rs ++ ss)
  | _, _, _, _, .nil, h => h
  | _, _, _, _, .cons a b, h => .cons a (RRs.append b h)
theorem RRs.reverse : ∀ {vs : List V} {rs : List Ev.R}, RRs Γ φ G vs rs → RRs Γ φ G vs.reverse rs.reverse
  | _, _, .nil => .nil
  | _, _, .cons a b => by rw [List.reverse_cons, List.reverse_cons]; exact RRs.append (RRs.reverse b) (.cons a .nil)
theorem RRs.set {v : V} {r : Ev.R} (h : RR Γ φ G v r) : ∀ {vs : List V} {rs : List Ev.R} (n : Nat), RRs Γ φ G vs rs → RRs Γ φ G (vs.set n v) (rs.set n r)
  | _, _, _, .nil => .nil
  | _, _, 0, .cons _ b => .cons h b
  | _, _, n + 1, .cons a b => .cons a (RRs.set h n b)
theorem RR.inv_d {v : V} {x : Ev.D} (h : RR Γ φ G v (.d x)) : DR Γ.K G v x := by cases h; assumption
theorem RRs.vals : ∀ {vs : List V} {rs : List Ev.R} {ds : List Ev.D}, RRs Γ φ G vs rs → Ev.valsR rs = some ds → DRs Γ.K G vs ds
  | _, _, _, .nil, e => by cases e; exact .nil
  | _, _, _, .cons (r := r) h h2, e => by
    cases r with
    | d x =>
      rw [Ev.valsR_cons] at e
      obtain ⟨ds', e1, e2⟩ := Option.map_eq_some_iff.mp e
      subst e2
      exact .cons h.inv_d (RRs.vals h2 e1)
    | p n => cases e
    | dic k => cases e
    | ins c f => cases e
    | ls l => cases e
    | scr l => cases e
    | rep l => cases e
theorem RRs.ofD : ∀ {vs : List V} {ds : List Ev.D}, DRs Γ.K G vs ds → RRs Γ φ G vs (ds.map .d)
  | vs, [], h => by cases h; exact .nil
  | vs, d :: ds, h => by
    cases h with
    | cons a b => exact .cons (.d a) (RRs.ofD b)
theorem RRs.toD : ∀ {vs : List V} {ds : List Ev.D}, RRs Γ φ G vs (ds.map .d) → DRs Γ.K G vs ds
  | vs, [], h => by cases h; exact .nil
  | vs, d :: ds, h => by
    cases h with
    | cons a b => exact .cons a.inv_d (RRs.toD b)
theorem valsR_some : ∀ {rs : List Ev.R} {ds : List Ev.D}, Ev.valsR rs = some ds → rs = ds.map .d
  | [], _, h => by cases h; rfl
  | .d x :: rs, ds, h => by
    rw [Ev.valsR_cons] at h
    obtain ⟨ds', e1, e2⟩ := Option.map_eq_some_iff.mp h
    subst e2
    rw [valsR_some e1]; rfl
  | .p _ :: _, _, h => by cases h
  | .dic _ :: _, _, h => by cases h
  | .ins _ _ :: _, _, h => by cases h
  | .ls _ :: _, _, h => by cases h
  | .scr _ :: _, _, h => by cases h
  | .rep _ :: _, _, h => by cases h
/-- a list of values, as mkL says it -/
theorem RR.mkL {a : Addr} {xs : List V} {rs : List Ev.R} (h : G a = some (.lst xs)) (h2 : RRs Γ φ G xs rs) : RR Γ φ G (.ref a) (Ev.mkL rs) := by
  unfold Ev.mkL
  split
  · rename_i ds e
    exact .d (.lst h (h2.vals e))
  · exact .ls h h2
end

/-! ### the state -/
inductive CellR (Γ : Ct) (φ : List Addr) (G H : Hp) (a : Addr) : Ev.Cell → Prop
  | lst {xs : List V} {ds : List Ev.D} : H a = some (.lst xs) → DRs Γ.K G xs ds → CellR Γ φ G H a (.lst ds)
  | dic {ks : List (Key × V)} {kvs : List (Ev.Ky × Ev.R)} : H a = some (.dK ks) → RKs Γ φ G ks kvs → CellR Γ φ G H a (.dic kvs)
  | ins {dx : Addr} {c : String} {fs : List (Str × V)} {gs : List (String × Ev.R)} : H a = some (.ins (Γ.ca.cls c) dx fs) → H dx = some (.own a) → RFs Γ φ G fs gs → CellR Γ φ G H a (.ins c gs)
  | dead : CellR Γ φ G H a .dead
structure Ok (Γ : Ct) (φ : List Addr) (G H : Hp) (μ : Ev.Mem) : Prop where
  le : Same G H
  nd : φ.Nodup
  len : φ.length = μ.length
  fre : ∀ a ∈ φ, G a = none
  thr : ∀ a ∈ φ, ∃ o, H a = some o
  cell : ∀ (n : Nat) (a : Addr) (c : Ev.Cell), φ[n]? = some a → μ[n]? = some c → CellR Γ φ G H a c
  tb : ∀ p ∈ Γ.ca.tabs, GxR.TabG H p.2 ∧ p.2 ∉ φ ∧ G p.2 = none
structure Ext (φ : List Addr) (G H : Hp) (φ' : List Addr) (G' H' : Hp) : Prop where
  g : Same G G'
  gn : ∀ a, G' a ≠ none → G a ≠ none ∨ H a = none ∨ a ∈ φ
  p : ∃ ψ, φ' = φ ++ ψ ∧ ∀ a ∈ ψ, H a = none ∧ a ∉ φ
  f : ∀ a o, H a = some o → a ∉ φ → H' a = some o ∨ ∃ ps qs, o = .tbl ps ∧ H' a = some (.tbl qs)
section
variable {Γ : Ct} {φ φ' φ1 φ2 : List Addr} {G G' G1 G2 H H' H1 H2 : Hp} {μ μ' : Ev.Mem}
theorem Ext.refl : Ext φ G H φ G H := ⟨Same.refl _, fun _ h => .inl h, ⟨[], by simp, by simp⟩, fun _ _ h _ => .inl h⟩
theorem Ext.fo (a : Ext φ G H φ' G' H') {c : Addr} {o : HO} (h : H c = some o) (hn : c ∉ φ) (ht : ∀ q, o ≠ .tbl q := by intro q z; cases z) : H' c = some o := by
  rcases a.f c o h hn with z | ⟨ps, qs, z, _⟩
  · exact z
  · exact absurd z (ht ps)
theorem Ext.fs (a : Ext φ G H φ' G' H') {c : Addr} {o : HO} (h : H c = some o) (hn : c ∉ φ) : ∃ o', H' c = some o' := by
  rcases a.f c o h hn with z | ⟨ps, qs, _, z⟩
  · exact ⟨_, z⟩
  · exact ⟨_, z⟩
theorem Ext.trans (a : Ext φ G H φ1 G1 H1) (b : Ext φ1 G1 H1 φ2 G2 H2) : Ext φ G H φ2 G2 H2 := by
  obtain ⟨ψ1, e1, q1⟩ := a.p
  obtain ⟨ψ2, e2, q2⟩ := b.p
  have key : ∀ c, H1 c = none → c ∉ φ → H c = none := fun c hc hn => by
    cases q : H c with
    | none => rfl
    | some o =>
      obtain ⟨o2, z⟩ := a.fs q hn
      rw [z] at hc; cases hc
  refine ⟨a.g.trans b.g, fun c hc => ?_, ⟨ψ1 ++ ψ2, by rw [e2, e1, List.append_assoc], fun c hc => ?_⟩, fun c o hc hn => ?_⟩
  · rcases b.gn c hc with h | h | h
    · exact a.gn c h
    · by_cases hm : c ∈ φ
      · exact .inr (.inr hm)
      · exact .inr (.inl (key c h hm))
    · rw [e1] at h
      rcases List.mem_append.mp h with h | h
      · exact .inr (.inr h)
      · exact .inr (.inl (q1 c h).1)
  · rcases List.mem_append.mp hc with h | h
    · exact q1 c h
    · obtain ⟨h1, h2⟩ := q2 c h
      have hn : c ∉ φ := fun z => h2 (by rw [e1]; exact List.mem_append_left _ z)
      exact ⟨key c h1 hn, hn⟩
  · have hn1 : c ∉ φ1 := fun z => by
      rw [e1] at z
      rcases List.mem_append.mp z with z | z
      · exact hn z
      · rw [(q1 c z).1] at hc; cases hc
    rcases a.f c o hc hn with z | ⟨ps, qs, z1, z2⟩
    · exact b.f c o z hn1
    · rcases b.f c _ z2 hn1 with y | ⟨ps2, qs2, y1, y2⟩
      · exact .inr ⟨ps, qs, z1, y⟩
      · exact .inr ⟨ps, qs2, z1, y2⟩
theorem Ext.ix (a : Ext φ G H φ' G' H') : ∀ (n : Nat) (c : Addr), φ[n]? = some c → φ'[n]? = some c := fun n c h => by
  obtain ⟨ψ, e, _⟩ := a.p
  rw [e, List.getElem?_append_left (by have := List.getElem?_eq_some_iff.mp h; exact this.1)]
  exact h
theorem Ext.rr (a : Ext φ G H φ' G' H') {v : V} {r : Ev.R} (h : RR Γ φ G v r) : RR Γ φ' G' v r := h.mono a.g a.ix
theorem Ext.rrs (a : Ext φ G H φ' G' H') {v : List V} {r : List Ev.R} (h : RRs Γ φ G v r) : RRs Γ φ' G' v r := h.mono a.g a.ix
/-- an object that nobody else has stays, and stays apart -/
theorem Ext.keep (a : Ext φ G H φ' G' H') {c : Addr} {o : HO} (h : H c = some o) (hp : c ∉ φ) (hg : G c = none) (ht : ∀ q, o ≠ .tbl q := by intro q z; cases z) : H' c = some o ∧ c ∉ φ' ∧ G' c = none := by
  obtain ⟨ψ, e, q⟩ := a.p
  refine ⟨a.fo h hp ht, fun z => ?_, ?_⟩
  · rw [e] at z
    rcases List.mem_append.mp z with z | z
    · exact hp z
    · rw [(q c z).1] at h; cases h
  · cases r : G' c with
    | none => rfl
    | some u =>
      rcases a.gn c (by rw [r]; intro z; cases z) with z | z | z
      · exact absurd hg z
      · rw [z] at h; cases h
      · exact absurd z hp
/-- nothing is left behind but new objects: the heap as it was at φ, G -/
theorem Ext.of_same (h : Same H H') : Ext φ G H φ G H' := ⟨Same.refl _, fun _ h => .inl h, ⟨[], by simp, by simp⟩, fun a o e _ => .inl (h a o e)⟩
theorem same_upd {H : Hp} {p : Addr} {o : HO} (h : H p = none) : Same H (upd H p o) := fun b x e => by
  rw [upd_ne (ne_of_none e h)]
  exact e
theorem CellR.keep {a : Addr} {c : Ev.Cell} (h : CellR Γ φ G H a c) (hg : Same G G') (hix : ∀ (n : Nat) (c : Addr), φ[n]? = some c → φ'[n]? = some c) (ha : ∀ o, H a = some o → H' a = some o)
    (hd : ∀ d, H d = some (.own a) → H' d = some (.own a)) : CellR Γ φ' G' H' a c := by
  cases h with
  | lst h1 h2 => exact .lst (ha _ h1) (DRs.mono hg h2)
  | dic h1 h2 => exact .dic (ha _ h1) (h2.mono hg hix)
  | ins h1 h2 h3 => exact .ins (ha _ h1) (hd _ h2) (h3.mono hg hix)
  | dead => exact .dead
/-- objects only came -/
theorem Ok.grow (k : Ok Γ φ G H μ) (h : Same H H') (hg : Same G G') (hle : Same G' H') (hf : ∀ a ∈ φ, G' a = none) (hf2 : ∀ a o, H a = some (.tbl o) → G a = none → G' a = none) : Ok Γ φ G' H' μ :=
  ⟨hle, k.nd, k.len, hf, fun a ha => let ⟨o, e⟩ := k.thr a ha; ⟨o, h a o e⟩, fun n a c h1 h2 => (k.cell n a c h1 h2).keep hg (fun _ _ z => z) (fun o e => h a o e) fun d e => h d _ e, fun p hp => by
    obtain ⟨⟨ps, e, t⟩, h2, h3⟩ := k.tb p hp
    exact ⟨⟨ps, h _ _ e, t⟩, h2, hf2 _ _ e h3⟩⟩
theorem Ok.nphi (k : Ok Γ φ G H μ) {p : Addr} (hp : H p = none) : p ∉ φ := fun z => by
  obtain ⟨o, e⟩ := k.thr p z
  rw [e] at hp; cases hp
theorem Ok.ng (k : Ok Γ φ G H μ) {p : Addr} (hp : H p = none) : G p = none := by
  cases q : G p with
  | none => rfl
  | some o => rw [k.le p o q] at hp; cases hp
/-- a new object that stays as it is -/
theorem Ok.new (k : Ok Γ φ G H μ) {p : Addr} {o : HO} (hp : H p = none) : Ok Γ φ (upd G p o) (upd H p o) μ := by
  refine k.grow (same_upd hp) (same_upd (k.ng hp)) (fun b x e => ?_) (fun a ha => ?_) fun a o e h => by rw [upd_ne (fun z => by rw [z, hp] at e; cases e)]; exact h
  · by_cases hb : b = p
    · subst hb; rw [upd_same] at e ⊢; exact e
    · rw [upd_ne hb] at e ⊢; exact k.le b x e
  · rw [upd_ne (show a ≠ p from fun z => k.nphi hp (by rw [← z]; exact ha))]
    exact k.fre a ha
theorem Ext.new (k : Ok Γ φ G H μ) {p : Addr} {o : HO} (hp : H p = none) : Ext φ G H φ (upd G p o) (upd H p o) := by
  refine ⟨same_upd (k.ng hp), fun a ha => ?_, ⟨[], by simp, by simp⟩, fun a o e _ => .inl (same_upd hp a o e)⟩
  by_cases hb : a = p
  · subst hb; exact .inr (.inl hp)
  · rw [upd_ne hb] at ha; exact .inl ha
/-- a new object that is not yet said to stay -/
theorem Ok.new0 (k : Ok Γ φ G H μ) {p : Addr} {o : HO} (hp : H p = none) : Ok Γ φ G (upd H p o) μ :=
  k.grow (same_upd hp) (Same.refl _) (k.le.trans (same_upd hp)) k.fre fun _ _ _ h => h
end

/-! ### what is read -/
section
variable (Γ : Ct) (φ : List Addr) (G H : Hp)
/-- a value, or a list or dict of the frame's own as it stands -/
inductive PV : V → Ev.R → Prop
  | rr {v : V} {r : Ev.R} : RR Γ φ G v r → PV v r
  | own {a : Addr} {xs : List V} {rs : List Ev.R} : H a = some (.lst xs) → a ∉ φ → G a = none → RRs Γ φ G xs rs → PV (.ref a) (Ev.mkL rs)
  | odic {a : Addr} {ks : List (Key × V)} {kvs : List (Ev.Ky × Ev.R)} : H a = some (.dK ks) → a ∉ φ → G a = none → RKs Γ φ G ks kvs → PV (.ref a) (.dic kvs)
/-- a value as it may be read now -/
inductive Vw : V → Ev.R → Prop
  | rr {v : V} {r : Ev.R} : RR Γ φ G v r → Vw v r
  | own {a : Addr} {xs : List V} {rs : List Ev.R} : H a = some (.lst xs) → RRs Γ φ G xs rs → Vw (.ref a) (Ev.mkL rs)
  | odic {a : Addr} {ks : List (Key × V)} {kvs : List (Ev.Ky × Ev.R)} : H a = some (.dK ks) → RKs Γ φ G ks kvs → Vw (.ref a) (.dic kvs)
end
section
variable {Γ : Ct} {φ φ' : List Addr} {G G' H H' : Hp} {μ : Ev.Mem} {v : V} {r : Ev.R}
theorem PV.ext (h : PV Γ φ G H v r) (a : Ext φ G H φ' G' H') : PV Γ φ' G' H' v r := by
  cases h with
  | rr h => exact .rr (a.rr h)
  | own h1 h2 h3 h4 =>
    obtain ⟨k1, k2, k3⟩ := a.keep h1 h2 h3
    exact .own k1 k2 k3 (a.rrs h4)
  | odic h1 h2 h3 h4 =>
    obtain ⟨k1, k2, k3⟩ := a.keep h1 h2 h3
    exact .odic k1 k2 k3 (h4.mono a.g a.ix)
theorem vw_mkL (μ : Ev.Mem) (rs : List Ev.R) : Ev.vw μ (Ev.mkL rs) = Ev.mkL rs := by
  unfold Ev.mkL; split <;> rfl
theorem PV.vw (h : PV Γ φ G H v r) (k : Ok Γ φ G H μ) : Vw Γ φ G H v (Ev.vw μ r) := by
  cases h with
  | own h1 h2 h3 h4 => rw [vw_mkL]; exact .own h1 h4
  | odic h1 h2 h3 h4 => exact .odic h1 h4
  | rr h =>
    cases r with
    | d x => exact .rr h
    | dic x => exact .rr h
    | ins c x => exact .rr h
    | ls x => exact .rr h
    | scr x => exact .rr h
    | rep x => exact .rr h
    | p n =>
      cases h with
      | p hn =>
        rename_i a
        cases q : μ[n]? with
        | none => rw [Ev.vw_none q]; exact .rr (.p hn)
        | some c =>
          have hc := k.cell n a c hn q
          cases hc with
          | lst h1 h2 =>
            rename_i xs ds
            have e : (Ev.R.d (.lst ds)) = Ev.mkL (ds.map .d) := by
              unfold Ev.mkL
              have := Ev.valsR_map (fun x : Ev.D => x) ds
              simp only [List.map_id'] at this
              rw [this]
            rw [Ev.vw_lst q, e]
            exact .own h1 (RRs.ofD h2)
          | dic h1 h2 => rw [Ev.vw_cdic q]; exact .odic h1 h2
          | ins h1 h2 h3 => rw [Ev.vw_cins q]; exact .rr (.p hn)
          | dead => rw [Ev.vw_dead q]; exact .rr (.p hn)
/-- what is plain data is so in the heap -/
theorem Vw.dr {x : Ev.D} (h : Vw Γ φ G H v (.d x)) (le : Same G H) : DR Γ.K H v x := by
  generalize e : Ev.R.d x = r at h
  cases h with
  | rr h => subst e; exact DR.mono le h.inv_d
  | own h1 h2 =>
    rename_i a xs rs
    unfold Ev.mkL at e
    split at e
    · rename_i ds e2
      cases e
      exact .lst h1 (DRs.mono le (h2.vals e2))
    · cases e
  | odic => cases e
theorem Vw.dp {x : Ev.D} (h : Vw Γ φ G H v (.d x)) (le : Same G H) : Dp Γ.K H v (toPy x) := (h.dr le).dp
/-- .. for a value that is handed on -/
theorem Vw.rrOf {x : Ev.D} (h : Vw Γ φ G H v (.d x)) (hl : ∀ ds, x ≠ .lst ds) : DR Γ.K G v x := by
  generalize e : Ev.R.d x = r at h
  cases h with
  | rr h => subst e; exact h.inv_d
  | own h1 h2 =>
    unfold Ev.mkL at e
    split at e
    · cases e; exact absurd rfl (hl _)
    · cases e
  | odic => cases e
theorem Vw.list {ds : List Ev.D} (h : Vw Γ φ G H v (.d (.lst ds))) (le : Same G H) : ∃ a xs, v = .ref a ∧ H a = some (.lst xs) ∧ DRs Γ.K G xs ds := by
  generalize e : Ev.R.d (.lst ds) = r at h
  cases h with
  | rr h =>
    subst e
    cases h.inv_d with
    | lst h1 h2 => exact ⟨_, _, rfl, le _ _ h1, h2⟩
  | own h1 h2 =>
    unfold Ev.mkL at e
    split at e
    · rename_i ds' e2
      cases e
      exact ⟨_, _, rfl, h1, h2.vals e2⟩
    · cases e
  | odic => cases e
theorem Vw.tuple {ds : List Ev.D} (h : Vw Γ φ G H v (.d (.tup ds))) : ∃ a xs, v = .ref a ∧ SqT Γ.K G a xs ∧ DRs Γ.K G xs ds := by
  cases h.rrOf (fun _ z => by cases z) with
  | tup h1 h2 => exact ⟨_, _, rfl, h1, h2⟩
theorem Vw.int {i : Int} (h : Vw Γ φ G H v (.d (.int i))) : v = .int i := by
  cases h.rrOf (fun _ z => by cases z); rfl
theorem Vw.str {i : String} (h : Vw Γ φ G H v (.d (.str i))) : v = .str (Str.ofString i) := by
  cases h.rrOf (fun _ z => by cases z); rfl
theorem Vw.bl {i : Bool} (h : Vw Γ φ G H v (.d (.bl i))) : v = .bl i := by
  cases h.rrOf (fun _ z => by cases z); rfl
theorem Vw.non (h : Vw Γ φ G H v (.d .non)) : v = .non := by
  cases h.rrOf (fun _ z => by cases z); rfl
theorem Vw.scr {ns : List Int} (h : Vw Γ φ G H v (.scr ns)) (le : Same G H) : ∃ a, v = .ref a ∧ SqL Γ.K H a (ns.map V.int) := by
  generalize e : Ev.R.scr ns = r at h
  cases h with
  | rr h =>
    subst e
    cases h with
    | scr h1 => exact ⟨_, rfl, le.seq h1⟩
  | own h1 h2 =>
    unfold Ev.mkL at e
    split at e <;> cases e
  | odic => cases e
theorem Vw.rep {x : Ev.D} (h : Vw Γ φ G H v (.rep x)) : v = .str (toPy x).shown := by
  generalize e : Ev.R.rep x = r at h
  cases h with
  | rr h =>
    subst e
    cases h with
    | rep => rfl
  | own h1 h2 =>
    unfold Ev.mkL at e
    split at e <;> cases e
  | odic => cases e
theorem Vw.ls {rs : List Ev.R} (h : Vw Γ φ G H v (.ls rs)) (le : Same G H) : ∃ a xs, v = .ref a ∧ H a = some (.lst xs) ∧ RRs Γ φ G xs rs := by
  generalize e : Ev.R.ls rs = r at h
  cases h with
  | rr h =>
    subst e
    cases h with
    | ls h1 h2 => exact ⟨_, _, rfl, le _ _ h1, h2⟩
  | own h1 h2 =>
    unfold Ev.mkL at e
    split at e
    · cases e
    · cases e; exact ⟨_, _, rfl, h1, h2⟩
  | odic => cases e
theorem Vw.dic {kvs : List (Ev.Ky × Ev.R)} (h : Vw Γ φ G H v (.dic kvs)) (le : Same G H) : ∃ a ks, v = .ref a ∧ H a = some (.dK ks) ∧ RKs Γ φ G ks kvs := by
  generalize e : Ev.R.dic kvs = r at h
  cases h with
  | rr h =>
    subst e
    cases h with
    | dic h1 h2 => exact ⟨_, _, rfl, le _ _ h1, h2⟩
  | own h1 h2 =>
    unfold Ev.mkL at e
    split at e <;> cases e
  | odic h1 h2 => cases e; exact ⟨_, _, rfl, h1, h2⟩
theorem RR.vw (h : RR Γ φ G v r) (k : Ok Γ φ G H μ) : Vw Γ φ G H v (Ev.vw μ r) := (PV.rr h).vw k
theorem RR.int {i : Int} (h : RR Γ φ G v (.d (.int i))) : v = .int i := (Vw.rr (H := G) h).int
theorem RR.bl {i : Bool} (h : RR Γ φ G v (.d (.bl i))) : v = .bl i := (Vw.rr (H := G) h).bl
theorem RR.str {i : String} (h : RR Γ φ G v (.d (.str i))) : v = .str (Str.ofString i) := (Vw.rr (H := G) h).str
theorem RR.non (h : RR Γ φ G v (.d .non)) : v = .non := (Vw.rr (H := G) h).non
end

/-! ### frames -/
inductive SlotR (Γ : Ct) (φ : List Addr) (G H : Hp) : Option V → Ev.Sl → Prop
  | un {o : Option V} : SlotR Γ φ G H o .un
  | v {v : V} {r : Ev.R} : RR Γ φ G v r → SlotR Γ φ G H (some v) (.v r)
  | own {a : Addr} {xs : List V} {rs : List Ev.R} : H a = some (.lst xs) → a ∉ φ → G a = none → RRs Γ φ G xs rs → SlotR Γ φ G H (some (.ref a)) (.own rs)
  | odic {a : Addr} {ks : List (Key × V)} {kvs : List (Ev.Ky × Ev.R)} : H a = some (.dK ks) → a ∉ φ → G a = none → RKs Γ φ G ks kvs → SlotR Γ φ G H (some (.ref a)) (.odic kvs)
def isOwn : Ev.Sl → Bool
  | .own _ => true
  | .odic _ => true
  | _ => false
structure EnvR (Γ : Ct) (φ : List Addr) (G H : Hp) (σ : L2.St) (ρ : Ev.Env) : Prop where
  len : σ.length = ρ.length
  at_ : ∀ (i : Nat) (s : Ev.Sl), ρ[i]? = some s → ∃ o, σ[i]? = some o ∧ SlotR Γ φ G H o s
  ap : ∀ (i j : Nat) (a : Addr) (s t : Ev.Sl), ρ[i]? = some s → ρ[j]? = some t → isOwn s = true → isOwn t = true → σ[i]? = some (some (V.ref a)) → σ[j]? = some (some (V.ref a)) → i = j
section
variable {Γ : Ct} {φ φ' : List Addr} {G G' H H' : Hp} {σ : L2.St} {ρ : Ev.Env}
theorem SlotR.ext {o : Option V} {s : Ev.Sl} (h : SlotR Γ φ G H o s) (a : Ext φ G H φ' G' H') : SlotR Γ φ' G' H' o s := by
  cases h with
  | un => exact .un
  | v h => exact .v (a.rr h)
  | own h1 h2 h3 h4 =>
    obtain ⟨k1, k2, k3⟩ := a.keep h1 h2 h3
    exact .own k1 k2 k3 (a.rrs h4)
  | odic h1 h2 h3 h4 =>
    obtain ⟨k1, k2, k3⟩ := a.keep h1 h2 h3
    exact .odic k1 k2 k3 (h4.mono a.g a.ix)
theorem EnvR.ext (h : EnvR Γ φ G H σ ρ) (a : Ext φ G H φ' G' H') : EnvR Γ φ' G' H' σ ρ :=
  ⟨h.len, fun i s e => let ⟨o, e1, e2⟩ := h.at_ i s e; ⟨o, e1, e2.ext a⟩, h.ap⟩
/-- a slot gets a value -/
theorem EnvR.set (h : EnvR Γ φ G H σ ρ) {i : Nat} {v : V} {r : Ev.R} (hr : RR Γ φ G v r) : EnvR Γ φ G H (σ.set i (some v)) (ρ.set i (.v r)) := by
  refine ⟨by simp [h.len], fun j s e => ?_, fun j k a s t e1 e2 o1 o2 q1 q2 => ?_⟩
  · by_cases hj : i = j
    · subst hj
      by_cases hl : i < ρ.length
      · rw [List.getElem?_set_self hl] at e
        cases e
        exact ⟨some v, List.getElem?_set_self (by rw [h.len]; exact hl), .v hr⟩
      · rw [List.getElem?_eq_none (by simpa using hl)] at e; cases e
    · rw [List.getElem?_set_ne hj] at e ⊢
      exact h.at_ j s e
  · by_cases hj : i = j
    · subst hj
      by_cases hl : i < ρ.length
      · rw [List.getElem?_set_self hl] at e1
        cases e1; cases o1
      · rw [List.getElem?_eq_none (by simpa using hl)] at e1; cases e1
    · by_cases hk : i = k
      · subst hk
        by_cases hl : i < ρ.length
        · rw [List.getElem?_set_self hl] at e2
          cases e2; cases o2
        · rw [List.getElem?_eq_none (by simpa using hl)] at e2; cases e2
      · rw [List.getElem?_set_ne hj] at e1 q1
        rw [List.getElem?_set_ne hk] at e2 q2
        exact h.ap j k a s t e1 e2 o1 o2 q1 q2
/-- a slot is forgotten -/
theorem EnvR.un (h : EnvR Γ φ G H σ ρ) {i : Nat} : EnvR Γ φ G H (σ.set i none) (ρ.set i .un) := by
  refine ⟨by simp [h.len], fun j s e => ?_, fun j k a s t e1 e2 o1 o2 q1 q2 => ?_⟩
  · by_cases hj : i = j
    · subst hj
      by_cases hl : i < ρ.length
      · rw [List.getElem?_set_self hl] at e
        cases e
        exact ⟨none, List.getElem?_set_self (by rw [h.len]; exact hl), .un⟩
      · rw [List.getElem?_eq_none (by simpa using hl)] at e; cases e
    · rw [List.getElem?_set_ne hj] at e ⊢
      exact h.at_ j s e
  · by_cases hj : i = j
    · subst hj
      by_cases hl : i < ρ.length
      · rw [List.getElem?_set_self hl] at e1
        cases e1; cases o1
      · rw [List.getElem?_eq_none (by simpa using hl)] at e1; cases e1
    · by_cases hk : i = k
      · subst hk
        by_cases hl : i < ρ.length
        · rw [List.getElem?_set_self hl] at e2
          cases e2; cases o2
        · rw [List.getElem?_eq_none (by simpa using hl)] at e2; cases e2
      · rw [List.getElem?_set_ne hj] at e1 q1
        rw [List.getElem?_set_ne hk] at e2 q2
        exact h.ap j k a s t e1 e2 o1 o2 q1 q2
theorem EnvR.wipe (h : EnvR Γ φ G H σ ρ) : ∀ vs : List Nat, EnvR Γ φ G H (wipe σ vs) (Ev.wipeE ρ vs)
  | [] => h
  | v :: vs => (EnvR.wipe h vs).un
end
end EvS
end

section
set_option maxHeartbeats 0
set_option Elab.async false
set_option linter.all false
set_option maxRecDepth 100000
/-! EvRule: the evaluator's combinators are sound: readings of the layer. -/
namespace EvS
open PySem PySem.Spec PyProof.Rows L2

/-- an exception: its class, its fields -/
def ExR (Γ : Ct) (φ : List Addr) (G H : Hp) (c : Value) (od : Option Addr) (e : Ev.Exn) : Prop :=
  c = .ref (Γ.ca.cls e.cls) ∧ (e.fs = [] ∨ ∃ d fs, od = some d ∧ H d = some (.xd fs) ∧ RFs Γ φ G fs e.fs)

section
variable (Γ : Ct) (E : XK) (φ : List Addr) (G H : Hp)
/-- what is wanted behind an outcome of the evaluator -/
def post {α β : Type} (o : Ev.Out α) (Rel : List Addr → Hp → Hp → β → α → Prop) (Q : β → Hp → Prop) : Prop := match o with
  | .ok x μ => ∀ v φ' G' H', Ext φ G H φ' G' H' → Ok Γ φ' G' H' μ → Rel φ' G' H' v x → Q v H'
  | .exn e μ => ∀ c od φ' G' H', Ext φ G H φ' G' H' → Ok Γ φ' G' H' μ → ExR Γ φ' G' H' c od e → E c od H'
  | .no => False
end
section
variable {Γ : Ct} {E : XK} {φ : List Addr} {G H : Hp}
theorem post_mono {α β : Type} {o : Ev.Out α} {Rel : List Addr → Hp → Hp → β → α → Prop} {Q Q' : β → Hp → Prop} (h : post Γ E φ G H o Rel Q) (hq : ∀ v H, Q v H → Q' v H) : post Γ E φ G H o Rel Q' := by
  cases o with
  | ok x μ => exact fun v φ' G' H' a b c => hq _ _ (h v φ' G' H' a b c)
  | exn e μ => exact h
  | no => exact h
theorem post_ext {α β : Type} {φ1 : List Addr} {G1 H1 : Hp} {o : Ev.Out α} {Rel : List Addr → Hp → Hp → β → α → Prop} {Q : β → Hp → Prop} (x : Ext φ G H φ1 G1 H1) (h : post Γ E φ G H o Rel Q) : post Γ E φ1 G1 H1 o Rel Q := by
  cases o with
  | ok _ μ => exact fun v φ' G' H' a b c => h v φ' G' H' (x.trans a) b c
  | exn e μ => exact fun c od φ' G' H' a b d => h c od φ' G' H' (x.trans a) b d
  | no => exact h
theorem post_bind {α γ β δ : Type} {o : Ev.Out α} {k : α → Ev.Mem → Ev.Out γ} {Rel1 : List Addr → Hp → Hp → δ → α → Prop} {Rel : List Addr → Hp → Hp → β → γ → Prop} {Q : β → Hp → Prop} {Q1 : δ → Hp → Prop}
    (h : post Γ E φ G H (o.bind k) Rel Q)
    (hk : ∀ v1 φ1 G1 H1 x μ1, o = .ok x μ1 → Ext φ G H φ1 G1 H1 → Ok Γ φ1 G1 H1 μ1 → Rel1 φ1 G1 H1 v1 x → post Γ E φ1 G1 H1 (k x μ1) Rel Q → Q1 v1 H1) : post Γ E φ G H o Rel1 Q1 := by
  cases o with
  | ok x μ => exact fun v φ' G' H' a b c => hk v φ' G' H' x μ rfl a b c (post_ext a h)
  | exn e μ => exact h
  | no => exact h
theorem post_ok {α β : Type} {x : α} {μ : Ev.Mem} {Rel : List Addr → Hp → Hp → β → α → Prop} {Q : β → Hp → Prop} {v : β} (h : post Γ E φ G H (.ok x μ) Rel Q) (k : Ok Γ φ G H μ) (r : Rel φ G H v x) : Q v H := h v φ G H Ext.refl k r
theorem post_lift {α β : Type} {o : Option α} {μ : Ev.Mem} {Rel : List Addr → Hp → Hp → β → α → Prop} {Q : β → Hp → Prop} (h : post Γ E φ G H (Ev.lift o μ) Rel Q) : ∃ x, o = some x ∧ post Γ E φ G H (.ok x μ) Rel Q := by
  cases o with
  | some x => exact ⟨x, rfl, h⟩
  | none => exact h.elim
end
abbrev rRR (Γ : Ct) : List Addr → Hp → Hp → V → Ev.R → Prop := fun φ G _ v r => RR Γ φ G v r
abbrev rPV (Γ : Ct) : List Addr → Hp → Hp → V → Ev.R → Prop := fun φ G H v r => PV Γ φ G H v r
abbrev rB : List Addr → Hp → Hp → Bool → Bool → Prop := fun _ _ _ b k => b = k
abbrev rRRs (Γ : Ct) : List Addr → Hp → Hp → List V → List Ev.R → Prop := fun φ G _ v r => RRs Γ φ G v r
inductive PVs (Γ : Ct) (φ : List Addr) (G H : Hp) : List V → List Ev.R → Prop
  | nil : PVs Γ φ G H [] []
  | cons {v : V} {vs : List V} {r : Ev.R} {rs : List Ev.R} : PV Γ φ G H v r → PVs Γ φ G H vs rs → PVs Γ φ G H (v :: vs) (r :: rs)
inductive Vws (Γ : Ct) (φ : List Addr) (G H : Hp) : List V → List Ev.R → Prop
  | nil : Vws Γ φ G H [] []
  | cons {v : V} {vs : List V} {r : Ev.R} {rs : List Ev.R} : Vw Γ φ G H v r → Vws Γ φ G H vs rs → Vws Γ φ G H (v :: vs) (r :: rs)
abbrev rPVs (Γ : Ct) : List Addr → Hp → Hp → List V → List Ev.R → Prop := fun φ G H v r => PVs Γ φ G H v r
theorem PVs.ext {Γ : Ct} {φ φ' : List Addr} {G G' H H' : Hp} (a : Ext φ G H φ' G' H') : ∀ {vs : List V} {rs : List Ev.R}, PVs Γ φ G H vs rs → PVs Γ φ' G' H' vs rs
  | _, _, .nil => .nil
  | _, _, .cons h t => .cons (h.ext a) (PVs.ext a t)
theorem PVs.vws {Γ : Ct} {φ : List Addr} {G H : Hp} {μ : Ev.Mem} (k : Ok Γ φ G H μ) : ∀ {vs : List V} {rs : List Ev.R}, PVs Γ φ G H vs rs → Vws Γ φ G H vs (rs.map (Ev.vw μ))
  | _, _, .nil => .nil
  | _, _, .cons h t => .cons (h.vw k) (PVs.vws k t)

/-! ### readings -/
section
variable (Γ : Ct) (W : WX)
/-- an expression; one that is only read; a test; arguments -/
def tE (f : Ev.E) : TE := fun σ H Q => ∃ φ G ρ μ, Ok Γ φ G H μ ∧ EnvR Γ φ G H σ ρ ∧ post Γ (WE W σ) φ G H (f ρ μ) (rRR Γ) Q
def tV (f : Ev.E) : TE := fun σ H Q => ∃ φ G ρ μ, Ok Γ φ G H μ ∧ EnvR Γ φ G H σ ρ ∧ post Γ (WE W σ) φ G H (f ρ μ) (rPV Γ) Q
def tT (f : Ev.T) : TT := fun σ H Q => ∃ φ G ρ μ, Ok Γ φ G H μ ∧ EnvR Γ φ G H σ ρ ∧ post Γ (WE W σ) φ G H (f ρ μ) rB Q
def tA (fs : List Ev.E) : TA := fun σ H Q => ∃ φ G ρ μ, Ok Γ φ G H μ ∧ EnvR Γ φ G H σ ρ ∧ post Γ (WE W σ) φ G H (Ev.evs fs ρ μ) (rRRs Γ) Q
def tAV (fs : List Ev.E) : TA := fun σ H Q => ∃ φ G ρ μ, Ok Γ φ G H μ ∧ EnvR Γ φ G H σ ρ ∧ post Γ (WE W σ) φ G H (Ev.evs fs ρ μ) (rPVs Γ) Q
end
abbrev ct (X : Cx) (ca : Cn) : Ct := ⟨X.K, ca⟩
theorem PE.imp {X : Cx} {e : Expr} {t t' : TE} (h : PE X e t) (i : ∀ σ H Q, t' σ H Q → t σ H Q) : PE X e t' := ⟨fun pins s σ H Q I q => h.run pins s σ H Q I (i σ H Q q)⟩
theorem PT.imp {X : Cx} {e : Expr} {t t' : TT} (h : PT X e t) (i : ∀ σ H Q, t' σ H Q → t σ H Q) : PT X e t' := ⟨fun pins s σ H Q I q => h.run pins s σ H Q I (i σ H Q q)⟩
theorem PW.imp {X : Cx} {e : Expr} {t t' : TT} (h : PW X e t) (i : ∀ σ H Q, t' σ H Q → t σ H Q) : PW X e t' := ⟨fun wh pins s σ H Q I q => h.run wh pins s σ H Q I (i σ H Q q)⟩
theorem PA.imp {X : Cx} {e : List Expr} {t t' : TA} (h : PA X e t) (i : ∀ σ H Q, t' σ H Q → t σ H Q) : PA X e t' := ⟨fun pos pins s σ H Q I q => h.run pos pins s σ H Q I (i σ H Q q)⟩
theorem PS.imp {X : Cx} {e : Stmt} {t t' : TS} (h : PS X e t) (i : ∀ D σ H, t' D σ H → t D σ H) : PS X e t' := ⟨fun pins s σ H D I q => h.run pins s σ H D I (i D σ H q)⟩
theorem PSs.imp {X : Cx} {e : List Stmt} {t t' : TS} (h : PSs X e t) (i : ∀ D σ H, t' D σ H → t D σ H) : PSs X e t' := ⟨fun pins s σ H D I q => h.run pins s σ H D I (i D σ H q)⟩
theorem PI.imp {X : Cx} {tg e : Expr} {t t' : TI} (h : PI X tg e t) (i : ∀ σ H Q, t' σ H Q → t σ H Q) : PI X tg e t' := ⟨fun pins s σ H Q I q => h.run pins s σ H Q I (i σ H Q q)⟩

/-- room for k calls, no repr under way -/
structure RoomG (k : Nat) (A : Around) : Prop where
  r : Room k A
  g : A.guards = some []
/-- the frame's standing -/
structure XS (X : Cx) (W : WX) (k : Nat) : Prop where
  calm : X.calm = true
  nd : X.N.Nodup
  room : RoomG k X.A
  tk : Takes X W
  po : PassesOwn (model X.prog X.w) X.A X.env X.xe
  fw : ∀ (c : Value) (d : Option Addr) (σ σ' : L2.St) (H : Hp), W c d σ H → W c d σ' H

/-- room for a generator's frame above that -/
structure Slk (X : Cx) (k : Nat) : Prop where
  dp : X.A.depth + 3 * k + 7 < recursionLimit
  un : X.A.units + 16 * k + 213 < cLine
/-- the running def's code object, its table -/
def Tbx (X : Cx) (ca : Cn) : Prop := ∃ c P, X.env.code = .ref c ∧ (c, P) ∈ ca.tabs ∧ GxR.TabB X.base X.mg c P
section
variable {X : Cx} {W : WX} {ca : Cn} {k : Nat}

/-! ### names, constants, displays -/
theorem se_v {i : Nat} {x : Str} {pos : Pos} (hN : X.N[i]? = some x) (hv : Vis X.env.scope x) (hd : (x == ("__debug__" : Str)) = false := by decide) (hcd : (x == ("__classdict__" : Str)) = false := by decide) : PE X (.Name x pos) (tE (ct X ca) W (Ev.eV i)) := by
  refine PE.imp (pe_var hN hv hd hcd) fun σ H Q h => ?_
  obtain ⟨φ, G, ρ, μ, ok, en, h⟩ := h
  unfold Ev.eV at h
  split at h
  · rename_i r e
    obtain ⟨o, e1, e2⟩ := en.at_ i _ e
    cases e2 with
    | v hr => exact ⟨_, e1, post_ok h ok hr⟩
  · exact h.elim
theorem sv_b {i : Nat} {x : Str} {pos : Pos} (hN : X.N[i]? = some x) (hv : Vis X.env.scope x) (hd : (x == ("__debug__" : Str)) = false := by decide) (hcd : (x == ("__classdict__" : Str)) = false := by decide) : PE X (.Name x pos) (tV (ct X ca) W (Ev.eB i)) := by
  refine PE.imp (pe_var hN hv hd hcd) fun σ H Q h => ?_
  obtain ⟨φ, G, ρ, μ, ok, en, h⟩ := h
  unfold Ev.eB at h
  split at h
  · rename_i r e
    obtain ⟨o, e1, e2⟩ := en.at_ i _ e
    cases e2 with
    | own h1 h2 h3 h4 => exact ⟨_, e1, post_ok h ok (.own h1 h2 h3 h4)⟩
  · rename_i r e
    obtain ⟨o, e1, e2⟩ := en.at_ i _ e
    cases e2 with
    | odic h1 h2 h3 h4 => exact ⟨_, e1, post_ok h ok (.odic h1 h2 h3 h4)⟩
  · exact h.elim
/-- what is a value may be read -/
theorem SV {e : Expr} {f : Ev.E} (h : PE X e (tE (ct X ca) W f)) : PE X e (tV (ct X ca) W f) := PE.imp h fun σ H Q q => by
  obtain ⟨φ, G, ρ, μ, ok, en, q⟩ := q
  refine ⟨φ, G, ρ, μ, ok, en, ?_⟩
  generalize f ρ μ = o at q
  cases o with
  | ok x μ => exact fun v φ' G' H' a b c => q v φ' G' H' a b (.rr c)
  | exn e μ => exact q
  | no => exact q
theorem se_c {e : Expr} {v : V} {x : Ev.D} (h : PE X e (tC v)) (r : ∀ G, DR X.K G v x) : PE X e (tE (ct X ca) W (Ev.eC x)) := PE.imp h fun σ H Q q => by
  obtain ⟨φ, G, ρ, μ, ok, en, q⟩ := q
  unfold Ev.eC at q
  exact post_ok q ok (.d (r G))
theorem se_int {i j pos} : PE X (.Constant (.int i) j pos) (tE (ct X ca) W (Ev.eC (.int i))) := se_c pe_int fun _ => .int i
theorem se_bl {i j pos} : PE X (.Constant (.bool i) j pos) (tE (ct X ca) W (Ev.eC (.bl i))) := se_c pe_bl fun _ => .bl i
theorem se_non {j pos} : PE X (.Constant .none j pos) (tE (ct X ca) W (Ev.eC .non)) := se_c pe_non fun _ => .non
theorem se_str {s : String} {x : Str} {j pos} (e : x = Str.ofString s := by rfl) : PE X (.Constant (.str x) j pos) (tE (ct X ca) W (Ev.eC (.str s))) := se_c (v := .str (Str.ofString s)) (by rw [e]; exact pe_str) fun _ => .str s
/-- a module's constant -/
theorem se_g {x : Str} {v : V} {u : Value} {d : Ev.D} {pos : Pos} (hg : Gl X x) (hm : X.mg x = some u) (r : RelV v u) (q : ∀ G, DR X.K G v d) (hd : (x == ("__debug__" : Str)) = false := by decide) : PE X (.Name x pos) (tE (ct X ca) W (Ev.eC d)) := se_c (pe_glob hg hm r hd) q
/-- a step of an evaluation -/
theorem tE_of {f : Ev.E} {σ : L2.St} {H : Hp} {Q : VK} {φ : List Addr} {G : Hp} {ρ : Ev.Env} {μ : Ev.Mem} {Γ : Ct} (ok : Ok Γ φ G H μ) (en : EnvR Γ φ G H σ ρ) (h : post Γ (WE W σ) φ G H (f ρ μ) (rRR Γ) Q) : tE Γ W f σ H Q := ⟨φ, G, ρ, μ, ok, en, h⟩
theorem sa_nil : PA X [] (tA (ct X ca) W []) := PA.imp pa_nil fun σ H Q q => by
  obtain ⟨φ, G, ρ, μ, ok, en, q⟩ := q
  exact post_ok q ok .nil
theorem sa_cons {e : Expr} {es : List Expr} {f : Ev.E} {fs : List Ev.E} (h1 : PE X e (tE (ct X ca) W f)) (h2 : PA X es (tA (ct X ca) W fs)) (hs : starEach (e :: es) X.env = (false, eval e X.env) :: starEach es X.env := by rfl) :
    PA X (e :: es) (tA (ct X ca) W (f :: fs)) := PA.imp (pa_cons h1 h2 hs) fun σ H Q q => by
  obtain ⟨φ, G, ρ, μ, ok, en, q⟩ := q
  rw [Ev.evs_cons] at q
  refine ⟨φ, G, ρ, μ, ok, en, post_bind q fun v1 φ1 G1 H1 x μ1 _ ext ok1 r1 q1 => ?_⟩
  refine ⟨φ1, G1, ρ, μ1, ok1, en.ext ext, post_bind q1 fun v2 φ2 G2 H2 xs μ2 _ ext2 ok2 r2 q2 => ?_⟩
  exact post_ok q2 ok2 (.cons (ext2.rr r1) r2)
theorem sav_nil : PA X [] (tAV (ct X ca) W []) := PA.imp pa_nil fun σ H Q q => by
  obtain ⟨φ, G, ρ, μ, ok, en, q⟩ := q
  exact post_ok q ok .nil
theorem sav_cons {e : Expr} {es : List Expr} {f : Ev.E} {fs : List Ev.E} (h1 : PE X e (tV (ct X ca) W f)) (h2 : PA X es (tAV (ct X ca) W fs)) (hs : starEach (e :: es) X.env = (false, eval e X.env) :: starEach es X.env := by rfl) :
    PA X (e :: es) (tAV (ct X ca) W (f :: fs)) := PA.imp (pa_cons h1 h2 hs) fun σ H Q q => by
  obtain ⟨φ, G, ρ, μ, ok, en, q⟩ := q
  rw [Ev.evs_cons] at q
  refine ⟨φ, G, ρ, μ, ok, en, post_bind q fun v1 φ1 G1 H1 x μ1 _ ext ok1 r1 q1 => ?_⟩
  refine ⟨φ1, G1, ρ, μ1, ok1, en.ext ext, post_bind q1 fun v2 φ2 G2 H2 xs μ2 _ ext2 ok2 r2 q2 => ?_⟩
  exact post_ok q2 ok2 (.cons (r1.ext ext2) r2)
theorem se_tup {es : List Expr} {fs : List Ev.E} {x1 pos} (h : PA X es (tA (ct X ca) W fs)) : PE X (.Tuple es x1 pos) (tE (ct X ca) W (Ev.eTup fs)) := PE.imp (pe_tup h) fun σ H Q q => by
  obtain ⟨φ, G, ρ, μ, ok, en, q⟩ := q
  unfold Ev.eTup at q
  refine ⟨φ, G, ρ, μ, ok, en, post_bind q fun vs φ1 G1 H1 x μ1 _ ext ok1 r1 q1 => ?_⟩
  split at q1
  · rename_i ds e
    have hl : vs.length = ds.length := (r1.vals e).len
    split at q1
    · rename_i hz
      rw [SL_eq] at hz
      refine ⟨by omega, fun p hp => ?_⟩
      refine q1 _ φ1 _ _ (Ext.new ok1 hp) (ok1.new hp) (.d (.tup (.inl (.inl upd_same)) ?_))
      exact (r1.vals e).mono (same_upd (ok1.ng hp))
    · exact q1.elim
  · exact q1.elim
/-- a new list or dict at a -/
inductive Nw (Γ : Ct) (φ : List Addr) (G H : Hp) (a : Addr) : Ev.R → Prop
  | lst {xs : List V} {rs : List Ev.R} : H a = some (.lst xs) → RRs Γ φ G xs rs → Nw Γ φ G H a (Ev.mkL rs)
  | dic {ks : List (Key × V)} {kvs : List (Ev.Ky × Ev.R)} : H a = some (.dK ks) → RKs Γ φ G ks kvs → Nw Γ φ G H a (.dic kvs)
def postN (Γ : Ct) (E : XK) (φ : List Addr) (G H : Hp) (o : Ev.Out Ev.R) (Q : VK) : Prop := match o with
  | .ok x μ => ∀ a φ' G' H', Ext φ G H φ' G' H' → Ok Γ φ' G' H' μ → H a = none → G' a = none → a ∉ φ' → Nw Γ φ' G' H' a x → Q (.ref a) H'
  | .exn e μ => ∀ c od φ' G' H', Ext φ G H φ' G' H' → Ok Γ φ' G' H' μ → ExR Γ φ' G' H' c od e → E c od H'
  | .no => False
theorem Ext.back {Γ : Ct} {φ φ1 : List Addr} {G G1 H H1 : Hp} {μ : Ev.Mem} (a : Ext φ G H φ1 G1 H1) (k : Ok Γ φ1 G1 H1 μ) {p : Addr} (hp : H1 p = none) : H p = none := by
  cases q : H p with
  | none => rfl
  | some o =>
    by_cases hm : p ∈ φ
    · obtain ⟨ψ, e, _⟩ := a.p
      obtain ⟨u, hu⟩ := k.thr p (by rw [e]; exact List.mem_append_left _ hm)
      rw [hu] at hp; cases hp
    · obtain ⟨o2, z⟩ := a.fs q hm
      rw [z] at hp; cases hp
theorem postN_bind {Γ : Ct} {E : XK} {φ : List Addr} {G H : Hp} {α δ : Type} {o : Ev.Out α} {k : α → Ev.Mem → Ev.Out Ev.R} {Rel1 : List Addr → Hp → Hp → δ → α → Prop} {Q : VK} {Q1 : δ → Hp → Prop}
    (h : postN Γ E φ G H (o.bind k) Q)
    (hk : ∀ v1 φ1 G1 H1 x μ1, o = .ok x μ1 → Ext φ G H φ1 G1 H1 → Ok Γ φ1 G1 H1 μ1 → Rel1 φ1 G1 H1 v1 x → postN Γ E φ1 G1 H1 (k x μ1) Q → Q1 v1 H1) : post Γ E φ G H o Rel1 Q1 := by
  cases o with
  | ok x μ =>
    refine fun v φ' G' H' a b c => hk v φ' G' H' x μ rfl a b c ?_
    have h : postN Γ E φ G H (k x μ) Q := h
    generalize k x μ = o2 at h
    cases o2 with
    | ok y μ2 => exact fun p φ2 G2 H2 a2 b2 c2 => h p φ2 G2 H2 (a.trans a2) b2 (a.back b c2)
    | exn e μ2 => exact fun c od φ2 G2 H2 a2 b2 => h c od φ2 G2 H2 (a.trans a2) b2
    | no => exact h
  | exn e μ => exact h
  | no => exact h
/-- a new list: it may stay, or be one's own -/
def tN (Γ : Ct) (W : WX) (f : Ev.E) : TE := fun σ H Q => ∃ φ G ρ μ, Ok Γ φ G H μ ∧ EnvR Γ φ G H σ ρ ∧ postN Γ (WE W σ) φ G H (f ρ μ) Q
/-- what nobody else has may be said to stay -/
theorem freeze {Γ : Ct} {φ φ' : List Addr} {G G' H H' : Hp} {μ : Ev.Mem} {a : Addr} {o : HO} (ext : Ext φ G H φ' G' H') (ok : Ok Γ φ' G' H' μ) (hn : H a = none ∨ a ∈ φ) (ng : G' a = none) (na : a ∉ φ') (ho : H' a = some o) (hot : ∀ q, o ≠ .tbl q := by intro q z; cases z) :
    Ext φ G H φ' (upd G' a o) H' ∧ Ok Γ φ' (upd G' a o) H' μ := by
  refine ⟨⟨ext.g.trans (same_upd ng), fun c hc => ?_, ext.p, ext.f⟩, ⟨fun c u hc => ?_, ok.nd, ok.len, fun c hc => ?_, ok.thr, fun n c d h1 h2 => (ok.cell n c d h1 h2).keep (same_upd ng) (fun _ _ z => z) (fun _ z => z) fun _ z => z, fun p hp => ?_⟩⟩
  · by_cases hca : c = a
    · subst hca; exact .inr hn
    · rw [upd_ne hca] at hc
      exact ext.gn c hc
  · by_cases hca : c = a
    · subst hca; rw [upd_same] at hc; cases hc; exact ho
    · rw [upd_ne hca] at hc; exact ok.le c u hc
  · rw [upd_ne (show c ≠ a from fun z => na (by rw [← z]; exact hc))]; exact ok.fre c hc
  · obtain ⟨⟨ps, e, t⟩, h2, h3⟩ := ok.tb p hp
    refine ⟨⟨ps, e, t⟩, h2, ?_⟩
    rw [upd_ne (fun z => by rw [z, ho] at e; exact hot ps (Option.some.inj e))]; exact h3
theorem tN_of {Γ : Ct} {f : Ev.E} {σ : L2.St} {H : Hp} {Q : VK} (q : tE Γ W f σ H Q) : tN Γ W f σ H Q := by
  obtain ⟨φ, G, ρ, μ, ok, en, q⟩ := q
  refine ⟨φ, G, ρ, μ, ok, en, ?_⟩
  generalize f ρ μ = o at q
  cases o with
  | exn e μ => exact q
  | no => exact q
  | ok x μ =>
    intro a φ' G' H' ext ok' hn ng na r
    cases r with
    | lst h1 h2 =>
      obtain ⟨e1, e2⟩ := freeze ext ok' (.inl hn) ng na h1
      exact q _ _ _ _ e1 e2 (RR.mkL upd_same (h2.mono (same_upd ng) fun _ _ z => z))
    | dic h1 h2 =>
      obtain ⟨e1, e2⟩ := freeze ext ok' (.inl hn) ng na h1
      exact q _ _ _ _ e1 e2 (.dic upd_same (h2.mono (same_upd ng) fun _ _ z => z))
theorem SN {e : Expr} {f : Ev.E} (h : PE X e (tN (ct X ca) W f)) : PE X e (tE (ct X ca) W f) := PE.imp h fun σ H Q q => tN_of q
/-- .. in an assignment -/
theorem SA {st : Stmt} {f : Ev.E} {g : TG} (h : PS X st (tAsg (tN (ct X ca) W f) g)) : PS X st (tAsg (tE (ct X ca) W f) g) := PS.imp h fun D σ H q => tN_of q
/-- a new list laid at p -/
theorem postN_lst {Γ : Ct} {E : XK} {φ : List Addr} {G H : Hp} {μ : Ev.Mem} {rs : List Ev.R} {xs : List V} {p : Addr} {Q : VK} (h : postN Γ E φ G H (.ok (Ev.mkL rs) μ) Q) (ok : Ok Γ φ G H μ) (hp : H p = none) (r : RRs Γ φ G xs rs) :
    Q (.ref p) (upd H p (.lst xs)) := by
  have h : ∀ a φ' G' H', Ext φ G H φ' G' H' → Ok Γ φ' G' H' μ → H a = none → G' a = none → a ∉ φ' → Nw Γ φ' G' H' a (Ev.mkL rs) → Q (.ref a) H' := h
  exact h p φ G _ (Ext.of_same (same_upd hp)) (ok.new0 hp) hp (ok.ng hp) (ok.nphi hp) (.lst upd_same r)
theorem mkL_d (ds : List Ev.D) : Ev.mkL (ds.map .d) = .d (.lst ds) := by
  unfold Ev.mkL
  have := Ev.valsR_map (fun x : Ev.D => x) ds
  simp only [List.map_id'] at this
  rw [this]
theorem sn_lst {es : List Expr} {fs : List Ev.E} {pos} (h : PA X es (tA (ct X ca) W fs)) : PE X (.List es pos) (tN (ct X ca) W (Ev.eLst fs)) := PE.imp (pe_lst h) fun σ H Q q => by
  obtain ⟨φ, G, ρ, μ, ok, en, q⟩ := q
  unfold Ev.eLst at q
  refine ⟨φ, G, ρ, μ, ok, en, postN_bind q fun vs φ1 G1 H1 x μ1 _ ext ok1 r1 q1 => ?_⟩
  split at q1
  · rename_i ds e
    have hl : vs.length = ds.length := (r1.vals e).len
    split at q1
    · rename_i hz
      rw [SL_eq] at hz
      refine ⟨by omega, fun p hp => ?_⟩
      rw [← mkL_d] at q1
      exact postN_lst q1 ok1 hp (RRs.ofD (r1.vals e))
    · exact q1.elim
  · exact q1.elim

/-! ### operators by values -/
/-- what an operation on two values gives -/
def rD (Γ : Ct) (f : Ev.R → Ev.R → Option Ev.R) : R2 := fun v u H Q => ∃ φ G μ x y z, Ok Γ φ G H μ ∧ Vw Γ φ G H v x ∧ Vw Γ φ G H u y ∧ f x y = some z ∧ ∀ r φ' G' H', Ext φ G H φ' G' H' → Ok Γ φ' G' H' μ → RR Γ φ' G' r z → Q r H'
/-- .. a new list -/
def rDN (Γ : Ct) (f : Ev.R → Ev.R → Option Ev.R) : R2 := fun v u H Q => ∃ φ G μ x y z, Ok Γ φ G H μ ∧ Vw Γ φ G H v x ∧ Vw Γ φ G H u y ∧ f x y = some z ∧ ∀ E, postN Γ E φ G H (.ok z μ) Q
/-- a comparison -/
def rC (Γ : Ct) (f : Ev.R → Ev.R → Option Bool) : R2 := fun v u H Q => ∃ φ G μ x y b, Ok Γ φ G H μ ∧ Vw Γ φ G H v x ∧ Vw Γ φ G H u y ∧ f x y = some b ∧ Q (.bl b) H
theorem se_op {op : Operator} {f : Ev.R → Ev.R → Option Ev.R} {a b : Expr} {fa fb : Ev.E} {pos : Pos} (ho : OpR X (binaryOp op) (rD (ct X ca) f)) (ha : PE X a (tV (ct X ca) W fa)) (hb : PE X b (tV (ct X ca) W fb)) :
    PE X (.BinOp a op b pos) (tE (ct X ca) W (Ev.eOp f fa fb)) := PE.imp (pe_op ho ha hb) fun σ H Q q => by
  obtain ⟨φ, G, ρ, μ, ok, en, q⟩ := q
  unfold Ev.eOp at q
  refine ⟨φ, G, ρ, μ, ok, en, post_bind q fun v1 φ1 G1 H1 x μ1 _ ext ok1 r1 q1 => ?_⟩
  refine ⟨φ1, G1, ρ, μ1, ok1, en.ext ext, post_bind q1 fun v2 φ2 G2 H2 y μ2 _ ext2 ok2 r2 q2 => ?_⟩
  obtain ⟨z, e, q2⟩ := post_lift q2
  exact ⟨φ2, G2, μ2, _, _, z, ok2, (r1.ext ext2).vw ok2, r2.vw ok2, e, q2⟩
theorem sn_op {op : Operator} {f : Ev.R → Ev.R → Option Ev.R} {a b : Expr} {fa fb : Ev.E} {pos : Pos} (ho : OpR X (binaryOp op) (rDN (ct X ca) f)) (ha : PE X a (tV (ct X ca) W fa)) (hb : PE X b (tV (ct X ca) W fb)) :
    PE X (.BinOp a op b pos) (tN (ct X ca) W (Ev.eOp f fa fb)) := PE.imp (pe_op ho ha hb) fun σ H Q q => by
  obtain ⟨φ, G, ρ, μ, ok, en, q⟩ := q
  unfold Ev.eOp at q
  refine ⟨φ, G, ρ, μ, ok, en, postN_bind q fun v1 φ1 G1 H1 x μ1 _ ext ok1 r1 q1 => ?_⟩
  have q1 := (postN_bind (Rel1 := rPV (ct X ca)) q1 fun v2 φ2 G2 H2 y μ2 _ ext2 ok2 r2 q2 => (show rDN (ct X ca) f v1 v2 H2 Q from ?_))
  · exact ⟨φ1, G1, ρ, μ1, ok1, en.ext ext, q1⟩
  · cases e : f (Ev.vw μ2 x) (Ev.vw μ2 y) with
    | none => rw [e] at q2; exact q2.elim
    | some z =>
      rw [e] at q2
      exact ⟨φ2, G2, μ2, _, _, z, ok2, (r1.ext ext2).vw ok2, r2.vw ok2, e, fun E => by
        have q2 : ∀ a φ' G' H', Ext φ2 G2 H2 φ' G' H' → Ok (ct X ca) φ' G' H' μ2 → H2 a = none → G' a = none → a ∉ φ' → Nw (ct X ca) φ' G' H' a z → Q (.ref a) H' := q2
        exact q2⟩
theorem st_cmp {op : CmpOp} {f : Ev.R → Ev.R → Option Bool} {a b : Expr} {fa fb : Ev.E} {pos : Pos} (ho : OpR X (compareOp op) (rC (ct X ca) f)) (ha : PE X a (tV (ct X ca) W fa)) (hb : PE X b (tV (ct X ca) W fb)) (hm : behindInMarks op b = false) :
    PT X (.Compare a [op] [b] pos) (tT (ct X ca) W (Ev.tCmp f fa fb)) := PT.imp (pt_cmpR ho ha hb hm) fun σ H Q q => by
  obtain ⟨φ, G, ρ, μ, ok, en, q⟩ := q
  unfold Ev.tCmp at q
  refine ⟨φ, G, ρ, μ, ok, en, post_bind q fun v1 φ1 G1 H1 x μ1 _ ext ok1 r1 q1 => ?_⟩
  refine ⟨φ1, G1, ρ, μ1, ok1, en.ext ext, post_bind q1 fun v2 φ2 G2 H2 y μ2 _ ext2 ok2 r2 q2 => ?_⟩
  obtain ⟨z, e, q2⟩ := post_lift q2
  exact ⟨φ2, G2, μ2, _, _, z, ok2, (r1.ext ext2).vw ok2, r2.vw ok2, e, z, rfl, post_ok q2 ok2 rfl⟩
/-- a comparison as a value -/
theorem se_cmp {op : CmpOp} {f : Ev.R → Ev.R → Option Bool} {a b : Expr} {fa fb : Ev.E} {pos : Pos} (ho : OpR X (compareOp op) (rC (ct X ca) f)) (ha : PE X a (tV (ct X ca) W fa)) (hb : PE X b (tV (ct X ca) W fb)) (hm : behindInMarks op b = false) :
    PE X (.Compare a [op] [b] pos) (tE (ct X ca) W (Ev.eT (Ev.tCmp f fa fb))) := PE.imp (pe_cmpR ho ha hb hm) fun σ H Q q => by
  obtain ⟨φ, G, ρ, μ, ok, en, q⟩ := q
  unfold Ev.eT Ev.tCmp at q
  simp only [Ev.bind_assoc] at q
  refine ⟨φ, G, ρ, μ, ok, en, post_bind q fun v1 φ1 G1 H1 x μ1 _ ext ok1 r1 q1 => ?_⟩
  refine ⟨φ1, G1, ρ, μ1, ok1, en.ext ext, post_bind q1 fun v2 φ2 G2 H2 y μ2 _ ext2 ok2 r2 q2 => ?_⟩
  cases e : f (Ev.vw μ2 x) (Ev.vw μ2 y) with
  | none => rw [e] at q2; exact q2.elim
  | some z =>
    rw [e] at q2
    exact ⟨φ2, G2, μ2, _, _, z, ok2, (r1.ext ext2).vw ok2, r2.vw ok2, e, post_ok q2 ok2 (.d (.bl z))⟩
end
end EvS
end

section
set_option maxHeartbeats 0
set_option Elab.async false
set_option linter.all false
set_option maxRecDepth 100000
/-! EvOps: the evaluator's operators, subscripts and built-ins are those of the layer. -/
namespace EvS
open PySem PySem.Spec PyProof.Rows L2
section
variable {X : Cx} {W : WX} {ca : Cn} {k : Nat}

theorem cat_ne {α : Type} {xs : List α} (h : xs ≠ []) : ∃ x r, xs = x :: r := by
  cases xs with
  | nil => exact absurd rfl h
  | cons x r => exact ⟨x, r, rfl⟩
theorem DRs.nil_iff {K : PySem.W.Frag} {G : Hp} {xs : List V} {ds : List Ev.D} (h : DRs K G xs ds) : xs = [] ↔ ds = [] := by
  cases h with
  | nil => simp
  | cons => simp
theorem opD_add : OpR X (binaryOp .Add) (rD (ct X ca) Ev.addR) := by
  intro pins s σ H v u vv uu Q I rv ru h
  obtain ⟨φ, G, μ, x, y, z, ok, hx, hy, e, q⟩ := h
  unfold Ev.addR at e
  split at e
  · cases e
    have e1 := hx.int; have e2 := hy.int
    subst e1 e2
    exact op_add pins s σ H _ _ vv uu Q I rv ru ⟨_, _, rfl, rfl, q _ φ G H Ext.refl ok (.d (.int _))⟩
  · split at e
    · rename_i hz
      cases e
      have e1 := hx.str; have e2 := hy.str
      subst e1 e2
      refine op_add_str pins s σ H _ _ vv uu Q I rv ru ⟨_, _, rfl, rfl, by rw [len_ofString, len_ofString, ← SL_eq]; exact hz, ?_⟩
      rw [← ofString_append]
      exact q _ φ G H Ext.refl ok (.d (.str _))
    · cases e
  · split at e
    · rename_i hz
      cases e
      obtain ⟨a, xs, e1, h1, r1⟩ := hx.list ok.le
      obtain ⟨b, ys, e2, h2, r2⟩ := hy.list ok.le
      subst e1 e2
      refine op_cat pins s σ H _ _ vv uu Q I rv ru ⟨a, b, xs, ys, rfl, rfl, h1, h2, by rw [r1.len, r2.len, ← SL_eq]; exact hz, fun p hp => ?_⟩
      exact q _ φ _ _ (Ext.new ok hp) (ok.new hp) (.d (.lst upd_same ((r1.append r2).mono (same_upd (ok.ng hp)))))
    · cases e
  · split at e
    · rename_i hz
      cases e
      obtain ⟨a, xs, e1, h1, r1⟩ := hx.tuple
      obtain ⟨b, ys, e2, h2, r2⟩ := hy.tuple
      subst e1 e2
      refine op_catA pins s σ H _ _ vv uu Q I rv ru ⟨a, b, xs, ys, rfl, rfl, Same.seqT ok.le h1, Same.seqT ok.le h2, by rw [r1.len, r2.len, ← SL_eq]; exact hz, fun e0 => ?_, fun n0 e0 => ?_, fun n0 n1 p hp => ?_⟩
      · rw [r1.nil_iff.mp e0, List.nil_append] at q
        exact q _ φ G H Ext.refl ok (.d (.tup h2 r2))
      · rw [r2.nil_iff.mp e0, List.append_nil] at q
        exact q _ φ G H Ext.refl ok (.d (.tup h1 r1))
      · exact q _ φ _ _ (Ext.new ok hp) (ok.new hp) (.d (.tup (.inl (.inl upd_same)) ((r1.append r2).mono (same_upd (ok.ng hp)))))
    · cases e
  · cases e
theorem opD_addL : OpR X (binaryOp .Add) (rDN (ct X ca) Ev.addL) := by
  intro pins s σ H v u vv uu Q I rv ru h
  obtain ⟨φ, G, μ, x, y, z, ok, hx, hy, e, q⟩ := h
  unfold Ev.addL at e
  split at e
  · split at e
    · rename_i hz
      cases e
      obtain ⟨a, xs, e1, h1, r1⟩ := hx.list ok.le
      obtain ⟨b, ys, e2, h2, r2⟩ := hy.list ok.le
      subst e1 e2
      refine op_cat pins s σ H _ _ vv uu Q I rv ru ⟨a, b, xs, ys, rfl, rfl, h1, h2, by rw [r1.len, r2.len, ← SL_eq]; exact hz, fun p hp => ?_⟩
      have q := q (fun _ _ _ => False)
      rw [← mkL_d] at q
      exact postN_lst q ok hp (RRs.ofD (r1.append r2))
    · cases e
  · cases e
theorem opD_sub : OpR X (binaryOp .Sub) (rD (ct X ca) Ev.subR) := by
  intro pins s σ H v u vv uu Q I rv ru h
  obtain ⟨φ, G, μ, x, y, z, ok, hx, hy, e, q⟩ := h
  unfold Ev.subR at e
  split at e
  · cases e
    have e1 := hx.int; have e2 := hy.int
    subst e1 e2
    exact op_sub pins s σ H _ _ vv uu Q I rv ru ⟨_, _, rfl, rfl, q _ φ G H Ext.refl ok (.d (.int _))⟩
  · cases e
theorem small_iff {i : Int} (h : Ev.small i = true) : -(2 ^ 64) < i ∧ i < 2 ^ 64 := by
  unfold Ev.small at h
  simp only [Bool.and_eq_true, decide_eq_true_eq] at h
  omega
theorem opD_mul : OpR X (binaryOp .Mult) (rD (ct X ca) Ev.mulR) := by
  intro pins s σ H v u vv uu Q I rv ru h
  obtain ⟨φ, G, μ, x, y, z, ok, hx, hy, e, q⟩ := h
  unfold Ev.mulR at e
  split at e
  · split at e
    · rename_i hs
      cases e
      have e1 := hx.int; have e2 := hy.int
      subst e1 e2
      refine op_mul pins s σ H _ _ vv uu Q I rv ru ⟨_, _, rfl, rfl, ?_, q _ φ G H Ext.refl ok (.d (.int _))⟩
      rcases Bool.or_eq_true_iff.mp hs with hs | hs
      · exact .inl (small_iff hs)
      · exact .inr (small_iff hs)
    · cases e
  · split at e
    · rename_i hs
      cases e
      simp only [Bool.and_eq_true, decide_eq_true_eq] at hs
      obtain ⟨⟨⟨_, hs1⟩, hs2⟩, hs3⟩ := hs
      obtain ⟨a, xs, e1, h1, r1⟩ := hx.list ok.le
      have e2 := hy.int
      subst e1 e2
      refine op_rep pins s σ H _ _ vv uu Q I rv ru ⟨a, _, xs, rfl, rfl, h1, by omega, by omega, by rw [r1.len, ← SL_eq]; exact hs3, fun p hp => ?_⟩
      exact q _ φ _ _ (Ext.new ok hp) (ok.new hp) (.d (.lst upd_same ((r1.rep _).mono (same_upd (ok.ng hp)))))
    · cases e
  · cases e
theorem opD_mod : OpR X (binaryOp .Mod) (rD (ct X ca) Ev.modR) := by
  intro pins s σ H v u vv uu Q I rv ru h
  obtain ⟨φ, G, μ, x, y, z, ok, hx, hy, e, q⟩ := h
  unfold Ev.modR at e
  split at e
  · split at e
    · rename_i hs
      cases e
      have e1 := hx.int; have e2 := hy.int
      subst e1 e2
      exact op_mod pins s σ H _ _ vv uu Q I rv ru ⟨_, _, rfl, rfl, hs, q _ φ G H Ext.refl ok (.d (.int _))⟩
    · cases e
  · cases e
theorem opD_fdiv : OpR X (binaryOp .FloorDiv) (rD (ct X ca) Ev.fdivR) := by
  intro pins s σ H v u vv uu Q I rv ru h
  obtain ⟨φ, G, μ, x, y, z, ok, hx, hy, e, q⟩ := h
  unfold Ev.fdivR at e
  split at e
  · split at e
    · rename_i hs
      cases e
      have e1 := hx.int; have e2 := hy.int
      subst e1 e2
      exact op_fdiv pins s σ H _ _ vv uu Q I rv ru ⟨_, _, rfl, rfl, hs, q _ φ G H Ext.refl ok (.d (.int _))⟩
    · cases e
  · cases e
theorem opD_pow : OpR X (binaryOp .Pow) (rD (ct X ca) Ev.powR) := by
  intro pins s σ H v u vv uu Q I rv ru h
  obtain ⟨φ, G, μ, x, y, z, ok, hx, hy, e, q⟩ := h
  unfold Ev.powR at e
  split at e
  · split at e
    · rename_i hs
      cases e
      have e1 := hx.int; have e2 := hy.int
      subst e1 e2
      have hb := small_iff hs.2.2
      exact op_pow pins s σ H _ _ vv uu Q I rv ru ⟨_, _, rfl, rfl, ⟨hs.1, hs.2.1, by omega⟩, q _ φ G H Ext.refl ok (.d (.int _))⟩
    · cases e
  · cases e
theorem opC_int {op : CmpOp} {f : Int → Int → Bool} (ho : OpR X (compareOp op) (rI0 fun i j => .bl (f i j))) : OpR X (compareOp op) (rC (ct X ca) (Ev.cmpR f)) := by
  intro pins s σ H v u vv uu Q I rv ru h
  obtain ⟨φ, G, μ, x, y, z, ok, hx, hy, e, q⟩ := h
  unfold Ev.cmpR at e
  split at e
  · cases e
    have e1 := hx.int; have e2 := hy.int
    subst e1 e2
    exact ho pins s σ H _ _ vv uu Q I rv ru ⟨_, _, rfl, rfl, q⟩
  · cases e
theorem opC_is : OpR X (compareOp .Is) (rC (ct X ca) Ev.isR) := by
  intro pins s σ H v u vv uu Q I rv ru h
  obtain ⟨φ, G, μ, x, y, z, ok, hx, hy, e, q⟩ := h
  unfold Ev.isR at e
  split at e
  · rename_i a b
    cases e
    have e1 := hx.bl; have e2 := hy.bl
    subst e1 e2
    have rv : vv = .bool a := rv
    have ru : uu = .bool b := ru
    subst rv ru
    refine wpAny_is_plain rfl ?_
    have eb : ((Value.bool a) == (Value.bool b)) = (a == b) := by cases a <;> cases b <;> rfl
    rw [eb]
    exact ⟨.bl _, H, I, rfl, q⟩
  · cases e
theorem opC_lt : OpR X (compareOp .Lt) (rC (ct X ca) Ev.ltR) := opC_int op_lt
theorem opC_le : OpR X (compareOp .LtE) (rC (ct X ca) Ev.leR) := opC_int op_le
theorem opC_gt : OpR X (compareOp .Gt) (rC (ct X ca) Ev.gtR) := opC_int op_gt
theorem opC_ge : OpR X (compareOp .GtE) (rC (ct X ca) Ev.geR) := opC_int op_ge
theorem room_min {A : Around} {a b : Ev.D} (hu : A.units + 64 < cLine) (h : min a.dep b.dep ≤ Ev.EqDep) : A.units + min (toPy a).depth (toPy b).depth < cLine := by
  rw [dep_toPy, dep_toPy]
  have : min a.dep b.dep ≤ 64 := h
  omega
theorem opC_eq (hu : X.A.units + 64 < cLine) : OpR X (compareOp .Eq) (rC (ct X ca) Ev.eqR) := by
  intro pins s σ H v u vv uu Q I rv ru h
  obtain ⟨φ, G, μ, x, y, z, ok, hx, hy, e, q⟩ := h
  unfold Ev.eqR at e
  split at e
  · rename_i x y
    unfold Ev.eqD at e
    split at e
    · rename_i hz
      cases e
      obtain ⟨as, r1⟩ := Dp.reads I _ _ _ (hx.dp ok.le) rv
      obtain ⟨bs, r2⟩ := Dp.reads I _ _ _ (hy.dp ok.le) ru
      refine SeqAt.compareEq_reads r1 r2 (canLay_toPy x) (canLay_toPy y) (room_min hu hz) ?_
      rw [eqv_toPy]
      exact ⟨.bl _, H, I, rfl, q⟩
    · cases e
  · split at e
    · rename_i hz
      cases e
      have hz := Ev.D.eq_of_same hz
      subst hz
      have e1 := hx.rep; have e2 := hy.rep
      subst e1 e2
      obtain ⟨t1, rfl⟩ := rv
      obtain ⟨t2, rfl⟩ := ru
      exact eq_str (fin_bl I q (by simp))
    · cases e
  · cases e
theorem opC_ne (hu : X.A.units + 64 < cLine) : OpR X (compareOp .NotEq) (rC (ct X ca) Ev.neR) := by
  intro pins s σ H v u vv uu Q I rv ru h
  obtain ⟨φ, G, μ, x, y, z, ok, hx, hy, e, q⟩ := h
  unfold Ev.neR Ev.eqR at e
  split at e
  · rename_i x y
    unfold Ev.eqD at e
    split at e
    · rename_i hz
      cases e
      obtain ⟨as, r1⟩ := Dp.reads I _ _ _ (hx.dp ok.le) rv
      obtain ⟨bs, r2⟩ := Dp.reads I _ _ _ (hy.dp ok.le) ru
      refine SeqAt.compareNe_reads r1 r2 (canLay_toPy x) (canLay_toPy y) (room_min hu hz) ?_
      rw [eqv_toPy]
      exact ⟨.bl _, H, I, rfl, q⟩
    · cases e
  · split at e
    · rename_i hz
      cases e
      have hz := Ev.D.eq_of_same hz
      subst hz
      have e1 := hx.rep; have e2 := hy.rep
      subst e1 e2
      obtain ⟨t1, rfl⟩ := rv
      obtain ⟨t2, rfl⟩ := ru
      exact ne_str (fin_bl I q (by simp))
    · cases e
  · cases e
theorem any_toPy (x : Ev.D) : ∀ ys : List Ev.D, ((toPyL ys).any fun z => PyData.eqv z (toPy x)) = ys.any fun y => y.eqv x
  | [] => rfl
  | y :: ys => by rw [toPyL, List.any_cons, List.any_cons, any_toPy x ys, eqv_toPy]
theorem valKV {Γ : Ct} {φ : List Addr} {G : Hp} : ∀ {ks : List (Key × V)} {kvs : List (Ev.Ky × Ev.R)} (k : Ev.Ky), RKs Γ φ G ks kvs →
    (∃ v r, L2.valV ks (kyK k) = some v ∧ Ev.valK kvs k = some r ∧ RR Γ φ G v r) ∨ (L2.valV ks (kyK k) = none ∧ Ev.valK kvs k = none)
  | _, _, k, .nil => .inr ⟨rfl, rfl⟩
  | _, _, k, .cons (k := j) (v := v) (r := r) (rs := rs) h t => by
    by_cases e : j = k
    · subst e
      exact .inl ⟨v, r, valV_pos rfl, by simp [Ev.valK], h⟩
    · have e2 : ¬ kyK j = kyK k := fun z => e (kyK_inj z)
      have e3 : Ev.valK ((j, r) :: rs) k = Ev.valK rs k := by simp [Ev.valK, List.find?_cons, e]
      rw [valV_neg (p := (kyK j, v)) e2, e3]
      exact valKV k t
theorem keyOf_kV {K : PySem.W.Frag} {G : Hp} {v : V} {x : Ev.D} {k : Ev.Ky} (h : DR K G v x) (e : Ev.keyOf x = some k) : v = kV (kyK k) := by
  cases h <;> simp only [Ev.keyOf] at e <;> cases e
  · rfl
  · rfl
theorem keyOf_nl {x : Ev.D} {k : Ev.Ky} (e : Ev.keyOf x = some k) : ∀ ds, x ≠ .lst ds := fun ds z => by subst z; cases e
theorem in_core (neg : Bool) (hu : X.A.units + 65 < cLine) {pins : List (Addr × Obj)} {s : Shared} {σ : L2.St} {H : Hp} {v u : V} {vv uu : Value} {Q : VK} (I : Inv X pins σ H s) (rv : RelV v vv) (ru : RelV u uu) {φ : List Addr} {G : Hp} {μ : Ev.Mem} {x y : Ev.R} {b : Bool}
    (ok : Ok (ct X ca) φ G H μ) (hx : Vw (ct X ca) φ G H v x) (hy : Vw (ct X ca) φ G H u y) (e : Ev.inR x y = some b) (q : Q (.bl (if neg then !b else b)) H) :
    wpAny (model X.prog X.w) X.A (compareOp (if neg then .NotIn else .In) vv uu) (EP X pins σ Q) X.xe s := by
  unfold Ev.inR at e
  split at e
  · rename_i x ys
    split at e
    · rename_i hz
      cases e
      obtain ⟨as, r1⟩ := Dp.reads I _ _ _ (hx.dp ok.le) rv
      have hy' := hy.dp ok.le
      obtain ⟨bs, r2⟩ := Dp.reads I _ _ _ hy' ru
      have hr : X.A.units + 1 + min (PyData.depthAll (toPyL ys)) (toPy x).depth < cLine := by
        rw [depL_toPy, dep_toPy]
        have : min x.dep (Ev.D.depL ys) ≤ 64 := hz
        omega
      simp only [toPy] at r2
      cases neg with
      | false => exact SeqAt.in_list_reads r2 r1 (canLayL_toPy ys) (canLay_toPy x) hr ⟨.bl _, H, I, rfl, by rw [any_toPy]; exact q⟩
      | true => exact SeqAt.notIn_list_reads r2 r1 (canLayL_toPy ys) (canLay_toPy x) hr ⟨.bl _, H, I, rfl, by rw [any_toPy]; exact q⟩
    · cases e
  · rename_i x ys
    split at e
    · rename_i hz
      cases e
      obtain ⟨as, r1⟩ := Dp.reads I _ _ _ (hx.dp ok.le) rv
      have hy' := hy.dp ok.le
      obtain ⟨bs, r2⟩ := Dp.reads I _ _ _ hy' ru
      have hr : X.A.units + 1 + min (PyData.depthAll (toPyL ys)) (toPy x).depth < cLine := by
        rw [depL_toPy, dep_toPy]
        have : min x.dep (Ev.D.depL ys) ≤ 64 := hz
        omega
      simp only [toPy] at r2
      cases neg with
      | false => exact SeqAt.in_tuple_reads r2 r1 (canLayL_toPy ys) (canLay_toPy x) hr ⟨.bl _, H, I, rfl, by rw [any_toPy]; exact q⟩
      | true => exact SeqAt.notIn_tuple_reads r2 r1 (canLayL_toPy ys) (canLay_toPy x) hr ⟨.bl _, H, I, rfl, by rw [any_toPy]; exact q⟩
    · cases e
  · rename_i x kvs
    obtain ⟨k, ek, e⟩ := Option.map_eq_some_iff.mp e
    obtain ⟨a, ks, e1, h1, r1⟩ := hy.dic ok.le
    have e2 : v = kV (kyK k) := keyOf_kV (hx.rrOf (keyOf_nl ek)) ek
    subst e1 e2
    cases ru
    have hb : (L2.valV ks (kyK k)).isSome = b := by
      rw [← e]
      rcases valKV k r1 with ⟨v, r, z1, z2, _⟩ | ⟨z1, z2⟩
      · rw [z1, z2]; rfl
      · rw [z1, z2]; rfl
    cases neg with
    | false => exact d_in (by omega) I (DGet.k h1) rv fun s' I' => ⟨.bl _, H, I', rfl, by rw [hb]; exact q⟩
    | true => exact d_notIn (by omega) I (DGet.k h1) rv fun s' I' => ⟨.bl _, H, I', rfl, by rw [hb]; exact q⟩
  · cases e
theorem opC_in (hu : X.A.units + 65 < cLine) : OpR X (compareOp .In) (rC (ct X ca) Ev.inR) := by
  intro pins s σ H v u vv uu Q I rv ru h
  obtain ⟨φ, G, μ, x, y, z, ok, hx, hy, e, q⟩ := h
  exact in_core false hu I rv ru ok hx hy e q
theorem opC_nin (hu : X.A.units + 65 < cLine) : OpR X (compareOp .NotIn) (rC (ct X ca) Ev.ninR) := by
  intro pins s σ H v u vv uu Q I rv ru h
  obtain ⟨φ, G, μ, x, y, z, ok, hx, hy, e, q⟩ := h
  unfold Ev.ninR at e
  obtain ⟨b, e1, e2⟩ := Option.map_eq_some_iff.mp e
  subst e2
  exact in_core true hu I rv ru ok hx hy e1 q

theorem pv_non {Γ : Ct} {φ : List Addr} {G H : Hp} {v : V} {r : Ev.R} (h : PV Γ φ G H v r) : decide (v = .non) = Ev.isNonR r := by
  cases h with
  | own => unfold Ev.mkL; split <;> rfl
  | odic => rfl
  | rr h =>
    cases h with
    | d h => cases h <;> rfl
    | _ => rfl
/-! ### subscripts -/
theorem atI_map {α β : Type} (f : α → β) (xs : List α) (i : Int) : Ev.atI (xs.map f) i = (Ev.atI xs i).map f := by
  unfold Ev.atI
  rw [List.length_map]
  cases Ev.ixN xs.length i <;> simp
theorem DRs.atI {K : PySem.W.Frag} {G : Hp} {vs : List V} {ds : List Ev.D} {i : Int} {d : Ev.D} (h : DRs K G vs ds) (e : Ev.atI ds i = some d) : ∃ v, L2.atI vs i = some v ∧ DR K G v d := by
  unfold Ev.atI at e
  obtain ⟨j, e1, e2⟩ := Option.bind_eq_some_iff.mp e
  obtain ⟨v, h1, h2⟩ := h.get e2
  refine ⟨v, ?_, h2⟩
  show (L2.ixN vs.length i).bind _ = _
  rw [h.len]
  have : L2.ixN ds.length i = some j := e1
  rw [this]
  exact h1
theorem RRs.atI {Γ : Ct} {φ : List Addr} {G : Hp} {vs : List V} {ds : List Ev.R} {i : Int} {d : Ev.R} (h : RRs Γ φ G vs ds) (e : Ev.atI ds i = some d) : ∃ v, L2.atI vs i = some v ∧ RR Γ φ G v d := by
  unfold Ev.atI at e
  obtain ⟨j, e1, e2⟩ := Option.bind_eq_some_iff.mp e
  obtain ⟨v, h1, h2⟩ := h.get e2
  refine ⟨v, ?_, h2⟩
  show (L2.ixN vs.length i).bind _ = _
  rw [h.len]
  have : L2.ixN ds.length i = some j := e1
  rw [this]
  exact h1
/-- a[i]: a list, a tuple, a text -/
theorem ixD : IxR X (rD (ct X ca) fun x y => match x with
    | .dic _ => none
    | x => Ev.idxR x y) := by
  intro value slice pins s σ H v u vv uu Q I rv ru h hs
  obtain ⟨φ, G, μ, x, y, z, ok, hx, hy, e, q⟩ := h
  cases x with
  | dic kvs => cases e
  | p n => cases y <;> cases e
  | rep n => cases y <;> cases e
  | ins c fs => cases y <;> cases e
  | scr ns =>
    cases y with
    | d y =>
      cases y with
      | int i =>
        obtain ⟨n, e1, e2⟩ := Option.map_eq_some_iff.mp (show (Ev.atI ns i).map _ = some z from e)
        subst e2
        obtain ⟨a, ea, h1⟩ := hx.scr ok.le
        have eu := hy.int
        subst ea eu
        have e3 : L2.atI (ns.map V.int) i = some (.int n) := by
          have := atI_map V.int ns i
          rw [e1] at this
          exact this
        exact ix_list value slice pins s σ H _ _ vv uu Q I rv ru ⟨a, _, i, _, rfl, rfl, h1, e3, q _ φ G H Ext.refl ok (.d (.int n))⟩ hs
      | _ => cases e
    | _ => cases e
  | ls rs =>
    cases y with
    | d y =>
      cases y with
      | int i =>
        have e : Ev.atI rs i = some z := e
        obtain ⟨a, xs, ea, h1, r1⟩ := hx.ls ok.le
        have eu := hy.int
        subst ea eu
        obtain ⟨w, e3, r3⟩ := r1.atI e
        exact ix_list value slice pins s σ H _ _ vv uu Q I rv ru ⟨a, _, i, _, rfl, rfl, .inl (.inl h1), e3, q _ φ G H Ext.refl ok r3⟩ hs
      | _ => cases e
    | _ => cases e
  | d x =>
    cases y with
    | d y =>
      cases y with
      | int i =>
        have eu := hy.int
        subst eu
        cases x with
        | tup ds =>
          obtain ⟨n, e1, e2⟩ := Option.map_eq_some_iff.mp (show (Ev.atI ds i).map _ = some z from e)
          subst e2
          obtain ⟨a, xs, ea, h1, r1⟩ := hx.tuple
          subst ea
          obtain ⟨w, e3, r3⟩ := r1.atI e1
          exact ix_tup value slice pins s σ H _ _ vv uu Q I rv ru ⟨a, _, i, _, rfl, rfl, Same.seqT ok.le h1, e3, q _ φ G H Ext.refl ok (.d r3)⟩ hs
        | lst ds =>
          obtain ⟨n, e1, e2⟩ := Option.map_eq_some_iff.mp (show (Ev.atI ds i).map _ = some z from e)
          subst e2
          obtain ⟨a, xs, ea, h1, r1⟩ := hx.list ok.le
          subst ea
          obtain ⟨w, e3, r3⟩ := r1.atI e1
          exact ix_list value slice pins s σ H _ _ vv uu Q I rv ru ⟨a, _, i, _, rfl, rfl, .inl (.inl h1), e3, q _ φ G H Ext.refl ok (.d r3)⟩ hs
        | str t =>
          have e : (if t.length ≤ Ev.SL then (Ev.atI t.toList i).map fun c => Ev.R.d (.str (String.ofList [c])) else none) = some z := e
          split at e
          · rename_i hz
            obtain ⟨c, e1, e2⟩ := Option.map_eq_some_iff.mp e
            subst e2
            have ea := hx.str
            subst ea
            refine ix_str value slice pins s σ H _ _ vv uu Q I rv ru ⟨_, i, c.toNat, rfl, rfl, by rw [len_ofString, ← SL_eq]; exact hz, ?_, ?_⟩ hs
            · rw [cps_ofString]
              have := atI_map Char.toNat t.toList i
              rw [e1] at this
              exact this
            · have e5 : (⟨#[c.toNat]⟩ : Str) = Str.ofString (String.ofList [c]) := by
                rw [Str.ofString_eq_toList]
                simp
              rw [e5]
              exact q _ φ G H Ext.refl ok (.d (.str _))
          · cases e
        | non => cases e
        | bl b => cases e
        | int j => cases e
      | non => cases x <;> cases e
      | bl b => cases x <;> cases e
      | str t => cases x <;> cases e
      | tup t => cases x <;> cases e
      | lst t => cases x <;> cases e
    | _ => cases x <;> cases e
/-- behind both parts of a subscription -/
theorem tail_of {prog : Program} {w : World} {A : Around} {E : Value → Shared → Prop} {s : Shared} {value slice : Expr} {T id : String} {o i : Value} {Q : Value → Shared → Prop}
    (hl : typeLookup (.type T) "__getitem__" = pure (some (.builtin id))) (hs : subscripted slice false o i = operate [o, i] (getItem o i)) (hT : s.TypeIs o T)
    (h : wpAny (model prog w) A (getItem o i) Q E s) : wpAny (model prog w) A (subscriptTail value slice o i) Q E s := by
  unfold subscriptTail
  refine wpAny_bind ?_
  rw [getitemInPython_of_ne hT.not_modules]
  refine wpAny_bind (wpAny_specialOf hT hl ?_)
  have fin : wpAny (model prog w) A (subscripted slice false o i) (fun r s₃ => wpAny (model prog w) A (letTemporaryGo value o r >>= fun _ => pure r) Q E s₃) E s := by
    rw [hs]
    exact wpAny_operating (wpAny_mono h (fun r s₃ h₃ => wpAny_bind (wpAny_letTemporaryGo (wpAny_pure h₃))) fun _ _ x => x)
  first
    | exact wpAny_pure (wpAny_bind fin)
    | exact wpAny_bind (wpAny_pure (wpAny_bind fin))
    | exact wpAny_bind fin
theorem ixDic (hu : X.A.units + 1 < cLine) : IxR X (rD (ct X ca) fun x y => match x with
    | .dic k => Ev.idxR (.dic k) y
    | _ => none) := by
  intro value slice pins s σ H v u vv uu Q I rv ru h hs
  obtain ⟨φ, G, μ, x, y, z, ok, hx, hy, e, q⟩ := h
  cases x with
  | dic kvs =>
    cases y with
    | d y =>
      obtain ⟨k, ek, e⟩ := Option.bind_eq_some_iff.mp (show (Ev.keyOf y).bind (Ev.valK kvs) = some z from e)
      obtain ⟨a, ks, e1, h1, r1⟩ := hx.dic ok.le
      have e2 : u = kV (kyK k) := keyOf_kV (hy.rrOf (keyOf_nl ek)) ek
      subst e1 e2
      cases rv
      rcases valKV k r1 with ⟨w, r, z1, z2, z3⟩ | ⟨z1, z2⟩
      · rw [e] at z2
        cases z2
        have g : DGet H a (kV (kyK k)) (some w) := by rw [← z1]; exact DGet.k h1
        exact tail_of PySem.F.slot_dict_getitem.lookup hs (dict_typeIs I g) (d_getItem hu I g ru fun w' s3 I3 rw' => ⟨w, H, I3, rw', q _ φ G H Ext.refl ok z3⟩)
      · rw [e] at z2; cases z2
    | _ => cases e
  | _ => cases e
theorem ixR (hu : X.A.units + 1 < cLine) : IxR X (rD (ct X ca) Ev.idxR) := by
  intro value slice pins s σ H v u vv uu Q I rv ru h hs
  obtain ⟨φ, G, μ, x, y, z, ok, hx, hy, e, q⟩ := h
  cases x with
  | dic kvs => exact ixDic hu value slice pins s σ H v u vv uu Q I rv ru ⟨φ, G, μ, _, y, z, ok, hx, hy, e, q⟩ hs
  | p n => exact ixD value slice pins s σ H v u vv uu Q I rv ru ⟨φ, G, μ, _, y, z, ok, hx, hy, e, q⟩ hs
  | d n => exact ixD value slice pins s σ H v u vv uu Q I rv ru ⟨φ, G, μ, _, y, z, ok, hx, hy, e, q⟩ hs
  | ins n m => exact ixD value slice pins s σ H v u vv uu Q I rv ru ⟨φ, G, μ, _, y, z, ok, hx, hy, e, q⟩ hs
  | ls n => exact ixD value slice pins s σ H v u vv uu Q I rv ru ⟨φ, G, μ, _, y, z, ok, hx, hy, e, q⟩ hs
  | scr n => exact ixD value slice pins s σ H v u vv uu Q I rv ru ⟨φ, G, μ, _, y, z, ok, hx, hy, e, q⟩ hs
  | rep n => exact ixD value slice pins s σ H v u vv uu Q I rv ru ⟨φ, G, μ, _, y, z, ok, hx, hy, e, q⟩ hs
theorem se_ix {a b : Expr} {fa fb : Ev.E} {pos : Pos} (hu : X.A.units + 1 < cLine) (ha : PE X a (tV (ct X ca) W fa)) (hb : PE X b (tE (ct X ca) W fb)) (hs : PlainIx b := by intro _ _; rfl) :
    PE X (.Subscript a b pos) (tE (ct X ca) W (Ev.eIdx fa fb)) := PE.imp (pe_ix (ixR (ca := ca) hu) ha (SV hb) hs) fun σ H Q q => by
  obtain ⟨φ, G, ρ, μ, ok, en, q⟩ := q
  unfold Ev.eIdx Ev.eOp at q
  refine ⟨φ, G, ρ, μ, ok, en, post_bind q fun v1 φ1 G1 H1 x μ1 _ ext ok1 r1 q1 => ?_⟩
  refine ⟨φ1, G1, ρ, μ1, ok1, en.ext ext, post_bind q1 fun v2 φ2 G2 H2 y μ2 _ ext2 ok2 r2 q2 => ?_⟩
  obtain ⟨z, e, q2⟩ := post_lift q2
  exact ⟨φ2, G2, μ2, _, _, z, ok2, (r1.ext ext2).vw ok2, r2.vw ok2, e, q2⟩

/-! ### slices -/
theorem DRs.cut {K : PySem.W.Frag} {G : Hp} {vs : List V} {ds : List Ev.D} (h : DRs K G vs ds) (lo hi : Option Int) : DRs K G (cutV vs lo hi) (Ev.cut ds lo hi) := by
  have e : cutV vs lo hi = (vs.drop (Ev.sIx ds.length 0 lo)).take (Ev.sIx ds.length ds.length hi - Ev.sIx ds.length 0 lo) := by
    rw [← h.len]; rfl
  rw [e]
  exact (h.drop _).take _
theorem cut_whole {α : Type} {xs : List α} {lo hi : Option Int} (h1 : Ev.sIx xs.length 0 lo = 0) (h2 : Ev.sIx xs.length xs.length hi = xs.length) : Ev.cut xs lo hi = xs := by
  unfold Ev.cut
  rw [h1, h2]
  simp
def rS (Γ : Ct) (f : Ev.R → Option Int → Option Int → Option Ev.R) : V → Option Int → Option Int → Hp → VK → Prop := fun v lo hi H Q => ∃ φ G μ x z, Ok Γ φ G H μ ∧ Vw Γ φ G H v x ∧ f x lo hi = some z ∧ ∀ r φ' G' H', Ext φ G H φ' G' H' → Ok Γ φ' G' H' μ → RR Γ φ' G' r z → Q r H'
theorem slR : SlR X (rS (ct X ca) Ev.slcR) := by
  intro pins s σ H v vv vl vu lo hi sl Q I rv hs pl pu h
  obtain ⟨φ, G, μ, x, z, ok, hx, e, q⟩ := h
  unfold Ev.slcR at e
  split at e
  · rename_i ds
    cases e
    obtain ⟨a, xs, e1, h1, r1⟩ := hx.tuple
    subst e1
    refine sl_tupA pins s σ H _ vv vl vu lo hi sl Q I rv hs pl pu ⟨a, xs, rfl, Same.seqT ok.le h1, fun hw => ?_, fun hw p hp => ?_⟩
    · have e2 : Ev.cut ds lo hi = ds := cut_whole (by rw [← r1.len]; exact hw.1) (by rw [← r1.len]; exact hw.2)
      rw [e2] at q
      exact q _ φ G H Ext.refl ok (.d (.tup h1 r1))
    · exact q _ φ _ _ (Ext.new ok hp) (ok.new hp) (.d (.tup (.inl (.inl upd_same)) ((r1.cut lo hi).mono (same_upd (ok.ng hp)))))
  · rename_i ds
    cases e
    obtain ⟨a, xs, e1, h1, r1⟩ := hx.list ok.le
    subst e1
    refine sl_list pins s σ H _ vv vl vu lo hi sl Q I rv hs pl pu ⟨a, xs, rfl, .inl (.inl h1), fun p hp => ?_⟩
    exact q _ φ _ _ (Ext.new ok hp) (ok.new hp) (.d (.lst upd_same ((r1.cut lo hi).mono (same_upd (ok.ng hp)))))
  · cases e
def tO (Γ : Ct) (W : WX) (f : Ev.O) : TO := fun σ H Q => ∃ φ G ρ μ, Ok Γ φ G H μ ∧ EnvR Γ φ G H σ ρ ∧ post Γ (WE W σ) φ G H (f ρ μ) (fun _ _ _ a b => a = b) Q
theorem PO.imp {e : Option Expr} {t t' : TO} (h : PO X e t) (i : ∀ σ H Q, t' σ H Q → t σ H Q) : PO X e t' := ⟨fun pins s σ H Q I q => h.run pins s σ H Q I (i σ H Q q)⟩
theorem so_n : PO X none (tO (ct X ca) W Ev.oN) := PO.imp po_none fun σ H Q q => by
  obtain ⟨φ, G, ρ, μ, ok, en, q⟩ := q
  unfold Ev.oN at q
  exact post_ok q ok rfl
theorem so_e {e : Expr} {f : Ev.E} (h : PE X e (tE (ct X ca) W f)) : PO X (some e) (tO (ct X ca) W (Ev.oE f)) := PO.imp (po_some h) fun σ H Q q => by
  obtain ⟨φ, G, ρ, μ, ok, en, q⟩ := q
  unfold Ev.oE at q
  refine ⟨φ, G, ρ, μ, ok, en, post_bind q fun v1 φ1 G1 H1 x μ1 _ ext ok1 r1 q1 => ?_⟩
  split at q1
  · exact ⟨_, r1.int, post_ok q1 ok1 rfl⟩
  · exact q1.elim
theorem se_slc {a : Expr} {fa : Ev.E} {lo hi : Option Expr} {fl fh : Ev.O} {p2 pos : Pos} (ha : PE X a (tV (ct X ca) W fa)) (hl : PO X lo (tO (ct X ca) W fl)) (hh : PO X hi (tO (ct X ca) W fh)) :
    PE X (.Subscript a (.Slice lo hi none p2) pos) (tE (ct X ca) W (Ev.eSlc fa fl fh)) := PE.imp (pe_slice (slR (ca := ca)) ha hl hh) fun σ H Q q => by
  obtain ⟨φ, G, ρ, μ, ok, en, q⟩ := q
  unfold Ev.eSlc at q
  refine ⟨φ, G, ρ, μ, ok, en, post_bind q fun v1 φ1 G1 H1 x μ1 _ ext ok1 r1 q1 => ?_⟩
  refine ⟨φ1, G1, ρ, μ1, ok1, en.ext ext, post_bind q1 fun l φ2 G2 H2 y μ2 _ ext2 ok2 r2 q2 => ?_⟩
  subst r2
  refine ⟨φ2, G2, ρ, μ2, ok2, (en.ext ext).ext ext2, post_bind q2 fun h φ3 G3 H3 y μ3 _ ext3 ok3 r3 q3 => ?_⟩
  subst r3
  obtain ⟨z, e, q3⟩ := post_lift q3
  exact ⟨φ3, G3, μ3, _, z, ok3, ((r1.ext ext2).ext ext3).vw ok3, e, q3⟩

/-! ### tests -/
theorem st_isN {a : Expr} {fa : Ev.E} {j pos pos'} (ha : PE X a (tV (ct X ca) W fa)) : PT X (.Compare a [.Is] [.Constant .none j pos'] pos) (tT (ct X ca) W (Ev.tIsN fa)) := PT.imp (pt_cmp (pc_isN ha)) fun σ H Q q => by
  obtain ⟨φ, G, ρ, μ, ok, en, q⟩ := q
  unfold Ev.tIsN at q
  refine ⟨φ, G, ρ, μ, ok, en, post_bind q fun v1 φ1 G1 H1 x μ1 _ ext ok1 r1 q1 => ?_⟩
  exact ⟨_, rfl, post_ok q1 ok1 (pv_non r1)⟩
theorem st_notN {a : Expr} {fa : Ev.E} {j pos pos'} (ha : PE X a (tV (ct X ca) W fa)) : PT X (.Compare a [.IsNot] [.Constant .none j pos'] pos) (tT (ct X ca) W (Ev.tNotN fa)) := PT.imp (pt_cmp (pc_notN ha)) fun σ H Q q => by
  obtain ⟨φ, G, ρ, μ, ok, en, q⟩ := q
  unfold Ev.tNotN at q
  refine ⟨φ, G, ρ, μ, ok, en, post_bind q fun v1 φ1 G1 H1 x μ1 _ ext ok1 r1 q1 => ?_⟩
  exact ⟨_, rfl, post_ok q1 ok1 (by show (!decide (v1 = .non)) = !Ev.isNonR x; rw [pv_non r1])⟩
theorem se_isN {a : Expr} {fa : Ev.E} {j pos pos'} (ha : PE X a (tV (ct X ca) W fa)) : PE X (.Compare a [.Is] [.Constant .none j pos'] pos) (tE (ct X ca) W (Ev.eT (Ev.tIsN fa))) := PE.imp (pe_cmp (pc_isN ha)) fun σ H Q q => by
  obtain ⟨φ, G, ρ, μ, ok, en, q⟩ := q
  unfold Ev.eT Ev.tIsN at q
  simp only [Ev.bind_assoc, Ev.bind_ok] at q
  refine ⟨φ, G, ρ, μ, ok, en, post_bind q fun v1 φ1 G1 H1 x μ1 _ ext ok1 r1 q1 => ?_⟩
  exact post_ok q1 ok1 (by rw [pv_non r1]; exact .d (.bl _))
theorem se_notN {a : Expr} {fa : Ev.E} {j pos pos'} (ha : PE X a (tV (ct X ca) W fa)) : PE X (.Compare a [.IsNot] [.Constant .none j pos'] pos) (tE (ct X ca) W (Ev.eT (Ev.tNotN fa))) := PE.imp (pe_cmp (pc_notN ha)) fun σ H Q q => by
  obtain ⟨φ, G, ρ, μ, ok, en, q⟩ := q
  unfold Ev.eT Ev.tNotN at q
  simp only [Ev.bind_assoc, Ev.bind_ok] at q
  refine ⟨φ, G, ρ, μ, ok, en, post_bind q fun v1 φ1 G1 H1 x μ1 _ ext ok1 r1 q1 => ?_⟩
  exact post_ok q1 ok1 (by rw [pv_non r1]; exact .d (.bl _))
theorem sw_and1 {a : Expr} {f : Ev.T} {pos} (h : PT X a (tT (ct X ca) W f)) : PW X (.BoolOp .And [a] pos) (tT (ct X ca) W f) := pw_and1 h
theorem sw_or1 {a : Expr} {f : Ev.T} {pos} (h : PT X a (tT (ct X ca) W f)) : PW X (.BoolOp .Or [a] pos) (tT (ct X ca) W f) := pw_or1 h
theorem sw_and {a b : Expr} {rest : List Expr} {f g : Ev.T} {pos} (h : PT X a (tT (ct X ca) W f)) (h2 : PW X (.BoolOp .And (b :: rest) pos) (tT (ct X ca) W g)) : PW X (.BoolOp .And (a :: b :: rest) pos) (tT (ct X ca) W (Ev.tAnd f g)) := PW.imp (pw_and h h2) fun σ H Q q => by
  obtain ⟨φ, G, ρ, μ, ok, en, q⟩ := q
  unfold Ev.tAnd at q
  refine ⟨φ, G, ρ, μ, ok, en, post_bind q fun c φ1 G1 H1 x μ1 _ ext ok1 r1 q1 => ?_⟩
  subst r1
  cases c with
  | true => exact ⟨φ1, G1, ρ, μ1, ok1, en.ext ext, q1⟩
  | false => exact post_ok (Rel := rB) q1 ok1 rfl
theorem sw_or {a b : Expr} {rest : List Expr} {f g : Ev.T} {pos} (h : PT X a (tT (ct X ca) W f)) (h2 : PW X (.BoolOp .Or (b :: rest) pos) (tT (ct X ca) W g)) : PW X (.BoolOp .Or (a :: b :: rest) pos) (tT (ct X ca) W (Ev.tOr f g)) := PW.imp (pw_or h h2) fun σ H Q q => by
  obtain ⟨φ, G, ρ, μ, ok, en, q⟩ := q
  unfold Ev.tOr at q
  refine ⟨φ, G, ρ, μ, ok, en, post_bind q fun c φ1 G1 H1 x μ1 _ ext ok1 r1 q1 => ?_⟩
  subst r1
  cases c with
  | false => exact ⟨φ1, G1, ρ, μ1, ok1, en.ext ext, q1⟩
  | true => exact post_ok (Rel := rB) q1 ok1 rfl
theorem st_not {a : Expr} {f : Ev.T} {pos} (h : PT X a (tT (ct X ca) W f)) : PT X (.UnaryOp .Not a pos) (tT (ct X ca) W (Ev.tNot f)) := PT.imp (pt_not h) fun σ H Q q => by
  obtain ⟨φ, G, ρ, μ, ok, en, q⟩ := q
  unfold Ev.tNot at q
  refine ⟨φ, G, ρ, μ, ok, en, post_bind q fun c φ1 G1 H1 x μ1 _ ext ok1 r1 q1 => ?_⟩
  subst r1
  exact post_ok (Rel := rB) q1 ok1 rfl
theorem st_ch {op op' : CmpOp} {f g : Ev.R → Ev.R → Option Bool} {a b c : Expr} {fa fb fc : Ev.E} {pos : Pos} (ho : OpR X (compareOp op) (rC (ct X ca) f)) (ho' : OpR X (compareOp op') (rC (ct X ca) g)) (ha : PE X a (tV (ct X ca) W fa)) (hb : PE X b (tV (ct X ca) W fb)) (hc : PE X c (tV (ct X ca) W fc))
    (hm : lastMarks [op, op'] [b, c] = false := by with_unfolding_all rfl) : PT X (.Compare a [op, op'] [b, c] pos) (tT (ct X ca) W (Ev.tCh f g fa fb fc)) := PT.imp (pt_chain ho ho' ha hb hc hm) fun σ H Q q => by
  obtain ⟨φ, G, ρ, μ, ok, en, q⟩ := q
  unfold Ev.tCh at q
  refine ⟨φ, G, ρ, μ, ok, en, post_bind q fun v1 φ1 G1 H1 x μ1 _ ext ok1 r1 q1 => ?_⟩
  refine ⟨φ1, G1, ρ, μ1, ok1, en.ext ext, post_bind q1 fun v2 φ2 G2 H2 y μ2 _ ext2 ok2 r2 q2 => ?_⟩
  cases e : f (Ev.vw μ2 x) (Ev.vw μ2 y) with
  | none => rw [e] at q2; exact q2.elim
  | some z =>
    rw [e] at q2
    refine ⟨φ2, G2, μ2, _, _, z, ok2, (r1.ext ext2).vw ok2, r2.vw ok2, e, z, rfl, ?_⟩
    cases z with
    | false => exact ⟨false, rfl, post_ok (Rel := rB) q2 ok2 rfl⟩
    | true =>
      refine ⟨φ2, G2, ρ, μ2, ok2, (en.ext ext).ext ext2, post_bind (show post (ct X ca) (WE W σ) φ2 G2 H2 ((fc ρ μ2).bind fun z μ => Ev.lift (g (Ev.vw μ y) (Ev.vw μ z)) μ) rB Q from q2) fun v3 φ3 G3 H3 w μ3 _ ext3 ok3 r3 q3 => ?_⟩
      obtain ⟨b, e3, q3⟩ := post_lift q3
      exact ⟨φ3, G3, μ3, _, _, b, ok3, (r2.ext ext3).vw ok3, r3.vw ok3, e3, b, rfl, post_ok (Rel := rB) q3 ok3 rfl⟩
theorem se_ch {op op' : CmpOp} {f g : Ev.R → Ev.R → Option Bool} {a b c : Expr} {fa fb fc : Ev.E} {pos : Pos} (ho : OpR X (compareOp op) (rC (ct X ca) f)) (ho' : OpR X (compareOp op') (rC (ct X ca) g)) (ha : PE X a (tV (ct X ca) W fa)) (hb : PE X b (tV (ct X ca) W fb)) (hc : PE X c (tV (ct X ca) W fc))
    (hm : lastMarks [op, op'] [b, c] = false := by with_unfolding_all rfl) : PE X (.Compare a [op, op'] [b, c] pos) (tE (ct X ca) W (Ev.eT (Ev.tCh f g fa fb fc))) := PE.imp (pe_chain ho ho' ha hb hc hm) fun σ H Q q => by
  obtain ⟨φ, G, ρ, μ, ok, en, q⟩ := q
  unfold Ev.eT Ev.tCh at q
  simp only [Ev.bind_assoc] at q
  refine ⟨φ, G, ρ, μ, ok, en, post_bind q fun v1 φ1 G1 H1 x μ1 _ ext ok1 r1 q1 => ?_⟩
  refine ⟨φ1, G1, ρ, μ1, ok1, en.ext ext, post_bind q1 fun v2 φ2 G2 H2 y μ2 _ ext2 ok2 r2 q2 => ?_⟩
  cases e : f (Ev.vw μ2 x) (Ev.vw μ2 y) with
  | none => rw [e] at q2; exact q2.elim
  | some z =>
    rw [e] at q2
    refine ⟨φ2, G2, μ2, _, _, z, ok2, (r1.ext ext2).vw ok2, r2.vw ok2, e, z, rfl, ?_⟩
    cases z with
    | false => exact post_ok q2 ok2 (.d (.bl false))
    | true =>
      have q2 : post (ct X ca) (WE W σ) φ2 G2 H2 (((fc ρ μ2).bind fun z μ => Ev.lift (g (Ev.vw μ y) (Ev.vw μ z)) μ).bind fun b μ => .ok (.d (.bl b)) μ) (rRR (ct X ca)) Q := q2
      rw [Ev.bind_assoc] at q2
      refine ⟨φ2, G2, ρ, μ2, ok2, (en.ext ext).ext ext2, post_bind q2 fun v3 φ3 G3 H3 w μ3 _ ext3 ok3 r3 q3 => ?_⟩
      cases e3 : g (Ev.vw μ3 y) (Ev.vw μ3 w) with
      | none => rw [e3] at q3; exact q3.elim
      | some b =>
        rw [e3] at q3
        exact ⟨φ3, G3, μ3, _, _, b, ok3, (r2.ext ext3).vw ok3, r3.vw ok3, e3, post_ok q3 ok3 (.d (.bl b))⟩
end
end EvS
end

section
set_option maxHeartbeats 0
set_option Elab.async false
set_option linter.all false
set_option maxRecDepth 100000
/-! EvCall: defs of the module, called; a def's body keeps the evaluator's promise; the law's own call. -/
namespace EvS
open PySem PySem.Spec PyProof.Rows L2

/-- a def's promise, told of arounds in which no repr is under way -/
structure FnG (P : Program) (w : World) (K : PySem.W.Frag) (mg : Str → Option Value) (base : Heap) (k : Nat) (f : Addr) (fd : FuncData) (ps : List Str) (sp : Sp) : Prop where
  len : ∀ vs H Q E, sp vs H Q E → vs.length = ps.length
  go : ∀ (A : Around) (out : List Env) (s : Shared) (H : Hp) (args : Args) (us : List Value) (vs : List V) (Q : VK) (E : XK), RoomG k A → Env0 P w K mg base A out s H → BindsTo s fd args (ps.zip us) → Vals vs us → sp vs H Q E →
    codeAny (model P w) A (.call (.ref f) args) (CR (CX P w) out P w H s Q E) s
section
variable {X : Cx} {W : WX} {ca : Cn} {k : Nat}
theorem run_g {pins : List (Addr × Obj)} {σ : L2.St} {H : Hp} {s : Shared} {Q : VK} {us : List Value} {vs : List V} {f : Addr} {fd : FuncData} {ps : List Str} {sp : Sp} (F : FnG X.prog X.w X.K X.mg X.base k f fd ps sp) (hr : RoomG k X.A) (tk : Takes X W)
    (hb : Binds X.K fd ps []) (I : Inv X pins σ H s) (r : Vals vs us) (h : sp vs H Q (WE W σ)) : wpAny (model X.prog X.w) X.A (call (.ref f) us) (EP X pins σ Q) X.xe s := by
  have hl : us.length = ps.length := r.length.symm.trans (F.len _ _ _ _ h)
  have bt : BindsTo s fd ⟨us, []⟩ (ps.zip us) := by
    have q := hb s us I.kIn ((List.append_nil us).symm ▸ hl)
    rwa [List.append_nil] at q
  refine wpAny_call (codeAny_mono (F.go X.A X.stack s H ⟨us, []⟩ us vs Q (WE W σ) hr I.env0 bt r h) fun res s2 hq => ?_)
  match res, hq with
  | .error e, hq => exact passAt tk σ pins H s e s2 I hq
  | .ok (.ret u), hq => exact I.after hq

/-- what the evaluator's def c promises -/
def spF (Γ : Ct) (np : Nat) (c : List Ev.R → Ev.Mem → Ev.Out Ev.R) : Sp := fun vs H Q E => ∃ φ G rs μ, Ok Γ φ G H μ ∧ RRs Γ φ G vs rs ∧ rs.length = np ∧ post Γ E φ G H (c rs μ) (rRR Γ) Q
/-- a def of the module, as a callee: where it stands -/
structure Callee (X : Cx) (ca : Cn) (k : Nat) (C : Ev.Fn) (f : String) (np : Nat) : Prop where
  at_ : ∃ (a : Addr) (fd : FuncData) (ps : List Str), ps.length = np ∧ X.mg (Str.ofString f) = some (.ref a) ∧ PySem.W.keepIn X.K (.ref a) = true ∧ Binds X.K fd ps [] ∧ FnG X.prog X.w X.K X.mg X.base k a fd ps (spF (ct X ca) np (C f))
theorem se_call {C : Ev.Fn} {f : String} {np : Nat} {x : Str} {p pos : Pos} {e : Expr} {es : List Expr} {fs : List Ev.E} (F : Callee X ca k C f np) (xs : XS X W k) (hx : x = Str.ofString f) (hg : Gl X x) (ha : PA X (e :: es) (tA (ct X ca) W fs)) (hn : fs.length = np)
    (hdb : (x == ("__debug__" : Str)) = false := by decide) (he : starEach (e :: es) X.env = (false, eval e X.env) :: starEach es X.env := by rfl) (hpl : (backTo pos (starEach es X.env)).any (·.1) = false := by rfl) :
    PE X (.Call (.Name x p) (e :: es) [] pos) (tE (ct X ca) W (Ev.eCall C f fs)) := by
  obtain ⟨a, fd, ps, hps, hm, hk, hb, G⟩ := F.at_
  refine ⟨fun pins s σ H Q I q => ?_⟩
  subst hx
  refine wpAny_Call_Name_kw (ld_glob I hg hm ?_ hdb)
  refine PySem.W.callWith_K (h₀ := X.base) I.ok.mod.kin hk (thn (ha.run pos pins s σ H (fun vs H1 => spF (ct X ca) np (C f) vs H1 Q (WE W σ)) I ?_) fun us s1 ⟨vs, H1, I1, r, q⟩ => ⟨I1.kIn, run_g G xs.room xs.tk hb I1 r q⟩) he hpl
  obtain ⟨φ, G1, ρ, μ, ok, en, q⟩ := q
  unfold Ev.eCall at q
  refine ⟨φ, G1, ρ, μ, ok, en, post_bind (Rel1 := rRRs (ct X ca)) (show post (ct X ca) (WE W σ) φ G1 H ((Ev.evs fs ρ μ).bind fun rs μ => C f rs μ) (rRR _) Q from q) fun vs φ2 G2 H2 rs μ2 e2 ext ok2 r2 q2 => ?_⟩
  exact ⟨φ2, G2, rs, μ2, ok2, r2, (Ev.evs_len e2).trans hn, q2⟩
/-- a def without parameters -/
theorem se_call0 {C : Ev.Fn} {f : String} {x : Str} {p pos : Pos} (F : Callee X ca k C f 0) (xs : XS X W k) (hx : x = Str.ofString f) (hg : Gl X x) (hdb : (x == ("__debug__" : Str)) = false := by decide) :
    PE X (.Call (.Name x p) [] [] pos) (tE (ct X ca) W (Ev.eCall C f [])) := by
  obtain ⟨a, fd, ps, hps, hm, hk, hb, G⟩ := F.at_
  refine ⟨fun pins s σ H Q I q => ?_⟩
  subst hx
  refine wpAny_Call_Name_kw (ld_glob I hg hm ?_ hdb)
  obtain ⟨φ, G1, ρ, μ, ok, en, q⟩ := q
  unfold Ev.eCall at q
  exact PySem.W.callWith_K0 I.kIn hk (run_g (us := []) G xs.room xs.tk hb I .nil ⟨φ, G1, [], μ, ok, .nil, rfl, q⟩)
end

/-! ### a def's body -/
/-- the entry of a def: what the caller knows -/
structure En where
  φ : List Addr
  G : Hp
  H : Hp
/-- what the frame owns came behind the entry -/
def Fresh (H0 : Hp) (σ : L2.St) (ρ : Ev.Env) : Prop := ∀ (i : Nat) (s : Ev.Sl) (a : Addr), ρ[i]? = some s → isOwn s = true → σ[i]? = some (some (V.ref a)) → H0 a = none
/-- the state of a def's body -/
structure BS (Γ : Ct) (e : En) (φ : List Addr) (G H : Hp) (σ : L2.St) (ρ : Ev.Env) (μ : Ev.Mem) : Prop where
  ext : Ext e.φ e.G e.H φ G H
  ok : Ok Γ φ G H μ
  en : EnvR Γ φ G H σ ρ
  fr : Fresh e.H σ ρ
/-- what stays, stays -/
structure Lq (φ : List Addr) (G : Hp) (φ' : List Addr) (G' : Hp) : Prop where
  g : Same G G'
  ix : ∀ (n : Nat) (c : Addr), φ[n]? = some c → φ'[n]? = some c
theorem Lq.refl {φ : List Addr} {G : Hp} : Lq φ G φ G := ⟨Same.refl _, fun _ _ h => h⟩
theorem Lq.trans {φ φ1 φ2 : List Addr} {G G1 G2 : Hp} (a : Lq φ G φ1 G1) (b : Lq φ1 G1 φ2 G2) : Lq φ G φ2 G2 := ⟨a.g.trans b.g, fun n c h => b.ix n c (a.ix n c h)⟩
theorem Ext.lq {φ φ' : List Addr} {G G' H H' : Hp} (a : Ext φ G H φ' G' H') : Lq φ G φ' G' := ⟨a.g, a.ix⟩
def postS (Γ : Ct) (W : WX) (e : En) (φ : List Addr) (G : Hp) (σ0 : L2.St) (o : Ev.Out Ev.Fl) (D : Ends) : Prop := match o with
  | .ok (.nx ρ) μ => ∀ σ φ' G' H, BS Γ e φ' G' H σ ρ μ → Lq φ G φ' G' → D.nx σ H
  | .ok (.bk ρ) μ => ∀ σ φ' G' H, BS Γ e φ' G' H σ ρ μ → Lq φ G φ' G' → D.bk σ H
  | .ok (.ct ρ) μ => ∀ σ φ' G' H, BS Γ e φ' G' H σ ρ μ → Lq φ G φ' G' → D.ct σ H
  | .ok (.rt r) μ => ∀ v φ G H, Ext e.φ e.G e.H φ G H → Ok Γ φ G H μ → RR Γ φ G v r → D.rt v H
  | .exn x μ => ∀ c od φ G H, Ext e.φ e.G e.H φ G H → Ok Γ φ G H μ → ExR Γ φ G H c od x → W c od σ0 H
  | .no => False
/-- a statement, a block. (In a def without a try the wish about exceptions does not look at the slots: hW) -/
def tS (Γ : Ct) (W : WX) (e : En) (f : Ev.S) : TS := fun D σ H => ∃ φ G ρ μ, BS Γ e φ G H σ ρ μ ∧ postS Γ W e φ G σ (f ρ μ) D

section
variable {Γ : Ct} {φ ψ : List Addr} {G : Hp} {m : Nat}
mutual
theorem RR.down (hm : φ.length = m) : ∀ {v : V} {r : Ev.R}, Ev.okR m r = true → RR Γ (φ ++ ψ) G v r → RR Γ φ G v r
  | _, _, _, .d h => .d h
  | _, .p n, o, .p h => by
    have hn : n < m := by simpa [Ev.okR] using o
    rw [List.getElem?_append_left (by omega)] at h
    exact .p h
  | _, _, o, .dic h h2 => .dic h (RKs.down hm (by simpa [Ev.okR] using o) h2)
  | _, _, o, .ins h h1 h2 => .ins h h1 (RFs.down hm (by simpa [Ev.okR] using o) h2)
  | _, _, o, .ls h h2 => .ls h (RRs.down hm (by simpa [Ev.okR] using o) h2)
  | _, _, _, .scr h => .scr h
  | _, _, _, .rep => .rep
theorem RRs.down (hm : φ.length = m) : ∀ {v : List V} {r : List Ev.R}, Ev.okRs m r = true → RRs Γ (φ ++ ψ) G v r → RRs Γ φ G v r
  | _, _, _, .nil => .nil
  | _, _, o, .cons h h2 => by
    simp only [Ev.okRs, Bool.and_eq_true] at o
    exact .cons (RR.down hm o.1 h) (RRs.down hm o.2 h2)
theorem RKs.down (hm : φ.length = m) : ∀ {v : List (Key × V)} {r : List (Ev.Ky × Ev.R)}, Ev.okKs m r = true → RKs Γ (φ ++ ψ) G v r → RKs Γ φ G v r
  | _, _, _, .nil => .nil
  | _, _, o, .cons h h2 => by
    simp only [Ev.okKs, Bool.and_eq_true] at o
    exact .cons (RR.down hm o.1 h) (RKs.down hm o.2 h2)
theorem RFs.down (hm : φ.length = m) : ∀ {v : List (Str × V)} {r : List (String × Ev.R)}, Ev.okFs m r = true → RFs Γ (φ ++ ψ) G v r → RFs Γ φ G v r
  | _, _, _, .nil => .nil
  | _, _, o, .cons h h2 => by
    simp only [Ev.okFs, Bool.and_eq_true] at o
    exact .cons (RR.down hm o.1 h) (RFs.down hm o.2 h2)
end
end
/-- the cells beyond m go -/
theorem Ok.cut {Γ : Ct} {φ ψ : List Addr} {G H : Hp} {μ : Ev.Mem} {m : Nat} (k : Ok Γ (φ ++ ψ) G H μ) (hm : φ.length = m) (hc : (μ.take m).all (Ev.okCell m) = true) : Ok Γ φ G H (μ.take m) := by
  have hlen := k.len
  rw [List.length_append] at hlen
  refine ⟨k.le, (List.nodup_append.mp k.nd).1, by rw [List.length_take]; omega, fun a ha => k.fre a (List.mem_append_left _ ha), fun a ha => k.thr a (List.mem_append_left _ ha), fun n a c h1 h2 => ?_, fun p hp => let ⟨h1, h2, h3⟩ := k.tb p hp; ⟨h1, fun z => h2 (List.mem_append_left _ z), h3⟩⟩
  have hn : n < φ.length := (List.getElem?_eq_some_iff.mp h1).1
  have h1' : (φ ++ ψ)[n]? = some a := by rw [List.getElem?_append_left hn]; exact h1
  have h2' : μ[n]? = some c := by rw [List.getElem?_take_of_lt (by omega)] at h2; exact h2
  have hcell := k.cell n a c h1' h2'
  have hok := List.all_eq_true.mp hc c (List.mem_of_getElem? h2)
  cases hcell with
  | lst a1 a2 => exact .lst a1 a2
  | dead => exact .dead
  | dic a1 a2 => exact .dic a1 (RKs.down hm (by simpa [Ev.okCell] using hok) a2)
  | ins a1 a2 a3 => exact .ins a1 a2 (RFs.down hm (by simpa [Ev.okCell] using hok) a3)
theorem Ext.cut {φ φ' : List Addr} {G G' H H' : Hp} (a : Ext φ G H φ' G' H') : Ext φ G H φ G' H' := ⟨a.g, a.gn, ⟨[], by simp, by simp⟩, a.f⟩
/-- the end of a def -/
theorem post_fin {Γ : Ct} {E : XK} {φ φ' : List Addr} {G G' H H' : Hp} {μ μ' : Ev.Mem} {r : Ev.R} {v : V} {Q : VK} (k0 : φ.length = μ.length) (h : post Γ E φ G H (Ev.fin μ.length r μ') (rRR Γ) Q) (ext : Ext φ G H φ' G' H') (ok : Ok Γ φ' G' H' μ') (hr : RR Γ φ' G' v r) : Q v H' := by
  unfold Ev.fin at h
  split at h
  · exact h v φ' G' H' ext ok hr
  · split at h
    · rename_i hc
      simp only [Bool.and_eq_true] at hc
      obtain ⟨ψ, e, _⟩ := ext.p
      subst e
      exact h v φ G' H' ext.cut (ok.cut k0 hc.2) (RR.down k0 hc.1 hr)
    · exact h.elim
theorem start_env {Γ : Ct} {φ : List Addr} {G H : Hp} {N : List Str} {vs : List V} {rs : List Ev.R} {nl : Nat} (h : RRs Γ φ G vs rs) (hl : N.length = nl) : EnvR Γ φ G H (L2.start N vs) (rs.map .v ++ List.replicate (nl - rs.length) .un) := by
  have hlen := h.len
  subst hl
  have noown : ∀ (i : Nat) (s : Ev.Sl), (rs.map Ev.Sl.v ++ List.replicate (N.length - rs.length) Ev.Sl.un)[i]? = some s → isOwn s = false := fun i s e => by
    have hm := List.mem_of_getElem? e
    rcases List.mem_append.mp hm with z | z
    · obtain ⟨r, _, e2⟩ := List.mem_map.mp z
      rw [← e2]; rfl
    · rw [(List.mem_replicate.mp z).2]; rfl
  refine ⟨by unfold L2.start; simp [hlen], fun i s e => ?_, fun i j a s t e1 _ o1 _ _ _ => by rw [noown i s e1] at o1; cases o1⟩
  unfold L2.start
  by_cases hi : i < rs.length
  · rw [List.getElem?_append_left (by simpa using hi), List.getElem?_map] at e
    obtain ⟨r, hr, e2⟩ := Option.map_eq_some_iff.mp e
    subst e2
    obtain ⟨v, hv, rv⟩ := h.get hr
    refine ⟨some v, ?_, .v rv⟩
    rw [List.getElem?_append_left (by simpa [hlen] using hi), List.getElem?_map, hv]
    rfl
  · rw [List.getElem?_append_right (by simpa using hi)] at e
    rw [List.length_map] at e
    have e3 := List.getElem?_replicate (a := Ev.Sl.un) (n := N.length - rs.length) (i := i - rs.length)
    rw [e] at e3
    split at e3
    · cases e3
      rename_i hk
      refine ⟨none, ?_, .un⟩
      rw [List.getElem?_append_right (by simpa [hlen] using hi), List.length_map, List.getElem?_replicate, hlen, if_pos hk]
    · cases e3
/-- a def of the text keeps the promise of its body -/
theorem fn_body {P : Program} {w : World} {K : PySem.W.Frag} {mg : Str → Option Value} {base : Heap} {k np nl : Nat} {ca : Cn} {f : Addr} {name qual : Str} {params : Arguments} {body : List Stmt} {scope : Scope} {dV kV doc pm cdv ct0 oc : Value} {an od : Option Addr}
    {osl : Array (Option Value)} {N ps : List Str} {b : Ev.S} (lk : K.lookup f = some ⟨oc, od, .func (PySem.W.fnOf name qual params body scope dV kV doc pm an cdv ct0), osl⟩) (hcd : PySem.W.codeIn K cdv qual = true) (S : FnScope N ps scope)
    (hnp : ps.length = np) (hnl : N.length = nl)
    (hb : ∀ (A : Around) (out : List Env) (s : Shared) (H : Hp) (E : XK) (e : En), XS (cxOf (CX P w) P w K mg base N qual scope f cdv A out s H E) (fun c d _ H => E c d H) k → Slk (cxOf (CX P w) P w K mg base N qual scope f cdv A out s H E) k →
      PSs (cxOf (CX P w) P w K mg base N qual scope f cdv A out s H E) body (tS ⟨K, ca⟩ (fun c d _ H => E c d H) e b)) :
    FnG P w K mg base (k + 1) f (PySem.W.fnOf name qual params body scope dV kV doc pm an cdv ct0) ps (spF ⟨K, ca⟩ np (Ev.runB nl b)) := by
  have hlen : ∀ vs H Q E, spF ⟨K, ca⟩ np (Ev.runB nl b) vs H Q E → vs.length = ps.length := fun vs H Q E q => by
    obtain ⟨φ, G, rs, μ, ok, r, h1, _⟩ := q
    rw [r.len, h1, hnp]
  refine ⟨hlen, fun A out s H args us vs Q E hr e0 hbt r hsp => ?_⟩
  have hl := hlen _ _ _ _ hsp
  have KX : K.In s.heap := e0.mod.kin.keeps fun b o e => (e0.bs b o e).1
  have hkind : ∀ y ∈ ps.zip us, scope.names.lookup y.1 = some .local ∨ (scope.names.lookup y.1 = some .cell ∧ ((cellsFrom (s.heap.objs.size + 1) scope.names []).lookup y.1).isSome = true) := by
    rintro ⟨n, v⟩ hy
    exact (S.par n (List.of_mem_zip hy).1).imp id fun q => ⟨q, PySem.W.cellsFrom_some _ _ _ (.inl q)⟩
  refine codeAny_call_function hr.r.depth (KX _ _ lk) rfl S.co S.gen rfl (PySem.W.codeRec_of KX hcd) (hbt _ _ _ _ ?_)
  refine wpAny_newFunctionEnv_cells S.kind hkind fun env he s1 x => ?_
  subst he
  have lim : s.heap.NoLimit := e0.mod.nolimit.keeps fun b o e => (e0.bs b o e).1
  refine ⟨lim.keeps x.toInCall.keep, codeAny_func ?_⟩
  have I : Inv (cxOf (CX P w) P w K mg base N qual scope f cdv A out s H E) [] (L2.start N vs) H s1 := inv_start S hr.r.hd e0 hl r x
  obtain ⟨φ, G, rs, μ, ok, rr, h1, h2⟩ := hsp
  have xs : XS (cxOf (CX P w) P w K mg base N qual scope f cdv A out s H E) (fun c d _ H => E c d H) k :=
    ⟨rfl, S.nd, ⟨hr.r.deeper _, hr.g⟩, takes_of rfl rfl rfl rfl, passes_of rfl, fun _ _ _ _ _ h => h⟩
  have sl : Slk (cxOf (CX P w) P w K mg base N qual scope f cdv A out s H E) k := by
    have h1 := hr.r.dp
    have h2 := hr.r.un
    exact ⟨by show A.depth + 1 + 3 * k + 7 < _; omega, by show A.units + 3 + 16 * k + 213 < _; omega⟩
  have ht := hb A out s H E ⟨φ, G, H⟩ xs sl
  refine wpAny_mono (ht.run [] s1 (L2.start N vs) H { nx := fun _ H' => Q .non H', rt := Q } I ?_) (fun fl s2 hs => ?_) fun e s2 hs => hs
  · refine ⟨φ, G, _, μ, ⟨Ext.refl, ok, start_env rr hnl, fun i s a e o _ => ?_⟩, ?_⟩
    · exfalso
      have hm := List.mem_of_getElem? e
      rcases List.mem_append.mp hm with z | z
      · obtain ⟨r, _, e2⟩ := List.mem_map.mp z
        rw [← e2] at o; cases o
      · rw [(List.mem_replicate.mp z).2] at o; cases o
    · unfold Ev.runB at h2
      generalize b (rs.map .v ++ List.replicate (nl - rs.length) .un) μ = o at h2
      cases o with
      | no => exact h2
      | exn x μ1 => exact h2
      | ok fl μ1 =>
        cases fl with
        | nx ρ => exact fun σ φ' G' H' bs _ => post_fin (v := .non) ok.len h2 bs.ext bs.ok (.d .non)
        | rt r => exact fun v φ' G' H' ext ok' hr => post_fin ok.len h2 ext ok' hr
        | bk ρ => exact h2.elim
        | ct ρ => exact h2.elim
  · have fin : ∀ {σ' : L2.St} {H' : Hp} {v : V} {u : Value}, Inv (cxOf (CX P w) P w K mg base N qual scope f cdv A out s H E) [] σ' H' s2 → RelV v u → Q v H' → CE out P w H s Q u s2 :=
      fun J rv q => ⟨_, _, J.os, J.bare, J.base, J.hok, rv, q⟩
    match fl, hs with
    | .ret u, ⟨v, σ', H', J, rv, q⟩ => exact fin J rv q
    | .next, ⟨σ', H', J, q⟩ => exact fin (v := V.non) (u := Value.none) J rfl q
    | .brk, ⟨_, _, _, q⟩ => exact q.elim
    | .cont, ⟨_, _, _, q⟩ => exact q.elim
end EvS
end

section
set_option maxHeartbeats 0
set_option Elab.async false
set_option linter.all false
set_option maxRecDepth 100000
/-! EvBi: truth, and/or/not, the built-ins, repr, dicts. -/
namespace EvS
open PySem PySem.Spec PyProof.Rows L2

/-! ### what repr writes -/
theorem len_ofS (s : String) : (Str.ofString s).length = s.length := len_ofString s
theorem strLen_ofString (s : String) : (Str.ofString s).cps.toList.length = s.length := by rw [cps_ofString]; simp [String.length_toList]
theorem cp_small (s : String) : ∀ c ∈ (Str.ofString s).cps.toList, c < 16 ^ 8 := by
  intro c hc
  rw [cps_ofString] at hc
  obtain ⟨a, _, rfl⟩ := List.mem_map.mp hc
  have h := a.valid
  have h2 : a.toNat = a.val.toNat := rfl
  simp only [UInt32.isValidChar, Nat.isValidChar] at h
  omega
mutual
theorem shown_cost : ∀ x : Ev.D, x.cost ≤ Ev.SL → (toPy x).shown.length ≤ x.cost
  | .non, _ => by simp only [toPy, Ev.D.cost]; decide
  | .bl b, _ => by
    simp only [toPy, Ev.D.cost]
    cases b <;> decide
  | .int i, h => by
    simp only [toPy, Ev.D.cost] at h ⊢
    split at h
    · rename_i hi
      rw [if_pos hi]
      exact PyData.shown_int_le hi
    · simp [Ev.SL] at h
  | .str s, _ => by
    simp only [toPy, Ev.D.cost, PyData.shown_str]
    have e := PySem.StrLaws.reprText_len (Str.ofString s) (cp_small s)
    rw [len_ofString] at e
    exact e
  | .tup ds, h => by
    simp only [toPy, Ev.D.cost] at h ⊢
    have h1 := shown_costL ds (by omega)
    have h2 := tupleText_len_le (PyData.shownAll (toPyL ds))
    have h3 := PyData.shownAll_length (toPyL ds)
    simp only [PyData.shown]
    omega
  | .lst ds, h => by
    simp only [toPy, Ev.D.cost] at h ⊢
    have h1 := shown_costL ds (by omega)
    have h2 := listText_len_le (PyData.shownAll (toPyL ds))
    have h3 := PyData.shownAll_length (toPyL ds)
    simp only [PyData.shown]
    omega
theorem shown_costL : ∀ xs : List Ev.D, Ev.D.costL xs ≤ Ev.SL → ((PyData.shownAll (toPyL xs)).map (·.length)).sum + 2 * (toPyL xs).length ≤ Ev.D.costL xs
  | [], _ => by simp [toPyL, PyData.shownAll, Ev.D.costL]
  | x :: xs, h => by
    simp only [Ev.D.costL] at h
    have h1 := shown_cost x (by omega)
    have h2 := shown_costL xs (by omega)
    simp only [toPyL, PyData.shownAll, Ev.D.costL, List.map_cons, List.sum_cons, List.length_cons]
    omega
end
theorem log2_small {n : Nat} (h : n < 1000000000000) : n.log2 < 1920 := by
  by_cases h0 : n = 0
  · subst h0; decide
  · refine (Nat.log2_lt h0).mpr (Nat.lt_trans h ?_)
    exact Nat.lt_of_lt_of_le (show 1000000000000 < 2 ^ 40 by decide) (Nat.pow_le_pow_right (by decide) (by decide))
mutual
theorem showable_cost : ∀ x : Ev.D, x.cost ≤ Ev.SL → (toPy x).showable = true
  | .non, _ => by simp [toPy, PyData.showable]
  | .bl b, _ => by simp [toPy, PyData.showable]
  | .int i, h => by
    simp only [toPy, PyData.showable, decide_eq_true_eq]
    simp only [Ev.D.cost] at h
    split at h
    · rename_i hi; exact log2_small hi
    · simp [Ev.SL] at h
  | .str s, _ => by simp [toPy, PyData.showable]
  | .tup ds, h => by
    simp only [Ev.D.cost] at h
    simp only [toPy, PyData.showable]
    exact showable_costL ds (by omega)
  | .lst ds, h => by
    simp only [Ev.D.cost] at h
    simp only [toPy, PyData.showable]
    exact showable_costL ds (by omega)
theorem showable_costL : ∀ xs : List Ev.D, Ev.D.costL xs ≤ Ev.SL → PyData.showableAll (toPyL xs) = true
  | [], _ => by simp [toPyL, PyData.showableAll]
  | x :: xs, h => by
    simp only [Ev.D.costL] at h
    simp only [toPyL, PyData.showableAll, Bool.and_eq_true]
    exact ⟨showable_cost x (by omega), showable_costL xs (by omega)⟩
end

section
variable {X : Cx} {W : WX} {ca : Cn} {k : Nat}

/-! ### truth -/
theorem isEmpty_len {α β : Type} {xs : List α} {ys : List β} (h : xs.length = ys.length) : xs.isEmpty = ys.isEmpty := by
  cases xs <;> cases ys <;> simp at h ⊢
theorem RKs.len {Γ : Ct} {φ : List Addr} {G : Hp} : ∀ {ks : List (Key × V)} {kvs : List (Ev.Ky × Ev.R)}, RKs Γ φ G ks kvs → ks.length = kvs.length
  | _, _, .nil => rfl
  | _, _, .cons _ h => by simp [RKs.len h]
theorem tru_of {Γ : Ct} {φ : List Addr} {G H : Hp} {v : V} {x : Ev.R} {b : Bool} (h : Vw Γ φ G H v x) (le : Same G H) (e : Ev.truthR x = some b) : TruV Γ.K v H b := by
  cases x with
  | d x =>
    cases x with
    | non => cases e; rw [h.non]; rfl
    | bl c => cases e; rw [h.bl]; rfl
    | int i => cases e; rw [h.int]; rfl
    | str s =>
      simp only [Ev.truthR] at e
      split at e
      · rename_i hz
        cases e
        rw [h.str]
        exact ⟨by rw [len_ofString, ← SL_eq]; exact hz, by rw [len_ofString]⟩
      · cases e
    | tup ds =>
      cases e
      obtain ⟨a, xs, e1, h1, r1⟩ := h.tuple
      subst e1
      exact .inr (.inl ⟨xs, Same.seqT le h1, by rw [isEmpty_len r1.len]⟩)
    | lst ds =>
      cases e
      obtain ⟨a, xs, e1, h1, r1⟩ := h.list le
      subst e1
      exact .inl ⟨xs, .inl (.inl h1), by rw [isEmpty_len r1.len]⟩
  | dic kvs =>
    cases e
    obtain ⟨a, ks, e1, h1, r1⟩ := h.dic le
    subst e1
    exact .inr (.inr ⟨ks, h1, by rw [isEmpty_len r1.len]⟩)
  | ls rs =>
    cases e
    obtain ⟨a, xs, e1, h1, r1⟩ := h.ls le
    subst e1
    exact .inl ⟨xs, .inl (.inl h1), by rw [isEmpty_len r1.len]⟩
  | scr ns =>
    cases e
    obtain ⟨a, e1, h1⟩ := h.scr le
    subst e1
    exact .inl ⟨_, h1, by rw [isEmpty_len (List.length_map _)]⟩
  | p n => cases e
  | ins c fs => cases e
  | rep x => cases e
theorem st_e {a : Expr} {f : Ev.E} (ha : PE X a (tV (ct X ca) W f)) (he : ∀ whole, isTrue a X.env whole = (do let v ← whole; standAt a.pos; holding [v] (truthy v)) := by intro _; rfl) : PT X a (tT (ct X ca) W (Ev.tE f)) :=
  PT.imp (pt_truth ha he) fun σ H Q q => by
    obtain ⟨φ, G, ρ, μ, ok, en, q⟩ := q
    unfold Ev.tE at q
    refine ⟨φ, G, ρ, μ, ok, en, post_bind q fun v1 φ1 G1 H1 x μ1 _ ext ok1 r1 q1 => ?_⟩
    obtain ⟨z, e, q2⟩ := post_lift q1
    exact ⟨z, tru_of (r1.vw ok1) ok1.le e, post_ok q2 ok1 rfl⟩
theorem se_one {op} {a : Expr} {f : Ev.E} {pos : Pos} (h : PE X a (tE (ct X ca) W f)) : PE X (.BoolOp op [a] pos) (tE (ct X ca) W f) := pe_one h
theorem se_and {a b : Expr} {rest : List Expr} {f g : Ev.E} {pos : Pos} (h : PE X a (tE (ct X ca) W f)) (h2 : PE X (.BoolOp .And (b :: rest) pos) (tE (ct X ca) W g)) : PE X (.BoolOp .And (a :: b :: rest) pos) (tE (ct X ca) W (Ev.eAnd f g)) :=
  PE.imp (pe_andT h h2) fun σ H Q q => by
    obtain ⟨φ, G, ρ, μ, ok, en, q⟩ := q
    unfold Ev.eAnd at q
    refine ⟨φ, G, ρ, μ, ok, en, post_bind q fun v1 φ1 G1 H1 x μ1 _ ext ok1 r1 q1 => ?_⟩
    split at q1
    · rename_i e
      exact ⟨true, tru_of (r1.vw ok1) ok1.le e, by rw [if_pos rfl]; exact ⟨φ1, G1, ρ, μ1, ok1, en.ext ext, q1⟩⟩
    · rename_i e
      exact ⟨false, tru_of (r1.vw ok1) ok1.le e, by rw [if_neg (by decide)]; exact post_ok q1 ok1 r1⟩
    · exact q1.elim
theorem se_or {a b : Expr} {rest : List Expr} {f g : Ev.E} {pos : Pos} (h : PE X a (tE (ct X ca) W f)) (h2 : PE X (.BoolOp .Or (b :: rest) pos) (tE (ct X ca) W g)) : PE X (.BoolOp .Or (a :: b :: rest) pos) (tE (ct X ca) W (Ev.eOr f g)) :=
  PE.imp (pe_orT h h2) fun σ H Q q => by
    obtain ⟨φ, G, ρ, μ, ok, en, q⟩ := q
    unfold Ev.eOr at q
    refine ⟨φ, G, ρ, μ, ok, en, post_bind q fun v1 φ1 G1 H1 x μ1 _ ext ok1 r1 q1 => ?_⟩
    split at q1
    · rename_i e
      exact ⟨false, tru_of (r1.vw ok1) ok1.le e, by rw [if_neg (by decide)]; exact ⟨φ1, G1, ρ, μ1, ok1, en.ext ext, q1⟩⟩
    · rename_i e
      exact ⟨true, tru_of (r1.vw ok1) ok1.le e, by rw [if_pos rfl]; exact post_ok q1 ok1 r1⟩
    · exact q1.elim
theorem se_not {a : Expr} {f : Ev.E} {pos : Pos} (h : PE X a (tE (ct X ca) W f)) : PE X (.UnaryOp .Not a pos) (tE (ct X ca) W (Ev.eNot f)) :=
  PE.imp (pe_notT h) fun σ H Q q => by
    obtain ⟨φ, G, ρ, μ, ok, en, q⟩ := q
    unfold Ev.eNot at q
    refine ⟨φ, G, ρ, μ, ok, en, post_bind q fun v1 φ1 G1 H1 x μ1 _ ext ok1 r1 q1 => ?_⟩
    cases e : Ev.truthR (Ev.vw μ1 x) with
    | none => rw [e] at q1; exact q1.elim
    | some b => rw [e] at q1; exact ⟨b, tru_of (r1.vw ok1) ok1.le e, post_ok q1 ok1 (.d (.bl (!b)))⟩
theorem se_if {c a b : Expr} {t : Ev.T} {f g : Ev.E} {pos : Pos} (hc : PT X c (tT (ct X ca) W t)) (ha : PE X a (tE (ct X ca) W f)) (hb : PE X b (tE (ct X ca) W g)) : PE X (.IfExp c a b pos) (tE (ct X ca) W (Ev.eIf t f g)) :=
  PE.imp (pe_ifExp hc ha hb) fun σ H Q q => by
    obtain ⟨φ, G, ρ, μ, ok, en, q⟩ := q
    unfold Ev.eIf at q
    refine ⟨φ, G, ρ, μ, ok, en, post_bind q fun v1 φ1 G1 H1 x μ1 _ ext ok1 r1 q1 => ?_⟩
    cases r1
    cases v1 with
    | true => rw [if_pos rfl] at q1 ⊢; exact ⟨φ1, G1, ρ, μ1, ok1, en.ext ext, q1⟩
    | false => rw [if_neg (by decide)] at q1 ⊢; exact ⟨φ1, G1, ρ, μ1, ok1, en.ext ext, q1⟩
theorem se_neg {a : Expr} {f : Ev.E} {pos : Pos} (h : PE X a (tE (ct X ca) W f)) : PE X (.UnaryOp .USub a pos) (tE (ct X ca) W (Ev.eNeg f)) :=
  PE.imp (pe_un un_neg h) fun σ H Q q => by
    obtain ⟨φ, G, ρ, μ, ok, en, q⟩ := q
    unfold Ev.eNeg at q
    refine ⟨φ, G, ρ, μ, ok, en, post_bind q fun v1 φ1 G1 H1 x μ1 _ ext ok1 r1 q1 => ?_⟩
    split at q1
    · exact ⟨_, r1.int, post_ok q1 ok1 (.d (.int _))⟩
    · exact q1.elim

/-! ### built-ins by values -/
/-- what a built-in gives -/
def rBi (Γ : Ct) (f : List Ev.R → Option Ev.R) : List V → Hp → VK → Prop := fun vs H Q => ∃ φ G μ rs z, Ok Γ φ G H μ ∧ Vws Γ φ G H vs rs ∧ f rs = some z ∧ ∀ r φ' G' H', Ext φ G H φ' G' H' → Ok Γ φ' G' H' μ → RR Γ φ' G' r z → Q r H'
/-- .. a new list -/
def rBiN (Γ : Ct) (f : List Ev.R → Option Ev.R) : List V → Hp → VK → Prop := fun vs H Q => ∃ φ G μ rs z, Ok Γ φ G H μ ∧ Vws Γ φ G H vs rs ∧ f rs = some z ∧ ∀ E, postN Γ E φ G H (.ok z μ) Q
theorem se_bi {e : Expr} {f : List Ev.R → Option Ev.R} {fs : List Ev.E} (h : PE X e (tCB (rBi (ct X ca) f) (tAV (ct X ca) W fs))) : PE X e (tE (ct X ca) W (Ev.eBi f fs)) := PE.imp h fun σ H Q q => by
  obtain ⟨φ, G, ρ, μ, ok, en, q⟩ := q
  unfold Ev.eBi at q
  refine ⟨φ, G, ρ, μ, ok, en, post_bind q fun v1 φ1 G1 H1 x μ1 _ ext ok1 r1 q1 => ?_⟩
  obtain ⟨z, e, q2⟩ := post_lift q1
  exact ⟨φ1, G1, μ1, _, z, ok1, PVs.vws ok1 r1, e, q2⟩
theorem sn_bi {e : Expr} {f : List Ev.R → Option Ev.R} {fs : List Ev.E} (h : PE X e (tCB (rBiN (ct X ca) f) (tAV (ct X ca) W fs))) : PE X e (tN (ct X ca) W (Ev.eBi f fs)) := PE.imp h fun σ H Q q => by
  obtain ⟨φ, G, ρ, μ, ok, en, q⟩ := q
  unfold Ev.eBi at q
  refine ⟨φ, G, ρ, μ, ok, en, postN_bind q fun v1 φ1 G1 H1 x μ1 _ ext ok1 r1 q1 => ?_⟩
  cases e : f (x.map (Ev.vw μ1)) with
  | none => rw [e] at q1; exact q1.elim
  | some z =>
    rw [e] at q1
    refine ⟨φ1, G1, μ1, _, z, ok1, PVs.vws ok1 r1, e, fun E => ?_⟩
    have q1 : ∀ a φ' G' H', Ext φ1 G1 H1 φ' G' H' → Ok (ct X ca) φ' G' H' μ1 → H1 a = none → G' a = none → a ∉ φ' → Nw (ct X ca) φ' G' H' a z → Q (.ref a) H' := q1
    exact q1
theorem Vws.one {Γ : Ct} {φ : List Addr} {G H : Hp} {vs : List V} {r : Ev.R} (h : Vws Γ φ G H vs [r]) : ∃ v, vs = [v] ∧ Vw Γ φ G H v r := by
  cases h with
  | cons a b => cases b; exact ⟨_, rfl, a⟩
theorem Vws.two {Γ : Ct} {φ : List Addr} {G H : Hp} {vs : List V} {r s : Ev.R} (h : Vws Γ φ G H vs [r, s]) : ∃ v w, vs = [v, w] ∧ Vw Γ φ G H v r ∧ Vw Γ φ G H w s := by
  cases h with
  | cons a b =>
    cases b with
    | cons c d => cases d; exact ⟨_, _, rfl, a, c⟩
theorem cb_len : CallR X (.builtin "len") (rBi (ct X ca) Ev.lenR) := by
  intro pins s σ H vs us Q I rs h
  obtain ⟨φ, G, μ, xs, z, ok, r, e, q⟩ := h
  unfold Ev.lenR at e
  have fin : ∀ n : Nat, Q (.int n) H ↔ Q (.int (n : Int)) H := fun n => Iff.rfl
  split at e
  · cases e
    obtain ⟨v, e1, r1⟩ := r.one
    obtain ⟨a, ys, e2, h2, r2⟩ := r1.tuple
    subst e1 e2
    refine call_len pins s σ H _ us Q I rs ⟨_, _, rfl, .inr ⟨ys, Same.seqT ok.le h2, rfl⟩, ?_⟩
    rw [r2.len]
    exact q _ φ G H Ext.refl ok (.d (.int _))
  · cases e
    obtain ⟨v, e1, r1⟩ := r.one
    obtain ⟨a, ys, e2, h2, r2⟩ := r1.list ok.le
    subst e1 e2
    refine call_len pins s σ H _ us Q I rs ⟨_, _, rfl, .inl ⟨ys, .inl (.inl h2), rfl⟩, ?_⟩
    rw [r2.len]
    exact q _ φ G H Ext.refl ok (.d (.int _))
  · cases e
    obtain ⟨v, e1, r1⟩ := r.one
    obtain ⟨a, ys, e2, h2, r2⟩ := r1.ls ok.le
    subst e1 e2
    refine call_len pins s σ H _ us Q I rs ⟨_, _, rfl, .inl ⟨ys, .inl (.inl h2), rfl⟩, ?_⟩
    rw [r2.len]
    exact q _ φ G H Ext.refl ok (.d (.int _))
  · cases e
    obtain ⟨v, e1, r1⟩ := r.one
    obtain ⟨a, e2, h2⟩ := r1.scr ok.le
    subst e1 e2
    refine call_len pins s σ H _ us Q I rs ⟨_, _, rfl, .inl ⟨_, h2, rfl⟩, ?_⟩
    rw [List.length_map]
    exact q _ φ G H Ext.refl ok (.d (.int _))
  · cases e
    obtain ⟨v, e1, r1⟩ := r.one
    obtain ⟨a, ks, e2, h2, r2⟩ := r1.dic ok.le
    subst e1 e2
    refine call_lenD pins s σ H _ us Q I rs ⟨a, ks, rfl, h2, ?_⟩
    rw [r2.len]
    exact q _ φ G H Ext.refl ok (.d (.int _))
  · split at e
    · rename_i hz
      cases e
      obtain ⟨v, e1, r1⟩ := r.one
      have e2 := r1.str
      subst e1 e2
      refine call_len pins s σ H _ us Q I rs ⟨_, _, rfl, ⟨by rw [len_ofString, ← SL_eq]; exact hz, rfl⟩, ?_⟩
      rw [len_ofString]
      exact q _ φ G H Ext.refl ok (.d (.int _))
    · cases e
  · cases e
theorem cb_int : CallR X (.type "int") (rBi (ct X ca) Ev.intR) := by
  intro pins s σ H vs us Q I rs h
  obtain ⟨φ, G, μ, xs, z, ok, r, e, q⟩ := h
  unfold Ev.intR at e
  split at e
  · cases e
    obtain ⟨v, e1, r1⟩ := r.one
    have e2 := r1.int
    subst e1 e2
    exact call_int1 pins s σ H _ us Q I rs (.inl ⟨_, rfl, q _ φ G H Ext.refl ok (.d (.int _))⟩)
  · cases e
    obtain ⟨v, e1, r1⟩ := r.one
    have e2 := r1.bl
    subst e1 e2
    exact call_int1 pins s σ H _ us Q I rs (.inr ⟨_, rfl, q _ φ G H Ext.refl ok (.d (.int _))⟩)
  · cases e
theorem cb_bool : CallR X (.type "bool") (rBi (ct X ca) Ev.boolR) := by
  intro pins s σ H vs us Q I rs h
  obtain ⟨φ, G, μ, xs, z, ok, r, e, q⟩ := h
  unfold Ev.boolR at e
  split at e
  · cases e
    obtain ⟨v, e1, r1⟩ := r.one
    have e2 := r1.int
    subst e1 e2
    exact call_bool1 pins s σ H _ us Q I rs (.inl ⟨_, rfl, q _ φ G H Ext.refl ok (.d (.bl _))⟩)
  · cases e
    obtain ⟨v, e1, r1⟩ := r.one
    have e2 := r1.bl
    subst e1 e2
    exact call_bool1 pins s σ H _ us Q I rs (.inr ⟨_, rfl, q _ φ G H Ext.refl ok (.d (.bl _))⟩)
  · cases e
theorem cb_tuple : CallR X (.type "tuple") (rBi (ct X ca) Ev.tupleR) := by
  intro pins s σ H vs us Q I rs h
  obtain ⟨φ, G, μ, xs, z, ok, r, e, q⟩ := h
  unfold Ev.tupleR at e
  split at e
  · cases e
    obtain ⟨v, e1, r1⟩ := r.one
    obtain ⟨a, ys, e2, h2, r2⟩ := r1.tuple
    subst e1 e2
    exact call_tuple_of pins s σ H _ us Q I rs ⟨a, ys, rfl, .inr ⟨Same.seqT ok.le h2, q _ φ G H Ext.refl ok (.d (.tup h2 r2))⟩⟩
  · cases e
    obtain ⟨v, e1, r1⟩ := r.one
    obtain ⟨a, ys, e2, h2, r2⟩ := r1.list ok.le
    subst e1 e2
    refine call_tuple_of pins s σ H _ us Q I rs ⟨a, ys, rfl, .inl ⟨.inl (.inl h2), fun l hl => ?_⟩⟩
    exact q _ φ _ _ (Ext.new ok hl) (ok.new hl) (.d (.tup (.inl (.inl upd_same)) (r2.mono (same_upd (ok.ng hl)))))
  · cases e
theorem cb_list : CallR X (.type "list") (rBiN (ct X ca) Ev.listR) := by
  intro pins s σ H vs us Q I rs h
  obtain ⟨φ, G, μ, xs, z, ok, r, e, q⟩ := h
  unfold Ev.listR at e
  split at e
  · cases e
    obtain ⟨v, e1, r1⟩ := r.one
    obtain ⟨a, ys, e2, h2, r2⟩ := r1.tuple
    subst e1 e2
    refine call_list_of pins s σ H _ us Q I rs ⟨a, ys, rfl, .inr (Same.seqT ok.le h2), fun l hl => ?_⟩
    have q := q (fun _ _ _ => True)
    rw [← mkL_d] at q
    exact postN_lst q ok hl (RRs.ofD r2)
  · cases e
    obtain ⟨v, e1, r1⟩ := r.one
    obtain ⟨a, ys, e2, h2, r2⟩ := r1.list ok.le
    subst e1 e2
    refine call_list_of pins s σ H _ us Q I rs ⟨a, ys, rfl, .inl (.inl (.inl h2)), fun l hl => ?_⟩
    have q := q (fun _ _ _ => True)
    rw [← mkL_d] at q
    exact postN_lst q ok hl (RRs.ofD r2)
  · cases e
theorem ints_some : ∀ {ds : List Ev.D} {ns : List Int}, Ev.intsD ds = some ns → ds = ns.map .int
  | [], _, h => by cases h; rfl
  | .int i :: ds, ns, h => by
    obtain ⟨ms, e1, e2⟩ := Option.map_eq_some_iff.mp (show (Ev.intsD ds).map _ = some ns from h)
    subst e2
    rw [ints_some e1]; rfl
  | .non :: _, _, h => by cases h
  | .bl _ :: _, _, h => by cases h
  | .str _ :: _, _, h => by cases h
  | .tup _ :: _, _, h => by cases h
  | .lst _ :: _, _, h => by cases h
theorem DRs.intsD {K : PySem.W.Frag} {G : Hp} : ∀ {vs : List V} {ns : List Int}, DRs K G vs (ns.map Ev.D.int) → vs = ns.map V.int
  | _, [], h => by cases h; rfl
  | _, n :: ns, h => by
    cases h with
    | cons a b =>
      cases a
      rw [DRs.intsD b]; rfl
theorem maxI_mem : ∀ (xs : List Int) (x : Int), Ev.maxI x xs ∈ x :: xs
  | [], x => by simp [Ev.maxI]
  | y :: ys, x => by
    have h := maxI_mem ys (if y > x then y else x)
    simp only [Ev.maxI, List.mem_cons] at h ⊢
    split at h <;> rename_i c <;> simp only [c, if_true, if_false] <;> rcases h with h | h <;> simp [h]
theorem maxI_ge : ∀ (xs : List Int) (x : Int), ∀ y ∈ x :: xs, y ≤ Ev.maxI x xs
  | [], x, y, h => by simp at h; simp [Ev.maxI, h]
  | z :: zs, x, y, h => by
    have h1 := maxI_ge zs (if z > x then z else x)
    simp only [Ev.maxI]
    have h0 := h1 (if z > x then z else x) (by simp)
    rcases List.mem_cons.mp h with h | h
    · subst h
      split at h0 <;> rename_i c <;> simp only [c, if_true, if_false] <;> omega
    · rcases List.mem_cons.mp h with h | h
      · subst h
        split at h0 <;> rename_i c <;> simp only [c, if_true, if_false] <;> omega
      · exact h1 y (List.mem_cons_of_mem _ h)
theorem minI_mem : ∀ (xs : List Int) (x : Int), Ev.minI x xs ∈ x :: xs
  | [], x => by simp [Ev.minI]
  | y :: ys, x => by
    have h := minI_mem ys (if y < x then y else x)
    simp only [Ev.minI, List.mem_cons] at h ⊢
    split at h <;> rename_i c <;> simp only [c, if_true, if_false] <;> rcases h with h | h <;> simp [h]
theorem minI_le : ∀ (xs : List Int) (x : Int), ∀ y ∈ x :: xs, Ev.minI x xs ≤ y
  | [], x, y, h => by simp at h; simp [Ev.minI, h]
  | z :: zs, x, y, h => by
    have h1 := minI_le zs (if z < x then z else x)
    simp only [Ev.minI]
    have h0 := h1 (if z < x then z else x) (by simp)
    rcases List.mem_cons.mp h with h | h
    · subst h
      split at h0 <;> rename_i c <;> simp only [c, if_true, if_false] <;> omega
    · rcases List.mem_cons.mp h with h | h
      · subst h
        split at h0 <;> rename_i c <;> simp only [c, if_true, if_false] <;> omega
      · exact h1 y (List.mem_cons_of_mem _ h)
theorem sumI_eq : ∀ xs : List Int, Ev.sumI xs = xs.sum
  | [] => rfl
  | x :: xs => by rw [Ev.sumI, sumI_eq xs, List.sum_cons]
theorem cb_max (hc : X.calm = true) : CallR X (.builtin "max") (rBi (ct X ca) Ev.maxR) := by
  intro pins s σ H vs us Q I rs h
  obtain ⟨φ, G, μ, xs, z, ok, r, e, q⟩ := h
  unfold Ev.maxR at e
  split at e
  · cases e
    obtain ⟨v, w, e1, r1, r2⟩ := r.two
    have e2 := r1.int; have e3 := r2.int
    subst e1 e2 e3
    exact call_max2 hc pins s σ H _ us Q I rs ⟨_, _, rfl, q _ φ G H Ext.refl ok (.d (.int _))⟩
  · split at e
    · rename_i ds x xs e0
      cases e
      obtain ⟨v, e1, r1⟩ := r.one
      obtain ⟨a, ys, e2, h2, r2⟩ := r1.list ok.le
      have e3 := ints_some e0
      subst e1 e2 e3
      have e4 := r2.intsD
      subst e4
      refine cr_max hc pins s σ H _ us Q I rs ⟨a, x :: xs, rfl, .inl (.inl h2), by simp, fun m hm hb => ?_⟩
      have e5 : m = Ev.maxI x xs := Int.le_antisymm (maxI_ge xs x m hm) (hb _ (maxI_mem xs x))
      rw [e5]
      exact q _ φ G H Ext.refl ok (.d (.int _))
    · cases e
  · cases e
theorem cb_min (hc : X.calm = true) : CallR X (.builtin "min") (rBi (ct X ca) Ev.minR) := by
  intro pins s σ H vs us Q I rs h
  obtain ⟨φ, G, μ, xs, z, ok, r, e, q⟩ := h
  unfold Ev.minR at e
  split at e
  · cases e
    obtain ⟨v, w, e1, r1, r2⟩ := r.two
    have e2 := r1.int; have e3 := r2.int
    subst e1 e2 e3
    exact call_min2 hc pins s σ H _ us Q I rs ⟨_, _, rfl, q _ φ G H Ext.refl ok (.d (.int _))⟩
  · split at e
    · rename_i ds x xs e0
      cases e
      obtain ⟨v, e1, r1⟩ := r.one
      obtain ⟨a, ys, e2, h2, r2⟩ := r1.list ok.le
      have e3 := ints_some e0
      subst e1 e2 e3
      have e4 := r2.intsD
      subst e4
      refine cr_min hc pins s σ H _ us Q I rs ⟨a, x :: xs, rfl, .inl (.inl h2), by simp, fun m hm hb => ?_⟩
      have e5 : m = Ev.minI x xs := Int.le_antisymm (hb _ (minI_mem xs x)) (minI_le xs x m hm)
      rw [e5]
      exact q _ φ G H Ext.refl ok (.d (.int _))
    · cases e
  · cases e
theorem cb_sum (hc : X.calm = true) : CallR X (.builtin "sum") (rBi (ct X ca) Ev.sumR) := by
  intro pins s σ H vs us Q I rs h
  obtain ⟨φ, G, μ, xs, z, ok, r, e, q⟩ := h
  unfold Ev.sumR at e
  split at e
  · obtain ⟨ns, e0, e⟩ := Option.map_eq_some_iff.mp e
    subst e
    obtain ⟨v, e1, r1⟩ := r.one
    obtain ⟨a, ys, e2, h2, r2⟩ := r1.list ok.le
    have e3 := ints_some e0
    subst e1 e2 e3
    have e4 := r2.intsD
    subst e4
    refine cr_sum hc pins s σ H _ us Q I rs ⟨a, ns, rfl, .inl (.inl h2), ?_⟩
    rw [← sumI_eq]
    exact q _ φ G H Ext.refl ok (.d (.int _))
  · cases e
theorem cb_str : CallR X (.type "str") (rBi (ct X ca) Ev.strR) := by
  intro pins s σ H vs us Q I rs h
  obtain ⟨φ, G, μ, xs, z, ok, r, e, q⟩ := h
  unfold Ev.strR at e
  split at e
  · split at e
    · rename_i hz
      cases e
      obtain ⟨v, e1, r1⟩ := r.one
      have e2 := r1.int
      subst e1 e2
      exact call_str_int pins s σ H _ us Q I rs ⟨_, rfl, by simpa [Ev.shortInt] using hz, q _ φ G H Ext.refl ok (.d (.str _))⟩
    · cases e
  · cases e
    obtain ⟨v, e1, r1⟩ := r.one
    have e2 := r1.str
    subst e1 e2
    exact SkE.call_str_str pins s σ H _ us Q I rs ⟨_, rfl, q _ φ G H Ext.refl ok (.d (.str _))⟩
  · cases e
/-- repr of data -/
theorem cb_repr (hg : X.A.guards = some []) (hu : X.A.units + 65 < cLine) : CallR X (.builtin "repr") (rBi (ct X ca) Ev.reprR) := by
  intro pins s σ H vs us Q I rs h
  obtain ⟨φ, G, μ, xs, z, ok, r, e, q⟩ := h
  unfold Ev.reprR at e
  split at e
  · rename_i x
    split at e
    · rename_i hz
      cases e
      obtain ⟨v, e1, r1⟩ := r.one
      subst e1
      obtain ⟨u, e2, rv⟩ := vals1 rs
      subst e2
      have hl : (toPy x).shown.length ≤ sizeLine := Nat.le_trans (shown_cost x hz.2) (by rw [← SL_eq]; exact hz.2)
      have hd : x.dep ≤ 64 := hz.1
      have q0 : Q (.str (toPy x).shown) H := q _ φ G H Ext.refl ok .rep
      obtain ⟨as, r2⟩ := Dp.reads I _ _ _ (r1.dp ok.le) rv
      cases x with
      | non =>
        have e := r1.non; subst e
        cases (show u = Value.none from rv)
        exact PySem.P.repr_of_none ⟨.str (toPy .non).shown, H, I.tok _, ⟨s.toks, by simp only [toPy, PyData.shown_none]⟩, q0⟩
      | bl b =>
        have e := r1.bl; subst e
        cases (show u = Value.bool b from rv)
        refine PySem.P.repr_of_bool ⟨.str (toPy (.bl b)).shown, H, I.tok _, ⟨s.toks, ?_⟩, q0⟩
        simp only [toPy, PyData.shown_bool]
      | int i =>
        have e := r1.int; subst e
        obtain ⟨t, rfl⟩ := rv
        have hs := showable_cost (.int i) hz.2
        simp only [toPy, PyData.showable, decide_eq_true_eq] at hs
        exact PySem.P.repr_of_int hs ⟨.str (toPy (.int i)).shown, H, I.tok _, ⟨s.toks, by simp only [toPy, PyData.shown_int]⟩, q0⟩
      | str y =>
        have e := r1.str; subst e
        obtain ⟨t, rfl⟩ := rv
        simp only [toPy, PyData.shown_str] at q0 hl
        exact PySem.P.repr_of_str ⟨.str _, H, I.tok _, ⟨_, rfl⟩, q0⟩ hl
      | tup ds =>
        obtain ⟨a, ys, e2, h2, _⟩ := r1.tuple
        subst e2
        cases (show u = Value.ref a from rv)
        refine repr_of_reads' r2 (showable_cost _ hz.2) (PyData.noDict_hsm (PyData.hasDict_of_canLay _ (canLay_toPy _))) hg (by rw [dep_toPy]; omega) (fun b o e => e) (fun h' u tk hk => ?_) hl
        exact ⟨.str _, H, I.kept hk, ⟨_, rfl⟩, q0⟩
      | lst ds =>
        obtain ⟨a, ys, e2, h2, _⟩ := r1.list ok.le
        subst e2
        cases (show u = Value.ref a from rv)
        refine repr_of_reads' r2 (showable_cost _ hz.2) (PyData.noDict_hsm (PyData.hasDict_of_canLay _ (canLay_toPy _))) hg (by rw [dep_toPy]; omega) (fun b o e => e) (fun h' u tk hk => ?_) hl
        exact ⟨.str _, H, I.kept hk, ⟨_, rfl⟩, q0⟩
    · cases e
  · cases e

/-! ### isinstance -/
theorem ty_seqT {K : PySem.W.Frag} {H : Hp} {a : Addr} {xs : List V} (h : SqT K H a xs) : TyX K H (.ref a) (.type "tuple") := by
  rcases h with (h | ⟨o, h⟩) | ⟨o, its, n, h1, h2, _⟩
  · exact .base (.tup h)
  · exact .fTuple h
  · exact .kTuple h1 h2
theorem ty_of {Γ : Ct} {φ : List Addr} {G H : Hp} {v : V} {x : Ev.R} {t : String} (h : Vw Γ φ G H v x) (le : Same G H) (e : Ev.tyN x = some t) : TyX Γ.K H v (.type t) := by
  cases x with
  | d x =>
    cases x with
    | non => cases e; rw [h.non]; exact .base .non
    | bl c => cases e; rw [h.bl]; exact .base (.bl _)
    | int i => cases e; rw [h.int]; exact .base (.int _)
    | str s => cases e; rw [h.str]; exact .base (.str _)
    | tup ds =>
      cases e
      obtain ⟨a, xs, e1, h1, r1⟩ := h.tuple
      subst e1
      exact ty_seqT (Same.seqT le h1)
    | lst ds =>
      cases e
      obtain ⟨a, xs, e1, h1, r1⟩ := h.list le
      subst e1
      exact .base (.lst h1)
  | dic kvs =>
    cases e
    obtain ⟨a, ks, e1, h1, r1⟩ := h.dic le
    subst e1
    exact .base (.dK h1)
  | ls rs =>
    cases e
    obtain ⟨a, xs, e1, h1, r1⟩ := h.ls le
    subst e1
    exact .base (.lst h1)
  | rep x => cases e; rw [h.rep]; exact .base (.str _)
  | scr ns => cases e
  | p n => cases e
  | ins c fs => cases e
def tyNames : List String := ["NoneType", "bool", "int", "str", "tuple", "list", "dict"]
theorem tyN_mem {x : Ev.R} {t : String} (e : Ev.tyN x = some t) : t ∈ tyNames := by
  cases x with
  | d x => cases x <;> cases e <;> simp [tyNames]
  | _ => cases e <;> simp [tyNames]
def isT (T : String) : Bool := tyNames.all fun a => kitB a T == some (Ev.isB T a)
/-- isinstance(x, T), T a built-in type -/
theorem se_isin {a : Expr} {f : Ev.E} {T : String} {x y : Str} {p p2 pos : Pos} (hT : isT T = true) (ha : PE X a (tV (ct X ca) W f)) (hg : Gl X x) (hm : X.mg x = none) (hx : x = "isinstance") (hg2 : Gl X y) (hm2 : X.mg y = none) (hv2 : bootBuiltins y = some (.type T))
    (hn2 : y ≠ "__name__" := by decide) (hdb2 : (y == ("__debug__" : Str)) = false := by decide)
    (hs : starEach [a, .Name y p2] X.env = (false, eval a X.env) :: starEach [.Name y p2] X.env := by rfl) (hs2 : starEach [.Name y p2] X.env = (false, eval (.Name y p2) X.env) :: starEach [] X.env := by rfl)
    (hpl : (backTo pos (starEach [.Name y p2] X.env)).any (·.1) = false := by rfl) :
    PE X (.Call (.Name x p) [a, .Name y p2] [] pos) (tE (ct X ca) W (Ev.eBi (Ev.isinR T) [f])) := by
  subst hx
  have h := pe_callB (e := a) (es := [.Name y p2]) (p := p) (pos := pos) (call_isi (X := X)) hg hm rfl (pa_cons ha (pa_cons (pe_bltn (v := .ty T) hg2 hm2 hv2 rfl hn2 hdb2) pa_nil hs2) hs) (by decide) (by decide) hs hpl
  refine PE.imp h fun σ H Q q => ?_
  obtain ⟨φ, G, ρ, μ, ok, en, q⟩ := q
  unfold Ev.eBi at q
  simp only [Ev.evs_cons, Ev.evs_nil, Ev.bind_ok, Ev.bind_assoc] at q
  refine ⟨φ, G, ρ, μ, ok, en, post_bind q fun v1 φ1 G1 H1 r μ1 _ ext ok1 r1 q1 => ?_⟩
  obtain ⟨z, e, q2⟩ := post_lift q1
  obtain ⟨t, e1, e2⟩ := Option.map_eq_some_iff.mp (show (Ev.tyN (Ev.vw μ1 r)).map _ = some z from e)
  subst e2
  have hb := List.all_eq_true.mp hT t (tyN_mem e1)
  have hb : kitB t T = some (Ev.isB T t) := by simpa using hb
  exact ⟨v1, .ty T, _, _, _, rfl, .ty T, ty_of (r1.vw ok1) ok1.le e1, kit_ty hb, post_ok q2 ok1 (.d (.bl _))⟩

/-! ### dicts -/
theorem RKs.any {Γ : Ct} {φ : List Addr} {G : Hp} (k : Ev.Ky) : ∀ {ks : List (Key × V)} {kvs : List (Ev.Ky × Ev.R)}, RKs Γ φ G ks kvs → (ks.any fun kv => decide (kv.1 = kyK k)) = kvs.any fun kv => decide (kv.1 = k)
  | _, _, .nil => rfl
  | _, _, .cons (k := j) _ h => by
    rw [List.any_cons, List.any_cons, RKs.any k h]
    congr 1
    by_cases e : j = k
    · subst e; simp
    · have : ¬ kyK j = kyK k := fun z => e (kyK_inj z)
      simp [e, this]
theorem RKs.map {Γ : Ct} {φ : List Addr} {G : Hp} {v : V} {r : Ev.R} (k : Ev.Ky) (h : RR Γ φ G v r) : ∀ {ks : List (Key × V)} {kvs : List (Ev.Ky × Ev.R)}, RKs Γ φ G ks kvs →
    RKs Γ φ G (ks.map fun kv => if kv.1 = kyK k then (kv.1, v) else kv) (kvs.map fun kv => if kv.1 = k then (kv.1, r) else kv)
  | _, _, .nil => .nil
  | _, _, .cons (k := j) h1 h2 => by
    rw [List.map_cons, List.map_cons]
    by_cases e : j = k
    · subst e
      rw [if_pos rfl, if_pos rfl]
      exact .cons h (RKs.map _ h h2)
    · have : ¬ kyK j = kyK k := fun z => e (kyK_inj z)
      rw [if_neg this, if_neg e]
      exact .cons h1 (RKs.map _ h h2)
theorem RKs.snoc {Γ : Ct} {φ : List Addr} {G : Hp} {v : V} {r : Ev.R} (k : Ev.Ky) (h : RR Γ φ G v r) : ∀ {ks : List (Key × V)} {kvs : List (Ev.Ky × Ev.R)}, RKs Γ φ G ks kvs → RKs Γ φ G (ks ++ [(kyK k, v)]) (kvs ++ [(k, r)])
  | _, _, .nil => .cons h .nil
  | _, _, .cons h1 h2 => .cons h1 (RKs.snoc k h h2)
theorem RKs.put {Γ : Ct} {φ : List Addr} {G : Hp} {v : V} {r : Ev.R} {ks : List (Key × V)} {kvs : List (Ev.Ky × Ev.R)} (k : Ev.Ky) (h : RR Γ φ G v r) (q : RKs Γ φ G ks kvs) : RKs Γ φ G (L2.putK ks (kyK k) v) (Ev.putK kvs k r) := by
  unfold L2.putK Ev.putK
  rw [q.any k]
  split
  · exact q.map k h
  · exact q.snoc k h
theorem RKs.merge {Γ : Ct} {φ : List Addr} {G : Hp} : ∀ {ks : List (Key × V)} {kvs : List (Ev.Ky × Ev.R)} {js : List (Key × V)} {jvs : List (Ev.Ky × Ev.R)}, RKs Γ φ G js jvs → RKs Γ φ G ks kvs → RKs Γ φ G (L2.mergeK js ks) (Ev.mergeK jvs kvs)
  | _, _, _, _, q, .nil => q
  | _, _, _, _, q, .cons h1 h2 => by
    unfold L2.mergeK Ev.mergeK
    rw [List.foldl_cons, List.foldl_cons]
    exact RKs.merge (q.put _ h1) h2
theorem PV.isD {Γ : Ct} {φ : List Addr} {G H : Hp} {v : V} {kvs : List (Ev.Ky × Ev.R)} {μ : Ev.Mem} (h : PV Γ φ G H v (.dic kvs)) (ok : Ok Γ φ G H μ) : ∃ a ks, v = .ref a ∧ H a = some (.dK ks) ∧ RKs Γ φ G ks kvs := (h.vw ok).dic ok.le
theorem get_of {Γ : Ct} {φ : List Addr} {G H : Hp} {a : Addr} {ks : List (Key × V)} {kvs : List (Ev.Ky × Ev.R)} {y z : V} {yr zr r : Ev.R} (ha : H a = some (.dK ks)) (q : RKs Γ φ G ks kvs) (hy : RR Γ φ G y yr) (hz : RR Γ φ G z zr) (e : Ev.getR kvs yr zr = some r) :
    ∃ o, DGet H a y o ∧ RR Γ φ G (o.getD z) r := by
  unfold Ev.getR at e
  split at e
  · obtain ⟨k, e1, e2⟩ := Option.map_eq_some_iff.mp e
    subst e2
    have ey := keyOf_kV hy.inv_d e1
    subst ey
    refine ⟨_, DGet.k ha, ?_⟩
    rcases valKV k q with h1 | h1
    · obtain ⟨w, r, z1, z2, z3⟩ := h1
      rw [z1, z2]
      exact z3
    · obtain ⟨z1, z2⟩ := h1
      rw [z1, z2]
      exact hz
  · cases e
theorem se_get1 {o e : Expr} {fo fe : Ev.E} {apos cpos : Pos} (hu : X.A.units + 1 < cLine) (ho : PE X o (tV (ct X ca) W fo)) (he : PE X e (tE (ct X ca) W fe)) (m : M1 X o "get" apos e cpos) : PE X (.Call (.Attribute o "get" apos) [e] [] cpos) (tE (ct X ca) W (Ev.eGet1 fo fe)) :=
  PE.imp (pe_dget1 hu ho he m) fun σ H Q q => by
    obtain ⟨φ, G, ρ, μ, ok, en, q⟩ := q
    unfold Ev.eGet1 at q
    refine ⟨φ, G, ρ, μ, ok, en, post_bind q fun v1 φ1 G1 H1 x μ1 _ ext ok1 r1 q1 => ?_⟩
    split at q1
    · obtain ⟨a, ks, e1, h1, _⟩ := r1.isD ok1
      subst e1
      refine ⟨a, rfl, .inl ⟨ks, .inl h1⟩, φ1, G1, ρ, μ1, ok1, en.ext ext, post_bind q1 fun v2 φ2 G2 H2 y μ2 _ ext2 ok2 r2 q2 => ?_⟩
      obtain ⟨z, e, q3⟩ := post_lift q2
      obtain ⟨b, ls, e1, h2, r3⟩ := (r1.ext ext2).isD ok2
      cases e1
      obtain ⟨ov, g, rr⟩ := get_of h2 r3 r2 (.d .non) e
      exact ⟨ov, g, post_ok q3 ok2 rr⟩
    · exact q1.elim
theorem se_get2 {o e f : Expr} {fo fe ff : Ev.E} {apos cpos : Pos} (hu : X.A.units + 1 < cLine) (ho : PE X o (tV (ct X ca) W fo)) (he : PE X e (tE (ct X ca) W fe)) (hf : PE X f (tE (ct X ca) W ff)) (m : M2 X o "get" apos e f cpos) : PE X (.Call (.Attribute o "get" apos) [e, f] [] cpos) (tE (ct X ca) W (Ev.eGet2 fo fe ff)) :=
  PE.imp (pe_dget2 hu ho he hf m) fun σ H Q q => by
    obtain ⟨φ, G, ρ, μ, ok, en, q⟩ := q
    unfold Ev.eGet2 at q
    refine ⟨φ, G, ρ, μ, ok, en, post_bind q fun v1 φ1 G1 H1 x μ1 _ ext ok1 r1 q1 => ?_⟩
    split at q1
    · obtain ⟨a, ks, e1, h1, _⟩ := r1.isD ok1
      subst e1
      refine ⟨a, rfl, .inl ⟨ks, .inl h1⟩, φ1, G1, ρ, μ1, ok1, en.ext ext, post_bind q1 fun v2 φ2 G2 H2 y μ2 _ ext2 ok2 r2 q2 => ?_⟩
      refine ⟨φ2, G2, ρ, μ2, ok2, (en.ext ext).ext ext2, post_bind q2 fun v3 φ3 G3 H3 z μ3 _ ext3 ok3 r4 q4 => ?_⟩
      obtain ⟨z, e, q3⟩ := post_lift q4
      obtain ⟨b, ls, e1, h2, r3⟩ := (r1.ext (ext2.trans ext3)).isD ok3
      cases e1
      obtain ⟨ov, g, rr⟩ := get_of h2 r3 (ext3.rr r2) r4 e
      exact ⟨ov, g, post_ok q3 ok3 rr⟩
    · exact q1.elim
/-- a frame's own object gets another content -/
theorem Ok.upd {Γ : Ct} {φ : List Addr} {G H : Hp} {μ : Ev.Mem} {p : Addr} {o : HO} (k : Ok Γ φ G H μ) (hp : p ∉ φ) (hg : G p = none) (hno : ∀ a, H p ≠ some (.own a)) (hnt : ∀ a, H p ≠ some (.tbl a)) : Ok Γ φ G (upd H p o) μ := by
  have ne : ∀ {b : Addr} {x : HO}, G b = some x → b ≠ p := fun {b x} e z => by subst z; rw [hg] at e; cases e
  refine ⟨fun b x e => by rw [upd_ne (ne e)]; exact k.le b x e, k.nd, k.len, k.fre, fun a ha => ?_, fun n a c h1 h2 => ?_, fun q hq => ?_⟩
  · rw [upd_ne (show a ≠ p from fun z => hp (by rw [← z]; exact ha))]; exact k.thr a ha
  · have ha : a ≠ p := fun z => hp (by rw [← z]; exact List.mem_of_getElem? h1)
    refine (k.cell n a c h1 h2).keep (Same.refl _) (fun _ _ z => z) (fun o e => by rw [upd_ne ha]; exact e) fun d e => ?_
    rw [upd_ne (show d ≠ p from fun z => hno a (by rw [← z]; exact e))]; exact e
  · obtain ⟨⟨ps, e, t⟩, h2, h3⟩ := k.tb q hq
    exact ⟨⟨ps, by rw [upd_ne (fun z => hnt ps (by rw [← z]; exact e))]; exact e, t⟩, h2, h3⟩
theorem Ext.upd {φ φ' : List Addr} {G G' H H' : Hp} {p : Addr} {o : HO} (a : Ext φ G H φ' G' H') (hp : H p = none) : Ext φ G H φ' G' (upd H' p o) :=
  ⟨a.g, a.gn, a.p, fun b x e hn => by rw [upd_ne (show b ≠ p from fun z => by rw [z, hp] at e; cases e)]; exact a.f b x e hn⟩
/-- what was done while p stood there, though p was not there before -/
theorem Ext.from_new {φ φ' : List Addr} {G G' H H' : Hp} {p : Addr} {o : HO} (hp : H p = none) (a : Ext φ G (L2.upd H p o) φ' G' H') : Ext φ G H φ' G' H' := by
  have back : ∀ {b : Addr}, (L2.upd H p o) b = none → H b = none := fun {b} h => by
    by_cases hb : b = p
    · subst hb; rw [upd_same] at h; cases h
    · rw [upd_ne hb] at h; exact h
  refine ⟨a.g, fun b hb => ?_, ?_, fun b x e hn => ?_⟩
  · rcases a.gn b hb with z | z | z
    · exact .inl z
    · exact .inr (.inl (back z))
    · exact .inr (.inr z)
  · obtain ⟨ψ, e, q⟩ := a.p
    exact ⟨ψ, e, fun b hb => ⟨back (q b hb).1, (q b hb).2⟩⟩
  · exact a.f b x (by rw [upd_ne (show b ≠ p from fun z => by rw [z, hp] at e; cases e)]; exact e) hn
/-- .. and the frame -/
theorem EnvR.new0 {Γ : Ct} {φ : List Addr} {G H : Hp} {σ : L2.St} {ρ : Ev.Env} {p : Addr} {o : HO} (h : EnvR Γ φ G H σ ρ) (hp : H p = none) : EnvR Γ φ G (L2.upd H p o) σ ρ := h.ext (Ext.of_same (same_upd hp))
def flat {α : Type} : List (α × α) → List α
  | [] => []
  | (a, b) :: r => a :: b :: flat r
def tPs (Γ : Ct) (W : WX) (fps : List (Ev.E × Ev.E)) : List (TE × TE) := fps.map fun p => (tE Γ W p.1, tE Γ W p.2)
theorem sps_nil {pos : Pos} : PPs X pos [] [] (tPs (ct X ca) W []) := pps_nil
theorem sps_cons {pos : Pos} {a b : Expr} {ks : List (Option Expr)} {vs : List Expr} {fa fb : Ev.E} {fps : List (Ev.E × Ev.E)} (ha : PE X a (tE (ct X ca) W fa)) (hb : PE X b (tE (ct X ca) W fb)) (hr : PPs X pos ks vs (tPs (ct X ca) W fps)) :
    PPs X pos (some a :: ks) (b :: vs) (tPs (ct X ca) W ((fa, fb) :: fps)) := pps_cons ha hb hr
theorem tPairs_of {Γ : Ct} {σ : L2.St} {ρ : Ev.Env} : ∀ {fps : List (Ev.E × Ev.E)} {φ : List Addr} {G H : Hp} {μ : Ev.Mem} {Q : List (V × V) → Hp → Prop}, Ok Γ φ G H μ → EnvR Γ φ G H σ ρ →
    post Γ (WE W σ) φ G H (Ev.evs (flat fps) ρ μ) (rRRs Γ) (fun vs H' => ∀ ps, flat ps = vs → Q ps H') → tPairs (tPs Γ W fps) σ H Q
  | [], φ, G, H, μ, Q, ok, en, q => post_ok q ok .nil [] rfl
  | (a, b) :: r, φ, G, H, μ, Q, ok, en, q => by
    refine ⟨φ, G, ρ, μ, ok, en, post_bind (show post Γ (WE W σ) φ G H ((a ρ μ).bind _) _ _ from q) fun v1 φ1 G1 H1 x1 μ1 _ ext ok1 r1 q1 => ?_⟩
    have q1 : post Γ (WE W σ) φ1 G1 H1 (((b ρ μ1).bind fun r2 μ => (Ev.evs (flat r) ρ μ).bind fun rs μ => .ok (r2 :: rs) μ).bind fun rs μ => .ok (x1 :: rs) μ) _ _ := q1
    rw [Ev.bind_assoc] at q1
    refine ⟨φ1, G1, ρ, μ1, ok1, en.ext ext, post_bind q1 fun v2 φ2 G2 H2 x2 μ2 _ ext2 ok2 r2 q2 => ?_⟩
    refine tPairs_of ok2 ((en.ext ext).ext ext2) ?_
    rw [Ev.bind_assoc] at q2
    refine post_bind q2 fun vs φ3 G3 H3 xs μ3 _ ext3 ok3 r3 q3 => ?_
    intro ps e
    exact post_ok q3 ok3 (.cons (ext3.rr (ext2.rr r1)) (.cons (ext3.rr r2) r3)) ((v1, v2) :: ps) (by rw [← e]; rfl)
theorem pairs_of {Γ : Ct} {φ : List Addr} {G : Hp} : ∀ {ps : List (V × V)} {rs : List Ev.R} {kvs : List (Ev.Ky × Ev.R)}, RRs Γ φ G (flat ps) rs → Ev.pairsR rs = some kvs →
    ∃ ks : List (Key × V), ps = ks.map (fun kv => (kV kv.1, kv.2)) ∧ RKs Γ φ G ks kvs
  | [], rs, kvs, h, e => by
    cases h
    cases e
    exact ⟨[], rfl, .nil⟩
  | (a, b) :: ps, rs, kvs, h, e => by
    cases h with
    | cons h1 h2 =>
      cases h2 with
      | cons h3 h4 =>
        rename_i r1 r2 rs'
        cases r1 with
        | d x =>
          obtain ⟨k, e1, e2⟩ := Option.bind_eq_some_iff.mp (show (Ev.keyOf x).bind _ = some kvs from e)
          obtain ⟨l, e3, e4⟩ := Option.map_eq_some_iff.mp e2
          subst e4
          obtain ⟨ks, e5, q⟩ := pairs_of h4 e3
          have ey := keyOf_kV h1.inv_d e1
          exact ⟨(kyK k, b) :: ks, by rw [List.map_cons, ← e5, ey], .cons h3 q⟩
        | _ => cases e
/-- a written dict -/
theorem sn_dic {pos : Pos} {keys : List (Option Expr)} {values : List Expr} {fps : List (Ev.E × Ev.E)} (h : PPs X pos keys values (tPs (ct X ca) W fps)) (hall : keys.all (·.isSome) = true := by rfl) (hl : keys.length = values.length := by rfl) (h0 : keys ≠ [] := by simp) (h15 : keys.length ≤ 15 := by decide) :
    PE X (.Dict keys values pos) (tN (ct X ca) W (Ev.eDic (flat fps))) := PE.imp (pe_disp h hall hl h0 h15) fun σ H Q q => by
  obtain ⟨φ, G, ρ, μ, ok, en, q⟩ := q
  unfold Ev.eDic at q
  intro p hp
  refine tPairs_of (ok.new0 hp) (en.new0 hp) ?_
  generalize Ev.evs (flat fps) ρ μ = o at q
  cases o with
  | no => exact q
  | exn x μ1 => exact fun c od φ' G' H' ext ok' r => q c od φ' G' H' (Ext.from_new hp ext) ok' r
  | ok rs μ1 =>
    intro vs φ' G' H' ext ok' r ps e
    subst e
    have hn := ok.nphi hp
    obtain ⟨k1, k2, k3⟩ := ext.keep (c := p) (o := .dK []) upd_same hn (ok.ng hp)
    refine ⟨k1, ?_⟩
    have q : postN _ _ φ G H (match Ev.pairsR rs with
      | some kvs => if kvs.length ≤ 15 then .ok (.dic (Ev.mergeK [] kvs)) μ1 else .no
      | none => .no) Q := q
    split at q
    · rename_i kvs ep
      split at q
      · rename_i hz
        obtain ⟨ks, e2, rk⟩ := pairs_of r ep
        refine ⟨ks, e2, by rw [rk.len]; exact hz, ?_⟩
        have q : ∀ a φ' G' H', Ext φ G H φ' G' H' → Ok (ct X ca) φ' G' H' μ1 → H a = none → G' a = none → a ∉ φ' → Nw (ct X ca) φ' G' H' a (.dic (Ev.mergeK [] kvs)) → Q (.ref a) H' := q
        exact q p φ' G' _ ((Ext.from_new hp ext).upd hp) (ok'.upd k2 k3 (fun a z => by rw [k1] at z; cases z) fun a z => by rw [k1] at z; cases z) hp k3 k2 (.dic upd_same (RKs.merge .nil rk))
      · exact q.elim
    · exact q.elim
end
end EvS
end

section
set_option maxHeartbeats 0
set_option Elab.async false
set_option linter.all false
set_option maxRecDepth 100000
/-! EvFor: what is walked, targets, comprehensions. -/
namespace EvS
open PySem PySem.Spec PyProof.Rows L2

/-! ### enumerate over a tuple -/
set_option maxHeartbeats 1000000 in
theorem enum_makes {v : Value} {o : Obj} {H : Heap → Prop} (B : Begins v o H) :
    Meets (Builtin.«enumerate.__new__» ⟨[.type "enumerate", v], []⟩) (fun _ R st => H st.heap ∧
      R (.ok (.ret (.ref (st.heap.push o).objs.size)))
        { st with heap := (st.heap.push o).push { cls := .type "enumerate", data := .fields #[.none, .bool false, .ref st.heap.objs.size, rawInt 0, .none, .none] } }) :=
  .of_wp fun prog w A R st h => by
    obtain ⟨hp, g, d, tk, os⟩ := st
    obtain ⟨h1, h⟩ := h
    have hsub := sub_enumerate
    have step : ∀ {A' : Around} {E : Value → Shared → Prop} {Q : Value → Shared → Prop}, Q (.ref hp.objs.size) ⟨hp.push o, g, d, tk, os⟩ → wpAny (model prog w) A' (pyIter v) Q E ⟨hp, g, d, tk, os⟩ :=
      fun q => B.iter prog w _ _ ⟨hp, g, d, tk, os⟩ _ h1 q
    wp_walk using step
    refine wpAny_stack_any fun _ => wpAny_pure ?_
    split
    · rename_i cl _ _ _ _ _
      cases hcl : (cl == Value.type "enumerate") <;> (wp_walk using step) <;> exact ⟨_, rfl, h⟩
    · wp_walk using step
      exact ⟨_, rfl, h⟩
theorem enum_call {prog : Program} {w : World} {A : Around} {E : Value → Shared → Prop} {s : Shared} {v : Value} {o : Obj} {H : Heap → Prop} {Q : Value → Shared → Prop} (B : Begins v o H) (h1 : H s.heap)
    (h : ∀ h', IsEnum h' (s.heap.objs.size + 1) s.heap.objs.size 0 .none → h'.get? s.heap.objs.size = some o → (∀ b o, s.heap.get? b = some o → h'.get? b = some o) → Q (.ref (s.heap.objs.size + 1)) { s with heap := h' }) :
    wpAny (model prog w) A (call (.type "enumerate") [v]) Q E s := by
  refine callType_new F.called_enumerate (by decide) (F.typeCall_enumerate_1 _) (F.newCall_enumerate_1 _) (fun x => F.args_object_init_2 x _) F.entry_enumerate_new (enum_makes B) ⟨h1, ?_⟩
  have sz : (s.heap.push o).objs.size = s.heap.objs.size + 1 := Heap.size_push ..
  rw [sz]
  have he : IsEnum ((s.heap.push o).push { cls := .type "enumerate", data := .fields #[.none, .bool false, .ref s.heap.objs.size, rawInt 0, .none, .none] }) (s.heap.objs.size + 1) s.heap.objs.size 0 .none := by
    have z := Heap.get?_push_size (s.heap.push o) (o := { cls := .type "enumerate", data := .fields #[.none, .bool false, .ref s.heap.objs.size, rawInt 0, .none, .none] }) rfl
    rwa [sz] at z
  refine ⟨⟨_, he, rfl⟩, h _ he ?_ fun b u e => ?_⟩
  · exact Heap.get?_push_of_some _ (Heap.get?_push_size _ B.free)
  · exact Heap.get?_push_of_some _ (Heap.get?_push_of_some _ e)
/-- the tuple at a, each item in a new pair with its place -/
def IteT (K : PySem.W.Frag) (a : Addr) : It where
  go := fun i H => ∃ (xs : List V) (x : V), SqT K H a xs ∧ xs[i]? = some x
  yld := fun i H v H' => ∃ T x, v = .ref T ∧ H T = none ∧ H' = upd H T (.tup [.int (i : Nat), x]) ∧ ∀ xs, SqT K H a xs → xs[i]? = some x
  stop := fun i H => ∃ xs : List V, SqT K H a xs ∧ xs.length ≤ i
theorem turn_enumT {P : Program} {w : World} {K : PySem.W.Frag} {elts : List Expr} {kk : Nat} {tpos : Pos} (a e it : Addr) :
    Turn P w K (.Tuple elts kk tpos) (IteT K a) [e, it] e (fun i h => (∃ old, IsEnum h e it ((i : Nat) : Int) old) ∧ h.IsTupleIter it a i ∧ e ≠ it ∧ a ≠ it ∧ e ≠ a) where
  mem := by simp
  obj := fun i h st b hb => by
    obtain ⟨⟨old, he⟩, ⟨o, ho, hc, hd⟩, _⟩ := st
    rcases List.mem_cons.mp hb with z | z
    · rw [z]; exact ⟨_, he, fun v q => nomatch q⟩
    · rw [List.mem_singleton.mp z]; exact ⟨o, ho, fun v q => by rw [hd] at q; cases q⟩
  keep := fun i h h' st k => let ⟨⟨old, he⟩, hi, hne⟩ := st; ⟨⟨old, k e (by simp) _ he⟩, hi.at fun o q => k it (by simp) o q, hne⟩
  item := by
    intro X hP hw hK hc i pins s σ H E I hf st hg
    subst hP hw hK
    obtain ⟨⟨old, he⟩, hit, hne, hat, hea⟩ := st
    obtain ⟨xs, x, hq, hx⟩ := hg
    obtain ⟨its, rv, p, hz⟩ := I.tuple hq
    obtain ⟨u, hu, ru⟩ := rv.get hx
    have pt : s.heap.IsTuple a its.toArray := p
    have hel : e < s.heap.objs.size := Heap.lt_size he
    have hil : it < s.heap.objs.size := by obtain ⟨_, q, _⟩ := hit; exact Heap.lt_size q
    have hlt : i < its.toArray.size := by
      have := (List.getElem?_eq_some_iff.mp hu).1
      simpa using this
    have D := Draws.tuple (prog := X.prog) (w := X.w) (A := X.A.in1) (I.ok.hd hc) it a hat its.toArray
    refine wpAny_pyNext_enum_itemD D he ⟨hit, pt⟩ hlt hne (by simp [hne, hea]) fun y h' tk hy ho hs' hT hsz hk => ?_
    have ey : y = u := by
      have h1 : its[i]? = some y := by simpa using hy
      rw [hu] at h1
      exact (Option.some.inj h1).symm
    subst ey
    refine ⟨_, rfl, wpAny_letOwnedTupleGo_enum (s := { s with heap := h', toks := tk + 1 }) ho fun h'' he' sb => ?_⟩
    have hT2 := (sb.2 _ (Nat.ne_of_gt hel)).trans hT
    have new : ObjOk X.prog X.w (upd H s.heap.objs.size (.tup [.int (i : Nat), x])) h'' s.heap.objs.size (.tup [.int (i : Nat), x]) :=
      ⟨by show 2 ≤ sizeLine; decide, [.int i tk, y], .cons ⟨_, rfl⟩ (.cons ru .nil), ⟨_, hT2, rfl, _, rfl⟩⟩
    have kp : ∀ b ob, b ∉ [e, it] → s.heap.get? b = some ob → h''.get? b = some ob := fun b ob hb q =>
      (sb.2 b (fun z => hb (by simp [z]))).trans (hk b ob (fun z => hb (by simp [z])) (fun z => hb (by simp [z])) q)
    have I1 : Inv X pins σ (upd H s.heap.objs.size (.tup [.int (i : Nat), x])) { s with heap := h'', toks := tk + 1 } := I.turnedNew (ch := [e, it]) kp hf (Nat.le_refl _) new
    refine ⟨.ref s.heap.objs.size, _, I1, rfl, ⟨_, x, rfl, I.hok.fresh (Nat.le_refl _), rfl, fun ys hy => by rw [I.tuple_inj hy hq]; exact hx⟩, ⟨⟨y, ?_⟩, hs'.1.at fun o q => (sb.2 it (Ne.symm hne)).trans q, hne, hat, hea⟩, fun b hb => ?_⟩
    · have e1 : ((i + 1 : Nat) : Int) = (i : Int) + 1 := by omega
      rw [e1]; exact he'
    · have hb' : b < s.heap.objs.size := by
        rcases List.mem_cons.mp hb with z | z
        · rw [z]; exact hel
        · rw [List.mem_singleton.mp z]; exact hil
      rw [upd_ne (Nat.ne_of_lt hb')]
      exact (hf b hb).1
  done := by
    intro X hP hw hK hc i pins s σ H E I hf st hg
    subst hP hw hK
    obtain ⟨⟨old, he⟩, hit, hne, hat, hea⟩ := st
    obtain ⟨xs, hq, hx⟩ := hg
    obtain ⟨its, rv, p, hz⟩ := I.tuple hq
    have pt : s.heap.IsTuple a its.toArray := p
    obtain ⟨f0, f1, f2, f3, f4, f5⟩ := hf it (by simp)
    have hl := rv.length
    have DE : ∀ (s' : Shared) (Q : Value → Shared → Prop) (E : Value → Shared → Prop), (s'.heap.IsTupleIter it a i ∧ s'.heap.IsTuple a its.toArray) →
        (∀ h' e, Heap.ExtBut it s'.heap h' → (∃ o, h'.get? e = some o ∧ o.cls = .type "StopIteration") → E (.ref e) { s' with heap := h' }) → wpAny (model X.prog X.w) X.A.in1 (Builtin.SmallTypes.nextOf (.ref it)) Q E s' :=
      fun s' Q E q k => wpAny_nextOf_tuple_end (I.ok.hd hc) q.1 q.2 (by simp; omega) k
    have hTy : s.TypeIs (.ref e) "enumerate" := ⟨_, he, rfl⟩
    unfold pyNext
    refine wpAny_bind (wpAny_attempt (wpAny_callSpecial?_slot (name := Str.ofString "__next__") hTy F.slot_enumerate_next (wpAny_call_entry F.slot_enumerate_next hTy F.entry_enumerate_next ?_ (F.args_enumerate_next_1 _))))
    show wpAny _ _ (field (.ref e) 2 >>= _) _ _ _
    refine wpAny_bind (wpAny_field he rfl (x := .ref it) rfl ?_)
    refine wpAny_bind (DE _ _ _ ⟨hit, pt⟩ fun h' x eb hx' => ?_)
    obtain ⟨o, ho, hc'⟩ := hx'
    refine wpAny_bind (wpAny_isInstance (T := "StopIteration") (b := true) ⟨o, ho, hc'⟩ isSubtype_stop ?_)
    exact wpAny_pure ⟨rfl, I.turned (t' := s.toks) (fun b o hb q => eb b o hb q) f0 f1 f3 f4 f5⟩
  self := fun A i s Q E st h => let ⟨⟨_, he⟩, _⟩ := st; wpAny_pyIter_enum he h
def iEnumA (K : PySem.W.Frag) (ta : TA) : TI := fun σ H R => ta σ H fun vs H1 => ∃ a xs, vs = [.ref a] ∧ ((SqL K H1 a xs ∧ R (Ite K a) H1) ∨ (SqT K H1 a xs ∧ R (IteT K a) H1))
theorem pi_enumA {X : Cx} {e : Expr} {ta : TA} {p pos tpos : Pos} {elts : List Expr} {kk : Nat} (hg : Gl X "enumerate") (hm : X.mg "enumerate" = none) (ha : PA X [e] ta) (hs : starEach [e] X.env = [(false, eval e X.env)] := by rfl) :
    PI X (.Tuple elts kk tpos) (.Call (.Name "enumerate" p) [e] [] pos) (iEnumA X.K ta) := by
  refine ⟨fun pins s σ H R I h => Call_ (ld_blt I hg hm boot_enumerate (PyProof.Rows.callWith_type1 (thn (ha.run pos pins s σ H _ I h) fun us s1 ⟨vs, H1, I1, r1, q1⟩ => ?_) hs rfl))⟩
  obtain ⟨a, xs, ex, q1⟩ := q1
  subst ex
  obtain ⟨u, eu, ru⟩ := vals1 r1
  subst eu
  cases (show u = Value.ref a from ru)
  have fresh2 : ∀ b, b ∈ [s1.heap.objs.size + 1, s1.heap.objs.size] → FpOk X pins H1 b := fun b hb => by
    have hle : s1.heap.objs.size ≤ b := by
      rcases List.mem_cons.mp hb with z | z
      · rw [z]; exact Nat.le_add_right _ _
      · rw [List.mem_singleton.mp z]; exact Nat.le_refl _
    exact I1.fpOk hle (I1.hok.fresh hle)
  rcases q1 with ⟨hq, q⟩ | ⟨hq, q⟩
  · obtain ⟨its, rv, p', hz⟩ := I1.list hq
    refine enum_call (begins_list a its.toArray) p'.isList fun h' he hit hk => wpAny_pyIter_enum he ?_
    have I2 : Inv X pins σ H1 { s1 with heap := h' } := I1.kept (t' := s1.toks) hk
    exact ⟨_, _, _, _, H1, rfl, I2, turn_enum a (s1.heap.objs.size + 1) s1.heap.objs.size, ⟨⟨.none, he⟩, ⟨_, hit, rfl, rfl⟩, Nat.succ_ne_self _⟩, fresh2, q⟩
  · obtain ⟨its, rv, p', hz⟩ := I1.tuple hq
    have pt : s1.heap.IsTuple a its.toArray := p'
    obtain ⟨o1, ho1, _⟩ := id pt
    have hal : a < s1.heap.objs.size := Heap.lt_size ho1
    refine enum_call (begins_tuple a its.toArray) pt fun h' he hit hk => wpAny_pyIter_enum he ?_
    have I2 : Inv X pins σ H1 { s1 with heap := h' } := I1.kept (t' := s1.toks) hk
    exact ⟨_, _, _, _, H1, rfl, I2, turn_enumT a (s1.heap.objs.size + 1) s1.heap.objs.size, ⟨⟨.none, he⟩, ⟨_, hit, rfl, rfl⟩, Nat.succ_ne_self _, Nat.ne_of_lt hal, Nat.ne_of_gt (Nat.lt_succ_of_lt hal)⟩, fresh2, q⟩

/-! ### what is walked -/
/-- the iterator J gives the values rs, one after another -/
structure ItR (Γ : Ct) (φ : List Addr) (G : Hp) (J : It) (rs : List Ev.R) : Prop where
  goes : ∀ i H, i < rs.length → Same G H → J.go i H
  stops : ∀ H, Same G H → J.stop rs.length H
  yields : ∀ i H x H' r, rs[i]? = some r → Same G H → J.yld i H x H' → (H' = H ∧ RR Γ φ G x r) ∨ ∃ T xs ds, x = .ref T ∧ H T = none ∧ H' = upd H T (.tup xs) ∧ r = .d (.tup ds) ∧ DRs Γ.K G xs ds
theorem ItR.ext {Γ : Ct} {φ φ' : List Addr} {G G' H H' : Hp} {J : It} {rs : List Ev.R} (h : ItR Γ φ G J rs) (a : Ext φ G H φ' G' H') : ItR Γ φ' G' J rs := by
  refine ⟨fun i H hi s => h.goes i H hi (a.g.trans s), fun H s => h.stops H (a.g.trans s), fun i H x H' r e s y => ?_⟩
  rcases h.yields i H x H' r e (a.g.trans s) y with ⟨z, q⟩ | ⟨T, xs, ds, h1, h2, h3, h4, h5⟩
  · exact .inl ⟨z, a.rr q⟩
  · exact .inr ⟨T, xs, ds, h1, h2, h3, h4, h5.mono a.g⟩
theorem ItR.walk {Γ : Ct} {φ : List Addr} {G : Hp} {J : It} {rs : List Ev.R} (h : ItR Γ φ G J rs) : Walk J rs.length (Same G) J.yld := ⟨h.goes, h.stops, fun _ _ _ _ _ _ y => y⟩
/-- a turn -/
theorem ItR.turn {Γ : Ct} {φ : List Addr} {G H H' : Hp} {μ : Ev.Mem} {J : It} {rs : List Ev.R} {i : Nat} {x : V} {r : Ev.R} (h : ItR Γ φ G J rs) (ok : Ok Γ φ G H μ) (e : rs[i]? = some r) (y : J.yld i H x H') :
    ∃ G', Ext φ G H φ G' H' ∧ Ok Γ φ G' H' μ ∧ RR Γ φ G' x r := by
  rcases h.yields i H x H' r e ok.le y with ⟨z, q⟩ | ⟨T, xs, ds, h1, h2, h3, h4, h5⟩
  · subst z; exact ⟨G, Ext.refl, ok, q⟩
  · subst h1 h3 h4
    exact ⟨_, Ext.new ok h2, ok.new h2, .d (.tup (.inl (.inl upd_same)) (h5.mono (same_upd (ok.ng h2))))⟩
def tI (Γ : Ct) (W : WX) (f : Ev.It) : TI := fun σ H R => ∃ φ G ρ μ, Ok Γ φ G H μ ∧ EnvR Γ φ G H σ ρ ∧ post Γ (WE W σ) φ G H (f ρ μ) (fun φ G _ J rs => ItR Γ φ G J rs) R
theorem RRs.at_ {Γ : Ct} {φ : List Addr} {G : Hp} {vs : List V} {rs : List Ev.R} {i : Nat} {r : Ev.R} {x : V} (h : RRs Γ φ G vs rs) (e : rs[i]? = some r) (e2 : vs[i]? = some x) : RR Γ φ G x r := by
  obtain ⟨v, h1, h2⟩ := h.get e
  rw [e2] at h1; cases h1; exact h2
theorem DRs.at_ {K : PySem.W.Frag} {G : Hp} {vs : List V} {ds : List Ev.D} {i : Nat} {d : Ev.D} {x : V} (h : DRs K G vs ds) (e : ds[i]? = some d) (e2 : vs[i]? = some x) : DR K G x d := by
  obtain ⟨v, h1, h2⟩ := h.get e
  rw [e2] at h1; cases h1; exact h2
theorem itR_list {Γ : Ct} {φ : List Addr} {G : Hp} {a : Addr} {vs : List V} {rs : List Ev.R} (h : SqL Γ.K G a vs) (r : RRs Γ φ G vs rs) : ItR Γ φ G (Itl Γ.K a) rs := by
  refine ⟨fun i H hi s => ⟨vs, vs[i]'(by rw [r.len]; exact hi), s.seq h, by simp [r.len, hi]⟩, fun H s => ⟨vs, s.seq h, by rw [r.len]; exact Nat.le_refl _⟩, fun i H x H' q e s y => .inl ⟨y.1, r.at_ e (y.2 vs (s.seq h))⟩⟩
theorem itR_tup {Γ : Ct} {φ : List Addr} {G : Hp} {a : Addr} {vs : List V} {rs : List Ev.R} (h : SqT Γ.K G a vs) (r : RRs Γ φ G vs rs) : ItR Γ φ G (Itt Γ.K a) rs := by
  refine ⟨fun i H hi s => ⟨vs, vs[i]'(by rw [r.len]; exact hi), Same.seqT s h, by simp [r.len, hi]⟩, fun H s => ⟨vs, Same.seqT s h, by rw [r.len]; exact Nat.le_refl _⟩, fun i H x H' q e s y => .inl ⟨y.1, r.at_ e (y.2 vs (Same.seqT s h))⟩⟩
theorem enumF_at : ∀ (ds : List Ev.D) (k i : Nat) (r : Ev.R), (Ev.enumF k ds)[i]? = some r → ∃ d, ds[i]? = some d ∧ r = .d (.tup [.int ((k + i : Nat) : Int), d])
  | [], k, i, r, h => by simp [Ev.enumF] at h
  | d :: ds, k, 0, r, h => by
    simp [Ev.enumF] at h
    exact ⟨d, rfl, by rw [← h]; simp⟩
  | d :: ds, k, i + 1, r, h => by
    obtain ⟨d', h1, h2⟩ := enumF_at ds (k + 1) i r (by simpa [Ev.enumF] using h)
    exact ⟨d', by simpa using h1, by rw [h2, show k + 1 + i = k + (i + 1) by omega]⟩
theorem enumF_len : ∀ (ds : List Ev.D) (k : Nat), (Ev.enumF k ds).length = ds.length
  | [], _ => rfl
  | d :: ds, k => by simp [Ev.enumF, enumF_len ds]
theorem itR_enum {Γ : Ct} {φ : List Addr} {G : Hp} {a : Addr} {vs : List V} {ds : List Ev.D} (h : SqL Γ.K G a vs) (r : DRs Γ.K G vs ds) : ItR Γ φ G (Ite Γ.K a) (Ev.enumF 0 ds) := by
  refine ⟨fun i H hi s => ⟨vs, vs[i]'(by rw [r.len, ← enumF_len ds 0]; exact hi), s.seq h, by rw [enumF_len] at hi; simp [r.len, hi]⟩, fun H s => ⟨vs, s.seq h, by rw [r.len, enumF_len]; exact Nat.le_refl _⟩, fun i H x H' q e s y => ?_⟩
  obtain ⟨d, e1, e2⟩ := enumF_at ds 0 i q e
  obtain ⟨T, z, h1, h2, h3, h4⟩ := y
  refine .inr ⟨T, _, [.int ((i : Nat) : Int), d], h1, h2, h3, by rw [e2, Nat.zero_add], .cons (.int _) (.cons (r.at_ e1 (h4 vs (s.seq h))) .nil)⟩
theorem itR_enumT {Γ : Ct} {φ : List Addr} {G : Hp} {a : Addr} {vs : List V} {ds : List Ev.D} (h : SqT Γ.K G a vs) (r : DRs Γ.K G vs ds) : ItR Γ φ G (IteT Γ.K a) (Ev.enumF 0 ds) := by
  refine ⟨fun i H hi s => ⟨vs, vs[i]'(by rw [r.len, ← enumF_len ds 0]; exact hi), Same.seqT s h, by rw [enumF_len] at hi; simp [r.len, hi]⟩, fun H s => ⟨vs, Same.seqT s h, by rw [r.len, enumF_len]; exact Nat.le_refl _⟩, fun i H x H' q e s y => ?_⟩
  obtain ⟨d, e1, e2⟩ := enumF_at ds 0 i q e
  obtain ⟨T, z, h1, h2, h3, h4⟩ := y
  refine .inr ⟨T, _, [.int ((i : Nat) : Int), d], h1, h2, h3, by rw [e2, Nat.zero_add], .cons (.int _) (.cons (r.at_ e1 (h4 vs (Same.seqT s h))) .nil)⟩
theorem zipF_at : ∀ (xs ys : List Ev.D) (i : Nat) (r : Ev.R), (Ev.zipF xs ys)[i]? = some r → ∃ x y, xs[i]? = some x ∧ ys[i]? = some y ∧ r = .d (.tup [x, y])
  | [], _, i, r, h => by simp [Ev.zipF] at h
  | _ :: _, [], i, r, h => by simp [Ev.zipF] at h
  | x :: xs, y :: ys, 0, r, h => by
    simp [Ev.zipF] at h
    exact ⟨x, y, rfl, rfl, h.symm⟩
  | x :: xs, y :: ys, i + 1, r, h => by
    obtain ⟨x', y', h1, h2, h3⟩ := zipF_at xs ys i r (by simpa [Ev.zipF] using h)
    exact ⟨x', y', by simpa using h1, by simpa using h2, h3⟩
theorem zipF_len : ∀ xs ys : List Ev.D, (Ev.zipF xs ys).length = min xs.length ys.length
  | [], _ => by simp [Ev.zipF]
  | _ :: _, [] => by simp [Ev.zipF]
  | x :: xs, y :: ys => by simp only [Ev.zipF, List.length_cons, zipF_len xs ys]; omega
theorem itR_zip {Γ : Ct} {φ : List Addr} {G : Hp} {a b : Addr} {us vs : List V} {cs ds : List Ev.D} (h : SqL Γ.K G a us) (h' : SqL Γ.K G b vs) (r : DRs Γ.K G us cs) (r' : DRs Γ.K G vs ds) : ItR Γ φ G (Itz Γ.K a b) (Ev.zipF cs ds) := by
  have l1 := r.len; have l2 := r'.len; have l3 := zipF_len cs ds
  refine ⟨fun i H hi s => ?_, fun H s => ⟨us, vs, s.seq h, s.seq h', by omega⟩, fun i H x H' q e s y => ?_⟩
  · have h1 : i < us.length := by omega
    have h2 : i < vs.length := by omega
    exact ⟨us, vs, us[i], vs[i], s.seq h, s.seq h', by simp [h1], by simp [h2]⟩
  · obtain ⟨c, d, e1, e2, e3⟩ := zipF_at cs ds i q e
    obtain ⟨T, z, w, h1, h2, h3, h4, h5⟩ := y
    exact .inr ⟨T, _, [c, d], h1, h2, h3, e3, .cons (r.at_ e1 (h4 us (s.seq h))) (.cons (r'.at_ e2 (h5 vs (s.seq h'))) .nil)⟩
theorem itR_zipT {Γ : Ct} {φ : List Addr} {G : Hp} {a b : Addr} {us vs : List V} {cs ds : List Ev.D} (h : SqT Γ.K G a us) (h' : SqT Γ.K G b vs) (r : DRs Γ.K G us cs) (r' : DRs Γ.K G vs ds) : ItR Γ φ G (RZ.ItzT Γ.K a b) (Ev.zipF cs ds) := by
  have l1 := r.len; have l2 := r'.len; have l3 := zipF_len cs ds
  refine ⟨fun i H hi s => ?_, fun H s => ⟨us, vs, Same.seqT s h, Same.seqT s h', by omega⟩, fun i H x H' q e s y => ?_⟩
  · have h1 : i < us.length := by omega
    have h2 : i < vs.length := by omega
    exact ⟨us, vs, us[i], vs[i], Same.seqT s h, Same.seqT s h', by simp [h1], by simp [h2]⟩
  · obtain ⟨c, d, e1, e2, e3⟩ := zipF_at cs ds i q e
    obtain ⟨T, z, w, h1, h2, h3, h4, h5⟩ := y
    exact .inr ⟨T, _, [c, d], h1, h2, h3, e3, .cons (r.at_ e1 (h4 us (Same.seqT s h))) (.cons (r'.at_ e2 (h5 vs (Same.seqT s h'))) .nil)⟩
theorem rangeF_at : ∀ (n : Nat) (lo : Int) (i : Nat) (r : Ev.R), (Ev.rangeF lo n)[i]? = some r → r = .d (.int (lo + i))
  | 0, lo, i, r, h => by simp [Ev.rangeF] at h
  | n + 1, lo, 0, r, h => by simp [Ev.rangeF] at h; rw [← h]; simp
  | n + 1, lo, i + 1, r, h => by
    rw [rangeF_at n (lo + 1) i r (by simpa [Ev.rangeF] using h)]
    congr 2; omega
theorem rangeF_len : ∀ (n : Nat) (lo : Int), (Ev.rangeF lo n).length = n
  | 0, _ => rfl
  | n + 1, lo => by simp [Ev.rangeF, rangeF_len n]
theorem itR_range {Γ : Ct} {φ : List Addr} {G : Hp} {lo : Int} {n : Nat} : ItR Γ φ G (Itr lo n) (Ev.rangeF lo n) :=
  ⟨fun i H hi s => by rw [rangeF_len] at hi; exact hi, fun H s => by rw [rangeF_len]; exact Nat.le_refl n, fun i H x H' q e s y => .inl ⟨y.1, by rw [y.2, rangeF_at n lo i q e]; exact .d (.int _)⟩⟩
/-- a list or a tuple, walked -/
def iAny (K : PySem.W.Frag) (te : TE) : TI := fun σ H R => te σ H fun x H1 => ∃ a, x = .ref a ∧ (((∃ xs, SqL K H1 a xs) ∧ R (Itl K a) H1) ∨ ((∃ xs, SqT K H1 a xs) ∧ R (Itt K a) H1))
theorem pi_any {X : Cx} {tg l : Expr} {tl : TE} (hl : PE X l tl) : PI X tg l (iAny X.K tl) := by
  refine ⟨fun pins s σ H R I h => thn (hl.run pins s σ H _ I h) fun v s1 ⟨x, H1, I1, r1, a, ex, q1⟩ => ?_⟩
  subst ex
  cases (show v = Value.ref a from r1)
  have fr : ∀ b, b ∈ [s1.heap.objs.size] → FpOk X pins H1 b := fun b hb => by
    rw [List.mem_singleton.mp hb]
    exact I1.fpOk (Nat.le_refl _) (I1.hok.fresh (Nat.le_refl _))
  rcases q1 with ⟨⟨xs, hq⟩, q⟩ | ⟨⟨xs, hq⟩, q⟩
  · obtain ⟨its, rv, p, _⟩ := I1.list hq
    have J : Inv X pins σ H1 { s1 with heap := s1.heap.push { cls := .type "list_iterator", data := .fields #[.ref a, .int 0 0] } } := I1.kept (t' := s1.toks) fun _ _ e => Heap.get?_push_of_some _ e
    exact wpAny_pyIter_list p.isList ⟨_, _, _, _, H1, rfl, J, turn_list a _, ⟨_, Heap.get?_push_size _ rfl, rfl, rfl⟩, fr, q⟩
  · obtain ⟨its, rv, p, _⟩ := I1.tuple hq
    have J : Inv X pins σ H1 { s1 with heap := s1.heap.push { cls := .type "tuple_iterator", data := .fields #[.ref a, .int 0 0] } } := I1.kept (t' := s1.toks) fun _ _ e => Heap.get?_push_of_some _ e
    exact wpAny_pyIter_tuple (show s1.heap.IsTuple a its.toArray from p) ⟨_, _, _, _, H1, rfl, J, turn_tuple a _, ⟨_, Heap.get?_push_size _ rfl, rfl, rfl⟩, fr, q⟩
section
variable {X : Cx} {W : WX} {ca : Cn} {k : Nat}
theorem si_e {tg e : Expr} {f : Ev.E} (h : PE X e (tE (ct X ca) W f)) : PI X tg e (tI (ct X ca) W (Ev.iE f)) := PI.imp (pi_any h) fun σ H Q q => by
  obtain ⟨φ, G, ρ, μ, ok, en, q⟩ := q
  unfold Ev.iE at q
  refine ⟨φ, G, ρ, μ, ok, en, post_bind q fun v1 φ1 G1 H1 x μ1 _ ext ok1 r1 q1 => ?_⟩
  obtain ⟨rs, e, q1⟩ := post_lift q1
  have fin : ∀ {J : It}, ItR (ct X ca) φ1 G1 J rs → Q J H1 := fun i => post_ok q1 ok1 i
  cases x with
  | d d =>
    cases d with
    | tup ds =>
      cases e
      cases r1.inv_d with
      | tup h1 h2 => exact ⟨_, rfl, .inr ⟨⟨_, Same.seqT ok1.le h1⟩, fin (itR_tup h1 (RRs.ofD h2))⟩⟩
    | lst ds =>
      cases e
      cases r1.inv_d with
      | lst h1 h2 => exact ⟨_, rfl, .inl ⟨⟨_, ok1.le.seq (.inl (.inl h1))⟩, fin (itR_list (.inl (.inl h1)) (RRs.ofD h2))⟩⟩
    | _ => cases e
  | ls ss =>
    cases e
    cases r1 with
    | ls h1 h2 => exact ⟨_, rfl, .inl ⟨⟨_, ok1.le.seq (.inl (.inl h1))⟩, fin (itR_list (.inl (.inl h1)) h2)⟩⟩
  | scr ns =>
    cases e
    cases r1 with
    | scr h1 =>
      refine ⟨_, rfl, .inl ⟨⟨_, ok1.le.seq h1⟩, fin (itR_list h1 ?_)⟩⟩
      have : ∀ ns : List Int, RRs (ct X ca) φ1 G1 (ns.map V.int) (ns.map fun n => Ev.R.d (.int n)) := fun ns => by
        induction ns with
        | nil => exact .nil
        | cons n ns ih => exact .cons (.d (.int n)) ih
      exact this ns
  | _ => cases e
theorem si_range1 {tg a : Expr} {f : Ev.E} {p pos : Pos} (hg : Gl X "range") (hm : X.mg "range" = none) (ha : PE X a (tE (ct X ca) W f)) (hs : starEach [a] X.env = [(false, eval a X.env)] := by rfl) :
    PI X tg (.Call (.Name "range" p) [a] [] pos) (tI (ct X ca) W (Ev.iRange1 f)) := PI.imp (pi_range1 hg hm (pa_cons ha pa_nil hs) hs) fun σ H Q q => by
  obtain ⟨φ, G, ρ, μ, ok, en, q⟩ := q
  unfold Ev.iRange1 at q
  refine ⟨φ, G, ρ, μ, ok, en, post_bind q fun v1 φ1 G1 H1 x μ1 _ ext ok1 r1 q1 => ?_⟩
  split at q1
  · split at q1
    · rename_i hz
      simp only [Ev.inRange62, Bool.and_eq_true, decide_eq_true_eq] at hz
      have := r1.int
      subst this
      exact ⟨_, rfl, by omega, by omega, post_ok q1 ok1 itR_range⟩
    · exact q1.elim
  · exact q1.elim
theorem si_range2 {tg a b : Expr} {f g : Ev.E} {p pos : Pos} (hg : Gl X "range") (hm : X.mg "range" = none) (ha : PE X a (tE (ct X ca) W f)) (hb : PE X b (tE (ct X ca) W g))
    (hs : starEach [a, b] X.env = [(false, eval a X.env), (false, eval b X.env)] := by rfl) (hs2 : starEach [b] X.env = [(false, eval b X.env)] := by rfl) :
    PI X tg (.Call (.Name "range" p) [a, b] [] pos) (tI (ct X ca) W (Ev.iRange2 f g)) := PI.imp (pi_range2 hg hm (pa_cons ha (pa_cons hb pa_nil hs2) (by rw [hs, hs2])) hs hs2) fun σ H Q q => by
  obtain ⟨φ, G, ρ, μ, ok, en, q⟩ := q
  unfold Ev.iRange2 at q
  refine ⟨φ, G, ρ, μ, ok, en, post_bind q fun v1 φ1 G1 H1 x μ1 _ ext ok1 r1 q1 => ?_⟩
  refine ⟨φ1, G1, ρ, μ1, ok1, en.ext ext, post_bind q1 fun v2 φ2 G2 H2 y μ2 _ ext2 ok2 r2 q2 => ?_⟩
  split at q2
  · split at q2
    · rename_i hz
      simp only [Ev.inRange62, Bool.and_eq_true, decide_eq_true_eq] at hz
      have := r1.int
      have := r2.int
      subst v1 v2
      exact ⟨_, _, rfl, by omega, post_ok q2 ok2 itR_range⟩
    · exact q2.elim
  · exact q2.elim
theorem si_enum {e : Expr} {f : Ev.E} {p pos tpos : Pos} {elts : List Expr} {kk : Nat} (hg : Gl X "enumerate") (hm : X.mg "enumerate" = none) (h : PE X e (tE (ct X ca) W f)) (hs : starEach [e] X.env = [(false, eval e X.env)] := by rfl) :
    PI X (.Tuple elts kk tpos) (.Call (.Name "enumerate" p) [e] [] pos) (tI (ct X ca) W (Ev.iEnum f)) := PI.imp (pi_enumA hg hm (pa_cons h pa_nil hs) hs) fun σ H Q q => by
  obtain ⟨φ, G, ρ, μ, ok, en, q⟩ := q
  unfold Ev.iEnum at q
  refine ⟨φ, G, ρ, μ, ok, en, post_bind q fun v1 φ1 G1 H1 x μ1 _ ext ok1 r1 q1 => ?_⟩
  split at q1
  · cases r1.inv_d with
    | tup h1 h2 => exact ⟨_, _, rfl, .inr ⟨Same.seqT ok1.le h1, post_ok q1 ok1 (itR_enumT h1 h2)⟩⟩
  · cases r1.inv_d with
    | lst h1 h2 => exact ⟨_, _, rfl, .inl ⟨ok1.le.seq (.inl (.inl h1)), post_ok q1 ok1 (itR_enum (.inl (.inl h1)) h2)⟩⟩
  · exact q1.elim
theorem si_zip {a b : Expr} {f g : Ev.E} {p pos tpos : Pos} {elts : List Expr} {kk : Nat} (hg : Gl X "zip") (hm : X.mg "zip" = none) (ha : PE X a (tE (ct X ca) W f)) (hb : PE X b (tE (ct X ca) W g))
    (hs : starEach [a, b] X.env = (false, eval a X.env) :: starEach [b] X.env := by rfl) (hs2 : starEach [b] X.env = (false, eval b X.env) :: starEach [] X.env := by rfl) (hpl : (backTo pos (starEach [b] X.env)).any (·.1) = false := by rfl) :
    PI X (.Tuple elts kk tpos) (.Call (.Name "zip" p) [a, b] [] pos) (tI (ct X ca) W (Ev.iZip f g)) := PI.imp (RZ.pi_zipA hg hm (pa_cons ha (pa_cons hb pa_nil hs2) hs) hs hpl) fun σ H Q q => by
  obtain ⟨φ, G, ρ, μ, ok, en, q⟩ := q
  unfold Ev.iZip at q
  refine ⟨φ, G, ρ, μ, ok, en, post_bind q fun v1 φ1 G1 H1 x μ1 _ ext ok1 r1 q1 => ?_⟩
  refine ⟨φ1, G1, ρ, μ1, ok1, en.ext ext, post_bind q1 fun v2 φ2 G2 H2 y μ2 _ ext2 ok2 r2 q2 => ?_⟩
  have r1 := ext2.rr r1
  split at q2
  · cases r1.inv_d with
    | lst h1 h2 =>
      cases r2.inv_d with
      | lst h3 h4 => exact ⟨_, _, _, _, rfl, .inl ⟨ok2.le.seq (.inl (.inl h1)), ok2.le.seq (.inl (.inl h3)), post_ok q2 ok2 (itR_zip (.inl (.inl h1)) (.inl (.inl h3)) h2 h4)⟩⟩
  · cases r1.inv_d with
    | tup h1 h2 =>
      cases r2.inv_d with
      | tup h3 h4 => exact ⟨_, _, _, _, rfl, .inr ⟨Same.seqT ok2.le h1, Same.seqT ok2.le h3, post_ok q2 ok2 (itR_zipT h1 h3 h2 h4)⟩⟩
  · exact q2.elim
end

/-! ### targets -/
structure Chg (is : List Nat) (σ : L2.St) (ρ : Ev.Env) (σ' : L2.St) (ρ' : Ev.Env) : Prop where
  len : σ'.length = σ.length
  out : ∀ j : Nat, j ∉ is → σ'[j]? = σ[j]?
  own : ∀ (j : Nat) (s : Ev.Sl), ρ'[j]? = some s → isOwn s = true → ρ[j]? = some s ∧ σ'[j]? = σ[j]?
theorem Chg.refl {is : List Nat} {σ : L2.St} {ρ : Ev.Env} : Chg is σ ρ σ ρ := ⟨rfl, fun _ _ => rfl, fun _ _ h _ => ⟨h, rfl⟩⟩
theorem Chg.trans {is js : List Nat} {σ σ1 σ2 : L2.St} {ρ ρ1 ρ2 : Ev.Env} (a : Chg is σ ρ σ1 ρ1) (b : Chg js σ1 ρ1 σ2 ρ2) : Chg (is ++ js) σ ρ σ2 ρ2 := by
  refine ⟨b.len.trans a.len, fun j hj => ?_, fun j s h o => ?_⟩
  · rw [b.out j fun z => hj (List.mem_append_right _ z), a.out j fun z => hj (List.mem_append_left _ z)]
  · obtain ⟨h1, h2⟩ := b.own j s h o
    obtain ⟨h3, h4⟩ := a.own j s h1 o
    exact ⟨h3, h2.trans h4⟩
theorem Chg.fresh {is : List Nat} {σ σ' : L2.St} {ρ ρ' : Ev.Env} {H0 : Hp} (a : Chg is σ ρ σ' ρ') (h : Fresh H0 σ ρ) : Fresh H0 σ' ρ' := fun i s b e o q => by
  obtain ⟨h1, h2⟩ := a.own i s e o
  exact h i s b h1 o (h2 ▸ q)
theorem wipe_get (σ : L2.St) (vs : List Nat) (j : Nat) : (wipe σ vs)[j]? = if j ∈ vs ∧ j < σ.length then some none else σ[j]? := by
  induction vs with
  | nil => simp [wipe]
  | cons v vs ih =>
    unfold wipe
    by_cases hv : v = j
    · subst hv
      by_cases hl : v < σ.length
      · rw [List.getElem?_set_self (by rw [wipe_length]; exact hl)]
        simp [hl]
      · rw [List.getElem?_eq_none (by simp [wipe_length]; omega), List.getElem?_eq_none (by omega)]
        simp [hl]
    · rw [List.getElem?_set_ne hv, ih]
      have : (j ∈ v :: vs) ↔ (j ∈ vs) := by simp [Ne.symm hv]
      simp only [this]
theorem Chg.wipe {is vs : List Nat} {σ σ' : L2.St} {ρ ρ' : Ev.Env} (a : Chg is (L2.wipe σ vs) ρ σ' ρ') (h : ∀ j ∈ is, j ∈ vs) : L2.wipe σ' vs = L2.wipe σ vs := by
  refine List.ext_getElem? fun j => ?_
  have hl : σ'.length = σ.length := by rw [a.len, wipe_length]
  rw [wipe_get, wipe_get, hl]
  split
  · rfl
  · rename_i hc
    by_cases hj : j ∈ is
    · have hjl : ¬ j < σ.length := fun z => hc ⟨h j hj, z⟩
      rw [List.getElem?_eq_none (by omega), List.getElem?_eq_none (by omega)]
    · rw [a.out j hj, wipe_get, if_neg hc]
/-- the target's reading g does what the evaluator's t says -/
def GOk (Γ : Ct) (g : TG) (t : Ev.Tg) (is : List Nat) : Prop := ∀ (φ : List Addr) (G H : Hp) (μ : Ev.Mem) (σ : L2.St) (ρ ρ' : Ev.Env) (v : V) (r : Ev.R) (Kt : L2.St → Hp → Prop),
  Ok Γ φ G H μ → EnvR Γ φ G H σ ρ → RR Γ φ G v r → t r ρ = some ρ' → (∀ σ', EnvR Γ φ G H σ' ρ' → Chg is σ ρ σ' ρ' → Kt σ' H) → g v σ H Kt
def GsOk (Γ : Ct) (g : TGs) (ts : List Ev.Tg) (is : List Nat) : Prop := ∀ (φ : List Addr) (G H : Hp) (μ : Ev.Mem) (σ : L2.St) (ρ ρ' : Ev.Env) (vs : List V) (rs : List Ev.R) (Kt : L2.St → Hp → Prop),
  Ok Γ φ G H μ → EnvR Γ φ G H σ ρ → RRs Γ φ G vs rs → Ev.tgs ts rs ρ = some ρ' → (∀ σ', EnvR Γ φ G H σ' ρ' → Chg is σ ρ σ' ρ' → Kt σ' H) → g vs σ H Kt
theorem gok_name {Γ : Ct} {i : Nat} : GOk Γ (gName i) (Ev.tgN i) [i] := fun φ G H μ σ ρ ρ' v r Kt ok en rr e k => by
  unfold Ev.tgN at e
  cases e
  refine k _ (en.set rr) ⟨by simp, fun j hj => ?_, fun j s h o => ?_⟩
  · rw [List.getElem?_set_ne (fun z => hj (by simp [z]))]
  · by_cases hij : i = j
    · subst hij
      by_cases hl : i < ρ.length
      · rw [List.getElem?_set_self hl] at h
        cases h; cases o
      · rw [List.getElem?_eq_none (by simpa using hl)] at h; cases h
    · rw [List.getElem?_set_ne hij] at h ⊢
      exact ⟨h, rfl⟩
theorem gsok_nil {Γ : Ct} : GsOk Γ gNil [] [] := fun φ G H μ σ ρ ρ' vs rs Kt ok en rr e k => by
  cases rr with
  | nil => cases e; exact ⟨rfl, k _ en Chg.refl⟩
  | cons => cases e
theorem gsok_cons {Γ : Ct} {g : TG} {u : TGs} {t : Ev.Tg} {ts : List Ev.Tg} {is js : List Nat} (h1 : GOk Γ g t is) (h2 : GsOk Γ u ts js) : GsOk Γ (gCons g u) (t :: ts) (is ++ js) := fun φ G H μ σ ρ ρ' vs rs Kt ok en rr e k => by
  cases rr with
  | nil => cases e
  | cons a b =>
    obtain ⟨ρ1, e1, e2⟩ := Option.bind_eq_some_iff.mp (show (t _ ρ).bind _ = some ρ' from e)
    refine ⟨_, _, rfl, h1 φ G H μ σ ρ ρ1 _ _ _ ok en a e1 fun σ1 en1 c1 => ?_⟩
    exact h2 φ G H μ σ1 ρ1 ρ' _ _ _ ok en1 b e2 fun σ2 en2 c2 => k σ2 en2 (c1.trans c2)
/-- (a, b, ..) = a tuple or a list of that length -/
def gSeq (K : PySem.W.Frag) (n : Nat) (t : TGs) : TG := fun v σ H Q => gTup K n t v σ H Q ∨ gUnl K n t v σ H Q
theorem pg_seq {X : Cx} {es : List Expr} {k : Nat} {t : TGs} {n : Nat} {pos : Pos} (hc : X.calm = true) (h : PGs X es t)
    (hn : (assignEach es X.env).length = n := by rfl) (hst : (assignEach es X.env).findIdx? (·.1) = none := by rfl) : PG X (.Tuple es k pos) (gSeq X.K n t) :=
  ⟨fun pins s σ H v u Q I r hw => hw.elim ((pg_tup hc h hn hst).run pins s σ H v u Q I r) ((pg_unl hc h hn hst).run pins s σ H v u Q I r)⟩
theorem tgs_len : ∀ {ts : List Ev.Tg} {rs : List Ev.R} {ρ ρ' : Ev.Env}, Ev.tgs ts rs ρ = some ρ' → rs.length = ts.length
  | [], [], _, _, _ => rfl
  | [], _ :: _, _, _, h => by cases h
  | _ :: _, [], _, _, h => by cases h
  | t :: ts, r :: rs, ρ, ρ', h => by
    obtain ⟨ρ1, e1, e2⟩ := Option.bind_eq_some_iff.mp (show (t _ ρ).bind _ = some ρ' from h)
    simp [tgs_len e2]
theorem gok_seq {Γ : Ct} {u : TGs} {ts : List Ev.Tg} {is : List Nat} {n : Nat} (hn : ts.length = n) (h : GsOk Γ u ts is) : GOk Γ (gSeq Γ.K n u) (Ev.tgT ts) is := fun φ G H μ σ ρ ρ' v r Kt ok en rr e k => by
  unfold Ev.tgT at e
  split at e
  · rename_i ds
    have hl := tgs_len e
    cases rr.inv_d with
    | tup h1 h2 => exact .inl ⟨_, _, rfl, Same.seqT ok.le h1, by rw [h2.len, ← hn, ← hl, List.length_map], h φ G H μ σ ρ ρ' _ _ _ ok en (RRs.ofD h2) e k⟩
  · have hl := tgs_len e
    cases rr.inv_d with
    | lst h1 h2 => exact .inr ⟨_, _, rfl, .inl (.inl (ok.le _ _ h1)), by rw [h2.len, ← hn, ← hl, List.length_map], h φ G H μ σ ρ ρ' _ _ _ ok en (RRs.ofD h2) e k⟩
  · cases e

/-! ### comprehensions -/
/-- nothing may be raised within a comprehension -/
def Wn : WX := fun _ _ _ _ => False
theorem XS.blk {X : Cx} {W : WX} {k : Nat} (x : XS X W k) {s : Shared} {H : Hp} {scope : Scope} {ce : Env} {fp : List Addr} : XS (X.blk s H scope ce fp) Wn k :=
  ⟨x.calm, x.nd, x.room, fun u s' ⟨_, _, _, _, _, _, _, _, _, _, _, _, _, _, _, _, w⟩ => w.elim, PassesOwn.never, fun _ _ _ _ _ h => h⟩
section
variable {X : Cx} {W : WX} {ca : Cn} {k : Nat}
theorem Ext.keep2 {φ φ1 : List Addr} {G G1 H H1 : Hp} {c : Addr} {o : HO} (a : Ext φ G H φ1 G1 H1) (h : H c = some o ∧ c ∉ φ ∧ G c = none) (ht : ∀ q, o ≠ .tbl q := by intro q z; cases z) : H1 c = some o ∧ c ∉ φ1 ∧ G1 c = none := a.keep h.1 h.2.1 h.2.2 ht
theorem lc_of {X : Cx} {own : List (Str × Nat)} {g : TG} {t : Ev.Tg} {is : List Nat} {it : Ev.It} {c : Ev.T} {fe : Ev.E} {tt : TT} {σ : L2.St} {H : Hp} {Q : VK}
    (gk : GOk (ct X ca) g t is) (hin : ∀ j ∈ is, j ∈ own.map (·.2)) (htt : ∀ σ H Q, tT (ct X ca) Wn c σ H Q → tt σ H Q) (q : tN (ct X ca) W (Ev.eComp (own.map (·.2)) t it c fe) σ H Q) :
    tLc (tI (ct X ca) W it) g tt (tE (ct X ca) Wn fe) (own.map (·.2)) σ H Q := by
  obtain ⟨φ, G, ρ, μ, ok, en, q⟩ := q
  generalize hown : own.map (·.2) = vs at hin q ⊢
  unfold Ev.eComp at q
  refine ⟨φ, G, ρ, μ, ok, en, postN_bind q fun J φ1 G1 H1 xl μ1 _ ext ok1 ir q1 D hD => ?_⟩
  have en1 := en.ext ext
  -- the whole walk, by the evaluator alone
  cases hc : Ev.compL t c fe xl (Ev.wipeE ρ vs) μ1 with
  | no => rw [hc] at q1; exact q1.elim
  | exn e μ' => exact absurd hc (Ev.compL_exn _ _ _ _ _ _ _ _)
  | ok ys μf =>
    rw [hc] at q1
    have q1 : postN (ct X ca) (WE W σ) φ1 G1 H1 (if ys.length ≤ Ev.SL then .ok (Ev.mkL ys) μf else .no) Q := q1
    split at q1
    · rename_i hlen
      have qf : ∀ a φ' G' H', Ext φ1 G1 H1 φ' G' H' → Ok (ct X ca) φ' G' H' μf → H1 a = none → G' a = none → a ∉ φ' → Nw (ct X ca) φ' G' H' a (Ev.mkL ys) → Q (.ref a) H' := q1
      refine lc_it ir.walk (fun i H => ∃ φ' G' μ' acc rs ys', Ext φ1 G1 H1 φ' G' H ∧ Ok (ct X ca) φ' G' H μ' ∧ (H D = some (.lst acc) ∧ D ∉ φ' ∧ G' D = none) ∧ RRs (ct X ca) φ' G' acc rs ∧
        Ev.compL t c fe (xl.drop i) (Ev.wipeE ρ vs) μ' = .ok ys' μf ∧ rs ++ ys' = ys) ?_ ?_ ?_ ?_
      · exact ⟨φ1, G1, μ1, [], [], ys, Ext.of_same (same_upd hD), ok1.new0 hD, ⟨upd_same, ok1.nphi hD, ok1.ng hD⟩, .nil, hc, rfl⟩
      · rintro i H hi ⟨φ', G', μ', acc, rs, ys', e1, ok', _⟩
        exact e1.g.trans ok'.le
      · rintro i x H H' hi ⟨φ', G', μ', acc, rs, ys', e1, ok', hd, rr, hcl, hys⟩ y
        have hx : xl[i]? = some xl[i] := by simp [hi]
        obtain ⟨G2, e2, ok2, rx⟩ := (ir.ext e1).turn ok' hx y
        rw [List.drop_eq_getElem_cons hi, Ev.compL_cons] at hcl
        cases htg : t xl[i] (Ev.wipeE ρ vs) with
        | none => rw [htg] at hcl; cases hcl
        | some ρ1 =>
          rw [htg] at hcl
          dsimp only at hcl
          obtain ⟨b, μ2, hb2, hcl⟩ := Ev.bind_eq_ok hcl
          have hb2 := Ev.nx_eq_ok hb2
          refine gk φ' G2 H' μ' _ _ ρ1 x _ _ ok2 (((en1.ext e1).ext e2).wipe vs) rx htg fun σ2 en2 ch => ⟨ch.wipe hin, htt _ _ _ ⟨φ', G2, ρ1, μ', ok2, en2, ?_⟩⟩
          rw [hb2]
          intro v φ3 G3 H3 e3 ok3 hv
          have hv : v = b := hv
          subst hv
          have hd3 := e3.keep2 (e2.keep2 hd)
          have e13 := (e1.trans e2).trans e3
          cases v with
          | false =>
            rw [if_neg (by decide)] at hcl ⊢
            exact ⟨φ3, G3, μ2, acc, rs, ys', e13, ok3, hd3, e3.rrs (e2.rrs rr), hcl, hys⟩
          | true =>
            rw [if_pos rfl] at hcl ⊢
            obtain ⟨z, μ3, hz, hcl⟩ := Ev.bind_eq_ok hcl
            have hz := Ev.nx_eq_ok hz
            obtain ⟨ys2, μ4, hcl, hcl2⟩ := Ev.bind_eq_ok hcl
            cases hcl2
            refine ⟨φ3, G3, ρ1, μ2, ok3, en2.ext e3, ?_⟩
            rw [hz]
            intro v φ4 G4 H4 e4 ok4 hv
            have hd4 := e4.keep2 hd3
            have hl : acc.length < sizeLine := by
              have h1 := rr.len
              have h2 : (rs ++ z :: ys2).length ≤ Ev.SL := by rw [hys]; exact hlen
              rw [List.length_append, List.length_cons] at h2
              rw [← SL_eq]; omega
            refine ⟨acc, hd4.1, hl, φ4, G4, μ3, acc ++ [v], rs ++ [z], ys2, (e13.trans e4).upd hD, ok4.upd hd4.2.1 hd4.2.2 (fun a q => by rw [hd4.1] at q; cases q) (fun a q => by rw [hd4.1] at q; cases q), ⟨upd_same, hd4.2.1, hd4.2.2⟩, ?_, hcl, by rw [← hys]; simp⟩
            exact (e4.rrs (e3.rrs (e2.rrs rr))).append (.cons hv .nil)
      · rintro H ⟨φ', G', μ', acc, rs, ys', e1, ok', hd, rr, hcl, hys⟩
        rw [List.drop_length] at hcl
        cases hcl
        rw [List.append_nil] at hys
        subst hys
        exact qf D φ' G' H e1 ok' hD hd.2.2 hd.2.1 (.lst hd.1 rr)
    · exact q1.elim
theorem sn_comp {elt tg iter : Expr} {ifs : List Expr} {scope : Scope} {own : List (Str × Nat)} {pos : Pos} {g : TG} {t : Ev.Tg} {is : List Nat} {it : Ev.It} {c : Ev.T} {fe : Ev.E} {tt : TT}
    (xs : XS X W k) (hi : PI X tg iter (tI (ct X ca) W it)) (hb : BlkOk X.N X.env.scope scope own)
    (hg : ∀ (s : Shared) (H : Hp) (C : Addr) (cl : List (Str × Addr)) (fp : List Addr), PG (X.blk s H scope (compEnvC scope cl C X.env) fp) tg g)
    (gk : GOk (ct X ca) g t is) (hin : ∀ j ∈ is, j ∈ own.map (·.2))
    (ht : ∀ (s : Shared) (H : Hp) (C : Addr) (cl : List (Str × Addr)) (fp : List Addr), PTs (X.blk s H scope (compEnvC scope cl C X.env) fp) ifs tt)
    (htt : ∀ σ H Q, tT (ct X ca) Wn c σ H Q → tt σ H Q)
    (he : ∀ (s : Shared) (H : Hp) (C : Addr) (cl : List (Str × Addr)) (fp : List Addr), PE (X.blk s H scope (compEnvC scope cl C X.env) fp) elt (tE (ct X ca) Wn fe)) (hs : ∀ x, foldedSetIterable iter X.env x = pure x := by intro _; rfl) :
    PE X (.ListComp elt [⟨tg, iter, ifs, 0⟩] scope pos) (tN (ct X ca) W (Ev.eComp (own.map (·.2)) t it c fe)) := PE.imp (pe_lc xs.calm xs.nd hi hb hg ht he hs) fun σ H Q q => lc_of gk hin htt q
/-- name = [..] on one line -/
theorem pa_comp {i : Nat} {y : Str} {py spos : Pos} {elt tg iter : Expr} {ifs : List Expr} {scope : Scope} {own : List (Str × Nat)} {pos : Pos} {g : TG} {t : Ev.Tg} {is : List Nat} {it : Ev.It} {c : Ev.T} {fe : Ev.E} {tt : TT}
    (xs : XS X W k) (hy : X.N[i]? = some y) (hyl : X.env.scope.names.lookup y = some .local) (hi : PI X tg iter (tI (ct X ca) W it)) (hb : BlkOk X.N X.env.scope scope own)
    (hg : ∀ (s : Shared) (H : Hp) (C : Addr) (cl : List (Str × Addr)) (fp : List Addr), PG (X.blk s H scope (compEnvC scope cl C X.env) fp) tg g)
    (gk : GOk (ct X ca) g t is) (hin : ∀ j ∈ is, j ∈ own.map (·.2))
    (ht : ∀ (s : Shared) (H : Hp) (C : Addr) (cl : List (Str × Addr)) (fp : List Addr), PTs (X.blk s H scope (compEnvC scope cl C X.env) fp) ifs tt)
    (htt : ∀ σ H Q, tT (ct X ca) Wn c σ H Q → tt σ H Q)
    (he : ∀ (s : Shared) (H : Hp) (C : Addr) (cl : List (Str × Addr)) (fp : List Addr), PE (X.blk s H scope (compEnvC scope cl C X.env) fp) elt (tE (ct X ca) Wn fe))
    (hsw : swapsWith (.ListComp elt [⟨tg, iter, ifs, 0⟩] scope pos) (some (.Name y py)) spos.line X.env = pure true := by rfl) (hs : ∀ x, foldedSetIterable iter X.env x = pure x := by intro _; rfl) :
    PS X (.Assign [.Name y py] (.ListComp elt [⟨tg, iter, ifs, 0⟩] scope pos) spos) (tAsg (tN (ct X ca) W (Ev.eComp (own.map (·.2)) t it c fe)) (gName i)) := PS.imp (ps_setLc xs.calm xs.nd hy hyl hsw hi hb hg ht he hs) fun D σ H q => lc_of gk hin htt q
/-- .. without a condition -/
theorem yes_of {X : Cx} {ca : Cn} : ∀ σ H Q, tT (ct X ca) Wn Ev.tYes σ H Q → L2.tYes σ H Q := fun σ H Q ⟨φ, G, ρ, μ, ok, en, q⟩ => by
  unfold Ev.tYes at q
  exact post_ok (x := true) (μ := μ) q ok rfl
section
variable {y : Str} {i : Nat} {py spos : Pos} {elt tg iter c : Expr} {scope : Scope} {own : List (Str × Nat)} {pos : Pos} {g : TG} {t : Ev.Tg} {is : List Nat} {it : Ev.It} {fc : Ev.T} {fe : Ev.E}
theorem sn_comp0 (xs : XS X W k) (hi : PI X tg iter (tI (ct X ca) W it)) (hb : BlkOk X.N X.env.scope scope own)
    (hg : ∀ (s : Shared) (H : Hp) (C : Addr) (cl : List (Str × Addr)) (fp : List Addr), PG (X.blk s H scope (compEnvC scope cl C X.env) fp) tg g) (gk : GOk (ct X ca) g t is) (hin : ∀ j ∈ is, j ∈ own.map (·.2))
    (he : ∀ (s : Shared) (H : Hp) (C : Addr) (cl : List (Str × Addr)) (fp : List Addr), PE (X.blk s H scope (compEnvC scope cl C X.env) fp) elt (tE (ct X ca) Wn fe)) (hs : ∀ x, foldedSetIterable iter X.env x = pure x := by intro _; rfl) :
    PE X (.ListComp elt [⟨tg, iter, [], 0⟩] scope pos) (tN (ct X ca) W (Ev.eComp (own.map (·.2)) t it Ev.tYes fe)) := sn_comp xs hi hb hg gk hin (fun _ _ _ _ _ => pts_nil) yes_of he hs
theorem sn_comp1 (xs : XS X W k) (hi : PI X tg iter (tI (ct X ca) W it)) (hb : BlkOk X.N X.env.scope scope own)
    (hg : ∀ (s : Shared) (H : Hp) (C : Addr) (cl : List (Str × Addr)) (fp : List Addr), PG (X.blk s H scope (compEnvC scope cl C X.env) fp) tg g) (gk : GOk (ct X ca) g t is) (hin : ∀ j ∈ is, j ∈ own.map (·.2))
    (hc : ∀ (s : Shared) (H : Hp) (C : Addr) (cl : List (Str × Addr)) (fp : List Addr), PT (X.blk s H scope (compEnvC scope cl C X.env) fp) c (tT (ct X ca) Wn fc))
    (he : ∀ (s : Shared) (H : Hp) (C : Addr) (cl : List (Str × Addr)) (fp : List Addr), PE (X.blk s H scope (compEnvC scope cl C X.env) fp) elt (tE (ct X ca) Wn fe)) (hs : ∀ x, foldedSetIterable iter X.env x = pure x := by intro _; rfl) :
    PE X (.ListComp elt [⟨tg, iter, [c], 0⟩] scope pos) (tN (ct X ca) W (Ev.eComp (own.map (·.2)) t it fc fe)) := sn_comp xs hi hb hg gk hin (fun s H C cl fp => pts_one (hc s H C cl fp)) (fun _ _ _ h => h) he hs
theorem pa_comp0 (xs : XS X W k) (hy : X.N[i]? = some y) (hyl : X.env.scope.names.lookup y = some .local) (hi : PI X tg iter (tI (ct X ca) W it)) (hb : BlkOk X.N X.env.scope scope own)
    (hg : ∀ (s : Shared) (H : Hp) (C : Addr) (cl : List (Str × Addr)) (fp : List Addr), PG (X.blk s H scope (compEnvC scope cl C X.env) fp) tg g) (gk : GOk (ct X ca) g t is) (hin : ∀ j ∈ is, j ∈ own.map (·.2))
    (he : ∀ (s : Shared) (H : Hp) (C : Addr) (cl : List (Str × Addr)) (fp : List Addr), PE (X.blk s H scope (compEnvC scope cl C X.env) fp) elt (tE (ct X ca) Wn fe))
    (hsw : swapsWith (.ListComp elt [⟨tg, iter, [], 0⟩] scope pos) (some (.Name y py)) spos.line X.env = pure true := by rfl) (hs : ∀ x, foldedSetIterable iter X.env x = pure x := by intro _; rfl) :
    PS X (.Assign [.Name y py] (.ListComp elt [⟨tg, iter, [], 0⟩] scope pos) spos) (tAsg (tN (ct X ca) W (Ev.eComp (own.map (·.2)) t it Ev.tYes fe)) (gName i)) := pa_comp xs hy hyl hi hb hg gk hin (fun _ _ _ _ _ => pts_nil) yes_of he hsw hs
theorem pa_comp1 (xs : XS X W k) (hy : X.N[i]? = some y) (hyl : X.env.scope.names.lookup y = some .local) (hi : PI X tg iter (tI (ct X ca) W it)) (hb : BlkOk X.N X.env.scope scope own)
    (hg : ∀ (s : Shared) (H : Hp) (C : Addr) (cl : List (Str × Addr)) (fp : List Addr), PG (X.blk s H scope (compEnvC scope cl C X.env) fp) tg g) (gk : GOk (ct X ca) g t is) (hin : ∀ j ∈ is, j ∈ own.map (·.2))
    (hc : ∀ (s : Shared) (H : Hp) (C : Addr) (cl : List (Str × Addr)) (fp : List Addr), PT (X.blk s H scope (compEnvC scope cl C X.env) fp) c (tT (ct X ca) Wn fc))
    (he : ∀ (s : Shared) (H : Hp) (C : Addr) (cl : List (Str × Addr)) (fp : List Addr), PE (X.blk s H scope (compEnvC scope cl C X.env) fp) elt (tE (ct X ca) Wn fe))
    (hsw : swapsWith (.ListComp elt [⟨tg, iter, [c], 0⟩] scope pos) (some (.Name y py)) spos.line X.env = pure true := by rfl) (hs : ∀ x, foldedSetIterable iter X.env x = pure x := by intro _; rfl) :
    PS X (.Assign [.Name y py] (.ListComp elt [⟨tg, iter, [c], 0⟩] scope pos) spos) (tAsg (tN (ct X ca) W (Ev.eComp (own.map (·.2)) t it fc fe)) (gName i)) := pa_comp xs hy hyl hi hb hg gk hin (fun s H C cl fp => pts_one (hc s H C cl fp)) (fun _ _ _ h => h) he hsw hs
end
end
end EvS
end

section
set_option maxHeartbeats 0
set_option Elab.async false
set_option linter.all false
set_option maxRecDepth 100000
/-! EvGen: all(..), any(..) of a generator expression. -/
namespace EvS
open PySem PySem.Spec PyProof.Rows L2 GenW GxR

/-! ### the table of code objects -/
section
variable {Γ : Ct} {φ : List Addr} {G H : Hp} {μ : Ev.Mem} {P : Addr} {ps qs : Array Value}
theorem Ok.tab (k : Ok Γ φ G H μ) (hp : ∃ c, (c, P) ∈ Γ.ca.tabs) (ho : H P = some (.tbl ps)) (ht : TriplesOk qs.toList) : Ok Γ φ G (L2.upd H P (.tbl qs)) μ := by
  obtain ⟨c, hp⟩ := hp
  obtain ⟨_, hn, hg⟩ := k.tb _ hp
  have hn : P ∉ φ := hn
  have hg : G P = none := hg
  have ne : ∀ {b : Addr} {x : HO}, G b = some x → b ≠ P := fun {b x} e z => by subst z; rw [hg] at e; cases e
  refine ⟨fun b x e => by rw [upd_ne (ne e)]; exact k.le b x e, k.nd, k.len, k.fre, fun a ha => ?_, fun n a c h1 h2 => ?_, fun q hq => ?_⟩
  · rw [upd_ne (show a ≠ P from fun z => hn (by rw [← z]; exact ha))]; exact k.thr a ha
  · have ha : a ≠ P := fun z => hn (by rw [← z]; exact List.mem_of_getElem? h1)
    refine (k.cell n a c h1 h2).keep (Same.refl _) (fun _ _ z => z) (fun o e => by rw [upd_ne ha]; exact e) fun d e => ?_
    rw [upd_ne (show d ≠ P from fun z => by rw [z, ho] at e; cases e)]; exact e
  · by_cases hq2 : q.2 = P
    · rw [hq2]; exact ⟨⟨qs, upd_same, ht⟩, hn, hg⟩
    · obtain ⟨⟨rs, e, t⟩, h2, h3⟩ := k.tb q hq
      exact ⟨⟨rs, by rw [upd_ne hq2]; exact e, t⟩, h2, h3⟩
theorem Ext.tab (ho : H P = some (.tbl ps)) : Ext φ G H φ G (L2.upd H P (.tbl qs)) :=
  ⟨Same.refl _, fun _ h => .inl h, ⟨[], by simp, by simp⟩, fun b x e hb => by
    by_cases hbP : b = P
    · subst hbP
      rw [ho] at e; cases e
      exact .inr ⟨ps, qs, rfl, upd_same⟩
    · exact .inl (by rw [upd_ne hbP]; exact e)⟩
end

/-! ### the generator's frame -/
abbrev gcx (X : Cx) (s : Shared) (H : Hp) (cenv : Env) (A : Around) (fp : List Addr) : Cx :=
  { X with s_0 := s, H_0 := H, env := cenv, A := A, outer := X.stack, stack := cenv :: X.stack, ex := fp, fn := fun _ => false, pn := [], xe := fun _ _ => False }
section
variable {X : Cx} {pins : List (Addr × Obj)} {σ : L2.St} {H : Hp} {s : Shared}
theorem Inv.setG {g' : Array GenState} (I : Inv X pins σ H s) (h : AllBare g') : Inv X pins σ H { s with gens := g' } := ⟨I.ok, I.os, h, I.base, I.loc, I.cell, I.free, I.freeC, I.pin, I.hok, I.len⟩
theorem gen_start {scope : Scope} {own : List (Str × Nat)} {fp : List Addr} {code : Value} {A : Around} {cenv : Env} {h' : Heap} {g' : Array GenState} {t' : Nat} {m0 : Str → Option Value} (I : Inv X pins σ H s) (ok : BlkOk X.N X.env.scope scope own) (hcell : ∀ y ∈ scope.names, y.2 ≠ .cell) (hN : X.N.Nodup)
    (hfp : ∀ b ∈ fp, FpOk X pins H b ∧ b < s.heap.objs.size) (hce : cenv = genEnv scope (cloFrom X.env.cells scope.names []) s.heap.objs.size code builtinsNs X.env) (hA : A.frames = some (cenv :: X.stack)) (hh : X.calm = true → A.handled = none) (hg : AllBare g')
    (hn : h'.Ns s.heap.objs.size m0) (kp : ∀ b o, s.heap.get? b = some o → h'.get? b = some o) :
    Inv (gcx X s H cenv A fp) [] (wipe σ (own.map (·.2))) H { s with heap := h', gens := g', toks := t' } := by
  have hfree : ∀ y ∈ scope.names, y.2 = .free → ∃ c, X.env.cells.lookup y.1 = some c := fun y hy e => by
    rcases ok.free y hy e with k | k
    · exact I.ok.has _ (.inl k)
    · exact I.ok.has _ (.inr k)
  have hL : cenv.locals = s.heap.objs.size := by rw [hce]; rfl
  have hcl : cenv.cells = cloFrom X.env.cells scope.names [] := by rw [hce]; rfl
  have hsc : cenv.scope = scope := by rw [hce]; rfl
  have cm : ∀ {y c}, (y, c) ∈ cloFrom X.env.cells scope.names [] → X.env.cells.lookup y = some c ∧ c < s.heap.objs.size := fun {y c} hm => by
    rcases cloFrom_mem hm with hm | ⟨h1, rfl⟩
    · cases hm
    · obtain ⟨c, hc⟩ := hfree _ h1 rfl
      rw [hc]
      obtain ⟨w, z⟩ := I.cell _ _ hc
      exact ⟨rfl, z.lt⟩
  have mem : ∀ {y c}, cenv.cells.lookup y = some c → X.env.cells.lookup y = some c ∧ c < s.heap.objs.size := fun {y c} e => by
    rw [hcl] at e
    exact cm (PySem.mem_of_lookup e)
  have look : ∀ {y}, scope.names.lookup y = some .free → ∃ c, cenv.cells.lookup y = some c ∧ X.env.cells.lookup y = some c := fun {y} hl => by
    have hy : (y, NameKind.free) ∈ scope.names := PySem.mem_of_lookup hl
    obtain ⟨c', e'⟩ := mem_lookup (cloFrom_has (cells := X.env.cells) (acc := []) hy)
    rw [← hcl] at e'
    exact ⟨c', e', (mem e').1⟩
  have okB : (gcx X s H cenv A fp).Ok := by
    refine ⟨I.ok.mod, by show cenv.scope.kind = _; rw [hsc]; exact ok.kind, by show cenv.globals = _; rw [hce]; exact I.ok.glob, by show cenv.builtins = _; rw [hce]; rfl, by show s.heap.objs.size ≤ cenv.locals; rw [hL]; exact Nat.le_refl _,
      fun y z c e1 e2 => I.ok.inj y z c (mem e1).1 (mem e2).1, fun y hy => ?_, (fun y c z e => by cases z), hh, hA, .inr ⟨rfl, by show cenv.frame = some cenv.locals; rw [hce]; rfl⟩, fun b hb => ⟨?_, fun y c e z => (hfp b hb).1.2.2.2.2.1 y c (mem e).1 z⟩, I.bs, Nat.le_trans I.ok.bsz I.sz, fun b o e hb => ?_, fun b hb z => ?_, I.stack, I.stkFree⟩
    · show ∃ c, cenv.cells.lookup y = some c
      have hy : cenv.kindOf y = some .cell ∨ cenv.kindOf y = some .free := hy
      unfold Env.kindOf at hy
      rw [hsc] at hy
      rcases hy with hy | hy
      · exact absurd rfl (hcell _ (PySem.mem_of_lookup hy))
      · obtain ⟨c, h1, _⟩ := look hy
        exact ⟨c, h1⟩
    · show b ≠ cenv.locals
      rw [hL]; exact Nat.ne_of_lt (hfp b hb).2
    · rcases (hfp b hb).1.2.2.2.1 with z | z
      · exact I.ok.noex b o e z
      · exact absurd (Nat.lt_of_lt_of_le (Heap.lt_size e) (Nat.le_trans I.ok.bsz z)) (Nat.lt_irrefl _)
    · rcases List.mem_cons.mp (I.stkSub b z) with z | z
      · exact (hfp b hb).1.2.1 z
      · exact (hfp b hb).1.2.2.1 z
  refine ⟨okB, rfl, hg, Un.kept kp, ⟨m0, ?_, fun i y av e1 e2 e3 => ?_⟩, fun y c e => ?_, ?_, fun y c e => ?_, fun p hp => ?_, I.hok.kept kp, by rw [wipe_length]; exact I.len⟩
  · show Heap.Ns _ cenv.locals _
    rw [hL]; exact hn
  · obtain ⟨e2, hne⟩ := wipe_some e2
    have hfr : scope.names.lookup y = some .free := by
      have no : ¬ (scope.names.lookup y = some .local ∨ scope.names.lookup y = some .cell) := fun hh => by
        have key : ∀ k', scope.names.lookup y = some k' → k' = .local ∨ k' = .cell → False := fun k' e hk => by
          rcases ok.own _ (PySem.mem_of_lookup e) hk with e' | e'
          · obtain ⟨p, hp, hpy⟩ := List.mem_map.mp e'
            have e3 := ok.ix p hp
            have : p.1 = y := hpy
            rw [this] at e3
            exact hne (List.mem_map.mpr ⟨p, hp, nodup_ix hN e3 e1⟩)
          · exact e' (List.mem_of_getElem? e1)
        rcases hh with h | h
        · exact key _ h (.inl rfl)
        · exact key _ h (.inr rfl)
      have e3 : Vis cenv.scope y := e3
      rw [hsc] at e3
      rcases e3 with e3 | e3 | e3
      · exact absurd (.inl e3) no
      · exact absurd (.inr e3) no
      · exact e3
    obtain ⟨m, hn, hl⟩ := I.loc
    have hvis : Vis X.env.scope y := (ok.free _ (PySem.mem_of_lookup hfr) rfl).elim (fun k => .inr (.inl k)) (fun k => .inr (.inr k))
    obtain ⟨w, r, q⟩ := hl i y av e1 e2 hvis
    refine ⟨w, r, .inr ⟨.inr (by show cenv.kindOf y = _; unfold Env.kindOf; rw [hsc]; exact hfr), ?_⟩⟩
    obtain ⟨c, h1, h2⟩ := look hfr
    rcases q with ⟨k, _⟩ | ⟨_, c', e', z⟩
    · have k : X.env.scope.names.lookup y = some .local := k
      rcases ok.free _ (PySem.mem_of_lookup hfr) rfl with k' | k' <;> rw [show X.env.scope.names.lookup y = _ from k'] at k <;> cases k
    · rw [h2] at e'; cases e'
      exact ⟨c, h1, z.keeps kp⟩
  · have e : cenv.cells.lookup y = some c := e
    obtain ⟨w, z⟩ := I.cell y c (mem e).1
    exact ⟨w, z.keeps kp⟩
  · show H cenv.locals = none
    rw [hL]; exact I.hok.fresh (Nat.le_refl _)
  · have e : cenv.cells.lookup y = some c := e
    exact I.freeC y c (mem e).1
  · exact absurd (show p ∈ ([] : List (Addr × Obj)) ++ [] from hp) (by simp)
end

/-! ### the consumer -/
section
variable {M : Model} {prog : Program} {w : World} {A : Around} {a : Addr} {g : Nat} {kk : Bool} {Fin : Bool → Shared → Prop} {Rf : Result → Shared → Prop}
def gR (g : Nat) (kk : Bool) (Fin : Bool → Shared → Prop) : GenEnd := fun n s₀ r s₁ => r = .ok .next ∧ ∀ h' : Heap, (∀ b o, s₁.heap.get? b = some o → h'.get? b = some o) → Fin kk { s₁.setGen g .finished with heap := h' }
def gY (a : Addr) (g : Nat) (kk : Bool) (Fin : Bool → Shared → Prop) : Protocol := fun m s₀ v s kap => ∃ b : Bool, v = .bool b ∧ s.heap.IsGen a g ∧ s.heap.NoLimit ∧ g < s.gens.size ∧ AllBare s.gens ∧ (b ≠ kk → ∀ gs' : GenState, gs'.bare = true → Fin b (s.setGen g gs')) ∧
  (b = kk → ∀ s'' : Shared, s''.heap = s.heap → s''.os = s.os → AllBare s''.gens → g < s''.gens.size → kap (.send .none) s'')
theorem setG_at {s : Shared} {x : GenState} (h : g < s.gens.size) : (s.setGen g x).gens[g]? = some x := L2.setGen_at h
theorem next_g (hh : A.handled = none) (hroom : A.depth < recursionLimit) {n : Nat} {s : Shared} {gs : GenState} {E : Value → Shared → Prop} {Q : Option Value → Shared → Prop} (hg : s.heap.IsGen a g) (hl : s.heap.NoLimit) (hgs : s.gens[g]? = some gs)
    (hgo : gs.Goes (model prog w) A.in1 (gR g kk Fin) (gY a g kk Fin) n (.send .none) (s.setGen g .running))
    (hy : ∀ (b : Bool) (s1 : Shared), (b ≠ kk → Fin b s1) → (b = kk → ∃ m gs', n = m + 1 ∧ s1.heap.IsGen a g ∧ s1.heap.NoLimit ∧ s1.gens[g]? = some gs' ∧ gs'.Goes (model prog w) A.in1 (gR g kk Fin) (gY a g kk Fin) m (.send .none) (s1.setGen g .running)) → Q (some (.bool b)) s1)
    (hd : ∀ s1, Fin kk s1 → Q none s1) : wpAny (model prog w) A (pyNext (.ref a)) Q E s := by
  refine wpAny_pyNext_genexpQ (P := fun n s₀ s₁ => ∀ h' : Heap, (∀ b o, s₁.heap.get? b = some o → h'.get? b = some o) → Fin kk { s₁.setGen g .finished with heap := h' }) (Y := gY a g kk Fin) hh hl hroom hg hgs hgo (fun v s₁ gs' hb hv => ?_) (fun s₁ hp h' hk => hd _ (hp h' hk))
  obtain ⟨b, rfl, h1, h2, h3, hbare, h4, h5⟩ := hv
  refine hy b _ (fun z => h4 z gs' hb) fun z => ?_
  cases n with
  | zero => exact (h5 z s₁ rfl rfl hbare h3).elim
  | succ m =>
    refine ⟨m, gs', rfl, h1, h2, setG_at h3, ?_⟩
    refine h5 z _ rfl rfl (allBare_setGen (allBare_setGen hbare hb) rfl) ?_
    rw [setGen_size, setGen_size]; exact h3
theorem all_go (hF : ∀ b s', Fin b s' → Rf (.ok (.ret (.bool b))) s') (hh : A.handled = none) (hroom : A.depth < recursionLimit) : ∀ (n : Nat) (s : Shared) (gs : GenState), s.heap.IsGen a g → s.heap.NoLimit → s.gens[g]? = some gs →
    gs.Goes (model prog w) A.in1.in1 (gR g true Fin) (gY a g true Fin) n (.send .none) (s.setGen g .running) → codeAny (model prog w) A (.builtin "all.loop" ⟨[.ref a], []⟩) Rf s := by
  intro n
  induction n with
  | zero =>
    intro s gs hg hl hgs hgo
    refine codeAny_builtin F.entry_all_loop ?_
    rw [Around.under_plainId F.plain_all_loop _]
    show wpAny _ A.in1 (pyNext (.ref a) >>= _) _ _ s
    refine wpAny_bind (next_g (A := A.in1) hh hroom hg hl hgs hgo (fun b s1 h1 h2 => ?_) fun s1 h1 => ?_)
    · cases b with
      | true => obtain ⟨m, _, z, _⟩ := h2 rfl; cases z
      | false =>
        refine wpAny_bind (wpAny_holding (wpAny_truthy_bool ?_))
        refine wpAny_bind (wpAny_letGo ?_)
        simp only [Bool.false_eq_true, if_false]
        exact wpAny_bind (wpAny_rule (wpAny_pure (hF _ _ (h1 (by decide)))))
    · exact wpAny_bind (wpAny_rule (wpAny_pure (hF _ _ h1)))
  | succ n ih =>
    intro s gs hg hl hgs hgo
    refine codeAny_builtin F.entry_all_loop ?_
    rw [Around.under_plainId F.plain_all_loop _]
    show wpAny _ A.in1 (pyNext (.ref a) >>= _) _ _ s
    refine wpAny_bind (next_g (A := A.in1) hh hroom hg hl hgs hgo (fun b s1 h1 h2 => ?_) fun s1 h1 => ?_)
    · cases b with
      | true =>
        obtain ⟨m, gs', z, q1, q2, q3, q4⟩ := h2 rfl
        cases z
        refine wpAny_bind (wpAny_holding (wpAny_truthy_bool ?_))
        refine wpAny_bind (wpAny_letGo ?_)
        simp only [if_true]
        exact wpAny_pure ⟨plainId_quiet F.plain_all_loop _, ih s1 gs' q1 q2 q3 q4⟩
      | false =>
        refine wpAny_bind (wpAny_holding (wpAny_truthy_bool ?_))
        refine wpAny_bind (wpAny_letGo ?_)
        simp only [Bool.false_eq_true, if_false]
        exact wpAny_bind (wpAny_rule (wpAny_pure (hF _ _ (h1 (by decide)))))
    · exact wpAny_bind (wpAny_rule (wpAny_pure (hF _ _ h1)))
theorem any_go (hF : ∀ b s', Fin b s' → Rf (.ok (.ret (.bool b))) s') (hh : A.handled = none) (hroom : A.depth < recursionLimit) : ∀ (n : Nat) (s : Shared) (gs : GenState), s.heap.IsGen a g → s.heap.NoLimit → s.gens[g]? = some gs →
    gs.Goes (model prog w) A.in1.in1 (gR g false Fin) (gY a g false Fin) n (.send .none) (s.setGen g .running) → codeAny (model prog w) A (.builtin "any.loop" ⟨[.ref a], []⟩) Rf s := by
  intro n
  induction n with
  | zero =>
    intro s gs hg hl hgs hgo
    refine codeAny_builtin F.entry_any_loop ?_
    rw [Around.under_plainId F.plain_any_loop _]
    show wpAny _ A.in1 (pyNext (.ref a) >>= _) _ _ s
    refine wpAny_bind (next_g (A := A.in1) hh hroom hg hl hgs hgo (fun b s1 h1 h2 => ?_) fun s1 h1 => ?_)
    · cases b with
      | false => obtain ⟨m, _, z, _⟩ := h2 rfl; cases z
      | true =>
        refine wpAny_bind (wpAny_holding (wpAny_truthy_bool ?_))
        refine wpAny_bind (wpAny_letGo ?_)
        simp only [if_true]
        exact wpAny_bind (wpAny_rule (wpAny_pure (hF _ _ (h1 (by decide)))))
    · exact wpAny_bind (wpAny_rule (wpAny_pure (hF _ _ h1)))
  | succ n ih =>
    intro s gs hg hl hgs hgo
    refine codeAny_builtin F.entry_any_loop ?_
    rw [Around.under_plainId F.plain_any_loop _]
    show wpAny _ A.in1 (pyNext (.ref a) >>= _) _ _ s
    refine wpAny_bind (next_g (A := A.in1) hh hroom hg hl hgs hgo (fun b s1 h1 h2 => ?_) fun s1 h1 => ?_)
    · cases b with
      | false =>
        obtain ⟨m, gs', z, q1, q2, q3, q4⟩ := h2 rfl
        cases z
        refine wpAny_bind (wpAny_holding (wpAny_truthy_bool ?_))
        refine wpAny_bind (wpAny_letGo ?_)
        simp only [Bool.false_eq_true, if_false]
        exact wpAny_pure ⟨plainId_quiet F.plain_any_loop _, ih s1 gs' q1 q2 q3 q4⟩
      | true =>
        refine wpAny_bind (wpAny_holding (wpAny_truthy_bool ?_))
        refine wpAny_bind (wpAny_letGo ?_)
        simp only [if_true]
        exact wpAny_bind (wpAny_rule (wpAny_pure (hF _ _ (h1 (by decide)))))
    · exact wpAny_bind (wpAny_rule (wpAny_pure (hF _ _ h1)))
end

/-! ### the generator runs -/
section
variable {X : Cx} {ca : Cn}
/-- what the elements' frame is -/
abbrev GX (X : Cx) (s : Shared) (H : Hp) (scope : Scope) (cenv : Env) (elt tg iter : Expr) (gpos : Pos) (it : Addr) (fp : List Addr) : Cx :=
  gcx X s H cenv (X.A.in1.in1.over (.compLoop (.GeneratorExp elt [⟨tg, iter, [], 0⟩] scope gpos) 0 (.ref it) .none cenv) []) fp
/-- the walk's state: i items are done -/
structure SgI (X Xg : Cx) (Γ : Ct) (a : Addr) (go : Obj) (g : Nat) (fp : List Addr) (tn : Nat → Heap → Prop) (φ1 : List Addr) (G1 H3 : Hp) (σw : L2.St) (al : Nat → Ev.Mem → Ev.Out Bool) (b : Bool) (μf : Ev.Mem) (i : Nat) (s : Shared) : Prop where
  ex : ∃ φ' G' H' μ', Inv Xg [(a, go)] σw H' s ∧ tn i s.heap ∧ (∀ x ∈ fp, H' x = none) ∧ g < s.gens.size ∧ Ext φ1 G1 H3 φ' G' H' ∧ Ok Γ φ' G' H' μ' ∧ al i μ' = .ok b μf
theorem seg_gx {kk b : Bool} {pins : List (Addr × Obj)} {σ : L2.St} {s3 : Shared} {H3 : Hp} {scope : Scope} {cenv : Env} {elt tg iter : Expr} {gpos : Pos} {it a : Addr} {go : Obj} {g : Nat} {fp : List Addr} {own : List (Str × Nat)} {J : It} {tn : Nat → Heap → Prop} {gt : TG} {t : Ev.Tg} {is : List Nat} {fe : Ev.E}
    {φ1 : List Addr} {G1 : Hp} {ρ : Ev.Env} {μf : Ev.Mem} {xl : List Ev.R} {Q : VK}
    (hc : X.calm = true) (I3 : Inv X pins σ H3 s3) (hfp : ∀ x ∈ fp, FpOk X pins H3 x) (hgo : ∀ h : Heap, h.get? a = some go → h.IsGen a g) (hfa : ∀ x ∈ fp, a ≠ x)
    (T : Turn X.prog X.w X.K tg J fp it tn) (pg : PG (GX X s3 H3 scope cenv elt tg iter gpos it fp) tg gt) (gk : GOk (ct X ca) gt t is) (hin : ∀ j ∈ is, j ∈ own.map (·.2)) (pe : PE (GX X s3 H3 scope cenv elt tg iter gpos it fp) elt (tE (ct X ca) Wn fe))
    (hco : cenv.scope.isCoroutine = false) (ir : ItR (ct X ca) φ1 G1 J xl) (en1 : EnvR (ct X ca) φ1 G1 H3 σ ρ)
    (qf : ∀ φ' G' H', Ext φ1 G1 H3 φ' G' H' → Ok (ct X ca) φ' G' H' μf → Q (.bl b) H') :
    ∀ (r i : Nat) (s₀ s : Shared), xl.length - i = r → i ≤ xl.length →
      SgI X (GX X s3 H3 scope cenv elt tg iter gpos it fp) (ct X ca) a go g fp tn φ1 G1 H3 (wipe σ (own.map (·.2))) (fun i μ => Ev.allL kk t fe (xl.drop i) (Ev.wipeE ρ (own.map (·.2))) μ) b μf i s →
      Seg (model X.prog X.w) X.A.in1.in1 (gR g kk fun b' s' => ∃ H', Inv X pins σ H' s' ∧ Q (.bl b') H') (gY a g kk fun b' s' => ∃ H', Inv X pins σ H' s' ∧ Q (.bl b') H') r s₀
        (.compLoop (.GeneratorExp elt [⟨tg, iter, [], 0⟩] scope gpos) 0 (.ref it) .none cenv) ((model X.prog X.w).den (.compLoop (.GeneratorExp elt [⟨tg, iter, [], 0⟩] scope gpos) 0 (.ref it) .none cenv)) [] s := by
  generalize hown : own.map (·.2) = vs at hin
  generalize hXg : GX X s3 H3 scope cenv elt tg iter gpos it fp = Xg at pg pe
  have hXA : Xg.A = X.A.in1.in1.over (.compLoop (.GeneratorExp elt [⟨tg, iter, [], 0⟩] scope gpos) 0 (.ref it) .none cenv) [] := by rw [← hXg]
  have hXe : Xg.env = cenv := by rw [← hXg]
  have hXp : Xg.prog = X.prog := by rw [← hXg]
  have hXw : Xg.w = X.w := by rw [← hXg]
  have hXK : Xg.K = X.K := by rw [← hXg]
  have hXc : Xg.calm = true := by rw [← hXg]; exact hc
  have hXx : ∀ e s, Xg.xe e s → False := by rw [← hXg]; exact fun _ _ h => h
  -- back in the def's context
  have back : ∀ {pins' : List (Addr × Obj)} {σ' : L2.St} {H' : Hp} {s' : Shared} {h' : Heap} {g' : Array GenState}, Inv Xg pins' σ' H' s' → AllBare g' → (∀ b o, s'.heap.get? b = some o → h'.get? b = some o) → Inv X pins σ H' { s' with heap := h', gens := g' } := by
    intro pins' σ' H' s' h' g' I6 hg hk
    subst hXg
    have I7 : Inv X pins σ H' s' := I3.call' (ch := fp) I6.os I6.base I6.hok I6.bare fun b hb => ⟨(hfp b hb).2.2.2.1, (hfp b hb).2.1, (hfp b hb).2.2.2.2.1, (hfp b hb).2.2.2.2.2⟩
    exact EvS.Inv.setG (I7.kept (t' := s'.toks) hk) hg
  have stat : ∀ {σ' : L2.St} {H' : Hp} {s' : Shared}, Inv Xg [(a, go)] σ' H' s' → (∀ b ∈ fp, H' b = none) → ∀ b ∈ fp, FpOk Xg [(a, go)] H' b := by
    intro σ' H' s' I' hn b hb
    have pnx : ∀ p ∈ Xg.pn ++ [(a, go)], p.1 ≠ b := fun p hp => by
      have hp : p ∈ ([] : List (Addr × Obj)) ++ [(a, go)] := by rw [← hXg] at hp; exact hp
      have hp : p = (a, go) := by simpa using hp
      rw [hp]; exact hfa b hb
    have ex : b ∈ Xg.ex := by rw [← hXg]; exact hb
    exact ⟨hn b hb, (I'.ok.exf b ex).1, I'.ok.exfs b ex, .inl ex, fun x c e => (I'.ok.exf b ex).2 x c e, pnx⟩
  have hy : ∀ v, yieldOut cenv v = yieldValue v := fun v => by simp only [yieldOut, hco, Bool.false_eq_true, if_false]
  intro r
  induction r with
  | zero =>
    intro i s₀ s hr hi st
    have hil : i = xl.length := by omega
    subst hil
    obtain ⟨φ', G', H', μ', I5, st5, n5, g5, e1, ok', hal⟩ := st.ex
    have hal : Ev.allL kk t fe (xl.drop xl.length) (Ev.wipeE ρ vs) μ' = .ok b μf := hal
    rw [List.drop_length] at hal
    cases hal
    show Seg _ _ _ _ _ s₀ _ ((compTurn (.GeneratorExp elt [⟨tg, iter, [], 0⟩] scope gpos) 0 (.ref it) .none cenv).onRaise (leaving cenv)) [] s
    rw [compTurn_gen, Sem.onRaise_eq_wrap]
    refine seg_bind_wrap (wpAny_standAt ?_)
    have td := T.done Xg hXp hXw hXK hXc xl.length [(a, go)] s _ H' (fun _ _ => False) I5 (stat I5 n5) st5 ((ir.ext e1).stops _ ok'.le)
    rw [hXA] at td
    refine seg_bind_wrap (thnF td fun r s6 ⟨hr, I6⟩ => ?_)
    subst hr
    exact seg_end (.ok .next) ⟨rfl, fun h' hk => ⟨H', back (s' := s6) (g' := (s6.setGen g .finished).gens) I6 (allBare_setGen I6.bare rfl) hk, qf _ _ _ e1 ok'⟩⟩
  | succ r ih =>
    intro i s₀ s hr hi st
    have hlt : i < xl.length := by omega
    obtain ⟨φ', G', H', μ', I5, st5, n5, g5, e1, ok', hal⟩ := st.ex
    have hal : Ev.allL kk t fe (xl.drop i) (Ev.wipeE ρ vs) μ' = .ok b μf := hal
    show Seg _ _ _ _ _ s₀ _ ((compTurn (.GeneratorExp elt [⟨tg, iter, [], 0⟩] scope gpos) 0 (.ref it) .none cenv).onRaise (leaving cenv)) [] s
    rw [compTurn_gen, Sem.onRaise_eq_wrap]
    refine seg_bind_wrap (wpAny_standAt ?_)
    have ti := T.item Xg hXp hXw hXK hXc i [(a, go)] s _ H' (fun _ _ => False) I5 (stat I5 n5) st5 ((ir.ext e1).goes _ _ hlt ok'.le)
    rw [hXA] at ti
    refine seg_bind_wrap (wpAny_gsz (n := g + 1) g5 (thnF ti fun r s6 ⟨u, hr, h6⟩ g6 => ?_))
    subst hr
    refine seg_bind_wrap (wpAny_gsz (n := g + 1) g6 (thnF h6 fun _ s7 ⟨x, H7, I7, r7, y7, st7, n7⟩ g7 => ?_))
    have I7' := I7.pinned (stat I7 n7) (T.obj _ _ st7)
    have hx : xl[i]? = some xl[i] := by simp [hlt]
    obtain ⟨G2, e2, ok2, rx⟩ := (ir.ext e1).turn ok' hx y7
    rw [List.drop_eq_getElem_cons hlt, Ev.allL_cons] at hal
    cases htg : t xl[i] (Ev.wipeE ρ vs) with
    | none => rw [htg] at hal; cases hal
    | some ρ1 =>
      rw [htg] at hal
      dsimp only at hal
      obtain ⟨z, μ3, hz, hal⟩ := Ev.bind_eq_ok hal
      have hz := Ev.nx_eq_ok hz
      have hga := gk φ' G2 H7 μ' _ _ ρ1 x _ (fun σ2 H2 => wipe σ2 vs = wipe σ vs ∧ H2 = H7 ∧ EnvR (ct X ca) φ' G2 H7 σ2 ρ1) ok2 (((en1.ext e1).ext e2).wipe vs) rx htg fun σ2 en2 ch => ⟨ch.wipe hin, rfl, en2⟩
      have hpa := pg.run _ s7 _ H7 x u _ I7' r7 hga
      rw [hXA, hXp, hXw, hXe] at hpa
      refine seg_bind_wrap (wpAny_gsz (n := g + 1) g7 (wpAny_mono hpa (fun _ s8 ⟨σ8, H8, I8, hw8, hH8, en8⟩ g8 => ?_) fun e s hx => (hXx e s hx).elim))
      subst hH8
      simp only [List.forIn_nil]
      refine seg_bind_wrap (wpAny_pure ?_)
      simp only [if_true]
      simp only [hy]
      rw [Sem.bind_eq_wrap', Sem.bind_eq_wrap', Sem.wrap_wrap, Sem.wrap_wrap]
      have hpe := pe.run _ s8 σ8 H8 (fun v H4 => ∃ φ4 G4, Ext φ' G2 H8 φ4 G4 H4 ∧ Ok (ct X ca) φ4 G4 H4 μ3 ∧ RR (ct X ca) φ4 G4 v z) I8 ⟨φ', G2, ρ1, μ', ok2, en8, by
        rw [hz]
        exact fun v φ4 G4 H4 e4 ok4 hv => ⟨φ4, G4, e4, ok4, hv⟩⟩
      rw [hXA, hXp, hXw, hXe] at hpe
      refine seg_wrap (wpAny_gsz (n := g + 1) g8 (wpAny_mono hpe (fun y s9 h9 g9 => ?_) fun e s hx => (hXx e s hx).elim))
      obtain ⟨v, H9, I9, r9, φ4, G4, e4, ok4, hv⟩ := h9
      have e14 := (e1.trans e2).trans e4
      cases z with
      | d zd =>
        cases zd with
        | bl bb =>
          have hv := hv.bl
          subst hv
          have r9 : y = .bool bb := r9
          subst r9
          have hgen : s9.heap.IsGen a g := hgo _ (I9.pin (a, go) (by simp)).1
          refine seg_at (seg_yield rfl rfl rfl ⟨bb, rfl, hgen, I9.nolimit, g9, I9.bare, fun hne gs' hb => ?_, fun heq s'' q1 q2 q3 q4 => ?_⟩)
          · dsimp only at hal
            rw [if_neg hne] at hal
            cases hal
            exact ⟨H9, back (s' := s9) (h' := s9.heap) (g' := (s9.setGen g gs').gens) I9 (allBare_setGen I9.bare hb) fun _ _ z => z, qf _ _ _ e14 ok4⟩
          · dsimp only at hal
            rw [if_pos heq] at hal
            refine seg_again rfl (ih (i + 1) s'' s'' (by omega) hlt ⟨⟨φ4, G4, H9, μ3, ?_, ?_, ?_, q4, e14, ok4, hal⟩⟩)
            · have hl : (wipe σ vs).length = σ8.length := by rw [← hw8, wipe_length]
              have I10 : Inv Xg [(a, go)] (wipe σ vs) H9 s9 := (I9.unpinned).weak hl (fun j v e => by
                rw [← hw8] at e
                exact (wipe_some e).1)
              have e := sh_eta s9 s'' q2
              rw [← e]
              exact ⟨I10.ok, I10.os, q3, by rw [q1]; exact I10.base, by rw [q1]; exact I10.loc, by rw [q1]; exact I10.cell, I10.free, I10.freeC, by rw [q1]; exact I10.pin, by rw [q1]; exact I10.hok, I10.len⟩
            · rw [q1]
              exact T.keep _ _ _ st7 fun b hb o e => (I9.pin (b, o) (List.mem_append_right _ (List.mem_append_right _ (mem_pinsAt hb e)))).1
            · intro b hb
              obtain ⟨o, e, _⟩ := T.obj _ _ st7 b hb
              exact (I9.pin (b, o) (List.mem_append_right _ (List.mem_append_right _ (mem_pinsAt hb e)))).2.1
        | _ => cases hal
      | _ => cases hal
end

/-! ### the call -/
abbrev gX (X : Cx) (s : Shared) (H : Hp) (scope : Scope) (cl : List (Str × Addr)) (C : Addr) (code : Value) (A : Around) (fp : List Addr) : Cx := gcx X s H (genEnv scope cl C code builtinsNs X.env) A fp
theorem XS.gen {X : Cx} {W : WX} {k : Nat} (x : XS X W k) {s : Shared} {H : Hp} {scope : Scope} {cl : List (Str × Addr)} {C : Addr} {code : Value} {A : Around} {fp : List Addr} (r : RoomG k A) : XS (gX X s H scope cl C code A fp) Wn k :=
  ⟨x.calm, x.nd, r, fun u s' ⟨_, _, _, _, _, _, _, _, _, _, _, _, _, _, _, _, w⟩ => w.elim, PassesOwn.never, fun _ _ _ _ _ h => h⟩
theorem room_gen {X : Cx} {k : Nat} {elt tg iter : Expr} {scope : Scope} {gpos : Pos} {it : Value} {cenv : Env} (hr : RoomG k X.A) (sl : Slk X k) : RoomG k (X.A.in1.in1.over (.compLoop (.GeneratorExp elt [⟨tg, iter, [], 0⟩] scope gpos) 0 it .none cenv) []) := by
  have h1 := sl.dp
  have h2 := sl.un
  refine ⟨⟨hr.r.hd, ?_, ?_⟩, ?_⟩
  · show X.A.depth + 0 + 1 + 3 * k + 5 < _
    omega
  · show X.A.units + 1 + 1 + 0 + 3 + 16 * k + 200 < _
    omega
  · exact hr.g
section
variable {X : Cx} {W : WX} {ca : Cn} {k : Nat}
theorem gen_eval {kk : Bool} {pins : List (Addr × Obj)} {s : Shared} {σ : L2.St} {H : Hp} {Q : VK} {elt tg iter : Expr} {scope : Scope} {own : List (Str × Nat)} {gpos : Pos} {gt : TG} {t : Ev.Tg} {is : List Nat} {fit : Ev.It} {fe : Ev.E} {Q' : Value → Shared → Prop}
    (xs : XS X W k) (sl : Slk X k) (tb : Tbx X ca) (hi : PI X tg iter (tI (ct X ca) W fit)) (hb : BlkOk X.N X.env.scope scope own) (hcell : ∀ y ∈ scope.names, y.2 ≠ .cell) (hdot : scope.names.lookup (".0" : Str) = some NameKind.local) (hco : scope.isCoroutine = false)
    (hg : ∀ (s : Shared) (H : Hp) (cl : List (Str × Addr)) (C : Addr) (code : Value) (A : Around) (fp : List Addr), RoomG k A → PG (gX X s H scope cl C code A fp) tg gt)
    (gk : GOk (ct X ca) gt t is) (hin : ∀ j ∈ is, j ∈ own.map (·.2))
    (he : ∀ (s : Shared) (H : Hp) (cl : List (Str × Addr)) (C : Addr) (code : Value) (A : Around) (fp : List Addr), RoomG k A → PE (gX X s H scope cl C code A fp) elt (tE (ct X ca) Wn fe))
    (hs : ∀ v, genFold iter X.env v = pure v) (I : Inv X pins σ H s) (q : tE (ct X ca) W (Ev.eAll kk (own.map (·.2)) t fit fe) σ H Q)
    (hQ : ∀ (a : Addr) (g n : Nat) (gs : GenState) (s5 : Shared), s5.heap.IsGen a g → s5.heap.NoLimit → s5.gens[g]? = some gs →
      gs.Goes (model X.prog X.w) X.A.in1.in1 (gR g kk fun b' s' => ∃ H', Inv X pins σ H' s' ∧ Q (.bl b') H') (gY a g kk fun b' s' => ∃ H', Inv X pins σ H' s' ∧ Q (.bl b') H') n (.send .none) (s5.setGen g .running) → Q' (.ref a) s5) :
    wpAny (model X.prog X.w) X.A (eval (.GeneratorExp elt [⟨tg, iter, [], 0⟩] scope gpos) X.env) Q' X.xe s := by
  obtain ⟨φ, G, ρ, μ, ok, en, q⟩ := q
  unfold Ev.eAll at q
  have hfree : ∀ y ∈ scope.names, y.2 = .free → ∃ c, X.env.cells.lookup y.1 = some c := fun y hy e => by
    rcases hb.free y hy e with k | k
    · exact I.ok.has _ (.inl k)
    · exact I.ok.has _ (.inr k)
  refine wpAny_GeneratorExp_make hco (closure_ok hfree) hcell hdot hb.kind xs.room.r.depth ?_ hs
  refine thn (hi.run pins s σ H (fun J H1 => ∃ φ1 G1 xl μ1, Ext φ G H φ1 G1 H1 ∧ Ok (ct X ca) φ1 G1 H1 μ1 ∧ ItR (ct X ca) φ1 G1 J xl ∧
    post (ct X ca) (WE W σ) φ1 G1 H1 ((Ev.allL kk t fe xl (Ev.wipeE ρ (own.map (·.2))) μ1).nx.bind fun b μ => .ok (.d (.bl b)) μ) (rRR (ct X ca)) Q) I
    ⟨φ, G, ρ, μ, ok, en, post_bind q fun J φ1 G1 H1 xl μ1 _ ext ok1 ir q1 => ⟨φ1, G1, xl, μ1, ext, ok1, ir, q1⟩⟩) fun xv s1 hx => thn hx fun itv s2 h2 => ?_
  obtain ⟨it, fp, tn, J, H2, rfl, I2, T, st2, f2, φ1, G1, xl, μ1, ext, ok1, ir, q1⟩ := h2
  refine ⟨I2.nolimit, ?_⟩
  obtain ⟨c, P, hcode, hcP, TB⟩ := tb
  obtain ⟨⟨ps, hP, ht⟩, hPn, hPG⟩ := ok1.tb _ hcP
  have hP : H2 P = some (.tbl ps) := hP
  have hPs : s2.heap.get? P = some { cls := .none, data := .fields ps } := I2.hok P _ hP
  have cd : PySem.W.CodeHd s2.heap c P := TB.code.keeps fun b u e => I2.bk b u e
  have fpP : ∀ b ∈ fp, b ≠ P := fun b hb z => by
    have := (f2 b hb).1
    rw [z, hP] at this; cases this
  have cont : ∀ (code : Value) (h3 : Heap) (tk : Nat) (ps' : Array Value), Heap.ExtBut P s2.heap h3 → h3.get? P = some { cls := .none, data := .fields ps' } → (∃ more, ps' = ps ++ more) → TriplesOk ps'.toList →
      wpAny (model X.prog X.w) X.A (builtinsFor X.env.globals X.env.builtins) (fun bi s₄ =>
        ∀ h', h'.Ns s₄.heap.objs.size (fun y => if y = ".0" then some (.ref it) else none) → Heap.SameBut s₄.heap.objs.size (s₄.heap.push { cls := .type "frame", data := .dict #[] }) h' →
          Q' (.ref h'.objs.size) { s₄ with
            gens := s₄.gens.push (.fresh (.compStart (.GeneratorExp elt [⟨tg, iter, [], 0⟩] scope gpos) 0 (.ref it) .none (genEnv scope (cloFrom X.env.cells scope.names []) s₄.heap.objs.size code bi X.env))),
            toks := s₄.toks + 1 + 1 + 1,
            heap := h'.push { cls := .type "generator", data := .fields #[.int s₄.gens.size 0, .str "<genexpr>" (s₄.toks + 1), .str (X.env.qual ++ "<genexpr>") (s₄.toks + 1 + 1)] } }) X.xe { s2 with heap := h3, toks := tk } := by
    intro code h3 tk ps' hx hP3 hmore ht3
    obtain ⟨more, rfl⟩ := hmore
    have I3 : Inv X pins σ (L2.upd H2 P (.tbl (ps ++ more))) { s2 with heap := h3, toks := tk } := inv_tab (g' := s2.gens) (d' := s2.drawn) (t' := tk) I2 hP hx hP3 I2.bare
    have ok3 : Ok (ct X ca) φ1 G1 (L2.upd H2 P (.tbl (ps ++ more))) μ1 := ok1.tab ⟨c, hcP⟩ hP ht3
    have ext3 : Ext φ1 G1 H2 φ1 G1 (L2.upd H2 P (.tbl (ps ++ more))) := Ext.tab hP
    have st3 : tn 0 h3 := T.keep _ _ _ st2 fun b hb o e => hx b o (fpP b hb) e
    have f3 : ∀ b ∈ fp, FpOk X pins (L2.upd H2 P (.tbl (ps ++ more))) b ∧ b < h3.objs.size := fun b hb => by
      obtain ⟨o, e, _⟩ := T.obj _ _ st2 b hb
      exact ⟨⟨by rw [upd_ne (fpP b hb)]; exact (f2 b hb).1, (f2 b hb).2⟩, Heap.lt_size (hx b o (fpP b hb) e)⟩
    have en3 : EnvR (ct X ca) φ1 G1 (L2.upd H2 P (.tbl (ps ++ more))) σ ρ := (en.ext ext).ext ext3
    generalize hH3 : L2.upd H2 P (.tbl (ps ++ more)) = H3 at I3 ok3 ext3 f3 en3
    generalize hs3 : ({ s2 with heap := h3, toks := tk } : Shared) = s3 at I3
    have hh3 : s3.heap = h3 := by rw [← hs3]
    rw [← hh3] at st3 f3
    obtain ⟨bm, ob, e1, e2, e3, e4, e5, e6, e7, e8⟩ := TB.bm
    refine wpAny_builtinsFor (m := X.mg) (by rw [I3.ok.glob]; exact I3.mod.glob.keeps I3.bk) e1 e2 (I3.bk _ _ e5) e6 e7 e8 ?_
    intro h5 hn5 hs5
    have keep5 : ∀ b o, s3.heap.get? b = some o → h5.get? b = some o := fun b o e => hs5.extBut b o (Nat.ne_of_lt (Heap.lt_size e)) (Heap.get?_push_of_some _ e)
    have hsz : h5.objs.size = s3.heap.objs.size + 1 := by rw [hs5.1, Heap.size_push]
    generalize hgob : ({ cls := .type "generator", data := .fields #[.int s3.gens.size 0, .str "<genexpr>" (s3.toks + 1), .str (X.env.qual ++ "<genexpr>") (s3.toks + 1 + 1)] } : Obj) = go
    have hgo : ∀ h : Heap, h.get? h5.objs.size = some go → h.IsGen h5.objs.size s3.gens.size := fun h e => ⟨go, _, _, e, by rw [← hgob], by rw [← hgob], by rw [← hgob]⟩
    have hgA : (h5.push go).get? h5.objs.size = some go := Heap.get?_push_size _ (by rw [← hgob]; rfl)
    have keepA : ∀ b o, s3.heap.get? b = some o → (h5.push go).get? b = some o := fun b o e => Heap.get?_push_of_some _ (keep5 b o e)
    -- the evaluator's own end
    cases hal : Ev.allL kk t fe xl (Ev.wipeE ρ (own.map (·.2))) μ1 with
    | no => rw [hal] at q1; exact q1.elim
    | exn e μ' => rw [hal] at q1; exact q1.elim
    | ok b μf =>
      rw [hal] at q1
      have q1 : post (ct X ca) (WE W σ) φ1 G1 H2 (.ok (.d (.bl b)) μf) (rRR (ct X ca)) Q := q1
      refine hQ h5.objs.size s3.gens.size xl.length _ _ (hgo _ hgA) (I3.nolimit.keeps keepA) (Array.getElem?_push_size ..) ⟨rfl, ?_⟩
      have hrm : RoomG k (X.A.in1.in1.over (.compLoop (.GeneratorExp elt [⟨tg, iter, [], 0⟩] scope gpos) 0 (.ref it) .none (genEnv scope (cloFrom X.env.cells scope.names []) s3.heap.objs.size code builtinsNs X.env)) []) := room_gen xs.room sl
      have pg := hg s3 H3 (cloFrom X.env.cells scope.names []) s3.heap.objs.size code _ fp hrm
      have pe := he s3 H3 (cloFrom X.env.cells scope.names []) s3.heap.objs.size code _ fp hrm
      unfold gX at pg pe
      generalize hce : genEnv scope (cloFrom X.env.cells scope.names []) s3.heap.objs.size code builtinsNs X.env = cenv at pg pe hrm ⊢
      have hfrm : (X.A.in1.in1.over (.compLoop (.GeneratorExp elt [⟨tg, iter, [], 0⟩] scope gpos) 0 (.ref it) .none cenv) []).frames = some (cenv :: X.stack) := by
        show pushEnvs [cenv] (pushEnvs (envsOf []) X.A.frames) = _
        rw [I.ok.frames]
        rfl
      generalize hs6 : (({ s3 with gens := s3.gens.push (.fresh (.compStart (.GeneratorExp elt [⟨tg, iter, [], 0⟩] scope gpos) 0 (.ref it) .none cenv)), toks := s3.toks + 1 + 1 + 1, heap := h5.push go } : Shared).setGen s3.gens.size .running) = s6
      have hbare : AllBare s6.gens := by
        rw [← hs6]
        exact allBare_setGen (I3.bare.push rfl) rfl
      have hsg : s3.gens.size < s6.gens.size := by
        rw [← hs6, setGen_size]
        show s3.gens.size < (s3.gens.push _).size
        rw [Array.size_push]; exact Nat.lt_succ_self _
      have h6 : s6.heap = h5.push go := by rw [← hs6]; rfl
      have I4 : Inv (GX X s3 H3 scope cenv elt tg iter gpos it fp) [] (wipe σ (own.map (·.2))) H3 s6 := by
        have I4 := gen_start (A := X.A.in1.in1.over (.compLoop (.GeneratorExp elt [⟨tg, iter, [], 0⟩] scope gpos) 0 (.ref it) .none cenv) []) (g' := s6.gens) (t' := s3.toks + 1 + 1 + 1) I3 hb hcell xs.nd f3 hce.symm hfrm (fun _ => hrm.r.hd) hbare (hn5.push go) keepA
        rw [← hs6] at I4 ⊢
        exact I4
      have hlt5 : s3.heap.objs.size < h5.objs.size := by omega
      have I5 : Inv (GX X s3 H3 scope cenv elt tg iter gpos it fp) [(h5.objs.size, go)] (wipe σ (own.map (·.2))) H3 s6 := I4.pins_of fun p hp => by
        have hp : p = (h5.objs.size, go) := by simpa using hp
        subst hp
        refine ⟨by rw [h6]; exact hgA, I3.hok.fresh (Nat.le_of_lt hlt5), ?_, fun hm => ?_, fun v z => by rw [← hgob] at z; cases z⟩
        · show h5.objs.size ≠ cenv.locals
          rw [← hce]; exact Nat.ne_of_gt hlt5
        · obtain ⟨_, o, ho, _⟩ := I3.stack.mem hm
          exact absurd (Nat.lt_trans (Heap.lt_size ho) hlt5) (Nat.lt_irrefl _)
      have loop := seg_gx (kk := kk) (b := b) (pins := pins) (σ := σ) (s3 := s3) (H3 := H3) (scope := scope) (cenv := cenv) (elt := elt) (tg := tg) (iter := iter) (gpos := gpos) (it := it) (a := h5.objs.size) (go := go) (g := s3.gens.size) (fp := fp) (own := own) (J := J) (tn := tn) (gt := gt) (t := t) (is := is) (fe := fe)
        (φ1 := φ1) (G1 := G1) (ρ := ρ) (μf := μf) (xl := xl) (Q := Q) xs.calm I3 (fun x hx => (f3 x hx).1) hgo (fun x hx z => absurd (Nat.lt_trans (f3 x hx).2 hlt5) (by rw [z]; exact Nat.lt_irrefl _)) T pg gk hin pe (by rw [← hce]; exact hco) ir en3
        (fun φ' G' H' e o => q1 (.bl b) φ' G' H' (ext3.trans e) o (.d (.bl b))) xl.length 0 s6 s6 rfl (Nat.zero_le _)
        ⟨⟨φ1, G1, H3, μ1, I5, T.keep _ _ _ st3 fun b _ o e => by rw [h6]; exact keepA b o e, fun x hx => (f3 x hx).1.1, hsg, Ext.refl, ok3, hal⟩⟩
      show Seg _ _ _ _ _ s6 _ ((compStart (.GeneratorExp elt [⟨tg, iter, [], 0⟩] scope gpos) 0 (.ref it) .none cenv).onRaise (leaving cenv)) [] s6
      unfold compStart
      rw [Sem.onRaise_eq_wrap]
      show Seg _ _ _ _ _ s6 _ ((ask >>= _).wrap _ _ _ _) [] s6
      refine seg_bind_wrap (wpAny_askSetting ?_)
      have st6 : tn 0 s6.heap := T.keep _ _ _ st3 fun b _ o e => by rw [h6]; exact keepA b o e
      split
      · exact seg_again rfl loop
      · first
          | exact seg_bind_wrap (wpAny_rule (seg_bind_wrap (wpAny_standAt (seg_bind_wrap (T.self _ 0 s6 _ _ st6 (seg_again rfl loop))))))
          | (refine seg_bind_wrap (wpAny_rule ?_); show Seg _ _ _ _ _ s6 _ ((standAt iter.pos >>= _).wrap _ _ _ _) [] s6; exact seg_bind_wrap (wpAny_standAt (seg_bind_wrap (T.self _ 0 s6 _ _ st6 (seg_again rfl loop)))))
  cases hf : codeAmong gpos ps.toList with
  | none =>
    refine wpAny_genexprCodeX hcode (cd.code hPs ht) (cd.tab hPs) hf fun c' h' tk hx hge hlt hco' _ htab' _ => ?_
    obtain ⟨o1, vs, f1, tf, fl, tg, inF, tx, tt, op, _, _, _, _, _, _, _, _, _, htr, _⟩ := hco'
    exact cont _ h' tk _ hx htab'.2 ⟨_, rfl⟩ htr
  | some cv =>
    refine wpAny_genexprCode_hit hcode (cd.code hPs ht) hf ?_
    exact cont cv s2.heap s2.toks ps (Heap.ExtBut.refl _ _) hPs ⟨#[], by simp⟩ ht
end
section
variable {X : Cx} {W : WX} {ca : Cn} {k : Nat}
theorem se_all {elt tg iter : Expr} {scope : Scope} {own : List (Str × Nat)} {gpos p pos : Pos} {gt : TG} {t : Ev.Tg} {is : List Nat} {fit : Ev.It} {fe : Ev.E}
    (xs : XS X W k) (sl : Slk X k) (tb : Tbx X ca) (hgl : Gl X "all") (hm : X.mg "all" = none) (hi : PI X tg iter (tI (ct X ca) W fit)) (hb : BlkOk X.N X.env.scope scope own) (hsc : (∀ y ∈ scope.names, y.2 ≠ .cell) ∧ scope.names.lookup (".0" : Str) = some NameKind.local ∧ scope.isCoroutine = false)
    (hg : ∀ (s : Shared) (H : Hp) (cl : List (Str × Addr)) (C : Addr) (code : Value) (A : Around) (fp : List Addr), RoomG k A → PG (gX X s H scope cl C code A fp) tg gt)
    (gk : GOk (ct X ca) gt t is) (hin : ∀ j ∈ is, j ∈ own.map (·.2))
    (he : ∀ (s : Shared) (H : Hp) (cl : List (Str × Addr)) (C : Addr) (code : Value) (A : Around) (fp : List Addr), RoomG k A → PE (gX X s H scope cl C code A fp) elt (tE (ct X ca) Wn fe))
    (hs : ∀ v, genFold iter X.env v = pure v := by intro _; rfl)
    (hst : starEach [.GeneratorExp elt [⟨tg, iter, [], 0⟩] scope gpos] X.env = (false, eval (.GeneratorExp elt [⟨tg, iter, [], 0⟩] scope gpos) X.env) :: starEach [] X.env := by rfl) :
    PE X (.Call (.Name "all" p) [.GeneratorExp elt [⟨tg, iter, [], 0⟩] scope gpos] [] pos) (tE (ct X ca) W (Ev.eAll true (own.map (·.2)) t fit fe)) := by
  refine ⟨fun pins s σ H Q I q => ?_⟩
  refine wpAny_Call_Name_kw (ld_blt I hgl hm (by first | exact boot_all | kernel_rfl) ?_)
  refine PyProof.Rows.callWith_builtin1 ?_ hst (by rfl)
  rw [hst]
  show wpAny _ _ (spliced ((false, eval (.GeneratorExp elt [⟨tg, iter, [], 0⟩] scope gpos) X.env) :: backTo pos (starEach [] X.env))) _ _ s
  refine Calls.spliced_cons (gen_eval xs sl tb hi hb hsc.1 hsc.2.1 hsc.2.2 hg gk hin he hs I q fun a g n gs s5 h1 h2 h3 h4 => ?_)
  refine Calls.spliced_nil ?_
  refine call_function_tree F.kind_all F.plain_all F.entry_all (F.args_all1 _) ?_
  unfold Builtin.«all»
  refine wpAny_bind (m := oneArg "all" _) (wpAny_pure ?_)
  refine wpAny_bind (wpAny_pyIter_gen h1 ?_)
  exact wpAny_pure ⟨plainId_quiet F.plain_all_loop _, all_go (fun b s' ⟨H', I', q'⟩ => ⟨.bl b, H', I', rfl, q'⟩) xs.room.r.hd xs.room.r.depth n s5 gs h1 h2 h3 h4⟩
theorem se_any {elt tg iter : Expr} {scope : Scope} {own : List (Str × Nat)} {gpos p pos : Pos} {gt : TG} {t : Ev.Tg} {is : List Nat} {fit : Ev.It} {fe : Ev.E}
    (xs : XS X W k) (sl : Slk X k) (tb : Tbx X ca) (hgl : Gl X "any") (hm : X.mg "any" = none) (hi : PI X tg iter (tI (ct X ca) W fit)) (hb : BlkOk X.N X.env.scope scope own) (hsc : (∀ y ∈ scope.names, y.2 ≠ .cell) ∧ scope.names.lookup (".0" : Str) = some NameKind.local ∧ scope.isCoroutine = false)
    (hg : ∀ (s : Shared) (H : Hp) (cl : List (Str × Addr)) (C : Addr) (code : Value) (A : Around) (fp : List Addr), RoomG k A → PG (gX X s H scope cl C code A fp) tg gt)
    (gk : GOk (ct X ca) gt t is) (hin : ∀ j ∈ is, j ∈ own.map (·.2))
    (he : ∀ (s : Shared) (H : Hp) (cl : List (Str × Addr)) (C : Addr) (code : Value) (A : Around) (fp : List Addr), RoomG k A → PE (gX X s H scope cl C code A fp) elt (tE (ct X ca) Wn fe))
    (hs : ∀ v, genFold iter X.env v = pure v := by intro _; rfl)
    (hst : starEach [.GeneratorExp elt [⟨tg, iter, [], 0⟩] scope gpos] X.env = (false, eval (.GeneratorExp elt [⟨tg, iter, [], 0⟩] scope gpos) X.env) :: starEach [] X.env := by rfl) :
    PE X (.Call (.Name "any" p) [.GeneratorExp elt [⟨tg, iter, [], 0⟩] scope gpos] [] pos) (tE (ct X ca) W (Ev.eAll false (own.map (·.2)) t fit fe)) := by
  refine ⟨fun pins s σ H Q I q => ?_⟩
  refine wpAny_Call_Name_kw (ld_blt I hgl hm (by first | exact boot_any | kernel_rfl) ?_)
  refine PyProof.Rows.callWith_builtin1 ?_ hst (by rfl)
  rw [hst]
  show wpAny _ _ (spliced ((false, eval (.GeneratorExp elt [⟨tg, iter, [], 0⟩] scope gpos) X.env) :: backTo pos (starEach [] X.env))) _ _ s
  refine Calls.spliced_cons (gen_eval xs sl tb hi hb hsc.1 hsc.2.1 hsc.2.2 hg gk hin he hs I q fun a g n gs s5 h1 h2 h3 h4 => ?_)
  refine Calls.spliced_nil ?_
  refine call_function_tree F.kind_any F.plain_any F.entry_any (F.args_any1 _) ?_
  unfold Builtin.«any»
  refine wpAny_bind (m := oneArg "any" _) (wpAny_pure ?_)
  refine wpAny_bind (wpAny_pyIter_gen h1 ?_)
  exact wpAny_pure ⟨plainId_quiet F.plain_any_loop _, any_go (fun b s' ⟨H', I', q'⟩ => ⟨.bl b, H', I', rfl, q'⟩) xs.room.r.hd xs.room.r.depth n s5 gs h1 h2 h3 h4⟩
end
end EvS
end

section
set_option maxHeartbeats 0
set_option Elab.async false
set_option linter.all false
set_option maxRecDepth 100000
/-! EvStm: statements. -/
namespace EvS
open PySem PySem.Spec PyProof.Rows L2
section
variable {Γ : Ct} {W : WX} {e : En} {φ φ1 : List Addr} {G G1 H H1 : Hp} {σ σ1 : L2.St} {ρ ρ1 : Ev.Env} {μ μ1 : Ev.Mem}
theorem BS.step (b : BS Γ e φ G H σ ρ μ) (x : Ext φ G H φ1 G1 H1) (ok : Ok Γ φ1 G1 H1 μ1) : BS Γ e φ1 G1 H1 σ ρ μ1 := ⟨b.ext.trans x, ok, b.en.ext x, b.fr⟩
theorem BS.bind {α δ : Type} {o : Ev.Out α} {k : α → Ev.Mem → Ev.Out Ev.Fl} {Rel1 : List Addr → Hp → Hp → δ → α → Prop} {D : Ends} {Q1 : δ → Hp → Prop} (b : BS Γ e φ G H σ ρ μ) (h : postS Γ W e φ G σ (o.bind k) D)
    (hk : ∀ v1 φ1 G1 H1 x μ1, o = .ok x μ1 → Ext φ G H φ1 G1 H1 → Ok Γ φ1 G1 H1 μ1 → Rel1 φ1 G1 H1 v1 x → postS Γ W e φ G σ (k x μ1) D → Q1 v1 H1) : post Γ (WE W σ) φ G H o Rel1 Q1 := by
  cases o with
  | ok x μ => exact fun v φ' G' H' a c d => hk v φ' G' H' x μ rfl a c d h
  | exn x μ => exact fun c od φ' G' H' a k r => h c od φ' G' H' (b.ext.trans a) k r
  | no => exact h
/-- .. a new list or dict -/
theorem BS.bindN {o : Ev.Out Ev.R} {k : Ev.R → Ev.Mem → Ev.Out Ev.Fl} {D : Ends} {Q : VK} (b : BS Γ e φ G H σ ρ μ) (h : postS Γ W e φ G σ (o.bind k) D)
    (hk : ∀ a φ1 G1 H1 x μ1, o = .ok x μ1 → Ext φ G H φ1 G1 H1 → Ok Γ φ1 G1 H1 μ1 → H a = none → G1 a = none → a ∉ φ1 → Nw Γ φ1 G1 H1 a x → postS Γ W e φ G σ (k x μ1) D → Q (.ref a) H1) : postN Γ (WE W σ) φ G H o Q := by
  cases o with
  | ok x μ => exact fun a φ' G' H' x1 c n1 n2 n3 d => hk a φ' G' H' x μ rfl x1 c n1 n2 n3 d h
  | exn x μ => exact fun c od φ' G' H' a k r => h c od φ' G' H' (b.ext.trans a) k r
  | no => exact h
theorem postS_flat (fw : ∀ (c : Value) (d : Option Addr) (σ σ' : L2.St) (H : Hp), W c d σ H → W c d σ' H) (l : Lq φ G φ1 G1) {o : Ev.Out Ev.Fl} {D : Ends} (h : postS Γ W e φ G σ o D) : postS Γ W e φ1 G1 σ1 o D := by
  cases o with
  | ok f μ =>
    cases f with
    | nx ρ => exact fun σ φ' G' H bs k => h σ φ' G' H bs (l.trans k)
    | bk ρ => exact fun σ φ' G' H bs k => h σ φ' G' H bs (l.trans k)
    | ct ρ => exact fun σ φ' G' H bs k => h σ φ' G' H bs (l.trans k)
    | rt r => exact h
  | exn x μ => exact fun c od φ G H a b r => fw _ _ _ _ _ (h c od φ G H a b r)
  | no => exact h
/-- the own list at a gets another content -/
theorem EnvR.upd (h : EnvR Γ φ G H σ ρ) {i : Nat} {a : Addr} {o : HO} {s t : Ev.Sl} (hi : ρ[i]? = some s) (ho : isOwn s = true) (hs : σ[i]? = some (some (.ref a))) (ht : SlotR Γ φ G (L2.upd H a o) (some (.ref a)) t) (hto : isOwn t = true) :
    EnvR Γ φ G (L2.upd H a o) σ (ρ.set i t) := by
  have hil : i < ρ.length := (List.getElem?_eq_some_iff.mp hi).1
  refine ⟨by rw [List.length_set]; exact h.len, fun j u e => ?_, fun j k b u v e1 e2 o1 o2 q1 q2 => ?_⟩
  · by_cases hj : i = j
    · subst hj
      rw [List.getElem?_set_self hil] at e
      cases e
      exact ⟨_, hs, ht⟩
    · rw [List.getElem?_set_ne hj] at e
      obtain ⟨w, e1, e2⟩ := h.at_ j u e
      refine ⟨w, e1, ?_⟩
      cases e2 with
      | un => exact .un
      | v r => exact .v r
      | own h1 h2 h3 h4 =>
        rename_i b xs rs
        have hb : b ≠ a := fun z => hj (h.ap i j a s _ hi e ho rfl hs (by rw [e1, z]))
        exact .own (by rw [upd_ne hb]; exact h1) h2 h3 h4
      | odic h1 h2 h3 h4 =>
        rename_i b xs rs
        have hb : b ≠ a := fun z => hj (h.ap i j a s _ hi e ho rfl hs (by rw [e1, z]))
        exact .odic (by rw [upd_ne hb]; exact h1) h2 h3 h4
  · have key : ∀ {l : Nat} {x : Ev.Sl}, (ρ.set i t)[l]? = some x → isOwn x = true → ∃ y, ρ[l]? = some y ∧ isOwn y = true := fun {l x} e o => by
      by_cases hl : i = l
      · subst hl; exact ⟨s, hi, ho⟩
      · rw [List.getElem?_set_ne hl] at e; exact ⟨x, e, o⟩
    obtain ⟨u', e1', o1'⟩ := key e1 o1
    obtain ⟨v', e2', o2'⟩ := key e2 o2
    exact h.ap j k b u' v' e1' e2' o1' o2' q1 q2
/-- a new object becomes the frame's own -/
theorem EnvR.own (h : EnvR Γ φ G H σ ρ) {i : Nat} {a : Addr} {t : Ev.Sl} (ht : SlotR Γ φ G H (some (.ref a)) t) (hf : ∀ (j : Nat) (s : Ev.Sl) , ρ[j]? = some s → isOwn s = true → σ[j]? ≠ some (some (.ref a))) :
    EnvR Γ φ G H (σ.set i (some (.ref a))) (ρ.set i t) := by
  refine ⟨by simp [h.len], fun j u e => ?_, fun j k b u v e1 e2 o1 o2 q1 q2 => ?_⟩
  · by_cases hj : i = j
    · subst hj
      by_cases hl : i < ρ.length
      · rw [List.getElem?_set_self hl] at e
        cases e
        exact ⟨_, List.getElem?_set_self (by rw [h.len]; exact hl), ht⟩
      · rw [List.getElem?_eq_none (by simpa using hl)] at e; cases e
    · rw [List.getElem?_set_ne hj] at e ⊢
      exact h.at_ j u e
  · by_cases hj : i = j
    · by_cases hk : i = k
      · rw [← hj, ← hk]
      · subst hj
        rw [List.getElem?_set_ne hk] at e2 q2
        by_cases hl : i < ρ.length
        · rw [List.getElem?_set_self (by rw [h.len]; exact hl)] at q1
          cases q1
          exact absurd q2 (hf k v e2 o2)
        · rw [List.getElem?_eq_none (by simpa using hl)] at e1; cases e1
    · rw [List.getElem?_set_ne hj] at e1 q1
      by_cases hk : i = k
      · subst hk
        by_cases hl : i < ρ.length
        · rw [List.getElem?_set_self (by rw [h.len]; exact hl)] at q2
          cases q2
          exact absurd q1 (hf j u e1 o1)
        · rw [List.getElem?_eq_none (by simpa using hl)] at e2; cases e2
      · rw [List.getElem?_set_ne hk] at e2 q2
        exact h.ap j k b u v e1 e2 o1 o2 q1 q2
theorem Fresh.set {H0 : Hp} (h : Fresh H0 σ ρ) {i : Nat} {v : V} {r : Ev.R} : Fresh H0 (σ.set i (some v)) (ρ.set i (.v r)) := fun j s a e o q => by
  by_cases hj : i = j
  · subst hj
    by_cases hl : i < ρ.length
    · rw [List.getElem?_set_self hl] at e; cases e; cases o
    · rw [List.getElem?_eq_none (by simpa using hl)] at e; cases e
  · rw [List.getElem?_set_ne hj] at e q
    exact h j s a e o q
theorem Fresh.own {H0 : Hp} (h : Fresh H0 σ ρ) {i : Nat} {a : Addr} {t : Ev.Sl} (ha : H0 a = none) : Fresh H0 (σ.set i (some (.ref a))) (ρ.set i t) := fun j s b e o q => by
  by_cases hj : i = j
  · subst hj
    by_cases hl : i < σ.length
    · rw [List.getElem?_set_self hl] at q; cases q; exact ha
    · rw [List.getElem?_eq_none (by simpa using hl)] at q; cases q
  · rw [List.getElem?_set_ne hj] at e q
    exact h j s b e o q
theorem Fresh.upd {H0 : Hp} (h : Fresh H0 σ ρ) {i : Nat} {s t : Ev.Sl} (hi : ρ[i]? = some s) (ho : isOwn s = true) : Fresh H0 σ (ρ.set i t) := fun j u b e o q => by
  by_cases hj : i = j
  · subst hj; exact h i s b hi ho q
  · rw [List.getElem?_set_ne hj] at e; exact h j u b e o q
/-- the own list at a is said to stay -/
theorem EnvR.frz (h : EnvR Γ φ G H σ ρ) {i : Nat} {a : Addr} {o : HO} {s : Ev.Sl} {r : Ev.R} (hi : ρ[i]? = some s) (ho : isOwn s = true) (hs : σ[i]? = some (some (.ref a))) (ng : G a = none) (hr : RR Γ φ (L2.upd G a o) (.ref a) r) :
    EnvR Γ φ (L2.upd G a o) H σ (ρ.set i (.v r)) := by
  have hil : i < ρ.length := (List.getElem?_eq_some_iff.mp hi).1
  refine ⟨by rw [List.length_set]; exact h.len, fun j u e => ?_, fun j k b u v e1 e2 o1 o2 q1 q2 => ?_⟩
  · by_cases hj : i = j
    · subst hj
      rw [List.getElem?_set_self hil] at e
      cases e
      exact ⟨_, hs, .v hr⟩
    · rw [List.getElem?_set_ne hj] at e
      obtain ⟨w, e1, e2⟩ := h.at_ j u e
      refine ⟨w, e1, ?_⟩
      cases e2 with
      | un => exact .un
      | v r => exact .v (r.mono (same_upd ng) fun _ _ z => z)
      | own h1 h2 h3 h4 =>
        rename_i b xs rs
        have hb : b ≠ a := fun z => hj (h.ap i j a s _ hi e ho rfl hs (by rw [e1, z]))
        exact .own h1 h2 (by rw [upd_ne hb]; exact h3) (h4.mono (same_upd ng) fun _ _ z => z)
      | odic h1 h2 h3 h4 =>
        rename_i b xs rs
        have hb : b ≠ a := fun z => hj (h.ap i j a s _ hi e ho rfl hs (by rw [e1, z]))
        exact .odic h1 h2 (by rw [upd_ne hb]; exact h3) (h4.mono (same_upd ng) fun _ _ z => z)
  · have key : ∀ {l : Nat} {x : Ev.Sl}, (ρ.set i (.v r))[l]? = some x → isOwn x = true → ρ[l]? = some x := fun {l x} e o => by
      by_cases hl : i = l
      · subst hl
        rw [List.getElem?_set_self hil] at e
        cases e; cases o
      · rw [List.getElem?_set_ne hl] at e; exact e
    exact h.ap j k b u v (key e1 o1) (key e2 o2) o1 o2 q1 q2
theorem Fresh.setv {H0 : Hp} (h : Fresh H0 σ ρ) {i : Nat} {r : Ev.R} : Fresh H0 σ (ρ.set i (.v r)) := fun j s a e o q => by
  by_cases hj : i = j
  · subst hj
    by_cases hl : i < ρ.length
    · rw [List.getElem?_set_self hl] at e; cases e; cases o
    · rw [List.getElem?_eq_none (by simpa using hl)] at e; cases e
  · rw [List.getElem?_set_ne hj] at e
    exact h j s a e o q
/-- who was not there when a list came -/
theorem EnvR.notNew (h : EnvR Γ φ G H σ ρ) {a : Addr} (ha : H a = none) : ∀ (j : Nat) (s : Ev.Sl), ρ[j]? = some s → isOwn s = true → σ[j]? ≠ some (some (V.ref a)) := fun j s e o q => by
  obtain ⟨w, e1, e2⟩ := h.at_ j s e
  rw [q] at e1
  cases e1
  cases e2 with
  | own h1 => rw [h1] at ha; cases ha
  | odic h1 => rw [h1] at ha; cases ha
  | un => cases o
  | v => cases o
end

section
variable {X : Cx} {W : WX} {ca : Cn} {k : Nat} {e : En}
theorem ss_one {st : Stmt} {f : Ev.S} (h : PS X st (tS (ct X ca) W e f)) : PSs X [st] (tS (ct X ca) W e f) := pss_one h
theorem ss_cons {st : Stmt} {rest : List Stmt} {f g : Ev.S} (xs : XS X W k) (h1 : PS X st (tS (ct X ca) W e f)) (h2 : PSs X rest (tS (ct X ca) W e g)) : PSs X (st :: rest) (tS (ct X ca) W e (Ev.sq f g)) := PSs.imp (pss_cons h1 h2) fun D σ H q => by
  obtain ⟨φ, G, ρ, μ, bs, q⟩ := q
  refine ⟨φ, G, ρ, μ, bs, ?_⟩
  unfold Ev.sq at q
  generalize f ρ μ = o at q
  cases o with
  | no => exact q
  | exn x μ => exact q
  | ok fl μ1 =>
    cases fl with
    | nx ρ1 => exact fun σ1 φ1 G1 H1 bs1 l => ⟨φ1, G1, ρ1, μ1, bs1, postS_flat xs.fw l q⟩
    | rt r => exact q
    | bk ρ1 => exact q
    | ct ρ1 => exact q
/-- the frame's own list stays as it is from here on -/
theorem ss_frz {rest : List Stmt} {i : Nat} {g : Ev.S} (xs : XS X W k) (h : PSs X rest (tS (ct X ca) W e g)) : PSs X rest (tS (ct X ca) W e (Ev.sq (Ev.sFrz i) g)) := PSs.imp h fun D σ H q => by
  obtain ⟨φ, G, ρ, μ, bs, q⟩ := q
  unfold Ev.sq Ev.sFrz at q
  cases hs : ρ[i]? with
  | none => rw [hs] at q; exact q.elim
  | some s =>
    rw [hs] at q
    obtain ⟨o, e1, e2⟩ := bs.en.at_ i s hs
    cases e2 with
    | un => exact q.elim
    | v r => exact q.elim
    | own h1 h2 h3 h4 =>
      rename_i a ys rs
      obtain ⟨x1, x2⟩ := freeze bs.ext bs.ok (.inl (bs.fr i _ a hs rfl e1)) h3 h2 h1
      exact ⟨φ, _, _, μ, ⟨x1, x2, bs.en.frz hs rfl e1 h3 (RR.mkL upd_same (h4.mono (same_upd h3) fun _ _ z => z)), bs.fr.setv⟩, postS_flat xs.fw ⟨same_upd h3, fun _ _ z => z⟩ q⟩
    | odic h1 h2 h3 h4 =>
      rename_i a ys rs
      obtain ⟨x1, x2⟩ := freeze bs.ext bs.ok (.inl (bs.fr i _ a hs rfl e1)) h3 h2 h1
      exact ⟨φ, _, _, μ, ⟨x1, x2, bs.en.frz hs rfl e1 h3 (.dic upd_same (h4.mono (same_upd h3) fun _ _ z => z)), bs.fr.setv⟩, postS_flat xs.fw ⟨same_upd h3, fun _ _ z => z⟩ q⟩
theorem s_doc {x j pos pos'} : PS X (.Expr (.Constant (.str x) j pos) pos') (tS (ct X ca) W e Ev.sNil) := PS.imp ps_doc fun D σ H q => by
  obtain ⟨φ, G, ρ, μ, bs, q⟩ := q
  unfold Ev.sNil at q
  exact q σ φ G H bs Lq.refl
theorem s_pass {pos} : PS X (.Pass pos) (tS (ct X ca) W e Ev.sNil) := PS.imp ps_pass fun D σ H q => by
  obtain ⟨φ, G, ρ, μ, bs, q⟩ := q
  unfold Ev.sNil at q
  exact q σ φ G H bs Lq.refl
theorem ss_nil : PSs X [] (tS (ct X ca) W e Ev.sNil) := PSs.imp pss_nil fun D σ H q => by
  obtain ⟨φ, G, ρ, μ, bs, q⟩ := q
  unfold Ev.sNil at q
  exact q σ φ G H bs Lq.refl
theorem s_brk {pos} : PS X (.Break pos) (tS (ct X ca) W e Ev.sBrk) := PS.imp ps_break fun D σ H q => by
  obtain ⟨φ, G, ρ, μ, bs, q⟩ := q
  unfold Ev.sBrk at q
  exact q σ φ G H bs Lq.refl
theorem s_cnt {pos} : PS X (.Continue pos) (tS (ct X ca) W e Ev.sCnt) := PS.imp ps_continue fun D σ H q => by
  obtain ⟨φ, G, ρ, μ, bs, q⟩ := q
  unfold Ev.sCnt at q
  exact q σ φ G H bs Lq.refl
theorem s_retN {pos} : PS X (.Return none pos) (tS (ct X ca) W e Ev.sRetN) := PS.imp ps_retN fun D σ H q => by
  obtain ⟨φ, G, ρ, μ, bs, q⟩ := q
  unfold Ev.sRetN at q
  exact q .non φ G H bs.ext bs.ok (.d .non)
theorem s_ret {a : Expr} {f : Ev.E} {pos} (h : PE X a (tE (ct X ca) W f)) : PS X (.Return (some a) pos) (tS (ct X ca) W e (Ev.sRet f)) := PS.imp (ps_ret h) fun D σ H q => by
  obtain ⟨φ, G, ρ, μ, bs, q⟩ := q
  unfold Ev.sRet at q
  refine ⟨φ, G, ρ, μ, bs.ok, bs.en, bs.bind q fun v1 φ1 G1 H1 x μ1 _ ext ok1 r1 q1 => ?_⟩
  exact q1 v1 φ1 G1 H1 (bs.ext.trans ext) ok1 r1
theorem s_x {a : Expr} {f : Ev.E} {pos : Pos} (h : PE X a (tE (ct X ca) W f)) (hs : swapsWith a none pos.line X.env = pure false := by rfl) : PS X (.Expr a pos) (tS (ct X ca) W e (Ev.sX f)) := PS.imp (ps_expr h hs) fun D σ H q => by
  obtain ⟨φ, G, ρ, μ, bs, q⟩ := q
  unfold Ev.sX at q
  refine ⟨φ, G, ρ, μ, bs.ok, bs.en, bs.bind q fun v1 φ1 G1 H1 x μ1 _ ext ok1 r1 q1 => ?_⟩
  exact q1 σ φ1 G1 H1 (bs.step ext ok1) ext.lq
theorem s_if {c : Expr} {t : Ev.T} {a b : List Stmt} {f g : Ev.S} {pos : Pos} (xs : XS X W k) (hc : PT X c (tT (ct X ca) W t)) (ha : PSs X a (tS (ct X ca) W e f)) (hb : PSs X b (tS (ct X ca) W e g)) : PS X (.If c a b pos) (tS (ct X ca) W e (Ev.sIf t f g)) := PS.imp (ps_if hc ha hb) fun D σ H q => by
  obtain ⟨φ, G, ρ, μ, bs, q⟩ := q
  unfold Ev.sIf at q
  refine ⟨φ, G, ρ, μ, bs.ok, bs.en, bs.bind q fun v1 φ1 G1 H1 x μ1 _ ext ok1 r1 q1 => ?_⟩
  cases r1
  cases v1 with
  | true => rw [if_pos rfl] at q1 ⊢; exact ⟨φ1, G1, ρ, μ1, bs.step ext ok1, postS_flat xs.fw ext.lq q1⟩
  | false => rw [if_neg (by decide)] at q1 ⊢; exact ⟨φ1, G1, ρ, μ1, bs.step ext ok1, postS_flat xs.fw ext.lq q1⟩
theorem s_asOf {st : Stmt} {f : Ev.E} {g : TG} {t : Ev.Tg} {is : List Nat} (h : PS X st (tAsg (tE (ct X ca) W f) g)) (gk : GOk (ct X ca) g t is) : PS X st (tS (ct X ca) W e (Ev.sAs t f)) := PS.imp h fun D σ H q => by
  obtain ⟨φ, G, ρ, μ, bs, q⟩ := q
  unfold Ev.sAs at q
  refine ⟨φ, G, ρ, μ, bs.ok, bs.en, bs.bind q fun v1 φ1 G1 H1 x μ1 _ ext ok1 r1 q1 => ?_⟩
  cases ht : t x ρ with
  | none => rw [ht] at q1; exact q1.elim
  | some ρ1 =>
    rw [ht] at q1
    have b1 := bs.step ext ok1
    exact gk φ1 G1 H1 μ1 σ ρ ρ1 v1 x _ ok1 b1.en r1 ht fun σ' en' ch => q1 σ' φ1 G1 H1 ⟨b1.ext, ok1, en', ch.fresh b1.fr⟩ ext.lq
/-- name = e -/
theorem s_as {i : Nat} {x : Str} {a : Expr} {f : Ev.E} {pos pos' : Pos} (hN : X.N.Nodup) (hi : X.N[i]? = some x) (hx : Loc X.env.scope x) (h : PE X a (tE (ct X ca) W f)) (hs : swapsWith a (some (.Name x pos')) pos.line X.env = pure false := by rfl) (hf : X.fn x = true ∨ X.env.scope.names.lookup x = some .local := by first | exact .inl rfl | exact .inr rfl | assumption) :
    PS X (.Assign [.Name x pos'] a pos) (tS (ct X ca) W e (Ev.sAs (Ev.tgN i) f)) := s_asOf (ps_set hN hi hx h hs hf) gok_name
/-- a, b, .. = e -/
theorem s_asT {tg a : Expr} {f : Ev.E} {g : TG} {t : Ev.Tg} {is : List Nat} {pos : Pos} (hg : PG X tg g) (gk : GOk (ct X ca) g t is) (h : PE X a (tE (ct X ca) W f)) (hs : swapsWithSole [tg] a pos.line X.env = pure false := by rfl) (hw : swappedStores [tg] a X.env = pure none := by rfl)
    (h1 : (assignEach [tg] X.env).map (·.2) = [assign tg X.env] := by rfl) : PS X (.Assign [tg] a pos) (tS (ct X ca) W e (Ev.sAs t f)) := s_asOf (ps_asg h hg hs hw h1) gk
/-- a new list or dict, the frame's own -/
theorem s_ownOf {st : Stmt} {i : Nat} {f : Ev.E} (h : PS X st (tAsg (tN (ct X ca) W f) (gName i))) : PS X st (tS (ct X ca) W e (Ev.sOwn i f)) := PS.imp h fun D σ H q => by
  obtain ⟨φ, G, ρ, μ, bs, q⟩ := q
  unfold Ev.sOwn at q
  refine ⟨φ, G, ρ, μ, bs.ok, bs.en, bs.bindN q fun a φ1 G1 H1 x μ1 _ ext ok1 n1 n2 n3 nw q1 => ?_⟩
  have b1 := bs.step ext ok1
  have fresh : e.H a = none := Ext.back bs.ext bs.ok n1
  have nn : ∀ (j : Nat) (s : Ev.Sl), ρ[j]? = some s → isOwn s = true → σ[j]? ≠ some (some (V.ref a)) := bs.en.notNew n1
  have fin : ∀ t, SlotR (ct X ca) φ1 G1 H1 (some (.ref a)) t → postS (ct X ca) W e φ G σ (.ok (.nx (ρ.set i t)) μ1) D → D.nx (σ.set i (some (.ref a))) H1 := fun t ht q => q _ φ1 G1 H1 ⟨b1.ext, ok1, b1.en.own ht nn, b1.fr.own fresh⟩ ext.lq
  cases nw with
  | lst h1 h2 =>
    rename_i ys rs _
    unfold Ev.mkL at q1
    cases hv : Ev.valsR rs with
    | none =>
      rw [hv] at q1
      exact fin _ (.own h1 n3 n2 h2) q1
    | some ds =>
      rw [hv] at q1
      have er := valsR_some hv
      subst er
      exact fin _ (.own h1 n3 n2 h2) q1
  | dic h1 h2 => exact fin _ (.odic h1 n3 n2 h2) q1
theorem s_own {i : Nat} {x : Str} {a : Expr} {f : Ev.E} {pos pos' : Pos} (hN : X.N.Nodup) (hi : X.N[i]? = some x) (hx : Loc X.env.scope x) (h : PE X a (tN (ct X ca) W f)) (hs : swapsWith a (some (.Name x pos')) pos.line X.env = pure false := by rfl) (hf : X.fn x = true ∨ X.env.scope.names.lookup x = some .local := by first | exact .inl rfl | exact .inr rfl | assumption) :
    PS X (.Assign [.Name x pos'] a pos) (tS (ct X ca) W e (Ev.sOwn i f)) := s_ownOf (ps_set hN hi hx h hs hf)
/-- a new list, in a cell -/
theorem s_cellOf {st : Stmt} {i : Nat} {f : Ev.E} (h : PS X st (tAsg (tN (ct X ca) W f) (gName i))) : PS X st (tS (ct X ca) W e (Ev.sCell i f)) := PS.imp h fun D σ H q => by
  obtain ⟨φ, G, ρ, μ, bs, q⟩ := q
  unfold Ev.sCell at q
  refine ⟨φ, G, ρ, μ, bs.ok, bs.en, bs.bindN q fun a φ1 G1 H1 x μ1 _ ext ok1 n1 n2 n3 nw q1 => ?_⟩
  have b1 := bs.step ext ok1
  have fresh : e.H a = none := Ext.back bs.ext bs.ok n1
  have nn : ∀ (j : Nat) (s : Ev.Sl), ρ[j]? = some s → isOwn s = true → σ[j]? ≠ some (some (V.ref a)) := bs.en.notNew n1
  cases nw with
  | dic h1 h2 => exact q1.elim
  | lst h1 h2 =>
    rename_i ys rs _
    unfold Ev.mkL at q1
    cases hv : Ev.valsR rs with
    | none => rw [hv] at q1; exact q1.elim
    | some ds =>
      rw [hv] at q1
      have hr := h2.vals hv
      have hm : φ1.length = μ1.length := ok1.len
      have ix : ∀ (n : Nat) (c : Addr), φ1[n]? = some c → (φ1 ++ [a])[n]? = some c := fun n c h => by
        rw [List.getElem?_append_left (List.getElem?_eq_some_iff.mp h).1]; exact h
      have en2 : EnvR (ct X ca) (φ1 ++ [a]) G1 H1 σ ρ := by
        refine ⟨b1.en.len, fun j s e => ?_, b1.en.ap⟩
        obtain ⟨o, z1, z2⟩ := b1.en.at_ j s e
        refine ⟨o, z1, ?_⟩
        have nna : ∀ {c : Addr}, o = some (.ref c) → isOwn s = true → c ≠ a := fun {c} eo os z => by
          subst z; subst eo
          exact nn j s e os z1
        cases z2 with
        | un => exact .un
        | v r => exact .v (r.mono (Same.refl _) ix)
        | own y1 y2 y3 y4 =>
          exact .own y1 (fun z => (List.mem_append.mp z).elim y2 fun z => nna rfl rfl (List.mem_singleton.mp z)) y3 (y4.mono (Same.refl _) ix)
        | odic y1 y2 y3 y4 =>
          exact .odic y1 (fun z => (List.mem_append.mp z).elim y2 fun z => nna rfl rfl (List.mem_singleton.mp z)) y3 (y4.mono (Same.refl _) ix)
      have ok2 : Ok (ct X ca) (φ1 ++ [a]) G1 H1 (μ1 ++ [.lst ds]) := by
        refine ⟨ok1.le, List.nodup_append.mpr ⟨ok1.nd, by simp, fun b hb c hc z => n3 (by rw [List.mem_singleton.mp hc] at z; rw [← z]; exact hb)⟩, by simp [hm], fun b hb => ?_, fun b hb => ?_, fun n b c e1 e2 => ?_, fun q hq => ?_⟩
        · rcases List.mem_append.mp hb with z | z
          · exact ok1.fre b z
          · rw [List.mem_singleton.mp z]; exact n2
        · rcases List.mem_append.mp hb with z | z
          · exact ok1.thr b z
          · rw [List.mem_singleton.mp z]; exact ⟨_, h1⟩
        · by_cases hn : n < φ1.length
          · rw [List.getElem?_append_left hn] at e1
            rw [List.getElem?_append_left (by omega)] at e2
            exact (ok1.cell n b c e1 e2).keep (Same.refl _) ix (fun _ z => z) fun _ z => z
          · rw [List.getElem?_append_right (by omega)] at e1
            rw [List.getElem?_append_right (by omega)] at e2
            have hn0 : n - φ1.length = 0 := by
              by_cases h0 : n - φ1.length = 0
              · exact h0
              · rw [List.getElem?_eq_none (by simp; omega)] at e1; cases e1
            have hn1 : n - μ1.length = 0 := by omega
            rw [hn0] at e1
            rw [hn1] at e2
            cases e1; cases e2
            exact .lst h1 hr
        · obtain ⟨⟨ps, e, t⟩, h2, h3⟩ := ok1.tb q hq
          exact ⟨⟨ps, e, t⟩, fun z => (List.mem_append.mp z).elim h2 fun z => (by rw [List.mem_singleton.mp z, h1] at e; cases e), h3⟩
      have ext2 : Ext e.φ e.G e.H (φ1 ++ [a]) G1 H1 := by
        obtain ⟨ψ, z1, z2⟩ := b1.ext.p
        refine ⟨b1.ext.g, b1.ext.gn, ⟨ψ ++ [a], by rw [z1, List.append_assoc], fun c hc => ?_⟩, b1.ext.f⟩
        rcases List.mem_append.mp hc with z | z
        · exact z2 c z
        · rw [List.mem_singleton.mp z]
          exact ⟨fresh, fun y => n3 (by rw [z1]; exact List.mem_append_left _ y)⟩
      have q1 : ∀ σ' φ' G' H', BS (ct X ca) e φ' G' H' σ' (ρ.set i (.v (.p μ1.length))) (μ1 ++ [.lst ds]) → Lq φ G φ' G' → D.nx σ' H' := q1
      refine q1 (σ.set i (some (.ref a))) (φ1 ++ [a]) G1 H1 ⟨ext2, ok2, en2.set (.p ?_), b1.fr.set⟩ (ext.lq.trans ⟨Same.refl _, ix⟩)
      rw [← hm, List.getElem?_append_right (Nat.le_refl _), Nat.sub_self]; rfl
theorem s_cell {i : Nat} {x : Str} {a : Expr} {f : Ev.E} {pos pos' : Pos} (hN : X.N.Nodup) (hi : X.N[i]? = some x) (hx : Loc X.env.scope x) (h : PE X a (tN (ct X ca) W f)) (hs : swapsWith a (some (.Name x pos')) pos.line X.env = pure false := by rfl) (hf : X.fn x = true ∨ X.env.scope.names.lookup x = some .local := by first | exact .inl rfl | exact .inr rfl | assumption) :
    PS X (.Assign [.Name x pos'] a pos) (tS (ct X ca) W e (Ev.sCell i f)) := s_cellOf (ps_set hN hi hx h hs hf)
/-! ### writing to one's own -/
theorem iop_of (X : Cx) (ca : Cn) : PIp X .Add (fun x y H Q => ∃ φ G a b z, RR (ct X ca) φ G x a ∧ RR (ct X ca) φ G y b ∧ Ev.iaddR a b = some z ∧ ∀ r, RR (ct X ca) φ G r z → Q r H) := by
  intro pins s σ H x y v u Q I r1 r2 h
  obtain ⟨φ, G, a, b, z, ra, rb, e, q⟩ := h
  unfold Ev.iaddR at e
  split at e
  · cases e
    have e1 := ra.int; have e2 := rb.int
    subst e1 e2
    exact iop_add pins s σ H _ _ v u Q I r1 r2 ⟨_, _, rfl, rfl, q _ (.d (.int _))⟩
  · split at e
    · rename_i hz
      cases e
      have e1 := ra.str; have e2 := rb.str
      subst e1 e2
      refine iop_add_str pins s σ H _ _ v u Q I r1 r2 ⟨_, _, rfl, rfl, by rw [len_ofString, len_ofString, ← SL_eq]; exact hz, ?_⟩
      rw [← ofString_append]
      exact q _ (.d (.str _))
    · cases e
  · cases e
def isubR : Ev.R → Ev.R → Option Ev.R := Ev.subR
theorem isub_of (X : Cx) (ca : Cn) : PIp X .Sub (fun x y H Q => ∃ φ G a b z, RR (ct X ca) φ G x a ∧ RR (ct X ca) φ G y b ∧ Ev.subR a b = some z ∧ ∀ r, RR (ct X ca) φ G r z → Q r H) := by
  intro pins s σ H x y v u Q I r1 r2 h
  obtain ⟨φ, G, a, b, z, ra, rb, e, q⟩ := h
  unfold Ev.subR at e
  split at e
  · cases e
    have e1 := ra.int; have e2 := rb.int
    subst e1 e2
    exact iop_sub pins s σ H _ _ v u Q I r1 r2 ⟨_, _, rfl, rfl, q _ (.d (.int _))⟩
  · cases e
/-- name op= e -/
theorem s_aug {i : Nat} {x : Str} {a : Expr} {op : Operator} {f : Ev.R → Ev.R → Option Ev.R} {fa : Ev.E} {pos pos' : Pos} (hN : X.N.Nodup) (hi : X.N[i]? = some x) (hx : Loc X.env.scope x) (h : PE X a (tE (ct X ca) W fa))
    (ho : PIp X op (fun x y H Q => ∃ φ G a b z, RR (ct X ca) φ G x a ∧ RR (ct X ca) φ G y b ∧ f a b = some z ∧ ∀ r, RR (ct X ca) φ G r z → Q r H)) (hf : X.fn x = true ∨ X.env.scope.names.lookup x = some .local := by first | exact .inl rfl | exact .inr rfl | assumption) :
    PS X (.AugAssign (.Name x pos') op a pos) (tS (ct X ca) W e (Ev.sAug i f fa)) := PS.imp (ps_aug hN hi hx h ho hf) fun D σ H q => by
  obtain ⟨φ, G, ρ, μ, bs, q⟩ := q
  unfold Ev.sAug at q
  split at q
  · rename_i x' hs
    obtain ⟨o, e1, e2⟩ := bs.en.at_ i _ hs
    cases e2 with
    | v hv =>
      refine ⟨_, e1, φ, G, ρ, μ, bs.ok, bs.en, bs.bind q fun v1 φ1 G1 H1 y μ1 _ ext ok1 r1 q1 => ?_⟩
      cases ef : f x' y with
      | none => rw [ef] at q1; exact q1.elim
      | some z =>
        rw [ef] at q1
        have b1 := bs.step ext ok1
        exact ⟨φ1, G1, x', y, z, ext.rr hv, r1, ef, fun r rr => q1 _ φ1 G1 H1 ⟨b1.ext, ok1, b1.en.set rr, b1.fr.set⟩ ext.lq⟩
  · exact q.elim
/-- x, y = a, b -/
theorem s_par {i j : Nat} {x y : Str} {a b : Expr} {fa fb : Ev.E} {px py pt pos : Pos} {kt k2 pt2} (xs : XS X W k) (hi : X.N[i]? = some x) (hj : X.N[j]? = some y) (hij : i ≠ j) (hx : X.env.scope.names.lookup x = some .local) (hy : X.env.scope.names.lookup y = some .local)
    (ha : PE X a (tE (ct X ca) W fa)) (hb : PE X b (tE (ct X ca) W fb))
    (hw : swappedStores [.Tuple [.Name x px, .Name y py] kt pt] (.Tuple [a, b] k2 pt2) X.env = pure (some [x, y]) := by rfl) (hs : swapsWithSole [.Tuple [.Name x px, .Name y py] kt pt] (.Tuple [a, b] k2 pt2) pos.line X.env = pure false := by rfl)
    (hs1 : starEach [a, b] X.env = (false, eval a X.env) :: starEach [b] X.env := by rfl) (hs2 : starEach [b] X.env = (false, eval b X.env) :: starEach [] X.env := by rfl) :
    PS X (.Assign [.Tuple [.Name x px, .Name y py] kt pt] (.Tuple [a, b] k2 pt2) pos) (tS (ct X ca) W e (Ev.sPar i j fa fb)) := PS.imp (ps_par xs.calm xs.nd hi hj hij hx hy (pa_cons ha (pa_cons hb pa_nil hs2) hs1) hw hs) fun D σ H q => by
  obtain ⟨φ, G, ρ, μ, bs, q⟩ := q
  unfold Ev.sPar at q
  refine ⟨φ, G, ρ, μ, bs.ok, bs.en, bs.bind q fun v1 φ1 G1 H1 x μ1 _ ext ok1 r1 q1 => ?_⟩
  have b1 := bs.step ext ok1
  refine ⟨φ1, G1, ρ, μ1, ok1, b1.en, b1.bind (postS_flat (σ1 := σ) xs.fw ext.lq q1) fun v2 φ2 G2 H2 y μ2 _ ext2 ok2 r2 q2 => ?_⟩
  have b2 := b1.step ext2 ok2
  exact ⟨_, _, rfl, q2 _ φ2 G2 H2 ⟨b2.ext, ok2, (b2.en.set (ext2.rr r1)).set r2, b2.fr.set.set⟩ ext2.lq⟩
/-- the own list's slot -/
theorem own_at {Γ : Ct} {φ : List Addr} {G H : Hp} {σ : L2.St} {ρ : Ev.Env} {i : Nat} {rs : List Ev.R} (en : EnvR Γ φ G H σ ρ) (h : ρ[i]? = some (.own rs)) : ∃ a xs, σ[i]? = some (some (.ref a)) ∧ H a = some (.lst xs) ∧ a ∉ φ ∧ G a = none ∧ RRs Γ φ G xs rs := by
  obtain ⟨o, e1, e2⟩ := en.at_ i _ h
  cases e2 with
  | own h1 h2 h3 h4 => exact ⟨_, _, e1, h1, h2, h3, h4⟩
theorem odic_at {Γ : Ct} {φ : List Addr} {G H : Hp} {σ : L2.St} {ρ : Ev.Env} {i : Nat} {rs : List (Ev.Ky × Ev.R)} (en : EnvR Γ φ G H σ ρ) (h : ρ[i]? = some (.odic rs)) : ∃ a xs, σ[i]? = some (some (.ref a)) ∧ H a = some (.dK xs) ∧ a ∉ φ ∧ G a = none ∧ RKs Γ φ G xs rs := by
  obtain ⟨o, e1, e2⟩ := en.at_ i _ h
  cases e2 with
  | odic h1 h2 h3 h4 => exact ⟨_, _, e1, h1, h2, h3, h4⟩
/-- the own object is rewritten -/
theorem BS.own {Γ : Ct} {e : En} {φ : List Addr} {G H : Hp} {σ : L2.St} {ρ : Ev.Env} {μ : Ev.Mem} {i : Nat} {a : Addr} {o : HO} {s t : Ev.Sl} (b : BS Γ e φ G H σ ρ μ) (hi : ρ[i]? = some s) (ho : isOwn s = true) (hs : σ[i]? = some (some (.ref a))) (hp : a ∉ φ) (hg : G a = none) (hno : ∀ c, H a ≠ some (.own c))
    (ht : SlotR Γ φ G (L2.upd H a o) (some (.ref a)) t) (hto : isOwn t = true) : BS Γ e φ G (L2.upd H a o) σ (ρ.set i t) μ := by
  have hnt : ∀ c, H a ≠ some (.tbl c) := by
    obtain ⟨o', e1, e2⟩ := b.en.at_ i s hi
    rw [hs] at e1
    cases e1
    cases e2 with
    | un => cases ho
    | v => cases ho
    | own h1 _ _ _ => intro c z; rw [h1] at z; cases z
    | odic h1 _ _ _ => intro c z; rw [h1] at z; cases z
  exact ⟨b.ext.upd (b.fr i s a hi ho hs), b.ok.upd hp hg hno hnt, b.en.upd hi ho hs ht hto, b.fr.upd hi ho⟩
/-- x.append(a) -/
theorem s_app {i : Nat} {x : Str} {a : Expr} {fa : Ev.E} {p apos cpos pos : Pos} (hN : X.N[i]? = some x) (hv : Vis X.env.scope x) (ha : PE X a (tE (ct X ca) W fa))
    (hd : (x == ("__debug__" : Str)) = false := by decide) (hcd : (x == ("__classdict__" : Str)) = false := by decide)
    (hbase : attributeBase (.Name x p) "append" X.env (eval (.Name x p) X.env) = eval (.Name x p) X.env := by rfl)
    (hfew : ((backTo cpos (starEach [a] X.env)).all (fun x => !x.1) && (backToKw cpos (keywordEach [] X.env)).all (fun x => x.1.isSome)
      && decide (([a] : List Expr).length + ([] : List Keyword).length + (if ([] : List Keyword).isEmpty then 0 else 1) < 30)) = true := by rfl)
    (hline : (apos.endLine == cpos.line) = true := by rfl) (hs : starEach [a] X.env = (false, eval a X.env) :: starEach [] X.env := by rfl) (hplain : (backTo cpos (starEach [] X.env)).any (·.1) = false := by rfl)
    (hsw : swapsWith (.Call (.Attribute (.Name x p) "append" apos) [a] [] cpos) none pos.line X.env = pure false := by rfl) :
    PS X (.Expr (.Call (.Attribute (.Name x p) "append" apos) [a] [] cpos) pos) (tS (ct X ca) W e (Ev.sApp i fa)) :=
  PS.imp (ps_expr (pe_bm PySem.F.plainAttrs_list PySem.F.slot_list_append PySem.F.type_list_append mt_append (pe_var hN hv hd hcd) (pa_cons ha pa_nil hs) hbase hfew hline hs hplain) hsw) fun D σ H q => by
    obtain ⟨φ, G, ρ, μ, bs, q⟩ := q
    unfold Ev.sApp at q
    split at q
    · rename_i rs hi
      obtain ⟨l, ys, e1, h1, h2, h3, h4⟩ := own_at bs.en hi
      refine ⟨_, e1, .inl ⟨rfl, _, SqL.of h1⟩, φ, G, ρ, μ, bs.ok, bs.en, bs.bind q fun v1 φ1 G1 H1 r μ1 _ ext ok1 r1 q1 => ?_⟩
      split at q1
      · rename_i hz
        obtain ⟨k1, k2, k3⟩ := ext.keep h1 h2 h3
        have hl := h4.len
        have r2 := (ext.rrs h4).append (.cons r1 .nil)
        refine ⟨l, ys, v1, rfl, rfl, k1, by rw [hl, ← SL_eq]; exact hz, ?_⟩
        exact q1 σ φ1 G1 _ ((bs.step ext ok1).own (t := .own (rs ++ [r])) hi rfl e1 k2 k3 (fun c z => by rw [k1] at z; cases z) (.own upd_same k2 k3 r2) rfl) ext.lq
      · exact q1.elim
    · exact q.elim
/-- x.extend(a) -/
theorem s_ext {i : Nat} {x : Str} {a : Expr} {fa : Ev.E} {p apos cpos pos : Pos} (hN : X.N[i]? = some x) (hv : Vis X.env.scope x) (ha : PE X a (tV (ct X ca) W fa))
    (hd : (x == ("__debug__" : Str)) = false := by decide) (hcd : (x == ("__classdict__" : Str)) = false := by decide)
    (hbase : attributeBase (.Name x p) "extend" X.env (eval (.Name x p) X.env) = eval (.Name x p) X.env := by rfl)
    (hfew : ((backTo cpos (starEach [a] X.env)).all (fun x => !x.1) && (backToKw cpos (keywordEach [] X.env)).all (fun x => x.1.isSome)
      && decide (([a] : List Expr).length + ([] : List Keyword).length + (if ([] : List Keyword).isEmpty then 0 else 1) < 30)) = true := by rfl)
    (hline : (apos.endLine == cpos.line) = true := by rfl) (hs : starEach [a] X.env = (false, eval a X.env) :: starEach [] X.env := by rfl) (hplain : (backTo cpos (starEach [] X.env)).any (·.1) = false := by rfl)
    (hsw : swapsWith (.Call (.Attribute (.Name x p) "extend" apos) [a] [] cpos) none pos.line X.env = pure false := by rfl) :
    PS X (.Expr (.Call (.Attribute (.Name x p) "extend" apos) [a] [] cpos) pos) (tS (ct X ca) W e (Ev.sExt i fa)) :=
  PS.imp (ps_expr (pe_bm PySem.F.plainAttrs_list PySem.F.slot_list_extend PySem.F.type_list_extend mt_extend (pe_var hN hv hd hcd) (pa_cons ha pa_nil hs) hbase hfew hline hs hplain) hsw) fun D σ H q => by
    obtain ⟨φ, G, ρ, μ, bs, q⟩ := q
    unfold Ev.sExt at q
    split at q
    · rename_i rs hi
      obtain ⟨l, ys, e1, h1, h2, h3, h4⟩ := own_at bs.en hi
      refine ⟨_, e1, .inl ⟨rfl, _, SqL.of h1⟩, φ, G, ρ, μ, bs.ok, bs.en, bs.bind q fun v1 φ1 G1 H1 r μ1 _ ext ok1 r1 q1 => ?_⟩
      obtain ⟨k1, k2, k3⟩ := ext.keep h1 h2 h3
      have hl := h4.len
      have vw := r1.vw ok1
      have key : ∀ zs, Ev.extR (Ev.vw μ1 r) = some zs → ∃ b ws, v1 = .ref b ∧ H1 b = some (.lst ws) ∧ RRs (ct X ca) φ1 G1 ws zs := fun zs hz => by
        unfold Ev.extR at hz
        split at hz
        · rename_i ds hr
          cases hz
          rw [hr] at vw
          obtain ⟨b, ws, e2, y1, y2⟩ := vw.list ok1.le
          exact ⟨b, ws, e2, y1, RRs.ofD y2⟩
        · rename_i zs' hr
          cases hz
          rw [hr] at vw
          exact vw.ls ok1.le
        · cases hz
      cases hz : Ev.extR (Ev.vw μ1 r) with
      | none => rw [hz] at q1; exact q1.elim
      | some zs =>
        rw [hz] at q1
        obtain ⟨b, ws, e2, y1, y2⟩ := key zs hz
        subst e2
        have hl2 := y2.len
        dsimp only at q1
        split at q1
        · rename_i hle
          have r2 := (ext.rrs h4).append y2
          refine ⟨l, b, ys, ws, rfl, rfl, k1, y1, by rw [hl, hl2, ← SL_eq]; exact hle, ?_⟩
          exact q1 σ φ1 G1 _ ((bs.step ext ok1).own (t := .own (rs ++ zs)) hi rfl e1 k2 k3 (fun c z => by rw [k1] at z; cases z) (.own upd_same k2 k3 r2) rfl) ext.lq
        · exact q1.elim
    · exact q.elim
/-- x.reverse() -/
theorem s_rev {i : Nat} {x : Str} {p apos cpos pos : Pos} (hN : X.N[i]? = some x) (hv : Vis X.env.scope x)
    (hd : (x == ("__debug__" : Str)) = false := by decide) (hcd : (x == ("__classdict__" : Str)) = false := by decide)
    (hbase : attributeBase (.Name x p) "reverse" X.env (eval (.Name x p) X.env) = eval (.Name x p) X.env := by rfl)
    (hline : (apos.endLine == cpos.line) = true := by rfl)
    (hsw : swapsWith (.Call (.Attribute (.Name x p) "reverse" apos) [] [] cpos) none pos.line X.env = pure false := by rfl) :
    PS X (.Expr (.Call (.Attribute (.Name x p) "reverse" apos) [] [] cpos) pos) (tS (ct X ca) W e (Ev.sRev i)) :=
  PS.imp (ps_expr (pe_bm0 PySem.F.plainAttrs_list PySem.F.slot_list_reverse PySem.F.type_list_reverse mt_reverse (pe_var hN hv hd hcd) hbase hline) hsw) fun D σ H q => by
    obtain ⟨φ, G, ρ, μ, bs, q⟩ := q
    unfold Ev.sRev at q
    split at q
    · rename_i rs hi
      obtain ⟨l, ys, e1, h1, h2, h3, h4⟩ := own_at bs.en hi
      refine ⟨_, e1, .inl ⟨rfl, _, SqL.of h1⟩, l, ys, rfl, rfl, h1, ?_⟩
      exact q σ φ G _ (bs.own (t := .own rs.reverse) hi rfl e1 h2 h3 (fun c z => by rw [h1] at z; cases z) (.own upd_same h2 h3 h4.reverse) rfl) Lq.refl
    · exact q.elim
/-- x[i] = a, x a dict of one's own -/
theorem s_dput {i : Nat} {x : Str} {o a : Expr} {fo fa : Ev.E} {p pos' pos : Pos} (hu : X.A.units + 1 < cLine) (xs : XS X W k) (hN : X.N[i]? = some x) (hv : Vis X.env.scope x) (ho : PE X o (tE (ct X ca) W fo)) (ha : PE X a (tE (ct X ca) W fa))
    (hd : (x == ("__debug__" : Str)) = false := by decide) (hcd : (x == ("__classdict__" : Str)) = false := by decide)
    (hs : swapsWith a (some (.Subscript (.Name x p) o pos')) pos.line X.env = pure false := by rfl) :
    PS X (.Assign [.Subscript (.Name x p) o pos'] a pos) (tS (ct X ca) W e (Ev.sSetD i fo fa)) :=
  PS.imp (ps_dput hu (pe_var hN hv hd hcd) ho ha hs) fun D σ H q => by
    obtain ⟨φ, G, ρ, μ, bs, q⟩ := q
    unfold Ev.sSetD at q
    refine ⟨φ, G, ρ, μ, bs.ok, bs.en, bs.bind q fun v1 φ1 G1 H1 r μ1 _ ext ok1 r1 q1 => ?_⟩
    have b1 := bs.step ext ok1
    split at q1
    · rename_i kvs hi
      obtain ⟨l, ys, e1, h1, h2, h3, h4⟩ := odic_at b1.en hi
      refine ⟨_, e1, φ1, G1, ρ, μ1, ok1, b1.en, b1.bind (postS_flat (σ1 := σ) xs.fw ext.lq q1) fun v2 φ2 G2 H2 r' μ2 _ ext2 ok2 r2 q2 => ?_⟩
      split at q2
      · split at q2
        · rename_i ky hk
          split at q2
          · rename_i hz
            obtain ⟨k1, k2, k3⟩ := ext2.keep h1 h2 h3
            have ek := keyOf_kV r2.inv_d hk
            subst ek
            have hl := h4.len
            have h5 : RKs (ct X ca) φ2 G2 ys kvs := h4.mono ext2.g ext2.ix
            refine ⟨l, _, rfl, DPut.k k1 (by rw [hl, ← SL_eq]; exact hz), ?_⟩
            exact q2 σ φ2 G2 _ ((b1.step ext2 ok2).own (t := .odic (Ev.putK kvs ky r)) hi rfl e1 k2 k3 (fun c z => by rw [k1] at z; cases z) (.odic upd_same k2 k3 (h5.put ky (ext2.rr r1))) rfl) ext2.lq
          · exact q2.elim
        · exact q2.elim
      · exact q2.elim
    · exact q1.elim
/-- x[i] = a, x a list of one's own -/
theorem s_lput {i : Nat} {x : Str} {o a : Expr} {fo fa : Ev.E} {p pos' pos : Pos} (xs : XS X W k) (hN : X.N[i]? = some x) (hv : Vis X.env.scope x) (ho : PE X o (tE (ct X ca) W fo)) (ha : PE X a (tE (ct X ca) W fa))
    (hd : (x == ("__debug__" : Str)) = false := by decide) (hcd : (x == ("__classdict__" : Str)) = false := by decide)
    (hq : ∀ v, assign (.Subscript (.Name x p) o pos') X.env v = (do
      let ov ← holding [v] (eval (.Name x p) X.env)
      let iv ← holding [v, ov] (eval o X.env)
      standAt pos'
      holding [v, ov, iv] (setItem ov iv v)
      release [v, ov, iv] []) := by intro _; rfl)
    (hs : swapsWithSole [.Subscript (.Name x p) o pos'] a pos.line X.env = pure false := by rfl) (hw : swappedStores [.Subscript (.Name x p) o pos'] a X.env = pure none := by rfl)
    (h1 : (assignEach [.Subscript (.Name x p) o pos'] X.env).map (·.2) = [assign (.Subscript (.Name x p) o pos') X.env] := by rfl) :
    PS X (.Assign [.Subscript (.Name x p) o pos'] a pos) (tS (ct X ca) W e (Ev.sSetI i fo fa)) :=
  PS.imp (ps_asg ha (pg_sub (pe_var hN hv hd hcd) ho set_list hq) hs hw h1) fun D σ H q => by
    obtain ⟨φ, G, ρ, μ, bs, q⟩ := q
    unfold Ev.sSetI at q
    refine ⟨φ, G, ρ, μ, bs.ok, bs.en, bs.bind q fun v1 φ1 G1 H1 r μ1 _ ext ok1 r1 q1 => ?_⟩
    have b1 := bs.step ext ok1
    split at q1
    · rename_i rs hi
      obtain ⟨l, ys, e1, h1, h2, h3, h4⟩ := own_at b1.en hi
      refine ⟨_, e1, φ1, G1, ρ, μ1, ok1, b1.en, b1.bind (postS_flat (σ1 := σ) xs.fw ext.lq q1) fun v2 φ2 G2 H2 r' μ2 _ ext2 ok2 r2 q2 => ?_⟩
      split at q2
      · split at q2
        · rename_i j hj
          obtain ⟨k1, k2, k3⟩ := ext2.keep h1 h2 h3
          have ei := r2.int
          subst ei
          have h5 := (ext2.rrs h4).set (ext2.rr r1) j
          refine ⟨l, ys, _, j, rfl, rfl, k1, by rw [h4.len]; exact hj, ?_⟩
          exact q2 σ φ2 G2 _ ((b1.step ext2 ok2).own (t := .own (rs.set j r)) hi rfl e1 k2 k3 (fun c z => by rw [k1] at z; cases z) (.own upd_same k2 k3 h5) rfl) ext2.lq
        · exact q2.elim
      · exact q2.elim
    · exact q1.elim
/-- the cell's list is rewritten -/
theorem Ok.cellSet {Γ : Ct} {φ : List Addr} {G H : Hp} {μ : Ev.Mem} {n : Nat} {a : Addr} {ys : List V} {ds : List Ev.D} (k : Ok Γ φ G H μ) (hn : φ[n]? = some a) (ha : ∃ xs, H a = some (.lst xs)) (r : DRs Γ.K G ys ds) :
    Ok Γ φ G (L2.upd H a (.lst ys)) (μ.set n (.lst ds)) := by
  obtain ⟨xs, ha⟩ := ha
  have hg : G a = none := k.fre a (List.mem_of_getElem? hn)
  have ne : ∀ {b : Addr} {x : HO}, G b = some x → b ≠ a := fun {b x} e z => by subst z; rw [hg] at e; cases e
  refine ⟨fun b x e => by rw [upd_ne (ne e)]; exact k.le b x e, k.nd, by rw [List.length_set]; exact k.len, k.fre, fun b hb => ?_, fun m b c h1 h2 => ?_, fun q hq => ?_⟩
  · by_cases hba : b = a
    · subst hba; exact ⟨_, upd_same⟩
    · rw [upd_ne hba]; exact k.thr b hb
  · by_cases hm : n = m
    · subst hm
      rw [hn] at h1; cases h1
      have hl : n < μ.length := by
        rw [← k.len]; exact (List.getElem?_eq_some_iff.mp hn).1
      rw [List.getElem?_set_self hl] at h2
      cases h2
      exact .lst upd_same r
    · rw [List.getElem?_set_ne hm] at h2
      have hba : b ≠ a := fun z => hm ((List.getElem?_inj (List.getElem?_eq_some_iff.mp hn).1 k.nd).mp (by rw [hn, h1, z]))
      refine (k.cell m b c h1 h2).keep (Same.refl _) (fun _ _ z => z) (fun o e => by rw [upd_ne hba]; exact e) fun d e => ?_
      rw [upd_ne (show d ≠ a from fun z => by rw [z, ha] at e; cases e)]; exact e
  · obtain ⟨⟨ps, e, t⟩, h2, h3⟩ := k.tb q hq
    exact ⟨⟨ps, by rw [upd_ne (fun z => by rw [z, ha] at e; cases e)]; exact e, t⟩, h2, h3⟩
theorem Ext.cellSet {φ : List Addr} {G H : Hp} {n : Nat} {a : Addr} {o : HO} (hn : φ[n]? = some a) : Ext φ G H φ G (L2.upd H a o) :=
  ⟨Same.refl _, fun _ h => .inl h, ⟨[], by simp, by simp⟩, fun b x e hb => .inl (by rw [upd_ne (show b ≠ a from fun z => hb (by rw [z]; exact List.mem_of_getElem? hn))]; exact e)⟩
/-- a[i] = x, a a cell's list -/
theorem s_set {b o a : Expr} {fb fo fa : Ev.E} {pos' pos : Pos} (xs : XS X W k) (hb : PE X b (tE (ct X ca) W fb)) (ho : PE X o (tE (ct X ca) W fo)) (ha : PE X a (tE (ct X ca) W fa))
    (hq : ∀ v, assign (.Subscript b o pos') X.env v = (do
      let ov ← holding [v] (eval b X.env)
      let iv ← holding [v, ov] (eval o X.env)
      standAt pos'
      holding [v, ov, iv] (setItem ov iv v)
      release [v, ov, iv] []) := by intro _; rfl)
    (hs : swapsWithSole [.Subscript b o pos'] a pos.line X.env = pure false := by rfl) (hw : swappedStores [.Subscript b o pos'] a X.env = pure none := by rfl)
    (h1 : (assignEach [.Subscript b o pos'] X.env).map (·.2) = [assign (.Subscript b o pos') X.env] := by rfl) :
    PS X (.Assign [.Subscript b o pos'] a pos) (tS (ct X ca) W e (Ev.sSet fb fo fa)) :=
  PS.imp (ps_asg ha (pg_sub hb ho set_list hq) hs hw h1) fun D σ H q => by
    obtain ⟨φ, G, ρ, μ, bs, q⟩ := q
    unfold Ev.sSet at q
    refine ⟨φ, G, ρ, μ, bs.ok, bs.en, bs.bind q fun v1 φ1 G1 H1 z μ1 _ ext ok1 r1 q1 => ?_⟩
    have b1 := bs.step ext ok1
    refine ⟨φ1, G1, ρ, μ1, ok1, b1.en, b1.bind (postS_flat (σ1 := σ) xs.fw ext.lq q1) fun v2 φ2 G2 H2 x μ2 _ ext2 ok2 r2 q2 => ?_⟩
    have b2 := b1.step ext2 ok2
    refine ⟨φ2, G2, ρ, μ2, ok2, b2.en, b2.bind (postS_flat (σ1 := σ) xs.fw ext2.lq q2) fun v3 φ3 G3 H3 y μ3 _ ext3 ok3 r3 q3 => ?_⟩
    have b3 := b2.step ext3 ok3
    split at q3
    · split at q3
      · rename_i ds hm
        split at q3
        · rename_i j hj
          have r2 := ext3.rr r2
          cases r2 with
          | p hn =>
            rename_i c
            have hc := ok3.cell _ c _ hn hm
            cases hc with
            | lst y1 y2 =>
              rename_i ys
              have ei := r3.int
              subst ei
              refine ⟨c, ys, _, j, rfl, rfl, y1, by rw [y2.len]; exact hj, ?_⟩
              have x1 : Ext φ3 G3 H3 φ3 G3 (L2.upd H3 c (.lst (ys.set j v1))) := Ext.cellSet hn
              have hv := (ext3.rr (ext2.rr r1)).inv_d
              exact q3 σ φ3 G3 _ (b3.step x1 (ok3.cellSet hn ⟨_, y1⟩ (y2.set hv j))) ext3.lq
        · exact q3.elim
      · exact q3.elim
    · exact q3.elim

/-! ### loops -/
theorem ItR.mono {Γ : Ct} {φ φ' : List Addr} {G G' : Hp} {J : It} {rs : List Ev.R} (h : ItR Γ φ G J rs) (a : Lq φ G φ' G') : ItR Γ φ' G' J rs := by
  refine ⟨fun i H hi s => h.goes i H hi (a.g.trans s), fun H s => h.stops H (a.g.trans s), fun i H x H' r e s y => ?_⟩
  rcases h.yields i H x H' r e (a.g.trans s) y with ⟨z, q⟩ | ⟨T, xs, ds, h1, h2, h3, h4, h5⟩
  · exact .inl ⟨z, q.mono a.g a.ix⟩
  · exact .inr ⟨T, xs, ds, h1, h2, h3, h4, h5.mono a.g⟩
theorem s_for {tg iter : Expr} {body : List Stmt} {it : Ev.It} {g : TG} {t : Ev.Tg} {is : List Nat} {f : Ev.S} {pos : Pos} (xs : XS X W k) (hi : PI X tg iter (tI (ct X ca) W it)) (hg : PG X tg g) (gk : GOk (ct X ca) g t is) (hb : PSs X body (tS (ct X ca) W e f))
    (hs : ∀ x, foldedSetIterable iter X.env x = pure x := by intro _; rfl) : PS X (.For tg iter body [] pos) (tS (ct X ca) W e (Ev.sFor t it f)) := PS.imp (ps_for xs.po xs.calm hi hg hb hs) fun D σ H q => by
  obtain ⟨φ, G, ρ, μ, bs, q⟩ := q
  unfold Ev.sFor at q
  refine ⟨φ, G, ρ, μ, bs.ok, bs.en, bs.bind q fun J φ1 G1 H1 xl μ1 _ ext ok1 ir q1 => ?_⟩
  have q1 := postS_flat (σ1 := σ) xs.fw ext.lq q1
  refine for_it ir.walk (fun i σ' H' => ∃ φ' G' ρ' μ', BS (ct X ca) e φ' G' H' σ' ρ' μ' ∧ Lq φ1 G1 φ' G' ∧ postS (ct X ca) W e φ' G' σ' (Ev.forL t f (xl.drop i) ρ' μ') D) ?_ ?_ ?_ ?_
  · exact ⟨φ1, G1, ρ, μ1, bs.step ext ok1, Lq.refl, q1⟩
  · rintro i σ' H' hi' ⟨φ', G', ρ', μ', b', l', _⟩
    exact l'.g.trans b'.ok.le
  · rintro i x σ' H' H2 hi' ⟨φ', G', ρ', μ', b', l', q'⟩ y
    obtain ⟨G2, e2, ok2, rx⟩ := (ir.mono l').turn b'.ok (by simp [hi'] : xl[i]? = some xl[i]) y
    have b2 := b'.step e2 ok2
    rw [List.drop_eq_getElem_cons hi'] at q'
    have q' : postS (ct X ca) W e φ' G' σ' (match t xl[i] ρ' with
      | none => .no
      | some ρ1 => (f ρ1 μ').bind fun fl μ => match fl with
        | .nx ρ => Ev.forL t f (xl.drop (i + 1)) ρ μ
        | .ct ρ => Ev.forL t f (xl.drop (i + 1)) ρ μ
        | .bk ρ => .ok (.nx ρ) μ
        | .rt r => .ok (.rt r) μ) D := q'
    cases htg : t xl[i] ρ' with
    | none => rw [htg] at q'; exact q'.elim
    | some ρ1 =>
      rw [htg] at q'
      dsimp only at q'
      refine gk φ' G2 H2 μ' σ' ρ' ρ1 x xl[i] _ ok2 b2.en rx htg fun σ2 en2 ch => ⟨φ', G2, ρ1, μ', ⟨b2.ext, ok2, en2, ch.fresh b2.fr⟩, ?_⟩
      have l2 := l'.trans e2.lq
      generalize f ρ1 μ' = o at q'
      cases o with
      | no => exact q'
      | exn c μ2 => exact fun c od φ G H a b r => xs.fw _ _ _ _ _ (q' c od φ G H a b r)
      | ok fl μ2 =>
        cases fl with
        | nx ρ3 => exact fun σ3 φ3 G3 H3 b3 l3 => ⟨φ3, G3, ρ3, μ2, b3, l2.trans l3, postS_flat xs.fw (e2.lq.trans l3) q'⟩
        | ct ρ3 => exact fun σ3 φ3 G3 H3 b3 l3 => ⟨φ3, G3, ρ3, μ2, b3, l2.trans l3, postS_flat xs.fw (e2.lq.trans l3) q'⟩
        | bk ρ3 => exact fun σ3 φ3 G3 H3 b3 l3 => q' σ3 φ3 G3 H3 b3 (e2.lq.trans l3)
        | rt r => exact q'
  · rintro σ' H' ⟨φ', G', ρ', μ', b', l', q'⟩
    rw [List.drop_length] at q'
    exact q' σ' φ' G' H' b' Lq.refl
theorem s_while {c : Expr} {body : List Stmt} {t : Ev.T} {f : Ev.S} {n : Nat} {pos : Pos} (xs : XS X W k) (hc : PT X c (tT (ct X ca) W t)) (hb : PSs X body (tS (ct X ca) W e f)) : PS X (.While c body [] pos) (tS (ct X ca) W e (Ev.sWhile n t f)) := PS.imp (ps_while xs.po hc hb) fun D σ H q => by
  obtain ⟨φ, G, ρ, μ, bs, q⟩ := q
  unfold Ev.sWhile at q
  refine ⟨fun m σ' H' => ∃ φ' G' ρ' μ', BS (ct X ca) e φ' G' H' σ' ρ' μ' ∧ postS (ct X ca) W e φ' G' σ' (Ev.whL t f m ρ' μ') D, ⟨n, φ, G, ρ, μ, bs, q⟩, ?_⟩
  rintro m σ' H' ⟨φ', G', ρ', μ', b', q'⟩
  cases m with
  | zero => exact q'.elim
  | succ m =>
    refine ⟨φ', G', ρ', μ', b'.ok, b'.en, b'.bind (show postS (ct X ca) W e φ' G' σ' ((t ρ' μ').bind _) D from q') fun v φ1 G1 H1 z μ1 _ ext ok1 r1 q1 => ?_⟩
    have b1 := b'.step ext ok1
    have hz : v = z := r1
    subst hz
    cases v with
    | false =>
      rw [if_neg (by decide)] at q1 ⊢
      exact q1 σ' φ1 G1 H1 b1 ext.lq
    | true =>
      rw [if_pos rfl] at q1 ⊢
      have q1 := postS_flat (σ1 := σ') xs.fw ext.lq q1
      refine ⟨fun σ2 H2 => ∃ φ' G' ρ' μ', BS (ct X ca) e φ' G' H2 σ2 ρ' μ' ∧ postS (ct X ca) W e φ' G' σ2 (Ev.whL t f m ρ' μ') D, fun σ2 H2 h => ⟨m, Nat.lt_succ_self m, h⟩, φ1, G1, ρ', μ1, b1, ?_⟩
      generalize f ρ' μ1 = o at q1
      cases o with
      | no => exact q1
      | exn c μ2 => exact q1
      | ok fl μ2 =>
        cases fl with
        | nx ρ3 => exact fun σ3 φ3 G3 H3 b3 l3 => ⟨φ3, G3, ρ3, μ2, b3, postS_flat xs.fw l3 q1⟩
        | ct ρ3 => exact fun σ3 φ3 G3 H3 b3 l3 => ⟨φ3, G3, ρ3, μ2, b3, postS_flat xs.fw l3 q1⟩
        | bk ρ3 => exact q1
        | rt r => exact q1
end
end EvS
end

section
set_option maxHeartbeats 0
set_option Elab.async false
set_option linter.all false
set_option maxRecDepth 100000
/-! EvLaw: the table of a law's defs; the law's own call. -/
namespace EvS
open PySem PySem.Spec PyProof.Rows L2
theorem FnG.imp {P : Program} {w : World} {K : PySem.W.Frag} {mg : Str → Option Value} {base : Heap} {k : Nat} {f : Addr} {fd : FuncData} {ps : List Str} {sp sp' : Sp} (h : FnG P w K mg base k f fd ps sp) (i : ∀ vs H Q E, sp' vs H Q E → sp vs H Q E) : FnG P w K mg base k f fd ps sp' :=
  ⟨fun vs H Q E q => h.len vs H Q E (i vs H Q E q), fun A out s H args us vs Q E hr e0 hb r q => h.go A out s H args us vs Q E hr e0 hb r (i vs H Q E q)⟩
/-- a def's context -/
abbrev cx (Pg : Program) (w : World) (K : PySem.W.Frag) (mg : Str → Option Value) (base : Heap) (N : List Str) (qual : Str) (scope : Scope) (a : Addr) (cdv : Value) (A : Around) (out : List Env) (s : Shared) (H : Hp) (E : XK) : Cx := cxOf (CX Pg w) Pg w K mg base N qual scope a cdv A out s H E
abbrev wE (E : XK) : WX := fun c d _ H => E c d H
/-- the tables of the defs that hold generator expressions, as the base has them -/
def TBs (ca : Cn) (base : Heap) (mg : Str → Option Value) : Prop := ∀ p ∈ ca.tabs, GxR.TabB base mg p.1 p.2
/-- the code object of the def at a -/
def codeAt (K : PySem.W.Frag) (a : Addr) : Addr := match K.lookup a with
  | some ⟨_, _, .func fd, _⟩ => (match fd.code with
    | .ref c => c
    | _ => 0)
  | _ => 0
/-- a def of the text is what the evaluator says -/
def Dn (Pg : Program) (w : World) (K : PySem.W.Frag) (mg : Str → Option Value) (ca : Cn) (P : String → Option Ev.Def) (f : String) (d : Ev.Def) : Prop :=
  ∃ (name qual : Str) (params : Arguments) (body : List Stmt) (scope : Scope) (a : Addr) (fd : FuncData) (N ps : List Str),
    FunD K name qual params body scope [] [] a fd ∧ mg (Str.ofString f) = some (.ref a) ∧ FnScope N ps scope ∧ ps.length = d.np ∧ N.length = d.nl ∧ Binds K fd ps [] ∧
    ∀ (base : Heap) (cdv : Value) (A : Around) (out : List Env) (s : Shared) (H : Hp) (E : XK) (e : En) (n : Nat), TBs ca base mg → cdv = .ref (codeAt K a) →
      (∀ g d', P g = some d' → Callee (cx Pg w K mg base N qual scope a cdv A out s H E) ca n (Ev.callN P n) g d'.np) → XS (cx Pg w K mg base N qual scope a cdv A out s H E) (wE E) n → Slk (cx Pg w K mg base N qual scope a cdv A out s H E) n →
        PSs (cx Pg w K mg base N qual scope a cdv A out s H E) body (tS (ct (cx Pg w K mg base N qual scope a cdv A out s H E) ca) (wE E) e (d.body (Ev.callN P n)))
theorem tab {Pg : Program} {w : World} {K : PySem.W.Frag} {mg : Str → Option Value} {ca : Cn} {P : String → Option Ev.Def} (hd : ∀ f d, P f = some d → Dn Pg w K mg ca P f d) :
    ∀ n f d, P f = some d → ∃ (a : Addr) (fd : FuncData) (ps : List Str), ps.length = d.np ∧ mg (Str.ofString f) = some (.ref a) ∧ PySem.W.keepIn K (.ref a) = true ∧ Binds K fd ps [] ∧ ∀ base : Heap, TBs ca base mg → FnG Pg w K mg base n a fd ps (spF ⟨K, ca⟩ d.np (Ev.callN P n f))
  | 0, f, d, h => by
    obtain ⟨name, qual, params, body, scope, a, fd, N, ps, F, hm, S, h1, h2, hb, _⟩ := hd f d h
    refine ⟨a, fd, ps, h1, hm, F.kp, hb, fun base _ => ⟨fun vs H Q E q => ?_, fun A out s H args us vs Q E hr e0 hb r q => ?_⟩⟩
    · obtain ⟨_, _, _, _, _, _, _, q⟩ := q; exact q.elim
    · obtain ⟨_, _, _, _, _, _, _, q⟩ := q; exact q.elim
  | n + 1, f, d, h => by
    obtain ⟨name, qual, params, body, scope, a, fd, N, ps, F, hm, S, h1, h2, hb, hbody⟩ := hd f d h
    obtain ⟨oc, od, dV, kV, doc, pm, an, cdv, ct0, osl, e1, lk, hcd, _, _⟩ := F.ex
    subst e1
    have ih := tab hd n
    have hcv : cdv = .ref (codeAt K a) := by
      obtain ⟨c, hc⟩ := He.codeIn_ref hcd
      subst hc
      unfold codeAt
      rw [lk]
    refine ⟨a, _, ps, h1, hm, F.kp, hb, fun base tb => (fn_body (k := n) (np := d.np) (nl := d.nl) (ca := ca) (b := d.body (Ev.callN P n)) lk hcd S h1 h2 fun A out s H E e xs sl => ?_).imp fun vs H Q E q => ?_⟩
    · exact hbody base cdv A out s H E e n tb hcv (fun g d' hg => let ⟨a, fd, ps, z1, z2, z3, z4, z5⟩ := ih g d' hg; ⟨a, fd, ps, z1, z2, z3, z4, z5 base tb⟩) xs sl
    · obtain ⟨φ, G, rs, μ, ok, r, hl, q⟩ := q
      refine ⟨φ, G, rs, μ, ok, r, hl, ?_⟩
      unfold Ev.callN at q
      rw [h] at q
      simpa only [hl, if_true] using q

/-! ### the law's own call -/
/-- the script alone is tracked, as it stands -/
def scrH (K : PySem.W.Frag) (a : Addr) (o : Obj) (xs : List V) : Hp := fun b => if b = a ∧ (K.lookup a).isNone = true then some (.frz o (.lst xs)) else none
theorem scrH_some {K : PySem.W.Frag} {a b : Addr} {o : Obj} {xs : List V} {u : HO} (h : scrH K a o xs b = some u) : b = a ∧ (K.lookup a).isNone = true ∧ u = .frz o (.lst xs) := by
  unfold scrH at h
  split at h
  · rename_i c
    exact ⟨c.1, c.2, (Option.some.inj h).symm⟩
  · cases h
theorem law_callG {Pg : Program} {w : World} {K : PySem.W.Frag} {mg mb : Str → Option Value} {k : Nat} {fa a : Addr} {fd : FuncData} {x : Str} {ca : Cn} {c : List Ev.R → Ev.Mem → Ev.Out Ev.R} {s₁ : Shared} {vs : List Value} {ns : List Int}
    (inK : K.In s₁.heap) (nsM : s₁.heap.Ns mainGlobals mg) (nsB : s₁.heap.Ns builtinsNs mb) (blt : ∀ y : Str, y ≠ "__name__" → mb y = bootBuiltins y) (lim : s₁.heap.NoLimit) (gens : s₁.gens = #[])
    (hT : ∀ p ∈ ca.tabs, s₁.heap.get? p.2 = some { cls := .none, data := .fields #[] }) (nT : ∀ p ∈ ca.tabs, K.lookup p.2 = none) (Cd : ∀ p ∈ ca.tabs, PySem.W.CodeHd s₁.heap p.1 p.2)
    (hbm : ∃ (bm : Addr) (ob : Obj), mg "__builtins__" = some (.ref bm) ∧ bm ≠ builtinsNs ∧ s₁.heap.get? bm = some ob ∧ ob.cls = .type "module" ∧ ob.dict = some builtinsNs ∧ ob.data = .plain)
    (obj : s₁.heap.get? a = some { cls := .type "list", data := .seq vs.toArray }) (nums : IntsAre vs ns) (len : ns.length ≤ sizeLine) (room : Room k callerA)
    (F : ∀ base : Heap, TBs ca base mg → FnG Pg w K mg base k fa fd [x] (spF ⟨K, ca⟩ 1 c)) (bnd : Binds K fd [x] []) (law : c [.scr ns] [] = .ok (.d (.bl true)) []) :
    codeAny (model Pg w) callerA (.call (.ref fa) ⟨[.ref a], []⟩) (fun r s' => r = .ok (.ret (.bool true)) ∧ OldK s₁.heap s'.heap ∧ s'.os = s₁.os ∧ AllBare s'.gens) s₁ := by
  have vals := vals_ints nums
  have lv := nums.length
  have isT : ∀ b : Addr, b ∈ ca.tabs.map (·.2) → s₁.heap.get? b = some { cls := .none, data := .fields #[] } := fun b hb => by
    obtain ⟨p, hp, e⟩ := List.mem_map.mp hb
    rw [← e]
    exact hT p hp
  have aT : a ∉ ca.tabs.map (·.2) := fun z => by
    have q := isT a z
    rw [obj] at q
    have z' : Data.seq vs.toArray _ = Data.fields #[] := congrArg Obj.data (Option.some.inj q)
    cases z'
  have memT : ∀ p ∈ ca.tabs, p.2 ∈ ca.tabs.map (·.2) := fun p hp => List.mem_map.mpr ⟨p, hp, rfl⟩
  generalize ho : ({ cls := .type "list", data := .seq vs.toArray } : Obj) = o at obj
  generalize hG : scrH K a o (ns.map V.int) = G
  generalize hH : (fun b => if b ∈ ca.tabs.map (·.2) then some (HO.tbl #[]) else G b : Hp) = H
  have offG : ∀ {b : Addr} {u : HO}, G b = some u → b = a ∧ K.lookup a = none ∧ u = .frz o (.lst (ns.map V.int)) := fun {b u} e => by
    rw [← hG] at e
    obtain ⟨h1, h2, h3⟩ := scrH_some e
    exact ⟨h1, Option.isNone_iff_eq_none.mp h2, h3⟩
  have inT : ∀ {b : Addr}, b ∈ ca.tabs.map (·.2) → H b = some (.tbl #[]) := fun {b} hb => by rw [← hH]; exact if_pos hb
  have ouT : ∀ {b : Addr}, b ∉ ca.tabs.map (·.2) → H b = G b := fun {b} hb => by rw [← hH]; exact if_neg hb
  have off : ∀ {b : Addr} {u : HO}, b ∉ ca.tabs.map (·.2) → H b = some u → b = a ∧ K.lookup a = none ∧ u = .frz o (.lst (ns.map V.int)) := fun {b u} hb e => by rw [ouT hb] at e; exact offG e
  have none_of : ∀ {b : Addr}, b ∉ ca.tabs.map (·.2) → (b = a → K.lookup a = none → False) → H b = none := fun {b} hb n => by
    cases q : H b with
    | none => rfl
    | some u => obtain ⟨h1, h2, _⟩ := off hb q; exact (n h1 h2).elim
  have noD : ∀ {b : Addr} {u : Obj}, s₁.heap.get? b = some u → (∀ vs n, u.data ≠ .seq vs n) → u.data ≠ .fields #[] → H b = none := fun {b u} e h1 h2 => by
    refine none_of (fun hb => ?_) fun h3 _ => ?_
    · rw [isT b hb] at e; cases e; exact h2 rfl
    · subst h3
      rw [obj] at e
      cases e
      exact h1 _ _ (by rw [← ho])
  have dictFree : ∀ {b : Addr} {u : Obj} {es : Array DictEntry} {ep : Nat}, s₁.heap.get? b = some u → u.data = .dict es ep → H b = none := fun {b u es ep} e d =>
    noD e (fun vs n z => by rw [d] at z; cases z) fun z => by rw [d] at z; cases z
  have keepNs : ∀ {b : Addr} {m : Str → Option Value}, s₁.heap.Ns b m → (hidT s₁.heap H).Ns b m := fun {b m} ⟨u, es, ep, e, d, r⟩ => ⟨u, es, ep, hidT_get e (dictFree e d), d, r⟩
  have keepK : K.In (hidT s₁.heap H) := fun b u e => hidT_get (inK b u e) (none_of (fun hb => by
    obtain ⟨p, hp, ep⟩ := List.mem_map.mp hb
    rw [← ep, nT p hp] at e
    cases e) fun h1 h2 => by rw [h1, h2] at e; cases e)
  have lim' := lim
  obtain ⟨mc, lim1, lim2⟩ := lim
  have modK : Mod K mg (hidT s₁.heap H) := ⟨keepK, keepNs nsM, ⟨mb, keepNs nsB, blt⟩, ⟨mc, keepNs lim1, lim2⟩⟩
  have hok : HOk Pg w H s₁.heap := fun b u e => by
    by_cases hb : b ∈ ca.tabs.map (·.2)
    · rw [inT hb] at e
      cases e
      exact isT b hb
    · obtain ⟨h1, _, h3⟩ := off hb e
      subst h1 h3
      exact ⟨obj, by rw [List.length_map]; exact len, vs, _, vals, by rw [obj, ← ho]⟩
  have seq : SqL K G a (ns.map V.int) := by
    cases q : K.lookup a with
    | some u =>
      have e := inK a u q
      rw [obj] at e
      cases e
      rw [← ho] at q
      exact .inr ⟨_, vs.toArray, _, q, rfl, rfl, rfl, by rw [List.size_toArray, lv]; exact len, by simpa using vals⟩
    | none => exact .inl (.inr ⟨o, by rw [← hG]; unfold scrH; rw [if_pos ⟨rfl, by rw [q]; rfl⟩]⟩)
  have noB : ∀ b : Addr, b ∉ ([] : List Addr) := fun b h => by cases h
  have env : Env0 Pg w K mg (hidT s₁.heap H) callerA [] s₁ H := ⟨rfl, modK, fun b u e => of_hidT e, Nat.le_of_eq (hidT_size _ _), trivial, fun b hb => absurd hb (noB b), hok, .of_eq gens⟩
  have TB : TBs ca (hidT s₁.heap H) mg := fun p hp => by
    have hTp := hT p hp
    refine ⟨?_, ?_, fun z => ?_⟩
    · obtain ⟨o, us, file, tf, flags, tg, inF, text, tt, e1, r1, r2, r3, r4, r5, r6, r7, r8, hne⟩ := Cd p hp
      refine ⟨o, us, file, tf, flags, tg, inF, text, tt, hidT_get e1 (noD e1 (fun vs n z => ?_) fun z => ?_), r1, r2, r3, r4, r5, r6, r7, r8, hne⟩
      · rw [r2] at z
        cases z
      · rw [r2] at z
        cases z
        simp at r3
    · obtain ⟨bm, ob, b1, b2, b3, b4, b5, b6⟩ := hbm
      have nG : bm ≠ mainGlobals := fun q => by
        obtain ⟨o, es, ep, e, hd, _⟩ := nsM
        rw [q, e] at b3
        cases b3
        rw [hd] at b6
        cases b6
      have nP : bm ≠ p.2 := fun q => by
        rw [q, hTp] at b3
        cases b3
        cases b6
      refine ⟨bm, ob, b1, b2, nG, nP, hidT_get b3 (noD b3 (fun vs n z => ?_) fun z => ?_), b4, b5, b6⟩
      · rw [b6] at z
        cases z
      · rw [b6] at z
        cases z
    · obtain ⟨o, es, ep, e, hd, _⟩ := nsM
      rw [z, hTp] at e
      cases e
      cases hd
  have bt : BindsTo s₁ fd ⟨[.ref a], []⟩ [(x, .ref a)] := by
    have q := bnd s₁ [.ref a] inK rfl
    exact q
  have start : spF ⟨K, ca⟩ 1 c [.ref a] H (fun v _ => v = .bl true) fun _ _ _ => False := by
    refine ⟨[], G, [.scr ns], [], ⟨fun b u e => ?_, List.nodup_nil, rfl, fun b h => absurd h (noB b), fun b h => absurd h (noB b), (fun n b u e => by cases e), fun p hp => ⟨⟨#[], inT (memT p hp), trivial⟩, noB _, ?_⟩⟩, .cons (.scr seq) .nil, rfl, ?_⟩
    · obtain ⟨h1, _, _⟩ := offG e
      rw [ouT (by rw [h1]; exact aT)]; exact e
    · cases q : G p.2 with
      | none => rfl
      | some u =>
        obtain ⟨h1, _, _⟩ := offG q
        exact absurd (memT p hp) (by rw [h1]; exact aT)
    · rw [law]
      exact fun v φ' G' H' _ _ r => r.bl
  refine codeAny_mono ((F (hidT s₁.heap H) TB).go callerA [] s₁ H ⟨[.ref a], []⟩ [.ref a] [.ref a] _ _ ⟨room, rfl⟩ env bt (.cons rfl .nil) start) fun r s' h => ?_
  match r, h with
  | .error e, ⟨_, _, _, _, _, _, _, _, _, _, _, _, z⟩ => exact z.elim
  | .ok .next, h => exact h.elim
  | .ok .brk, h => exact h.elim
  | .ok .cont, h => exact h.elim
  | .ok (.ret u), ⟨v, H', os, bare, un, hok', rv, q⟩ =>
    have q : v = .bl true := q
    subst q
    cases (show u = Value.bool true from rv)
    have key : ∀ b u, b ∉ ca.tabs.map (·.2) → s₁.heap.get? b = some u → s'.heap.get? b = some u := fun b u hb e => by
      cases q : H b with
      | none => exact un.keep b u e q (noB b) (noB b)
      | some z =>
        obtain ⟨h1, _, h3⟩ := off hb q
        subst h1 h3
        obtain ⟨z1, _⟩ := hok b _ q
        obtain ⟨z2, _⟩ := hok' b _ (un.frzs b _ _ q)
        rw [e] at z1
        cases z1
        exact z2
    have grown : ∀ p ∈ ca.tabs, ∃ more : Array Value, s'.heap.get? p.2 = some { cls := .none, data := .fields more } := fun p hp => by
      obtain ⟨more, z⟩ := un.tbls p.2 #[] (inT (memT p hp))
      exact ⟨_, hok' p.2 _ z⟩
    refine ⟨rfl, ⟨fun b o e => ?_, fun b o e => ?_⟩, os, bare⟩
    · by_cases hb : b ∈ ca.tabs.map (·.2)
      · obtain ⟨p, hp, ep⟩ := List.mem_map.mp hb
        obtain ⟨more, hm⟩ := grown p hp
        rw [← ep] at e ⊢
        rw [hT p hp] at e
        cases e
        exact .inr (.inl ⟨((Cd p hp).tab (hT p hp)).isCodeTable, rfl, #[], more, rfl, by rw [Array.empty_append]; exact hm⟩)
      · exact .inl (key b o hb e)
    · by_cases hb : b ∈ ca.tabs.map (·.2)
      · obtain ⟨p, hp, ep⟩ := List.mem_map.mp hb
        obtain ⟨more, hm⟩ := grown p hp
        rw [← ep]
        exact ⟨_, hm⟩
      · exact ⟨o, key b o hb e⟩
/-- the law, from the table -/
theorem walk_ev {l : PySem.W.OpenLaw} {k : Nat} {q : Program} {loose : List Str} {XP : (Str → Option Value) → Heap → Prop} {YP : World → Heap → Prop} {d : DefRec} {P : String → Option Ev.Def} {dl : Ev.Def} {n : Nat}
    (hn : l.most = some n) (hn2 : n ≤ sizeLine) (hdf : d.params.defaults = []) (hr : Room k callerA) (hnm : d.name = Str.ofString "law") (hl : P "law" = some dl) (h1 : dl.np = 1)
    (F : ∀ (w : World) (mg : Str → Option Value) (h : Heap), YP w h → h.Ns mainGlobals mg → ∃ (K : PySem.W.Frag) (ca : Cn), K.In h ∧ (∀ p ∈ ca.tabs, h.get? p.2 = some { cls := .none, data := .fields #[] }) ∧ (∀ p ∈ ca.tabs, K.lookup p.2 = none) ∧ (∀ p ∈ ca.tabs, PySem.W.CodeHd h p.1 p.2) ∧ ∀ f d, P f = some d → Dn l.prog w K mg ca P f d)
    (law : ∀ ns : List Int, ns.length ≤ n → (∀ k ∈ ns, Builtin.Int.intBits k ≤ 1048576) → Ev.callN P k "law" [.scr ns] [] = .ok (.d (.bl true)) []) :
    PySem.W.WalkO q loose XP YP l.row.toRowW d [] (fun f vs => PySem.call f vs) := by
  refine Att.attach_callB hn hdf fun w s₀ s₁ mg mb fa o pm cd doc a vs ns G Y ho hd hcd hmg hobj hints hlen hbits hg => ?_
  obtain ⟨K, ca, KX, hT, nT, Cd, hD⟩ := F w mg _ Y G.T.g
  obtain ⟨a0, fd0, ps0, e1, e2, e3, e4, T⟩ := tab hD k "law" dl hl
  rw [hnm, e2] at hmg
  cases hmg
  rw [h1] at e1 T
  obtain ⟨x, rfl⟩ := List.length_eq_one_iff.mp e1
  exact law_callG KX G.T.g G.T.b G.T.builtins G.T.nolimit hg hT nT Cd G.T.bmain hobj hints (Nat.le_trans hlen hn2) hr T e4 (law ns hlen hbits)

/-- the tables of the defs of tf -/
def caK (K : PySem.W.Frag) (tf : List He.Defn) : Cn := ⟨fun _ => 0, tf.map (He.cT K)⟩
theorem caK_all {K : PySem.W.Frag} {tf : List He.Defn} {R : Addr × Addr → Prop} (h : ∀ p ∈ tf, R (He.cT K p)) : ∀ q ∈ (caK K tf).tabs, R q := fun q hq => by
  obtain ⟨p, hp, e⟩ := List.mem_map.mp hq
  rw [← e]; exact h p hp
theorem tbx_of {K : PySem.W.Frag} {tf : List He.Defn} {X : Cx} {p : He.Defn} (tb : TBs (caK K tf) X.base X.mg) (hc : X.env.code = .ref (codeAt K (He.fAd K p))) (hp : p ∈ tf) : Tbx X (caK K tf) :=
  have m : He.cT K p ∈ (caK K tf).tabs := List.mem_map.mpr ⟨p, hp, rfl⟩
  ⟨_, (He.cT K p).2, hc, m, tb _ m⟩

/-! ### what a generated derivation names -/
section
variable {X : Cx} {W : WX} {ca : Cn} {k : Nat}
theorem XS.u65 (xs : XS X W k) : X.A.units + 65 < cLine := by have := xs.room.r.un; omega
theorem XS.u64 (xs : XS X W k) : X.A.units + 64 < cLine := by have := xs.room.r.un; omega
theorem XS.u1 (xs : XS X W k) : X.A.units + 1 < cLine := by have := xs.room.r.un; omega
end
/-- a module's constant -/
def GC (K : PySem.W.Frag) (mg : Str → Option Value) (x : Str) (d : Ev.D) : Prop := ∃ v u, mg x = some u ∧ RelV v u ∧ ∀ G : Hp, DR K G v d
theorem se_gc {X : Cx} {W : WX} {ca : Cn} {x : Str} {d : Ev.D} {pos : Pos} (g : GC X.K X.mg x d) (hg : Gl X x) (hd : (x == ("__debug__" : Str)) = false := by decide) : PE X (.Name x pos) (tE (ct X ca) W (Ev.eC d)) := by
  obtain ⟨v, u, h1, h2, h3⟩ := g
  exact se_g hg h1 h2 h3 hd
mutual
def isDV (K : PySem.W.Frag) : Ev.D → Value → Bool
  | .non, .none => true
  | .bl a, .bool b => a == b
  | .int i, .int j _ => decide (i = j)
  | .str z, .str y _ => decide (y = Str.ofString z)
  | .tup ds, .ref a => match K.lookup a with
    | some ⟨.type c, _, .seq its _, _⟩ => decide (c = "tuple") && (decide (its.size ≤ sizeLine) && isDVs K ds its.toList)
    | _ => false
  | _, _ => false
def isDVs (K : PySem.W.Frag) : List Ev.D → List Value → Bool
  | [], [] => true
  | d :: ds, u :: us => isDV K d u && isDVs K ds us
  | _, _ => false
end
mutual
theorem isDV_ok {K : PySem.W.Frag} : ∀ {d : Ev.D} {u : Value}, isDV K d u = true → ∃ v, RelV v u ∧ ∀ G : Hp, DR K G v d
  | .non, u, h => by cases u <;> simp [isDV] at h; exact ⟨.non, rfl, fun _ => .non⟩
  | .bl a, u, h => by
    cases u <;> simp [isDV] at h
    subst h; exact ⟨.bl a, rfl, fun _ => .bl a⟩
  | .int a, u, h => by
    cases u <;> simp [isDV] at h
    subst h; exact ⟨.int a, ⟨_, rfl⟩, fun _ => .int a⟩
  | .str a, u, h => by
    cases u <;> simp [isDV] at h
    subst h; exact ⟨.str (Str.ofString a), ⟨_, rfl⟩, fun _ => .str a⟩
  | .lst ds, u, h => by cases u <;> simp [isDV] at h
  | .tup ds, u, h => by
    cases u with
    | ref a =>
      unfold isDV at h
      split at h
      · rename_i c _ its n _ hl
        simp only [Bool.and_eq_true, decide_eq_true_eq] at h
        obtain ⟨h1, h2, h3⟩ := h
        obtain ⟨vs, h4, h5⟩ := isDVs_ok h3
        exact ⟨.ref a, rfl, fun G => .tup (.inr ⟨_, its, n, hl, congrArg Value.type h1, rfl, h2, h4⟩) (h5 G)⟩
      · cases h
    | _ => simp [isDV] at h
theorem isDVs_ok {K : PySem.W.Frag} : ∀ {ds : List Ev.D} {us : List Value}, isDVs K ds us = true → ∃ vs, Vals vs us ∧ ∀ G : Hp, DRs K G vs ds
  | [], [], _ => ⟨[], .nil, fun _ => .nil⟩
  | [], _ :: _, h => by simp [isDVs] at h
  | _ :: _, [], h => by simp [isDVs] at h
  | d :: ds, u :: us, h => by
    simp only [isDVs, Bool.and_eq_true] at h
    obtain ⟨v, h1, h2⟩ := isDV_ok h.1
    obtain ⟨vs, h3, h4⟩ := isDVs_ok h.2
    exact ⟨v :: vs, .cons h1 h3, fun G => .cons (h2 G) (h4 G)⟩
end
def gcB (K : PySem.W.Frag) (x : Str) (d : Ev.D) : Bool := match PySem.W.nsIn K mainGlobals x with
  | some (some u) => isDV K d u
  | _ => false
theorem gc_ok {K : PySem.W.Frag} {mg : Str → Option Value} {h : Heap} {x : Str} {d : Ev.D} (X : K.In h) (G : h.Ns mainGlobals mg) (c : gcB K x d = true) : GC K mg x d := by
  unfold gcB at c
  split at c
  · rename_i u e
    obtain ⟨v, h1, h2⟩ := isDV_ok c
    exact ⟨v, u, PySem.W.mg_of X G e, h1, h2⟩
  · cases c
def gcs (K : PySem.W.Frag) (l : List (String × Ev.D)) : Bool := l.all fun p => gcB K (Str.ofString p.1) p.2
theorem gcs_ok {K : PySem.W.Frag} {mg : Str → Option Value} {h : Heap} {l : List (String × Ev.D)} (X : K.In h) (G : h.Ns mainGlobals mg) (c : gcs K l = true) {x : String} {d : Ev.D} (m : (x, d) ∈ l) : GC K mg (Str.ofString x) d := gc_ok X G (List.all_eq_true.mp c _ m)
theorem lookup_mem {α : Type} {l : List (String × α)} {f : String} {d : α} (h : l.lookup f = some d) : (f, d) ∈ l := by
  induction l with
  | nil => cases h
  | cons p l ih =>
    obtain ⟨g, e⟩ := p
    rw [List.lookup_cons] at h
    split at h
    · rename_i hb
      cases h
      have : f = g := by simpa using hb
      rw [this]; exact List.mem_cons_self
    · exact List.mem_cons_of_mem _ (ih h)
end EvS
end

section
set_option maxHeartbeats 0
set_option linter.all false
/-! EvSim: plain lemmas about the evaluator. -/
namespace Ev
theorem callN_run {P : String → Option Def} {n : Nat} {f : String} {d : Def} {args : List R} {μ : Mem} (h : P f = some d) (hl : args.length = d.np) : callN P (n + 1) f args μ = runB d.nl (d.body (callN P n)) args μ := by
  unfold callN; rw [h]; simp [hl]
/-- it ends well, with Q -/
def sat {α : Type} (o : Out α) (Q : α → Mem → Prop) : Prop := match o with
  | .ok a μ => Q a μ
  | _ => False
@[simp] theorem sat_ok {α : Type} {a : α} {μ : Mem} {Q : α → Mem → Prop} : sat (.ok a μ) Q ↔ Q a μ := Iff.rfl
@[simp] theorem sat_no {α : Type} {Q : α → Mem → Prop} : sat (.no : Out α) Q ↔ False := Iff.rfl
@[simp] theorem sat_exn {α : Type} {x : Exn} {μ : Mem} {Q : α → Mem → Prop} : sat (.exn x μ : Out α) Q ↔ False := Iff.rfl
theorem sat_bind {α β : Type} {o : Out α} {k : α → Mem → Out β} {Q : β → Mem → Prop} : sat (o.bind k) Q ↔ sat o fun a μ => sat (k a μ) Q := by cases o <;> rfl
theorem sat.mono {α : Type} {o : Out α} {Q Q' : α → Mem → Prop} (h : sat o Q) (i : ∀ a μ, Q a μ → Q' a μ) : sat o Q' := by
  cases o with
  | ok a μ => exact i a μ h
  | exn x μ => exact h
  | no => exact h
theorem sat.eq {α : Type} {o : Out α} {a : α} {μ : Mem} (h : sat o fun b ν => b = a ∧ ν = μ) : o = .ok a μ := by
  cases o with
  | ok b ν => rw [h.1, h.2]
  | exn x μ => exact h.elim
  | no => exact h.elim
theorem sat.of_eq {α : Type} {o : Out α} {a : α} {μ : Mem} {Q : α → Mem → Prop} (h : o = .ok a μ) (q : Q a μ) : sat o Q := by rw [h]; exact q
theorem sat_nx {α : Type} {o : Out α} {Q : α → Mem → Prop} : sat o.nx Q ↔ sat o Q := by cases o <;> rfl
theorem sat_lift {α : Type} {o : Option α} {μ : Mem} {Q : α → Mem → Prop} : sat (lift o μ) Q ↔ ∃ a, o = some a ∧ Q a μ := by
  cases o with
  | none => simp [lift]
  | some a => simp [lift]
/-- a loop -/
theorem sat_forL {t : Tg} {b : S} {xs : List R} {Q : Fl → Mem → Prop} (I : Nat → Env → Mem → Prop)
    (step : ∀ (i : Nat) (h : i < xs.length) (ρ : Env) (μ : Mem), I i ρ μ → ∃ ρ1, t xs[i] ρ = some ρ1 ∧ sat (b ρ1 μ) fun f μ => match f with
      | .nx ρ => I (i + 1) ρ μ
      | .ct ρ => I (i + 1) ρ μ
      | .bk ρ => Q (.nx ρ) μ
      | .rt r => Q (.rt r) μ)
    (done : ∀ ρ μ, I xs.length ρ μ → Q (.nx ρ) μ) {ρ : Env} {μ : Mem} (h : I 0 ρ μ) : sat (forL t b xs ρ μ) Q := by
  have key : ∀ (ys : List R) (i : Nat), xs.drop i = ys → ∀ (ρ : Env) (μ : Mem), I i ρ μ → i ≤ xs.length → sat (forL t b ys ρ μ) Q := by
    intro ys
    induction ys with
    | nil =>
      intro i e ρ μ h hi
      have : i = xs.length := by
        have := congrArg List.length e
        simp at this; omega
      subst this
      exact done ρ μ h
    | cons y ys ih =>
      intro i e ρ μ h hi
      have hl : i < xs.length := by
        have := congrArg List.length e
        simp at this; omega
      have e2 := List.drop_eq_getElem_cons hl
      rw [e] at e2
      injection e2 with e3 e4
      obtain ⟨ρ1, h1, h2⟩ := step i hl ρ μ h
      unfold forL
      rw [e3, h1]
      show sat ((b ρ1 μ).bind _) Q
      rw [sat_bind]
      refine h2.mono fun f μ1 q => ?_
      cases f with
      | nx ρ2 => exact ih (i + 1) e4.symm ρ2 μ1 q hl
      | ct ρ2 => exact ih (i + 1) e4.symm ρ2 μ1 q hl
      | bk ρ2 => exact q
      | rt r => exact q
  exact key xs 0 (by simp) ρ μ h (Nat.zero_le _)
/-- a comprehension's items -/
theorem sat_compL {t : Tg} {c : T} {e : E} {xs : List R} {ρ : Env} {Q : List R → Mem → Prop} (I : Nat → List R → Mem → Prop)
    (step : ∀ (i : Nat) (h : i < xs.length) (acc : List R) (μ : Mem), I i acc μ → ∃ ρ1, t xs[i] ρ = some ρ1 ∧ sat (c ρ1 μ) fun k μ => if k = true then sat (e ρ1 μ) fun y μ => I (i + 1) (acc ++ [y]) μ else I (i + 1) acc μ)
    (done : ∀ acc μ, I xs.length acc μ → Q acc μ) {μ : Mem} (h : I 0 [] μ) : sat (compL t c e xs ρ μ) Q := by
  have key : ∀ (ys : List R) (i : Nat), xs.drop i = ys → ∀ (acc : List R) (μ : Mem), I i acc μ → i ≤ xs.length → sat (compL t c e ys ρ μ) fun zs μ => Q (acc ++ zs) μ := by
    intro ys
    induction ys with
    | nil =>
      intro i e ρ μ h hi
      have : i = xs.length := by
        have := congrArg List.length e
        simp at this; omega
      subst this
      simpa using done ρ μ h
    | cons y ys ih =>
      intro i e acc μ h hi
      have hl : i < xs.length := by
        have := congrArg List.length e
        simp at this; omega
      have e2 := List.drop_eq_getElem_cons hl
      rw [e] at e2
      injection e2 with e3 e4
      obtain ⟨ρ1, h1, h2⟩ := step i hl acc μ h
      rw [compL_cons, e3, h1]
      show sat (Out.bind _ _) _
      rw [sat_bind, sat_nx]
      refine h2.mono fun k μ1 q => ?_
      cases k with
      | false => exact ih (i + 1) e4.symm acc μ1 (by simpa using q) hl
      | true =>
        simp only [if_true] at q ⊢
        rw [sat_bind, sat_nx]
        refine q.mono fun z μ2 q => ?_
        rw [sat_bind]
        refine (ih (i + 1) e4.symm _ μ2 q hl).mono fun zs μ3 q => ?_
        simpa using q
  simpa using key xs 0 (by simp) [] μ h (Nat.zero_le _)
/-- .. where the memory stays -/
theorem compL_map {t : Tg} {c : T} {e : E} {ρ : Env} {μ : Mem} : ∀ {xs : List R} {ys : List R}, xs.length = ys.length → (∀ (i : Nat) (x y : R), xs[i]? = some x → ys[i]? = some y → ∃ ρ1, t x ρ = some ρ1 ∧ c ρ1 μ = .ok true μ ∧ e ρ1 μ = .ok y μ) → compL t c e xs ρ μ = .ok ys μ
  | [], [], _, _ => rfl
  | [], _ :: _, h, _ => by simp at h
  | _ :: _, [], h, _ => by simp at h
  | x :: xs, y :: ys, hl, h => by
    obtain ⟨ρ1, h1, h2, h3⟩ := h 0 x y rfl rfl
    rw [compL_cons, h1]
    simp [h2, h3, compL_map (by simpa using hl) fun i x' y' hx hy => h (i + 1) x' y' (by simpa using hx) (by simpa using hy)]
/-- .. a filter -/
theorem compL_filter {t : Tg} {c : T} {e : E} {ρ : Env} {μ : Mem} {α : Type} (enc : α → R) (out : α → R) (p : α → Bool) : ∀ {xs : List α}, (∀ x ∈ xs, ∃ ρ1, t (enc x) ρ = some ρ1 ∧ c ρ1 μ = .ok (p x) μ ∧ (p x = true → e ρ1 μ = .ok (out x) μ)) → compL t c e (xs.map enc) ρ μ = .ok ((xs.filter p).map out) μ
  | [], _ => rfl
  | x :: xs, h => by
    obtain ⟨ρ1, h1, h2, h3⟩ := h x List.mem_cons_self
    rw [List.map_cons, compL_cons, h1]
    have ih := compL_filter (t := t) (c := c) (e := e) (ρ := ρ) (μ := μ) enc out p (xs := xs) fun y hy => h y (List.mem_cons_of_mem _ hy)
    cases hp : p x with
    | true => simp [h2, h3 hp, hp, ih]
    | false => simp [h2, hp, ih]
theorem mkL_ds (ds : List D) : mkL (ds.map .d) = .d (.lst ds) := by
  unfold mkL
  have := valsR_map (fun x : D => x) ds
  simp only [List.map_id'] at this
  rw [this]
theorem mkL_map {α : Type} (f : α → D) (xs : List α) : mkL (xs.map fun x => .d (f x)) = .d (.lst (xs.map f)) := by
  unfold mkL; rw [valsR_map]
theorem valsR_ds (ds : List D) : valsR (ds.map .d) = some ds := by
  have := valsR_map (fun x : D => x) ds
  simpa only [List.map_id'] using this
theorem atI_nat {α : Type} (xs : List α) (i : Nat) : atI xs (i : Int) = xs[i]? := by
  unfold atI ixN
  by_cases h : i < xs.length
  · simp [h]
  · simp [h]
theorem getElem_enumF : ∀ (ds : List D) (k i : Nat), (enumF k ds)[i]? = ds[i]?.map fun d => .d (.tup [.int ((k + i : Nat) : Int), d])
  | [], k, i => by simp [enumF]
  | d :: ds, k, 0 => by simp [enumF]
  | d :: ds, k, i + 1 => by
    simp only [enumF, List.getElem?_cons_succ]
    rw [getElem_enumF ds (k + 1) i]
    congr 2; funext x; congr 4; omega
@[simp] theorem length_enumF : ∀ (ds : List D) (k : Nat), (enumF k ds).length = ds.length
  | [], _ => rfl
  | d :: ds, k => by simp [enumF, length_enumF ds]
theorem getElem_rangeF : ∀ (n : Nat) (lo : Int) (i : Nat), i < n → (rangeF lo n)[i]? = some (.d (.int (lo + i)))
  | n + 1, lo, 0, _ => by simp [rangeF]
  | n + 1, lo, i + 1, h => by
    simp only [rangeF, List.getElem?_cons_succ]
    rw [getElem_rangeF n (lo + 1) i (by omega)]
    congr 3; omega
@[simp] theorem length_rangeF : ∀ (n : Nat) (lo : Int), (rangeF lo n).length = n
  | 0, _ => rfl
  | n + 1, lo => by simp [rangeF, length_rangeF n]
theorem fin_same {r : R} {μ μ' : Mem} (h : μ'.length = μ.length) : fin μ.length r μ' = .ok r μ' := by unfold fin; rw [if_pos h]
@[simp] theorem eqv_str (a b : String) : D.eqv (.str a) (.str b) = (a == b) := by simp [D.eqv]
@[simp] theorem eqv_int (a b : Int) : D.eqv (.int a) (.int b) = (a == b) := by simp [D.eqv]
@[simp] theorem eqv_tup (a b : List D) : D.eqv (.tup a) (.tup b) = D.eqvL a b := by simp [D.eqv]
@[simp] theorem eqvL_nil : D.eqvL [] [] = true := by simp [D.eqvL]
@[simp] theorem eqvL_cons (x y : D) (xs ys : List D) : D.eqvL (x :: xs) (y :: ys) = (D.eqv x y && D.eqvL xs ys) := by simp [D.eqvL]
@[simp] theorem eqvL_nc (y : D) (ys : List D) : D.eqvL [] (y :: ys) = false := by simp [D.eqvL]
@[simp] theorem eqvL_cn (y : D) (ys : List D) : D.eqvL (y :: ys) [] = false := by simp [D.eqvL]
theorem eqD_left {x y : D} (h : x.dep ≤ 64) : eqD x y = some (x.eqv y) := by unfold eqD; exact if_pos (Nat.le_trans (Nat.min_le_left _ _) h)
theorem eqD_right {x y : D} (h : y.dep ≤ 64) : eqD x y = some (x.eqv y) := by unfold eqD; exact if_pos (Nat.le_trans (Nat.min_le_right _ _) h)
@[simp] theorem idxR_tup {ds : List D} {i : Int} : idxR (.d (.tup ds)) (.d (.int i)) = (atI ds i).map .d := rfl
@[simp] theorem idxR_lst {ds : List D} {i : Int} : idxR (.d (.lst ds)) (.d (.int i)) = (atI ds i).map .d := rfl
@[simp] theorem idxR_ls {rs : List R} {i : Int} : idxR (.ls rs) (.d (.int i)) = atI rs i := rfl
@[simp] theorem idxR_scr {ns : List Int} {i : Int} : idxR (.scr ns) (.d (.int i)) = (atI ns i).map fun n => .d (.int n) := rfl
@[simp] theorem idxR_dic {kvs : List (Ky × R)} {x : D} : idxR (.dic kvs) (.d x) = (keyOf x).bind (valK kvs) := rfl
@[simp] theorem eqR_d {x y : D} : eqR (.d x) (.d y) = eqD x y := rfl
@[simp] theorem neR_d {x y : D} : neR (.d x) (.d y) = (eqD x y).map not := rfl
@[simp] theorem ltR_int {a b : Int} : ltR (.d (.int a)) (.d (.int b)) = some (decide (a < b)) := rfl
@[simp] theorem leR_int {a b : Int} : leR (.d (.int a)) (.d (.int b)) = some (decide (a ≤ b)) := rfl
@[simp] theorem gtR_int {a b : Int} : gtR (.d (.int a)) (.d (.int b)) = some (decide (b < a)) := rfl
@[simp] theorem geR_int {a b : Int} : geR (.d (.int a)) (.d (.int b)) = some (decide (b ≤ a)) := rfl
@[simp] theorem addR_int {a b : Int} : addR (.d (.int a)) (.d (.int b)) = some (.d (.int (a + b))) := rfl
@[simp] theorem subR_int {a b : Int} : subR (.d (.int a)) (.d (.int b)) = some (.d (.int (a - b))) := rfl
@[simp] theorem addR_tup {a b : List D} : addR (.d (.tup a)) (.d (.tup b)) = if a.length + b.length ≤ SL then some (.d (.tup (a ++ b))) else none := rfl
@[simp] theorem addR_lst {a b : List D} : addR (.d (.lst a)) (.d (.lst b)) = if a.length + b.length ≤ SL then some (.d (.lst (a ++ b))) else none := rfl
@[simp] theorem addR_str {a b : String} : addR (.d (.str a)) (.d (.str b)) = if a.length + b.length ≤ SL then some (.d (.str (a ++ b))) else none := rfl
@[simp] theorem addL_lst {a b : List D} : addL (.d (.lst a)) (.d (.lst b)) = if a.length + b.length ≤ SL then some (.d (.lst (a ++ b))) else none := rfl
@[simp] theorem modR_int {a b : Int} : modR (.d (.int a)) (.d (.int b)) = if 0 < b then some (.d (.int (a % b))) else none := rfl
@[simp] theorem fdivR_int {a b : Int} : fdivR (.d (.int a)) (.d (.int b)) = if 0 < b ∧ b < 1073741824 then some (.d (.int (a / b))) else none := rfl
theorem mulR_r {a b : Int} (h : small b = true) : mulR (.d (.int a)) (.d (.int b)) = some (.d (.int (a * b))) := by
  show (if (small a || small b) = true then _ else _) = _
  rw [h, Bool.or_true]; rfl
theorem mulR_l {a b : Int} (h : small a = true) : mulR (.d (.int a)) (.d (.int b)) = some (.d (.int (a * b))) := by
  show (if (small a || small b) = true then _ else _) = _
  rw [h, Bool.true_or]; rfl
@[simp] theorem slcR_tup {ds : List D} {lo hi : Option Int} : slcR (.d (.tup ds)) lo hi = some (.d (.tup (cut ds lo hi))) := rfl
@[simp] theorem slcR_lst {ds : List D} {lo hi : Option Int} : slcR (.d (.lst ds)) lo hi = some (.d (.lst (cut ds lo hi))) := rfl
@[simp] theorem inR_lst {x : D} {ys : List D} : inR (.d x) (.d (.lst ys)) = if min x.dep (D.depL ys) ≤ EqDep then some (ys.any fun y => y.eqv x) else none := rfl
@[simp] theorem inR_tup {x : D} {ys : List D} : inR (.d x) (.d (.tup ys)) = if min x.dep (D.depL ys) ≤ EqDep then some (ys.any fun y => y.eqv x) else none := rfl
@[simp] theorem inR_dic {x : D} {kvs : List (Ky × R)} : inR (.d x) (.dic kvs) = (keyOf x).map fun k => (valK kvs k).isSome := rfl
@[simp] theorem ninR_eq {x y : R} : ninR x y = (inR x y).map not := rfl
@[simp] theorem isNonR_non : isNonR (.d .non) = true := rfl
@[simp] theorem isNonR_tup {ds : List D} : isNonR (.d (.tup ds)) = false := rfl
@[simp] theorem isNonR_lst {ds : List D} : isNonR (.d (.lst ds)) = false := rfl
@[simp] theorem lenR_tup {ds : List D} : lenR [.d (.tup ds)] = some (.d (.int ds.length)) := rfl
@[simp] theorem lenR_lst {ds : List D} : lenR [.d (.lst ds)] = some (.d (.int ds.length)) := rfl
@[simp] theorem lenR_scr {ns : List Int} : lenR [.scr ns] = some (.d (.int ns.length)) := rfl
@[simp] theorem intR_int {i : Int} : intR [.d (.int i)] = some (.d (.int i)) := rfl
@[simp] theorem intR_bl {b : Bool} : intR [.d (.bl b)] = some (.d (.int (if b then 1 else 0))) := rfl
@[simp] theorem tupleR_tup {ds : List D} : tupleR [.d (.tup ds)] = some (.d (.tup ds)) := rfl
@[simp] theorem tupleR_lst {ds : List D} : tupleR [.d (.lst ds)] = some (.d (.tup ds)) := rfl
@[simp] theorem listR_tup {ds : List D} : listR [.d (.tup ds)] = some (.d (.lst ds)) := rfl
@[simp] theorem listR_lst {ds : List D} : listR [.d (.lst ds)] = some (.d (.lst ds)) := rfl
@[simp] theorem maxR_two {a b : Int} : maxR [.d (.int a), .d (.int b)] = some (.d (.int (if b > a then b else a))) := rfl
@[simp] theorem minR_two {a b : Int} : minR [.d (.int a), .d (.int b)] = some (.d (.int (if b < a then b else a))) := rfl
@[simp] theorem truthR_bl {b : Bool} : truthR (.d (.bl b)) = some b := rfl
@[simp] theorem truthR_int {i : Int} : truthR (.d (.int i)) = some (i != 0) := rfl
@[simp] theorem itemsR_tup {ds : List D} : itemsR (.d (.tup ds)) = some (ds.map .d) := rfl
@[simp] theorem itemsR_lst {ds : List D} : itemsR (.d (.lst ds)) = some (ds.map .d) := rfl
@[simp] theorem itemsR_ls {rs : List R} : itemsR (.ls rs) = some rs := rfl
@[simp] theorem reprR_d {x : D} : reprR [.d x] = if x.dep ≤ EqDep ∧ x.cost ≤ SL then some (.rep x) else none := rfl
@[simp] theorem eqR_rep {x y : D} : eqR (.rep x) (.rep y) = if x.same y then some true else none := rfl
@[simp] theorem isinR_d {T : String} {x : D} : isinR T [.d x] = (tyN (.d x)).map fun a => .d (.bl (isB T a)) := rfl
@[simp] theorem tyN_lst {ds : List D} : tyN (.d (.lst ds)) = some "list" := rfl
@[simp] theorem tyN_int {i : Int} : tyN (.d (.int i)) = some "int" := rfl
@[simp] theorem tyN_bl {b : Bool} : tyN (.d (.bl b)) = some "bool" := rfl
@[simp] theorem atI_zero {α : Type} (xs : List α) : atI xs 0 = xs[0]? := atI_nat xs 0
@[simp] theorem atI_one {α : Type} (xs : List α) : atI xs 1 = xs[1]? := atI_nat xs 1
@[simp] theorem atI_two {α : Type} (xs : List α) : atI xs 2 = xs[2]? := atI_nat xs 2
@[simp] theorem atI_three {α : Type} (xs : List α) : atI xs 3 = xs[3]? := atI_nat xs 3
@[simp] theorem atI_cast {α : Type} (xs : List α) (n : Nat) : atI xs (n : Int) = xs[n]? := atI_nat xs n
theorem SL_eq_lit : SL = 16777216 := rfl
/-! statements under sat -/
theorem sat_sq {a b : S} {ρ : Env} {μ : Mem} {Q : Fl → Mem → Prop} : sat (sq a b ρ μ) Q ↔ sat (a ρ μ) fun f μ => match f with
    | .nx ρ => sat (b ρ μ) Q
    | f => Q f μ := by
  unfold sq
  rw [sat_bind]
  constructor <;> intro h <;> refine h.mono fun f μ q => ?_ <;> cases f <;> exact q
theorem sat_runB {nl : Nat} {b : S} {args : List R} {μ : Mem} {Q : R → Mem → Prop} (h : sat (b (args.map .v ++ List.replicate (nl - args.length) .un) μ) fun f ν => match f with
    | .rt r => ν.length = μ.length ∧ Q r ν
    | .nx _ => ν.length = μ.length ∧ Q (.d .non) ν
    | _ => False) : sat (runB nl b args μ) Q := by
  unfold runB
  rw [sat_bind]
  refine h.mono fun f ν q => ?_
  cases f with
  | rt r => show sat (fin μ.length r ν) Q; rw [fin_same q.1]; exact q.2
  | nx ρ => show sat (fin μ.length (.d .non) ν) Q; rw [fin_same q.1]; exact q.2
  | bk ρ => exact q
  | ct ρ => exact q
@[simp] theorem lt_SL_0 : (0 : Nat) < SL := by decide
@[simp] theorem lt_SL_1 : (1 : Nat) < SL := by decide
@[simp] theorem lt_SL_2 : (2 : Nat) < SL := by decide
@[simp] theorem lt_SL_3 : (3 : Nat) < SL := by decide
@[simp] theorem lt_SL_4 : (4 : Nat) < SL := by decide
@[simp] theorem lt_SL_5 : (5 : Nat) < SL := by decide
@[simp] theorem lt_SL_6 : (6 : Nat) < SL := by decide
@[simp] theorem lt_SL_7 : (7 : Nat) < SL := by decide
@[simp] theorem lt_SL_8 : (8 : Nat) < SL := by decide
@[simp] theorem lt_SL_9 : (9 : Nat) < SL := by decide
@[simp] theorem le_SL_1 : (1 : Nat) ≤ SL := by decide
@[simp] theorem le_SL_2 : (2 : Nat) ≤ SL := by decide
@[simp] theorem le_SL_3 : (3 : Nat) ≤ SL := by decide
@[simp] theorem le_SL_4 : (4 : Nat) ≤ SL := by decide
@[simp] theorem le_SL_5 : (5 : Nat) ≤ SL := by decide
@[simp] theorem le_SL_6 : (6 : Nat) ≤ SL := by decide
@[simp] theorem le_SL_7 : (7 : Nat) ≤ SL := by decide
@[simp] theorem le_SL_8 : (8 : Nat) ≤ SL := by decide
@[simp] theorem le_SL_9 : (9 : Nat) ≤ SL := by decide
theorem le_SL {n : Nat} (h : n ≤ 1000000) : n ≤ SL := Nat.le_trans h (by decide)
theorem lt_SL {n : Nat} (h : n < 1000000) : n < SL := Nat.lt_of_lt_of_le h (by decide)
theorem inRange62_nat {n : Nat} (h : n ≤ 1000000) : inRange62 (n : Int) = true := by
  unfold inRange62
  simp only [Bool.and_eq_true, decide_eq_true_eq]
  constructor <;> omega
theorem iRange1_nat {a : E} {ρ : Env} {μ μ' : Mem} {n : Nat} (h : a ρ μ = .ok (.d (.int n)) μ') (hn : n ≤ 1000000) : iRange1 a ρ μ = .ok (rangeF 0 n) μ' := by
  unfold iRange1
  rw [h, bind_ok]
  show (if inRange62 (n : Int) then _ else _) = _
  rw [if_pos (inRange62_nat hn)]
  rfl
/-! one statement after another -/
theorem sq_nx {a b : S} {ρ ρ' : Env} {μ μ' : Mem} (h : a ρ μ = .ok (.nx ρ') μ') : sq a b ρ μ = b ρ' μ' := by unfold sq; rw [h]; rfl
theorem sq_rt {a b : S} {ρ : Env} {r : R} {μ μ' : Mem} (h : a ρ μ = .ok (.rt r) μ') : sq a b ρ μ = .ok (.rt r) μ' := by unfold sq; rw [h]; rfl
theorem runB_rt {nl : Nat} {b : S} {args : List R} {μ μ' : Mem} {r : R} (h : b (args.map .v ++ List.replicate (nl - args.length) .un) μ = .ok (.rt r) μ') (hl : μ'.length = μ.length) : runB nl b args μ = .ok r μ' := by
  unfold runB; rw [h]; exact fin_same hl
theorem sIf_t {c : T} {a b : S} {ρ : Env} {μ μ' : Mem} (h : c ρ μ = .ok true μ') : sIf c a b ρ μ = a ρ μ' := by unfold sIf; rw [h]; rfl
theorem sIf_f {c : T} {a b : S} {ρ : Env} {μ μ' : Mem} (h : c ρ μ = .ok false μ') : sIf c a b ρ μ = b ρ μ' := by unfold sIf; rw [h]; rfl
theorem sNil_ok {ρ : Env} {μ : Mem} : sNil ρ μ = .ok (.nx ρ) μ := by unfold sNil; rfl
theorem sRet_ok {e : E} {ρ : Env} {μ μ' : Mem} {r : R} (h : e ρ μ = .ok r μ') : sRet e ρ μ = .ok (.rt r) μ' := by unfold sRet; rw [h]; rfl
theorem sAs_ok {e : E} {i : Nat} {ρ : Env} {μ μ' : Mem} {r : R} (h : e ρ μ = .ok r μ') : sAs (tgN i) e ρ μ = .ok (.nx (ρ.set i (.v r))) μ' := by unfold sAs tgN; rw [h]; rfl
/-- an if that is not taken, an if that ends the def -/
theorem sq_if_f {c : T} {a b : S} {ρ : Env} {μ μ' : Mem} (h : c ρ μ = .ok false μ') : sq (sIf c a sNil) b ρ μ = b ρ μ' := sq_nx (by rw [sIf_f h]; exact sNil_ok)
theorem sq_as {e : E} {b : S} {i : Nat} {ρ : Env} {μ μ' : Mem} {r : R} (h : e ρ μ = .ok r μ') : sq (sAs (tgN i) e) b ρ μ = b (ρ.set i (.v r)) μ' := sq_nx (sAs_ok h)
theorem eComp_ok {own : List Nat} {t : Tg} {it : It} {c : T} {e : E} {ρ : Env} {μ μ1 μ2 : Mem} {xs ys : List R} (h1 : it ρ μ = .ok xs μ1) (h2 : compL t c e xs (wipeE ρ own) μ1 = .ok ys μ2) (h3 : ys.length ≤ 1000000) : eComp own t it c e ρ μ = .ok (mkL ys) μ2 := by
  unfold eComp
  rw [h1, bind_ok, h2, bind_ok, if_pos (le_SL h3)]
/-- a search: the first x with p ends the def -/
theorem forL_find {α : Type} {t : Tg} {b : S} {μ : Mem} (enc : α → R) (p : α → Bool) (out : α → R) (E : Env → Prop) : ∀ {xs : List α} {ρ : Env}, E ρ →
    (∀ x ∈ xs, ∀ ρ, E ρ → ∃ ρ1, t (enc x) ρ = some ρ1 ∧ ((p x = true ∧ b ρ1 μ = .ok (.rt (out x)) μ) ∨ (p x = false ∧ ∃ ρ2, E ρ2 ∧ b ρ1 μ = .ok (.nx ρ2) μ))) →
    (∃ x, xs.find? p = some x ∧ forL t b (xs.map enc) ρ μ = .ok (.rt (out x)) μ) ∨ (xs.find? p = none ∧ ∃ ρ', E ρ' ∧ forL t b (xs.map enc) ρ μ = .ok (.nx ρ') μ)
  | [], ρ, he, _ => .inr ⟨rfl, ρ, he, rfl⟩
  | x :: xs, ρ, he, h => by
    obtain ⟨ρ1, h1, h2⟩ := h x List.mem_cons_self ρ he
    rcases h2 with ⟨hp, hb⟩ | ⟨hp, ρ2, he2, hb⟩
    · refine .inl ⟨x, by rw [List.find?_cons, hp], ?_⟩
      rw [List.map_cons]; unfold forL; rw [h1]; simp [hb]
    · have e : forL t b ((x :: xs).map enc) ρ μ = forL t b (xs.map enc) ρ2 μ := by
        rw [List.map_cons]
        show (match t (enc x) ρ with
          | none => (.no : Out Fl)
          | some ρ1 => (b ρ1 μ).bind fun f μ => match f with
            | .nx ρ => forL t b (xs.map enc) ρ μ
            | .ct ρ => forL t b (xs.map enc) ρ μ
            | .bk ρ => .ok (.nx ρ) μ
            | .rt r => .ok (.rt r) μ) = _
        rw [h1]; simp [hb]
      rcases forL_find enc p out E he2 (fun y hy => h y (List.mem_cons_of_mem _ hy)) with ⟨y, hy, hr⟩ | ⟨hn, ρ', he', hr⟩
      · exact .inl ⟨y, by rw [List.find?_cons, hp]; exact hy, e.trans hr⟩
      · exact .inr ⟨by rw [List.find?_cons, hp]; exact hn, ρ', he', e.trans hr⟩
theorem sFor_rt {t : Tg} {it : It} {b : S} {ρ : Env} {μ μ1 μ2 : Mem} {xs : List R} {f : Fl} (h1 : it ρ μ = .ok xs μ1) (h2 : forL t b xs ρ μ1 = .ok f μ2) : sFor t it b ρ μ = .ok f μ2 := by unfold sFor; rw [h1]; exact h2
theorem iE_tup {a : E} {ρ : Env} {μ μ' : Mem} {ds : List D} (h : a ρ μ = .ok (.d (.tup ds)) μ') : iE a ρ μ = .ok (ds.map .d) μ' := by unfold iE; rw [h]; rfl
theorem iE_lst {a : E} {ρ : Env} {μ μ' : Mem} {ds : List D} (h : a ρ μ = .ok (.d (.lst ds)) μ') : iE a ρ μ = .ok (ds.map .d) μ' := by unfold iE; rw [h]; rfl
theorem eV_at {i : Nat} {ρ : Env} {μ : Mem} {r : R} (h : ρ[i]? = some (.v r)) : eV i ρ μ = .ok r μ := by unfold eV; rw [h]
/-- a loop that runs to its end, the memory as it was -/
theorem forL_inv {t : Tg} {b : S} {μ : Mem} (I : Nat → Env → Prop) : ∀ {xs : List R} {k : Nat} {ρ : Env}, I k ρ →
    (∀ i x ρ, xs[i]? = some x → I (k + i) ρ → ∃ ρ1, t x ρ = some ρ1 ∧ ∃ ρ2, I (k + i + 1) ρ2 ∧ b ρ1 μ = .ok (.nx ρ2) μ) → ∃ ρ', I (k + xs.length) ρ' ∧ forL t b xs ρ μ = .ok (.nx ρ') μ
  | [], k, ρ, h, _ => ⟨ρ, h, rfl⟩
  | x :: xs, k, ρ, h, st => by
    obtain ⟨ρ1, h1, ρ2, h2, h3⟩ := st 0 x ρ rfl h
    obtain ⟨ρ', h4, h5⟩ := forL_inv I (xs := xs) (k := k + 1) (ρ := ρ2) h2 (fun i y ρ hy hi => by
      obtain ⟨r1, a1, r2, a2, a3⟩ := st (i + 1) y ρ (by simpa using hy) (by rw [show k + (i + 1) = k + 1 + i by omega]; exact hi)
      exact ⟨r1, a1, r2, by rw [show k + 1 + i + 1 = k + (i + 1) + 1 by omega]; exact a2, a3⟩)
    refine ⟨ρ', by rw [List.length_cons, show k + (xs.length + 1) = k + 1 + xs.length by omega]; exact h4, ?_⟩
    show (match t x ρ with
      | none => (.no : Out Fl)
      | some ρ1 => (b ρ1 μ).bind fun f μ => match f with
        | .nx ρ => forL t b xs ρ μ
        | .ct ρ => forL t b xs ρ μ
        | .bk ρ => .ok (.nx ρ) μ
        | .rt r => .ok (.rt r) μ) = _
    rw [h1]
    simp [h3, h5]
theorem cut_take {α : Type} (xs : List α) (i : Nat) : cut xs none (some (i : Int)) = xs.take i := by
  unfold cut sIx
  have h1 : ¬ ((i : Int) < 0) := by omega
  simp only [h1, if_false, Int.toNat_natCast, List.drop_zero, Nat.sub_zero]
  by_cases h : i ≤ xs.length
  · rw [Nat.min_eq_left h]
  · rw [Nat.min_eq_right (by omega), List.take_length, List.take_of_length_le (by omega)]
theorem cut_drop {α : Type} (xs : List α) (i : Nat) : cut xs (some (i : Int)) none = xs.drop i := by
  unfold cut sIx
  have h1 : ¬ ((i : Int) < 0) := by omega
  simp only [h1, if_false, Int.toNat_natCast]
  by_cases h : i ≤ xs.length
  · rw [Nat.min_eq_left h, List.take_of_length_le (by simp)]
  · rw [Nat.min_eq_right (by omega), List.drop_length, List.drop_eq_nil_of_le (by omega)]; simp
theorem cut_drop1 {α : Type} (xs : List α) (i : Nat) : cut xs (some ((i : Int) + 1)) none = xs.drop (i + 1) := cut_drop xs (i + 1)
theorem iEnum_tup {a : E} {ρ : Env} {μ μ' : Mem} {ds : List D} (h : a ρ μ = .ok (.d (.tup ds)) μ') : iEnum a ρ μ = .ok (enumF 0 ds) μ' := by unfold iEnum; rw [h]; rfl
theorem sExt_lst {i : Nat} {e : E} {ρ : Env} {μ μ' : Mem} {xs : List R} {ds : List D} (h1 : ρ[i]? = some (.own xs)) (h2 : e ρ μ = .ok (.d (.lst ds)) μ') (h3 : xs.length + ds.length ≤ 1000000) : sExt i e ρ μ = .ok (.nx (ρ.set i (.own (xs ++ ds.map .d)))) μ' := by
  unfold sExt; rw [h1]; show (e ρ μ).bind _ = _; rw [h2, bind_ok, vw_d]
  show (if _ then _ else _) = _
  rw [if_pos (by rw [List.length_map]; exact le_SL h3)]
theorem sAs_gen {t : Tg} {e : E} {ρ ρ' : Env} {μ μ' : Mem} {r : R} (h : e ρ μ = .ok r μ') (ht : t r ρ = some ρ') : sAs t e ρ μ = .ok (.nx ρ') μ' := by
  unfold sAs
  rw [h, bind_ok, ht]
/-- .. the memory changed -/
theorem forL_invM {t : Tg} {b : S} (I : Nat → Env → Mem → Prop) : ∀ {xs : List R} {k : Nat} {ρ : Env} {μ : Mem}, I k ρ μ →
    (∀ i x ρ μ, xs[i]? = some x → I (k + i) ρ μ → ∃ ρ1, t x ρ = some ρ1 ∧ ∃ ρ2 μ2, I (k + i + 1) ρ2 μ2 ∧ b ρ1 μ = .ok (.nx ρ2) μ2) → ∃ ρ' μ', I (k + xs.length) ρ' μ' ∧ forL t b xs ρ μ = .ok (.nx ρ') μ'
  | [], k, ρ, μ, h, _ => ⟨ρ, μ, h, rfl⟩
  | x :: xs, k, ρ, μ, h, st => by
    obtain ⟨ρ1, h1, ρ2, μ2, h2, h3⟩ := st 0 x ρ μ rfl h
    obtain ⟨ρ', μ', h4, h5⟩ := forL_invM I (xs := xs) (k := k + 1) (ρ := ρ2) (μ := μ2) h2 (fun i y ρ μ hy hi => by
      obtain ⟨r1, a1, r2, m2, a2, a3⟩ := st (i + 1) y ρ μ (by simpa using hy) (by rw [show k + (i + 1) = k + 1 + i by omega]; exact hi)
      exact ⟨r1, a1, r2, m2, by rw [show k + 1 + i + 1 = k + (i + 1) + 1 by omega]; exact a2, a3⟩)
    refine ⟨ρ', μ', by rw [List.length_cons, show k + (xs.length + 1) = k + 1 + xs.length by omega]; exact h4, ?_⟩
    show (match t x ρ with
      | none => (.no : Out Fl)
      | some ρ1 => (b ρ1 μ).bind fun f μ => match f with
        | .nx ρ => forL t b xs ρ μ
        | .ct ρ => forL t b xs ρ μ
        | .bk ρ => .ok (.nx ρ) μ
        | .rt r => .ok (.rt r) μ) = _
    rw [h1]
    simp [h3, h5]
theorem compL_invM {t : Tg} {c : T} {e : E} {ρ : Env} (I : Nat → List R → Mem → Prop) : ∀ {xs : List R} {k : Nat} {acc : List R} {μ : Mem}, I k acc μ →
    (∀ i x acc μ, xs[i]? = some x → I (k + i) acc μ → ∃ ρ1, t x ρ = some ρ1 ∧ ((∃ μ1 y μ2, c ρ1 μ = .ok true μ1 ∧ e ρ1 μ1 = .ok y μ2 ∧ I (k + i + 1) (acc ++ [y]) μ2) ∨ ∃ μ1, c ρ1 μ = .ok false μ1 ∧ I (k + i + 1) acc μ1)) →
    ∃ ys μ', I (k + xs.length) (acc ++ ys) μ' ∧ compL t c e xs ρ μ = .ok ys μ'
  | [], k, acc, μ, h, _ => ⟨[], μ, by simpa using h, rfl⟩
  | x :: xs, k, acc, μ, h, st => by
    obtain ⟨ρ1, h1, h2⟩ := st 0 x acc μ rfl h
    have st' : ∀ i y acc μ, xs[i]? = some y → I (k + 1 + i) acc μ → ∃ ρ1, t y ρ = some ρ1 ∧ ((∃ μ1 z μ2, c ρ1 μ = .ok true μ1 ∧ e ρ1 μ1 = .ok z μ2 ∧ I (k + 1 + i + 1) (acc ++ [z]) μ2) ∨ ∃ μ1, c ρ1 μ = .ok false μ1 ∧ I (k + 1 + i + 1) acc μ1) := fun i y acc μ hy hi => by
      have := st (i + 1) y acc μ (by simpa using hy) (by rw [show k + (i + 1) = k + 1 + i by omega]; exact hi)
      rwa [show k + (i + 1) + 1 = k + 1 + i + 1 by omega] at this
    rcases h2 with ⟨μ1, y, μ2, h3, h4, h5⟩ | ⟨μ1, h3, h5⟩
    · obtain ⟨ys, μ', h6, h7⟩ := compL_invM I (xs := xs) (k := k + 1) h5 st'
      refine ⟨y :: ys, μ', by rw [List.length_cons, show k + (xs.length + 1) = k + 1 + xs.length by omega]; simpa using h6, ?_⟩
      rw [compL_cons, h1]; simp [h3, h4, h7]
    · obtain ⟨ys, μ', h6, h7⟩ := compL_invM I (xs := xs) (k := k + 1) h5 st'
      refine ⟨ys, μ', by rw [List.length_cons, show k + (xs.length + 1) = k + 1 + xs.length by omega]; exact h6, ?_⟩
      rw [compL_cons, h1]; simp [h3, h7]
/-! expressions by terms -/
theorem eOp_ok {f : R → R → Option R} {a b : E} {ρ : Env} {μ μ1 μ2 : Mem} {x y z : R} (ha : a ρ μ = .ok x μ1) (hb : b ρ μ1 = .ok y μ2) (hf : f (vw μ2 x) (vw μ2 y) = some z) : eOp f a b ρ μ = .ok z μ2 := by
  unfold eOp; rw [ha, bind_ok, hb, bind_ok, hf]; rfl
theorem eC_ok {x : D} {ρ : Env} {μ : Mem} : eC x ρ μ = .ok (.d x) μ := by unfold eC; rfl
theorem eBi1_ok {f : List R → Option R} {a : E} {ρ : Env} {μ μ1 : Mem} {x z : R} (ha : a ρ μ = .ok x μ1) (hf : f [vw μ1 x] = some z) : eBi f [a] ρ μ = .ok z μ1 := by
  unfold eBi; rw [evs_cons, ha, bind_ok, evs_nil, bind_ok, bind_ok, List.map_cons, List.map_nil, hf]; rfl
theorem tCmp_ok {f : R → R → Option Bool} {a b : E} {ρ : Env} {μ μ1 μ2 : Mem} {x y : R} {z : Bool} (ha : a ρ μ = .ok x μ1) (hb : b ρ μ1 = .ok y μ2) (hf : f (vw μ2 x) (vw μ2 y) = some z) : tCmp f a b ρ μ = .ok z μ2 := by
  unfold tCmp; rw [ha, bind_ok, hb, bind_ok, hf]; rfl
theorem modR_ok {a b : Int} (h : 0 < b) : modR (.d (.int a)) (.d (.int b)) = some (.d (.int (a % b))) := by
  show (if 0 < b then _ else _) = _; rw [if_pos h]
theorem fdivR_ok {a b : Int} (h : 0 < b ∧ b < 1073741824) : fdivR (.d (.int a)) (.d (.int b)) = some (.d (.int (a / b))) := by
  show (if 0 < b ∧ b < 1073741824 then _ else _) = _; rw [if_pos h]
theorem powR_ok {a b : Int} (h : 0 ≤ b ∧ b ≤ 1000000 ∧ small a = true) : powR (.d (.int a)) (.d (.int b)) = some (.d (.int (a ^ b.toNat))) := by
  show (if 0 ≤ b ∧ b ≤ 1000000 ∧ small a = true then _ else _) = _; rw [if_pos h]
end Ev
end

section
set_option maxHeartbeats 0
set_option linter.all false
namespace K09
open Ev
def f_constructors : Def := ⟨2, 4, fun C =>
  (sq (sFor (tgT [(tgN 2), (tgN 3)]) (iE (eV 0))
  (sIf (tCmp eqR (eV 2) (eV 1)) (sRet (eV 3)) sNil))
  (sRet (eTup [])))⟩
def f_fields_of : Def := ⟨2, 6, fun C =>
  (sq (sFor (tgT [(tgN 2), (tgN 3)]) (iE (eV 0))
  (sFor (tgT [(tgN 4), (tgN 5)]) (iE (eV 3))
  (sIf (tCmp eqR (eV 4) (eV 1)) (sRet (eV 5)) sNil)))
  (sRet (eTup [])))⟩
def f_cut : Def := ⟨2, 5, fun C =>
  (sq (sIf (tCmp eqR (eV 1) (eC (.tup [.str "any"]))) (sRet (eV 0)) sNil)
  (sq (sIf (tCmp eqR (eV 0) (eC (.tup [.str "any"]))) (sRet (eV 1)) sNil)
  (sq (sIf (tCmp eqR (eIdx (eV 0) (eC (.int 0))) (eC (.str "range"))) (sq (sAs (tgN 2) (eBi maxR [(eIdx (eV 0) (eC (.int 1))), (eIdx (eV 1) (eC (.int 1)))]))
  (sq (sAs (tgN 3) (eBi minR [(eIdx (eV 0) (eC (.int 2))), (eIdx (eV 1) (eC (.int 2)))]))
  (sRet (eIf (tCmp leR (eV 2) (eV 3)) (eTup [(eC (.str "range")), (eV 2), (eV 3)]) (eC (.non)))))) sNil)
  (sq (sIf (tCmp eqR (eIdx (eV 0) (eC (.int 0))) (eC (.str "not"))) (sRet (eIf (tCmp inR (eIdx (eV 1) (eC (.int 1))) (eIdx (eV 0) (eC (.int 1)))) (eC (.non)) (eV 1))) sNil)
  (sq (sIf (tCmp neR (eIdx (eV 0) (eC (.int 1))) (eIdx (eV 1) (eC (.int 1)))) (sRet (eC (.non))) sNil)
  (sq (sAs (tgN 4) (eCall C "cut_all" [(eIdx (eV 0) (eC (.int 2))), (eIdx (eV 1) (eC (.int 2)))]))
  (sRet (eIf (tIsN (eV 4)) (eC (.non)) (eTup [(eC (.str "make")), (eIdx (eV 0) (eC (.int 1))), (eV 4)])))))))))⟩
def f_cut_all : Def := ⟨2, 5, fun C =>
  (sq (sAs (tgN 2) (eBi tupleR [(eComp [3, 4] (tgT [(tgN 3), (tgN 4)]) (iEnum (eV 0)) tYes (eCall C "cut" [(eV 4), (eIdx (eV 1) (eV 3))]))]))
  (sRet (eIf (tCmp inR (eC (.non)) (eV 2)) (eC (.non)) (eV 2))))⟩
def f_rest_of_range : Def := ⟨2, 5, fun C =>
  (sq (sAs (tgT [(tgN 2), (tgN 3)]) (eIf (tCmp eqR (eV 0) (eC (.tup [.str "any"]))) (eTup [(eOp subR (eC (.int 0)) (eC (.int 99))), (eC (.int 99))]) (eSlc (eV 0) (oE (eC (.int 1))) oN)))
  (sq (sIf (tOr (tCmp ltR (eIdx (eV 1) (eC (.int 2))) (eV 2)) (tCmp ltR (eV 3) (eIdx (eV 1) (eC (.int 1))))) (sRet (eLst [(eV 0)])) sNil)
  (sq (sOwn 4 (eLst []))
  (sq (sIf (tCmp ltR (eV 2) (eIdx (eV 1) (eC (.int 1)))) (sApp 4 (eTup [(eC (.str "range")), (eV 2), (eOp subR (eIdx (eV 1) (eC (.int 1))) (eC (.int 1)))])) sNil)
  (sq (sIf (tCmp ltR (eIdx (eV 1) (eC (.int 2))) (eV 3)) (sApp 4 (eTup [(eC (.str "range")), (eOp addR (eIdx (eV 1) (eC (.int 2))) (eC (.int 1))), (eV 3)])) sNil)
  (sq (sFrz 4)
  (sRet (eV 4))))))))⟩
def f_left_out : Def := ⟨4, 8, fun C =>
  (sq (sAs (tgN 4) (eComp [5, 6] (tgT [(tgN 5), (tgN 6)]) (iE (eCall C "constructors" [(eV 0), (eV 1)])) tYes (eV 5)))
  (sq (sAs (tgN 7) (eIf (tCmp eqR (eV 2) (eC (.tup [.str "any"]))) (eLst [(eV 3)]) (eOp addR (eBi listR [(eIdx (eV 2) (eC (.int 1)))]) (eLst [(eV 3)]))))
  (sq (sIf (tCmp eqR (eBi lenR [(eV 7)]) (eBi lenR [(eV 4)])) (sRet (eLst [])) sNil)
  (sRet (eLst [(eTup [(eC (.str "not")), (eBi tupleR [(eComp [5] (tgN 5) (iE (eV 4)) (tCmp inR (eV 5) (eV 7)) (eV 5))])])])))))⟩
def f_rest : Def := ⟨4, 11, fun C =>
  (sq (sIf (tCmp eqR (eV 3) (eC (.tup [.str "any"]))) (sRet (eLst [])) sNil)
  (sq (sIf (tCmp eqR (eIdx (eV 3) (eC (.int 0))) (eC (.str "range"))) (sRet (eCall C "rest_of_range" [(eV 2), (eV 3)])) sNil)
  (sq (sAs (tgT [(tgN 4), (tgN 5), (tgN 6)]) (eV 3))
  (sq (sIf (tOr (tAnd (tCmp eqR (eIdx (eV 2) (eC (.int 0))) (eC (.str "not"))) (tCmp inR (eV 5) (eIdx (eV 2) (eC (.int 1))))) (tAnd (tCmp eqR (eIdx (eV 2) (eC (.int 0))) (eC (.str "make"))) (tCmp neR (eIdx (eV 2) (eC (.int 1))) (eV 5)))) (sRet (eLst [(eV 2)])) sNil)
  (sq (sAs (tgN 7) (eCall C "fields_of" [(eV 0), (eV 5)]))
  (sq (sOwn 8 (eLst []))
  (sq (sAs (tgN 9) (eIf (tCmp eqR (eIdx (eV 2) (eC (.int 0))) (eC (.str "make"))) (eIdx (eV 2) (eC (.int 2))) (eBi tupleR [(eComp [4] (tgN 4) (iE (eV 7)) tYes (eC (.tup [.str "any"])))])))
  (sq (sIf (tCmp neR (eIdx (eV 2) (eC (.int 0))) (eC (.str "make"))) (sExt 8 (eCall C "left_out" [(eV 0), (eV 1), (eV 2), (eV 5)])) sNil)
  (sq (sExt 8 (eComp [10] (tgN 10) (iE (eCall C "rest_all" [(eV 0), (eV 7), (eV 9), (eV 6)])) tYes (eTup [(eC (.str "make")), (eV 5), (eV 10)])))
  (sq (sFrz 8)
  (sRet (eV 8))))))))))))⟩
def f_rest_all : Def := ⟨4, 9, fun C =>
  (sq (sAs (tgN 4) (eCall C "cut_all" [(eV 2), (eV 3)]))
  (sq (sIf (tIsN (eV 4)) (sRet (eLst [(eV 2)])) sNil)
  (sq (sOwn 5 (eLst []))
  (sq (sFor (tgT [(tgN 6), (tgN 7)]) (iEnum (eV 1))
  (sFor (tgN 8) (iE (eCall C "rest" [(eV 0), (eV 7), (eIdx (eV 2) (eV 6)), (eIdx (eV 3) (eV 6))]))
  (sApp 5 (eOp addR (eOp addR (eSlc (eV 4) oN (oE (eV 6))) (eTup [(eV 8)])) (eSlc (eV 2) (oE (eOp addR (eV 6) (eC (.int 1)))) oN)))))
  (sq (sFrz 5)
  (sRet (eV 5)))))))⟩
def f_holds : Def := ⟨2, 4, fun C =>
  (sq (sIf (tCmp eqR (eV 0) (eC (.tup [.str "any"]))) (sRet (eC (.bl true))) sNil)
  (sq (sIf (tCmp eqR (eIdx (eV 0) (eC (.int 0))) (eC (.str "range"))) (sRet (eT (tCh leR leR (eIdx (eV 0) (eC (.int 1))) (eIdx (eV 1) (eC (.int 1))) (eIdx (eV 0) (eC (.int 2)))))) sNil)
  (sq (sIf (tCmp eqR (eIdx (eV 0) (eC (.int 0))) (eC (.str "not"))) (sRet (eT (tCmp ninR (eIdx (eV 1) (eC (.int 1))) (eIdx (eV 0) (eC (.int 1)))))) sNil)
  (sRet (eAnd (eT (tCmp eqR (eIdx (eV 0) (eC (.int 1))) (eIdx (eV 1) (eC (.int 1))))) (eAll true [2, 3] (tgT [(tgN 2), (tgN 3)]) (iEnum (eIdx (eV 0) (eC (.int 2)))) (eCall C "holds" [(eV 3), (eIdx (eIdx (eV 1) (eC (.int 2))) (eV 2))])))))))⟩
def f_law_cell : Def := ⟨2, 2, fun C =>
  (sq (sIf (tCmp ltR (eV 1) (eBi lenR [(eV 0)])) (sRet (eIdx (eV 0) (eV 1))) sNil)
  (sRet (eC (.int 0))))⟩
def f_law_same : Def := ⟨2, 2, fun C =>
  (sRet (eT (tCmp eqR (eBi reprR [(eV 0)]) (eBi reprR [(eV 1)]))))⟩
def f_law_digits : Def := ⟨3, 8, fun C =>
  (sq (sOwn 3 (eLst []))
  (sq (sFor (tgN 4) (iRange2 (eV 1) (eV 2))
  (sq (sAs (tgN 5) (eCall C "_law_cell" [(eV 0), (eV 4)]))
  (sq (sIf (tCmp ltR (eV 5) (eC (.int 0))) (sAs (tgN 5) (eOp subR (eC (.int 1)) (eOp mulR (eC (.int 2)) (eV 5)))) sNil)
  (sIf (tCmp geR (eV 5) (eOp powR (eC (.int 10)) (eC (.int 18)))) (sFor (tgN 6) (iRange1 (eC (.int 60)))
  (sIf (tCmp gtR (eV 5) (eC (.int 0))) (sq (sApp 3 (eOp modR (eBi intR [(eV 5)]) (eC (.int 1000))))
  (sAs (tgN 5) (eOp fdivR (eV 5) (eC (.int 1000))))) sNil)) (sq (sAs (tgN 7) (eOp modR (eBi intR [(eOp addR (eOp addR (eOp mulR (eV 5) (eC (.int 48271))) (eOp mulR (eV 4) (eC (.int 69621)))) (eC (.int 11)))]) (eC (.int 2147483647))))
  (sFor (tgN 6) (iRange1 (eC (.int 12)))
  (sq (sAs (tgN 7) (eOp modR (eBi intR [(eOp addR (eOp addR (eOp mulR (eV 7) (eC (.int 16807))) (eOp mulR (eC (.int 7)) (eV 6))) (eC (.int 1)))]) (eC (.int 2147483647))))
  (sApp 3 (eOp modR (eBi intR [(eOp fdivR (eV 7) (eC (.int 997)))]) (eC (.int 1000)))))))))))
  (sq (sFrz 3)
  (sRet (eV 3)))))⟩
def f_law_draw : Def := ⟨2, 3, fun C =>
  (sq (sAs (tgN 2) (eIdx (eV 0) (eC (.int 1))))
  (sq (sSet (eV 0) (eC (.int 1)) (eOp addR (eV 2) (eC (.int 1))))
  (sq (sIf (tCmp ltR (eV 2) (eBi lenR [(eIdx (eV 0) (eC (.int 0)))])) (sRet (eOp modR (eBi intR [(eIdx (eIdx (eV 0) (eC (.int 0))) (eV 2))]) (eV 1))) sNil)
  (sRet (eOp modR (eBi intR [(eOp addR (eOp mulR (eV 2) (eC (.int 7))) (eC (.int 3)))]) (eV 1))))))⟩
def f_law_types : Def := ⟨1, 9, fun C =>
  (sq (sAs (tgN 1) (eSlc (eLst [(eC (.str "L")), (eC (.str "T")), (eC (.str "Nat"))]) oN (oE (eOp addR (eC (.int 1)) (eCall C "_law_draw" [(eV 0), (eC (.int 3))])))))
  (sq (sOwn 2 (eLst []))
  (sq (sFor (tgN 3) (iRange1 (eBi lenR [(eV 1)]))
  (sq (sOwn 4 (eLst []))
  (sq (sFor (tgN 5) (iRange1 (eOp addR (eC (.int 1)) (eCall C "_law_draw" [(eV 0), (eC (.int 3))])))
  (sq (sAs (tgN 6) (eOp addR (eLst [(eC (.str "Int"))]) (eV 1)))
  (sq (sIf (tCmp eqR (eV 5) (eC (.int 0))) (sAs (tgN 6) (eOp addR (eLst [(eC (.str "Int"))]) (eSlc (eV 1) oN (oE (eV 3))))) sNil)
  (sq (sAs (tgN 7) (eComp [8] (tgN 8) (iRange1 (eOp mulR (eCall C "_law_draw" [(eV 0), (eC (.int 3))]) (eBi intR [(eOr (eT (tCmp gtR (eV 5) (eC (.int 0)))) (eT (tCmp eqR (eCall C "_law_draw" [(eV 0), (eC (.int 3))]) (eC (.int 0)))))]))) tYes (eIdx (eV 6) (eOp modR (eBi intR [(eCall C "_law_draw" [(eV 0), (eC (.int 90))])]) (eBi lenR [(eV 6)])))))
  (sApp 4 (eTup [(eOp addR (eIdx (eLst [(eC (.str "A")), (eC (.str "B")), (eC (.str "C"))]) (eV 5)) (eIdx (eV 1) (eV 3))), (eBi tupleR [(eV 7)])]))))))
  (sq (sIf (tCmp eqR (eCall C "_law_draw" [(eV 0), (eC (.int 3))]) (eC (.int 0))) (sRev 4) sNil)
  (sApp 2 (eTup [(eIdx (eV 1) (eV 3)), (eBi tupleR [(eB 4)])]))))))
  (sRet (eBi tupleR [(eB 2)])))))⟩
def f_law_makers : Def := ⟨2, 3, fun C =>
  (sq (sFor (tgN 2) (iE (eV 0))
  (sIf (tCmp eqR (eIdx (eV 2) (eC (.int 0))) (eV 1)) (sRet (eIdx (eV 2) (eC (.int 1)))) sNil))
  (sRet (eTup [])))⟩
def f_law_heights : Def := ⟨1, 9, fun C =>
  (sq (sOwn 1 (eDic [(eC (.str "Int")), (eC (.int 0))]))
  (sq (sFor (tgN 2) (iRange1 (eOp addR (eBi lenR [(eV 0)]) (eC (.int 1))))
  (sFor (tgT [(tgN 3), (tgN 4)]) (iE (eV 0))
  (sq (sAs (tgN 5) (eComp [7, 8] (tgT [(tgN 7), (tgN 8)]) (iE (eV 4)) (tCmp eqR (eBi lenR [(eComp [6] (tgN 6) (iE (eV 8)) (tCmp ninR (eV 6) (eB 1)) (eV 6))]) (eC (.int 0))) (eOp addR (eBi maxR [(eOp addR (eLst [(eC (.int 0))]) (eComp [6] (tgN 6) (iE (eV 8)) tYes (eIdx (eB 1) (eV 6))))]) (eC (.int 1)))))
  (sIf (tCmp gtR (eBi lenR [(eV 5)]) (eC (.int 0))) (sSetD 1 (eV 3) (eBi minR [(eV 5)])) sNil))))
  (sq (sFrz 1)
  (sRet (eV 1)))))⟩
def f_law_least : Def := ⟨3, 6, fun C =>
  (sq (sIf (tCmp eqR (eV 2) (eC (.str "Int"))) (sRet (eTup [(eC (.str "int")), (eC (.int 0))])) sNil)
  (sq (sFor (tgT [(tgN 3), (tgN 4)]) (iE (eCall C "_law_makers" [(eV 0), (eV 2)]))
  (sIf (tCmp eqR (eOp addR (eBi maxR [(eOp addR (eLst [(eC (.int 0))]) (eComp [5] (tgN 5) (iE (eV 4)) tYes (eGet2 (eV 1) (eV 5) (eC (.int 99)))))]) (eC (.int 1))) (eIdx (eV 1) (eV 2))) (sRet (eTup [(eC (.str "make")), (eV 3), (eBi tupleR [(eComp [5] (tgN 5) (iE (eV 4)) tYes (eCall C "_law_least" [(eV 0), (eV 1), (eV 5)]))])])) sNil))
  (sRet (eC (.non)))))⟩
def f_law_value : Def := ⟨5, 9, fun C =>
  (sq (sIf (tCmp eqR (eV 3) (eC (.str "Int"))) (sRet (eTup [(eC (.str "int")), (eIdx (eLst [(eOp subR (eCall C "_law_draw" [(eV 0), (eC (.int 7))]) (eC (.int 3))), (eOp subR (eCall C "_law_draw" [(eV 0), (eC (.int 199))]) (eC (.int 99)))]) (eCall C "_law_draw" [(eV 0), (eC (.int 2))]))])) sNil)
  (sq (sAs (tgN 5) (eCall C "_law_makers" [(eV 1), (eV 3)]))
  (sq (sAs (tgT [(tgN 6), (tgN 7)]) (eIdx (eV 5) (eOp modR (eBi intR [(eCall C "_law_draw" [(eV 0), (eC (.int 90))])]) (eBi lenR [(eV 5)]))))
  (sq (sIf (tCmp leR (eV 4) (eIdx (eV 2) (eV 3))) (sRet (eCall C "_law_least" [(eV 1), (eV 2), (eV 3)])) sNil)
  (sRet (eTup [(eC (.str "make")), (eV 6), (eBi tupleR [(eComp [8] (tgN 8) (iE (eV 7)) tYes (eCall C "_law_value" [(eV 0), (eV 1), (eV 2), (eV 8), (eOp subR (eV 4) (eC (.int 1)))]))])]))))))⟩
def f_law_region : Def := ⟨4, 11, fun C =>
  (sq (sAs (tgN 4) (eCall C "_law_draw" [(eV 0), (eC (.int 4))]))
  (sq (sIf (tOr (tCmp eqR (eV 4) (eC (.int 0))) (tCmp eqR (eV 3) (eC (.int 0)))) (sRet (eTup [(eC (.str "any"))])) sNil)
  (sq (sIf (tCmp eqR (eV 2) (eC (.str "Int"))) (sq (sAs (tgN 5) (eOp subR (eCall C "_law_draw" [(eV 0), (eC (.int 9))]) (eC (.int 5))))
  (sRet (eTup [(eC (.str "range")), (eV 5), (eOp addR (eV 5) (eCall C "_law_draw" [(eV 0), (eC (.int 7))]))]))) sNil)
  (sq (sAs (tgN 6) (eCall C "_law_makers" [(eV 1), (eV 2)]))
  (sq (sIf (tAnd (tCmp eqR (eV 4) (eC (.int 1))) (tCmp gtR (eBi lenR [(eV 6)]) (eC (.int 1)))) (sq (sAs (tgN 7) (eComp [8, 9] (tgT [(tgN 8), (tgN 9)]) (iE (eV 6)) (tCmp eqR (eCall C "_law_draw" [(eV 0), (eC (.int 2))]) (eC (.int 0))) (eV 8)))
  (sIf (tCh ltR ltR (eC (.int 0)) (eBi lenR [(eV 7)]) (eBi lenR [(eV 6)])) (sRet (eTup [(eC (.str "not")), (eBi tupleR [(eV 7)])])) sNil)) sNil)
  (sq (sAs (tgT [(tgN 8), (tgN 9)]) (eIdx (eV 6) (eOp modR (eBi intR [(eCall C "_law_draw" [(eV 0), (eC (.int 90))])]) (eBi lenR [(eV 6)]))))
  (sRet (eTup [(eC (.str "make")), (eV 8), (eBi tupleR [(eComp [10] (tgN 10) (iE (eV 9)) tYes (eCall C "_law_region" [(eV 0), (eV 1), (eV 10), (eOp subR (eV 3) (eC (.int 1)))]))])]))))))))⟩
def f_law_holds : Def := ⟨2, 3, fun C =>
  (sq (sIf (tCmp eqR (eIdx (eV 0) (eC (.int 0))) (eC (.str "any"))) (sRet (eC (.bl true))) sNil)
  (sq (sIf (tCmp eqR (eIdx (eV 0) (eC (.int 0))) (eC (.str "range"))) (sRet (eT (tCh leR leR (eIdx (eV 0) (eC (.int 1))) (eIdx (eV 1) (eC (.int 1))) (eIdx (eV 0) (eC (.int 2)))))) sNil)
  (sq (sIf (tCmp eqR (eIdx (eV 0) (eC (.int 0))) (eC (.str "not"))) (sRet (eT (tCmp ninR (eIdx (eV 1) (eC (.int 1))) (eIdx (eV 0) (eC (.int 1)))))) sNil)
  (sq (sIf (tCmp neR (eIdx (eV 0) (eC (.int 1))) (eIdx (eV 1) (eC (.int 1)))) (sRet (eC (.bl false))) sNil)
  (sq (sFor (tgN 2) (iRange1 (eBi lenR [(eIdx (eV 0) (eC (.int 2)))]))
  (sIf (tNot (tE (eCall C "_law_holds" [(eIdx (eIdx (eV 0) (eC (.int 2))) (eV 2)), (eIdx (eIdx (eV 1) (eC (.int 2))) (eV 2))]))) (sRet (eC (.bl false))) sNil))
  (sRet (eC (.bl true))))))))⟩
def f_law_plain_simple : Def := ⟨4, 9, fun C =>
  (sq (sIf (tOr (tCmp eqR (eV 3) (eC (.int 0))) (tCmp eqR (eCall C "_law_draw" [(eV 0), (eC (.int 3))]) (eC (.int 0)))) (sRet (eTup [(eC (.str "any"))])) sNil)
  (sq (sIf (tCmp eqR (eV 2) (eC (.str "Int"))) (sq (sAs (tgN 4) (eOp subR (eCall C "_law_draw" [(eV 0), (eC (.int 9))]) (eC (.int 5))))
  (sRet (eTup [(eC (.str "range")), (eV 4), (eOp addR (eV 4) (eCall C "_law_draw" [(eV 0), (eC (.int 4))]))]))) sNil)
  (sq (sAs (tgN 5) (eCall C "_law_makers" [(eV 1), (eV 2)]))
  (sq (sAs (tgT [(tgN 6), (tgN 7)]) (eIdx (eV 5) (eOp modR (eBi intR [(eCall C "_law_draw" [(eV 0), (eC (.int 90))])]) (eBi lenR [(eV 5)]))))
  (sRet (eTup [(eC (.str "make")), (eV 6), (eBi tupleR [(eComp [8] (tgN 8) (iE (eV 7)) tYes (eCall C "_law_plain_simple" [(eV 0), (eV 1), (eV 8), (eOp subR (eV 3) (eC (.int 1)))]))])]))))))⟩
def f_law_cut_2 : Def := ⟨2, 5, fun C =>
  (sq (sIf (tCmp eqR (eIdx (eV 1) (eC (.int 0))) (eC (.str "any"))) (sRet (eV 0)) sNil)
  (sq (sIf (tCmp eqR (eIdx (eV 0) (eC (.int 0))) (eC (.str "any"))) (sRet (eV 1)) sNil)
  (sq (sIf (tCmp eqR (eIdx (eV 0) (eC (.int 0))) (eC (.str "range"))) (sq (sAs (tgN 2) (eBi maxR [(eIdx (eV 0) (eC (.int 1))), (eIdx (eV 1) (eC (.int 1)))]))
  (sq (sAs (tgN 3) (eBi minR [(eIdx (eV 0) (eC (.int 2))), (eIdx (eV 1) (eC (.int 2)))]))
  (sq (sIf (tCmp gtR (eV 2) (eV 3)) (sRet (eC (.non))) sNil)
  (sRet (eTup [(eC (.str "range")), (eV 2), (eV 3)]))))) sNil)
  (sq (sIf (tCmp eqR (eIdx (eV 0) (eC (.int 0))) (eC (.str "not"))) (sq (sIf (tCmp inR (eIdx (eV 1) (eC (.int 1))) (eIdx (eV 0) (eC (.int 1)))) (sRet (eC (.non))) sNil)
  (sRet (eV 1))) sNil)
  (sq (sIf (tCmp neR (eIdx (eV 0) (eC (.int 1))) (eIdx (eV 1) (eC (.int 1)))) (sRet (eC (.non))) sNil)
  (sq (sAs (tgN 4) (eCall C "_law_cuts" [(eIdx (eV 0) (eC (.int 2))), (eIdx (eV 1) (eC (.int 2)))]))
  (sq (sIf (tIsN (eV 4)) (sRet (eC (.non))) sNil)
  (sRet (eTup [(eC (.str "make")), (eIdx (eV 0) (eC (.int 1))), (eV 4)])))))))))⟩
def f_law_cuts : Def := ⟨2, 5, fun C =>
  (sq (sAs (tgN 2) (eTup []))
  (sq (sFor (tgN 3) (iRange1 (eBi lenR [(eV 0)]))
  (sq (sAs (tgN 4) (eCall C "_law_cut" [(eIdx (eV 0) (eV 3)), (eIdx (eV 1) (eV 3))]))
  (sq (sIf (tIsN (eV 4)) (sRet (eC (.non))) sNil)
  (sAs (tgN 2) (eOp addR (eV 2) (eTup [(eV 4)]))))))
  (sRet (eV 2))))⟩
def f_law_ends : Def := ⟨1, 1, fun C =>
  (sq (sIf (tCmp eqR (eIdx (eV 0) (eC (.int 0))) (eC (.str "any"))) (sRet (eLst [(eNeg (eC (.int 99))), (eC (.int 99))])) sNil)
  (sRet (eLst [(eIdx (eV 0) (eC (.int 1))), (eIdx (eV 0) (eC (.int 2)))])))⟩
def f_law_covered : Def := ⟨4, 11, fun C =>
  (sq (sIf (tCmp eqR (eIdx (eV 3) (eC (.int 0))) (eC (.str "any"))) (sRet (eC (.bl true))) sNil)
  (sq (sIf (tCmp eqR (eIdx (eV 3) (eC (.int 0))) (eC (.str "range"))) (sq (sAs (tgT [(tgN 4), (tgN 5)]) (eCall C "_law_ends" [(eV 2)]))
  (sRet (eAnd (eT (tCmp leR (eIdx (eV 3) (eC (.int 1))) (eV 4))) (eT (tCmp leR (eV 5) (eIdx (eV 3) (eC (.int 2)))))))) sNil)
  (sq (sAs (tgN 6) (eIdx (eComp [7] (tgN 7) (iE (eCall C "_law_makers" [(eV 0), (eV 1)])) (tCmp eqR (eIdx (eV 7) (eC (.int 0))) (eIdx (eV 3) (eC (.int 1)))) (eIdx (eV 7) (eC (.int 1)))) (eC (.int 0))))
  (sq (sAs (tgN 8) (eComp [9] (tgN 9) (iE (eV 6)) tYes (eTup [(eC (.str "any"))])))
  (sq (sIf (tCmp eqR (eIdx (eV 2) (eC (.int 0))) (eC (.str "make"))) (sq (sIf (tCmp neR (eIdx (eV 2) (eC (.int 1))) (eIdx (eV 3) (eC (.int 1)))) (sRet (eC (.bl false))) sNil)
  (sAs (tgN 8) (eIdx (eV 2) (eC (.int 2))))) (sIf (tCmp neR (eComp [7] (tgN 7) (iE (eCall C "_law_makers" [(eV 0), (eV 1)])) (tOr (tCmp eqR (eIdx (eV 2) (eC (.int 0))) (eC (.str "any"))) (tCmp ninR (eIdx (eV 7) (eC (.int 0))) (eIdx (eV 2) (eC (.int 1))))) (eIdx (eV 7) (eC (.int 0)))) (eLst [(eIdx (eV 3) (eC (.int 1)))])) (sRet (eC (.bl false))) sNil))
  (sRet (eT (tCmp eqR (eBi lenR [(eComp [10] (tgN 10) (iRange1 (eBi lenR [(eV 6)])) (tNot (tE (eCall C "_law_covered" [(eV 0), (eIdx (eV 6) (eV 10)), (eIdx (eV 8) (eV 10)), (eIdx (eIdx (eV 3) (eC (.int 2))) (eV 10))]))) (eV 10))]) (eC (.int 0))))))))))⟩
def f_law_within : Def := ⟨5, 12, fun C =>
  (sq (sIf (tCmp eqR (eIdx (eV 4) (eC (.int 0))) (eC (.str "any"))) (sRet (eCall C "_law_value" [(eV 0), (eV 1), (eV 2), (eV 3), (eC (.int 3))])) sNil)
  (sq (sIf (tCmp eqR (eIdx (eV 4) (eC (.int 0))) (eC (.str "range"))) (sRet (eTup [(eC (.str "int")), (eOp addR (eIdx (eV 4) (eC (.int 1))) (eOp modR (eBi intR [(eCall C "_law_draw" [(eV 0), (eC (.int 200))])]) (eOp addR (eOp subR (eIdx (eV 4) (eC (.int 2))) (eIdx (eV 4) (eC (.int 1)))) (eC (.int 1)))))])) sNil)
  (sq (sAs (tgN 5) (eComp [6] (tgN 6) (iE (eCall C "_law_makers" [(eV 1), (eV 3)])) (tOr (tAnd (tCmp eqR (eIdx (eV 4) (eC (.int 0))) (eC (.str "not"))) (tCmp ninR (eIdx (eV 6) (eC (.int 0))) (eIdx (eV 4) (eC (.int 1))))) (tCmp eqR (eIdx (eV 6) (eC (.int 0))) (eIdx (eV 4) (eC (.int 1))))) (eV 6)))
  (sq (sAs (tgT [(tgN 7), (tgN 8)]) (eIdx (eV 5) (eOp modR (eBi intR [(eCall C "_law_draw" [(eV 0), (eC (.int 90))])]) (eBi lenR [(eV 5)]))))
  (sq (sAs (tgN 9) (eComp [10] (tgN 10) (iE (eV 8)) tYes (eTup [(eC (.str "any"))])))
  (sq (sIf (tCmp eqR (eIdx (eV 4) (eC (.int 0))) (eC (.str "make"))) (sAs (tgN 9) (eIdx (eV 4) (eC (.int 2)))) sNil)
  (sRet (eTup [(eC (.str "make")), (eV 7), (eBi tupleR [(eComp [11] (tgN 11) (iRange1 (eBi lenR [(eV 8)])) tYes (eCall C "_law_within" [(eV 0), (eV 1), (eV 2), (eIdx (eV 8) (eV 11)), (eIdx (eV 9) (eV 11))]))])]))))))))⟩
def f_law_twice : Def := ⟨3, 4, fun C =>
  (sq (sAs (tgN 3) (eCall C "cut" [(eV 0), (eV 1)]))
  (sq (sIf (tIsN (eV 3)) (sRet (eC (.non))) sNil)
  (sRet (eCall C "cut" [(eV 3), (eV 2)]))))⟩
def f_law_due_twice : Def := ⟨3, 4, fun C =>
  (sq (sAs (tgN 3) (eCall C "_law_cut" [(eV 0), (eV 1)]))
  (sRet (eAnd (eT (tNotN (eV 3))) (eT (tNotN (eCall C "_law_cut" [(eV 3), (eV 2)]))))))⟩
def f_law_forms : Def := ⟨6, 7, fun C =>
  (sq (sIf (tOr (tCmp neR (eT (tIsN (eV 4))) (eT (tIsN (eCall C "_law_cut" [(eV 2), (eV 3)])))) (tNot (tE (eBi (isinR "list") [(eV 5)])))) (sRet (eC (.bl false))) sNil)
  (sq (sIf (tCmp neR (eT (tCmp eqR (eBi lenR [(eV 5)]) (eC (.int 0)))) (eCall C "_law_covered" [(eV 0), (eV 1), (eV 2), (eV 3)])) (sRet (eC (.bl false))) sNil)
  (sq (sIf (tAnd (tNotN (eV 4)) (tNot (tE (eCall C "_law_same" [(eCall C "cut" [(eV 4), (eV 3)]), (eV 4)])))) (sRet (eC (.bl false))) sNil)
  (sq (sFor (tgN 6) (iE (eV 5))
  (sIf (tOr (tNotN (eCall C "cut" [(eV 6), (eV 3)])) (tNot (tE (eCall C "_law_same" [(eCall C "rest" [(eV 0), (eV 1), (eV 6), (eV 3)]), (eLst [(eV 6)])])))) (sRet (eC (.bl false))) sNil))
  (sRet (eC (.bl true)))))))⟩
def f_law_held : Def := ⟨3, 7, fun C =>
  (sq (sAs (tgN 3) (eComp [4] (tgN 4) (iE (eV 0)) (tNotN (eV 4)) (eCall C "holds" [(eV 4), (eV 1)])))
  (sq (sAs (tgN 5) (eBi lenR [(eComp [6] (tgN 6) (iE (eV 3)) (tCmp isR (eV 6) (eC (.bl true))) (eV 6))]))
  (sRet (eAnd (eT (tCmp eqR (eV 5) (eV 2))) (eT (tCmp eqR (eBi lenR [(eComp [6] (tgN 6) (iE (eV 3)) (tCmp isR (eV 6) (eC (.bl false))) (eV 6))]) (eOp subR (eBi lenR [(eV 3)]) (eV 5))))))))⟩
def f_law_10 : Def := ⟨1, 18, fun C =>
  (sq (sCell 1 (eLst [(eCall C "_law_digits" [(eV 0), (eC (.int 0)), (eC (.int 50))]), (eC (.int 0))]))
  (sq (sAs (tgN 2) (eCall C "_law_types" [(eV 1)]))
  (sq (sAs (tgN 3) (eCall C "_law_heights" [(eV 2)]))
  (sq (sFor (tgN 4) (iRange1 (eC (.int 4)))
  (sq (sAs (tgN 5) (eIdx (eOp addR (eLst [(eC (.str "Int"))]) (eOp mulR (eComp [6] (tgN 6) (iE (eV 2)) tYes (eIdx (eV 6) (eC (.int 0)))) (eC (.int 3)))) (eOp modR (eBi intR [(eCall C "_law_draw" [(eV 1), (eC (.int 90))])]) (eOp addR (eC (.int 1)) (eOp mulR (eC (.int 3)) (eBi lenR [(eV 2)]))))))
  (sq (sAs (tgN 7) (eCall C "_law_region" [(eV 1), (eV 2), (eV 5), (eC (.int 3))]))
  (sq (sAs (tgN 8) (eCall C "_law_plain_simple" [(eV 1), (eV 2), (eV 5), (eC (.int 3))]))
  (sq (sAs (tgN 9) (eCall C "_law_plain_simple" [(eV 1), (eV 2), (eV 5), (eC (.int 3))]))
  (sq (sAs (tgN 10) (eCall C "cut" [(eV 7), (eV 8)]))
  (sq (sAs (tgN 11) (eCall C "rest" [(eV 2), (eV 5), (eV 7), (eV 8)]))
  (sq (sAs (tgN 12) (eLst [(eCall C "_law_twice" [(eV 7), (eV 8), (eV 9)]), (eCall C "_law_twice" [(eV 7), (eV 9), (eV 8)])]))
  (sq (sIf (tNot (tE (eCall C "_law_forms" [(eV 2), (eV 5), (eV 7), (eV 8), (eV 10), (eV 11)]))) (sRet (eC (.bl false))) sNil)
  (sq (sIf (tCmp neR (eComp [13] (tgN 13) (iE (eV 12)) tYes (eT (tNotN (eV 13)))) (eOp mulR (eLst [(eCall C "_law_due_twice" [(eV 7), (eV 8), (eV 9)])]) (eC (.int 2)))) (sRet (eC (.bl false))) sNil)
  (sFor (tgN 14) (iRange1 (eC (.int 9)))
  (sq (sAs (tgN 15) (eCall C "_law_within" [(eV 1), (eV 2), (eV 3), (eV 5), (eIdx (eLst [(eTup [(eC (.str "any"))]), (eV 7), (eV 8)]) (eOp modR (eV 14) (eC (.int 3))))]))
  (sq (sAs (tgN 16) (eCall C "_law_holds" [(eV 7), (eV 15)]))
  (sq (sAs (tgN 17) (eCall C "_law_holds" [(eV 8), (eV 15)]))
  (sq (sIf (tOr (tNot (tE (eCall C "_law_held" [(eLst [(eV 7)]), (eV 15), (eBi intR [(eV 16)])]))) (tNot (tE (eCall C "_law_held" [(eLst [(eV 10)]), (eV 15), (eBi intR [(eAnd (eV 16) (eV 17))])])))) (sRet (eC (.bl false))) sNil)
  (sq (sIf (tNot (tE (eCall C "_law_held" [(eV 11), (eV 15), (eBi intR [(eAnd (eV 16) (eNot (eV 17)))])]))) (sRet (eC (.bl false))) sNil)
  (sIf (tNot (tE (eCall C "_law_held" [(eV 12), (eV 15), (eOp mulR (eC (.int 2)) (eBi intR [(eAnd (eV 16) (eAnd (eV 17) (eCall C "_law_holds" [(eV 9), (eV 15)])))]))]))) (sRet (eC (.bl false))) sNil)))))))))))))))))
  (sRet (eC (.bl true)))))))⟩
def tbl : List (String × Def) := [("constructors", f_constructors), ("fields_of", f_fields_of), ("cut", f_cut), ("cut_all", f_cut_all), ("rest_of_range", f_rest_of_range), ("left_out", f_left_out), ("rest", f_rest), ("rest_all", f_rest_all), ("holds", f_holds), ("_law_cell", f_law_cell), ("_law_same", f_law_same), ("_law_digits", f_law_digits), ("_law_draw", f_law_draw), ("_law_types", f_law_types), ("_law_makers", f_law_makers), ("_law_heights", f_law_heights), ("_law_least", f_law_least), ("_law_value", f_law_value), ("_law_region", f_law_region), ("_law_holds", f_law_holds), ("_law_plain_simple", f_law_plain_simple), ("_law_cut", f_law_cut_2), ("_law_cuts", f_law_cuts), ("_law_ends", f_law_ends), ("_law_covered", f_law_covered), ("_law_within", f_law_within), ("_law_twice", f_law_twice), ("_law_due_twice", f_law_due_twice), ("_law_forms", f_law_forms), ("_law_held", f_law_held), ("law", f_law_10)]
def P (f : String) : Option Def := tbl.lookup f
end K09
end

section
set_option maxHeartbeats 0
set_option linter.all false
set_option maxRecDepth 100000
namespace K09
open Ev
/-! ### regions -/
inductive Rg where
  | any | rng (a b : Int) | nt (l : List String) | mk (c : String) (ps : List Rg)
deriving Inhabited
mutual
def enc : Rg → D
  | .any => .tup [.str "any"]
  | .rng a b => .tup [.str "range", .int a, .int b]
  | .nt l => .tup [.str "not", .tup (l.map .str)]
  | .mk c ps => .tup [.str "make", .str c, .tup (encL ps)]
def encL : List Rg → List D
  | [] => []
  | r :: rs => enc r :: encL rs
end
theorem encL_map : ∀ rs : List Rg, encL rs = rs.map enc
  | [] => rfl
  | r :: rs => by rw [encL, encL_map rs]; rfl
@[simp] theorem encL_len (rs : List Rg) : (encL rs).length = rs.length := by rw [encL_map, List.length_map]
def encO : Option Rg → D
  | none => .non
  | some r => enc r
@[simp] theorem encO_none : encO none = .non := rfl
@[simp] theorem encO_some (r : Rg) : encO (some r) = enc r := rfl
def encOL : Option (List Rg) → D
  | none => .non
  | some rs => .tup (rs.map enc)
mutual
def cutM : Rg → Rg → Option Rg
  | r, .any => some r
  | .any, s => some s
  | .rng a b, .rng c d => if (if c > a then c else a) ≤ (if d < b then d else b) then some (.rng (if c > a then c else a) (if d < b then d else b)) else none
  | .nt l, .mk c ps => if c ∈ l then none else some (.mk c ps)
  | .mk c ps, .mk c' qs => if c = c' then (match cutL ps qs with
    | some xs => some (.mk c xs)
    | none => none) else none
  | _, _ => none
def cutL : List Rg → List Rg → Option (List Rg)
  | [], [] => some []
  | p :: ps, q :: qs => match cutM p q with
    | some x => (match cutL ps qs with
      | some xs => some (x :: xs)
      | none => none)
    | none => none
  | _, _ => none
end
mutual
/-- the two fit: of one kind -/
def Al : Rg → Rg → Prop
  | _, .any => True
  | .any, .rng _ _ => True
  | .any, .mk _ _ => True
  | .rng _ _, .rng _ _ => True
  | .nt _, .mk _ _ => True
  | .mk c ps, .mk c' qs => c = c' → ps.length ≤ 100 ∧ AlL ps qs
  | _, _ => False
def AlL : List Rg → List Rg → Prop
  | [], [] => True
  | p :: ps, q :: qs => Al p q ∧ AlL ps qs
  | _, _ => False
end
mutual
def hgt : Rg → Nat
  | .any => 0
  | .rng _ _ => 0
  | .nt _ => 0
  | .mk _ ps => hgtL ps + 1
def hgtL : List Rg → Nat
  | [] => 0
  | r :: rs => max (hgt r) (hgtL rs)
end
theorem AlL.len : ∀ {ps qs : List Rg}, AlL ps qs → ps.length = qs.length
  | [], [], _ => rfl
  | [], _ :: _, h => by simp [AlL] at h
  | _ :: _, [], h => by simp [AlL] at h
  | p :: ps, q :: qs, h => by simp only [AlL] at h; simp [AlL.len h.2]
theorem AlL.get : ∀ {ps qs : List Rg} {i : Nat} {p q : Rg}, AlL ps qs → ps[i]? = some p → qs[i]? = some q → Al p q
  | p :: ps, q :: qs, 0, _, _, h, h1, h2 => by
    simp only [AlL] at h
    simp at h1 h2; subst h1 h2; exact h.1
  | p :: ps, q :: qs, i + 1, _, _, h, h1, h2 => by
    simp only [AlL] at h
    exact AlL.get h.2 (by simpa using h1) (by simpa using h2)
  | [], _, _, _, _, _, h1, _ => by simp at h1
  | _ :: _, [], _, _, _, _, _, h2 => by simp at h2
theorem hgt_get : ∀ {ps : List Rg} {i : Nat} {p : Rg}, ps[i]? = some p → hgt p ≤ hgtL ps
  | p :: ps, 0, _, h => by simp at h; subst h; simp [hgtL]; omega
  | p :: ps, i + 1, _, h => by
    have := hgt_get (ps := ps) (by simpa using h)
    simp [hgtL]; omega
  | [], _, _, h => by simp at h
/-- the list of cuts -/
def cuts (ps qs : List Rg) : List (Option Rg) := (ps.zip qs).map fun p => cutM p.1 p.2
theorem cutL_cuts : ∀ {ps qs : List Rg}, ps.length = qs.length → cutL ps qs = (if (cuts ps qs).any (·.isNone) then none else some ((cuts ps qs).filterMap id))
  | [], [], _ => by simp [cutL, cuts]
  | [], _ :: _, h => by simp at h
  | _ :: _, [], h => by simp at h
  | p :: ps, q :: qs, h => by
    have ih := cutL_cuts (ps := ps) (qs := qs) (by simpa using h)
    unfold cutL
    cases hc : cutM p q with
    | none => simp [cuts, hc]
    | some x =>
      simp only [ih]
      cases hn : (cuts ps qs).any (·.isNone) with
      | true =>
        simp only [cuts] at hn
        simp only [cuts, List.zip_cons_cons, List.map_cons, hc, List.any_cons, hn]
        simp
      | false =>
        simp only [cuts] at hn
        simp only [cuts, List.zip_cons_cons, List.map_cons, hc, List.any_cons, hn]
        simp
theorem encO_non (o : Option Rg) : (encO o).eqv .non = o.isNone := by
  cases o with
  | none => simp [encO, D.eqv]
  | some r => cases r <;> simp [encO, enc, D.eqv]
theorem any_non (os : List (Option Rg)) : ((os.map encO).any fun y => y.eqv .non) = os.any (·.isNone) := by
  induction os with
  | nil => rfl
  | cons o os ih => rw [List.map_cons, List.any_cons, List.any_cons, ih, encO_non]
theorem all_some : ∀ {os : List (Option Rg)}, os.any (·.isNone) = false → os.map encO = (os.filterMap id).map enc
  | [], _ => rfl
  | none :: os, h => by simp at h
  | some x :: os, h => by
    have := all_some (os := os) (by simpa using h)
    simp [this]
theorem cut_both : ∀ (n : Nat), (∀ (r s : Rg) (μ : Mem), Al r s → 2 * hgt r < n → callN P n "cut" [.d (enc r), .d (enc s)] μ = .ok (.d (encO (cutM r s))) μ) ∧
    ∀ (ps qs : List Rg) (μ : Mem), AlL ps qs → 2 * hgtL ps + 1 < n → ps.length ≤ 100 → callN P n "cut_all" [.d (.tup (encL ps)), .d (.tup (encL qs))] μ = .ok (.d (encOL (cutL ps qs))) μ
  | 0 => ⟨fun _ _ _ _ h => by omega, fun _ _ _ _ h => by omega⟩
  | n + 1 => by
    obtain ⟨ih1, ih2⟩ := cut_both n
    constructor
    · intro r s μ al hn
      rw [callN_run (d := f_cut) rfl rfl]
      cases s with
      | any => simp [eV, eB, vw_d, vw_scr, vw_ls, vw_dic, eBi, evs_nil, evs_cons, lift, eIdx, eOp, eC, tCmp, eTup, eLst, valsR_nil, valsR_cons, tAnd, tOr, tNot, tE, eT, eIf, eCall, tIsN, tNotN, eNeg, eSlc, oN, oE, EqDep, eqD, D.dep, D.depL, runB, sq, sIf, sRet, sRetN, fin, sNil, sAs, tgN, tgT, tgs, iE, iEnum, sX, f_cut, enc, eqD, D.dep, D.depL, EqDep, cutM]
      | rng c d =>
        cases r with
        | any => simp [eV, eB, vw_d, vw_scr, vw_ls, vw_dic, eBi, evs_nil, evs_cons, lift, eIdx, eOp, eC, tCmp, eTup, eLst, valsR_nil, valsR_cons, tAnd, tOr, tNot, tE, eT, eIf, eCall, tIsN, tNotN, eNeg, eSlc, oN, oE, EqDep, eqD, D.dep, D.depL, runB, sq, sIf, sRet, sRetN, fin, sNil, sAs, tgN, tgT, tgs, iE, iEnum, sX, f_cut, enc, eqD, D.dep, D.depL, EqDep, cutM]
        | rng a b =>
          simp only [cutM]
          by_cases hle : (if c > a then c else a) ≤ (if d < b then d else b)
          · simp [eV, eB, vw_d, vw_scr, vw_ls, vw_dic, eBi, evs_nil, evs_cons, lift, eIdx, eOp, eC, tCmp, eTup, eLst, valsR_nil, valsR_cons, tAnd, tOr, tNot, tE, eT, eIf, eCall, tIsN, tNotN, eNeg, eSlc, oN, oE, EqDep, eqD, D.dep, D.depL, runB, sq, sIf, sRet, sRetN, fin, sNil, sAs, tgN, tgT, tgs, iE, iEnum, sX, f_cut, enc, eqD, D.dep, D.depL, EqDep, hle]
          · simp [eV, eB, vw_d, vw_scr, vw_ls, vw_dic, eBi, evs_nil, evs_cons, lift, eIdx, eOp, eC, tCmp, eTup, eLst, valsR_nil, valsR_cons, tAnd, tOr, tNot, tE, eT, eIf, eCall, tIsN, tNotN, eNeg, eSlc, oN, oE, EqDep, eqD, D.dep, D.depL, runB, sq, sIf, sRet, sRetN, fin, sNil, sAs, tgN, tgT, tgs, iE, iEnum, sX, f_cut, enc, eqD, D.dep, D.depL, EqDep, hle]
        | nt l => simp [Al] at al
        | mk c ps => simp [Al] at al
      | nt l => cases r <;> simp [Al] at al
      | mk c qs =>
        cases r with
        | any => simp [eV, eB, vw_d, vw_scr, vw_ls, vw_dic, eBi, evs_nil, evs_cons, lift, eIdx, eOp, eC, tCmp, eTup, eLst, valsR_nil, valsR_cons, tAnd, tOr, tNot, tE, eT, eIf, eCall, tIsN, tNotN, eNeg, eSlc, oN, oE, EqDep, eqD, D.dep, D.depL, runB, sq, sIf, sRet, sRetN, fin, sNil, sAs, tgN, tgT, tgs, iE, iEnum, sX, f_cut, enc, eqD, D.dep, D.depL, EqDep, cutM]
        | rng a b => simp [Al] at al
        | nt l =>
          have h0 : D.depL (l.map D.str) = 0 := by
            clear hn al
            induction l with
            | nil => rfl
            | cons x l ih => simp [D.depL, D.dep, ih]
          have h1 : ((l.map D.str).any fun y => y.eqv (.str c)) = decide (c ∈ l) := by
            clear hn al h0
            induction l with
            | nil => simp
            | cons x l ih =>
              rw [List.map_cons, List.any_cons, ih]
              by_cases hx : x = c
              · simp [hx]
              · simp [hx, Ne.symm hx]
          simp only [cutM]
          by_cases hm : c ∈ l
          · simp [eV, eB, vw_d, vw_scr, vw_ls, vw_dic, eBi, evs_nil, evs_cons, lift, eIdx, eOp, eC, tCmp, eTup, eLst, valsR_nil, valsR_cons, tAnd, tOr, tNot, tE, eT, eIf, eCall, tIsN, tNotN, eNeg, eSlc, oN, oE, EqDep, eqD, D.dep, D.depL, runB, sq, sIf, sRet, sRetN, fin, sNil, sAs, tgN, tgT, tgs, iE, iEnum, sX, f_cut, enc, eqD, D.dep, D.depL, EqDep, hm, h0, h1]
          · simp [eV, eB, vw_d, vw_scr, vw_ls, vw_dic, eBi, evs_nil, evs_cons, lift, eIdx, eOp, eC, tCmp, eTup, eLst, valsR_nil, valsR_cons, tAnd, tOr, tNot, tE, eT, eIf, eCall, tIsN, tNotN, eNeg, eSlc, oN, oE, EqDep, eqD, D.dep, D.depL, runB, sq, sIf, sRet, sRetN, fin, sNil, sAs, tgN, tgT, tgs, iE, iEnum, sX, f_cut, enc, eqD, D.dep, D.depL, EqDep, hm, h0, h1]
        | mk c' ps =>
          simp only [cutM]
          by_cases hc : c' = c
          · subst hc
            obtain ⟨al1, al2⟩ : ps.length ≤ 100 ∧ AlL ps qs := by simpa [Al] using al
            have hh : 2 * hgtL ps + 1 < n := by simp only [hgt] at hn; omega
            have e := ih2 ps qs μ al2 hh al1
            cases hcut : cutL ps qs with
            | none =>
              rw [hcut] at e
              simp [eV, eB, vw_d, vw_scr, vw_ls, vw_dic, eBi, evs_nil, evs_cons, lift, eIdx, eOp, eC, tCmp, eTup, eLst, valsR_nil, valsR_cons, tAnd, tOr, tNot, tE, eT, eIf, eCall, tIsN, tNotN, eNeg, eSlc, oN, oE, EqDep, eqD, D.dep, D.depL, runB, sq, sIf, sRet, sRetN, fin, sNil, sAs, tgN, tgT, tgs, iE, iEnum, sX, f_cut, enc, eqD, D.dep, D.depL, EqDep, e, encOL, hcut]
            | some xs =>
              rw [hcut] at e
              simp [eV, eB, vw_d, vw_scr, vw_ls, vw_dic, eBi, evs_nil, evs_cons, lift, eIdx, eOp, eC, tCmp, eTup, eLst, valsR_nil, valsR_cons, tAnd, tOr, tNot, tE, eT, eIf, eCall, tIsN, tNotN, eNeg, eSlc, oN, oE, EqDep, eqD, D.dep, D.depL, runB, sq, sIf, sRet, sRetN, fin, sNil, sAs, tgN, tgT, tgs, iE, iEnum, sX, f_cut, enc, eqD, D.dep, D.depL, EqDep, e, encOL, hcut]
              exact (encL_map xs).symm
          · simp [eV, eB, vw_d, vw_scr, vw_ls, vw_dic, eBi, evs_nil, evs_cons, lift, eIdx, eOp, eC, tCmp, eTup, eLst, valsR_nil, valsR_cons, tAnd, tOr, tNot, tE, eT, eIf, eCall, tIsN, tNotN, eNeg, eSlc, oN, oE, EqDep, eqD, D.dep, D.depL, runB, sq, sIf, sRet, sRetN, fin, sNil, sAs, tgN, tgT, tgs, iE, iEnum, sX, f_cut, enc, eqD, D.dep, D.depL, EqDep, hc]
    · intro ps qs μ al hn hl
      rw [callN_run (d := f_cut_all) rfl rfl]
      have hlen := al.len
      have hcomp : compL (tgT [tgN 3, tgN 4]) tYes (eCall (callN P n) "cut" [eV 4, eIdx (eV 1) (eV 3)]) (enumF 0 (encL ps)) [.v (.d (.tup (encL ps))), .v (.d (.tup (encL qs))), .un, .un, .un] μ = .ok ((cuts ps qs).map fun o => .d (encO o)) μ := by
        refine compL_map (by simp [cuts, encL_map, hlen]) fun i x y hx hy => ?_
        rw [getElem_enumF, encL_map, List.getElem?_map] at hx
        simp only [cuts, List.getElem?_map] at hy
        obtain ⟨p, hp, hx⟩ := Option.map_eq_some_iff.mp hx
        obtain ⟨p0, hp0, hp⟩ := Option.map_eq_some_iff.mp hp
        obtain ⟨o, ho, hy⟩ := Option.map_eq_some_iff.mp hy
        obtain ⟨pq, hpq, ho⟩ := Option.map_eq_some_iff.mp ho
        obtain ⟨hz1, hz2⟩ := List.getElem?_zip_eq_some.mp hpq
        rw [hp0] at hz1
        cases hz1
        subst hp hx hy ho
        refine ⟨[.v (.d (.tup (encL ps))), .v (.d (.tup (encL qs))), .un, .v (.d (.int i)), .v (.d (enc pq.1))], by simp [tgT, tgs, tgN], by simp [tYes], ?_⟩
        have e := ih1 pq.1 pq.2 μ (al.get hp0 hz2) (by have := hgt_get hp0; omega)
        simp [eCall, evs, eV, eIdx, eOp, vw, lift, idxR, atI_nat, encL_map, hz2, e]
      have hl2 : (cuts ps qs).length ≤ SL := le_SL (by simp [cuts, hlen] at hl ⊢; omega)
      have hmk : mkL ((cuts ps qs).map fun o => R.d (encO o)) = .d (.lst ((cuts ps qs).map encO)) := mkL_map encO _
      have hany : (((cuts ps qs).map encO).any fun y => y.eqv .non) = (cuts ps qs).any (·.isNone) := any_non _
      have hc := cutL_cuts (ps := ps) (qs := qs) hlen
      cases ha : (cuts ps qs).any (·.isNone) with
      | true =>
        rw [ha] at hany
        rw [hc, if_pos ha]
        simp [eV, eB, vw_d, vw_scr, vw_ls, vw_dic, eBi, evs_nil, evs_cons, lift, eIdx, eOp, eC, tCmp, eTup, eLst, valsR_nil, valsR_cons, tAnd, tOr, tNot, tE, eT, eIf, eCall, tIsN, tNotN, eNeg, eSlc, oN, oE, EqDep, eqD, D.dep, D.depL, runB, sq, sIf, sRet, sRetN, fin, sNil, sAs, tgN, tgT, tgs, iE, iEnum, sX, f_cut_all, eComp, wipeE, hcomp, hl2, hmk, hany, encOL]
      | false =>
        rw [ha] at hany
        rw [hc, if_neg (by simp [ha] : ¬ ((cuts ps qs).any (·.isNone)) = true)]
        rw [all_some ha] at hmk hany
        simp [eV, eB, vw_d, vw_scr, vw_ls, vw_dic, eBi, evs_nil, evs_cons, lift, eIdx, eOp, eC, tCmp, eTup, eLst, valsR_nil, valsR_cons, tAnd, tOr, tNot, tE, eT, eIf, eCall, tIsN, tNotN, eNeg, eSlc, oN, oE, EqDep, eqD, D.dep, D.depL, runB, sq, sIf, sRet, sRetN, fin, sNil, sAs, tgN, tgT, tgs, iE, iEnum, sX, f_cut_all, eComp, wipeE, hcomp, hl2, hmk, hany, encOL]
end K09
end

section
set_option maxHeartbeats 0
set_option linter.all false
set_option maxRecDepth 100000
namespace K09
open Ev
/-! ### types -/
abbrev Mk := String × List String
abbrev Ty := List (String × List Mk)
def encF (fs : List String) : D := .tup (fs.map .str)
def encM (m : Mk) : D := .tup [.str m.1, encF m.2]
def encMs (ms : List Mk) : D := .tup (ms.map encM)
def encRow (r : String × List Mk) : D := .tup [.str r.1, encMs r.2]
def encT (T : Ty) : D := .tup (T.map encRow)
def makersOf (T : Ty) (name : String) : List Mk := match T.find? (fun r => r.1 == name) with
  | some r => r.2
  | none => []
def fieldsOf (T : Ty) (c : String) : List String := match T.find? (fun r => (r.2.find? (fun m => m.1 == c)).isSome) with
  | some r => (match r.2.find? (fun m => m.1 == c) with
    | some m => m.2
    | none => [])
  | none => []
theorem cons_spec (n : Nat) (T : Ty) (name : String) (μ : Mem) : callN P (n + 1) "constructors" [.d (encT T), .d (.str name)] μ = .ok (.d (encMs (makersOf T name))) μ := by
  rw [callN_run (d := f_constructors) rfl rfl]
  refine runB_rt (μ' := μ) ?_ rfl
  simp only [f_constructors, List.map_cons, List.map_nil, List.length_cons, List.length_nil, Nat.reduceAdd, Nat.reduceSub, List.replicate_succ, List.replicate_zero, List.cons_append, List.nil_append]
  have h := forL_find (t := tgT [tgN 2, tgN 3]) (b := sIf (tCmp eqR (eV 2) (eV 1)) (sRet (eV 3)) sNil) (μ := μ) (fun r : String × List Mk => .d (encRow r)) (fun r => r.1 == name) (fun r => .d (encMs r.2))
    (fun ρ => ∃ a b, ρ = [.v (.d (encT T)), .v (.d (.str name)), a, b]) (xs := T) (ρ := [.v (.d (encT T)), .v (.d (.str name)), .un, .un]) ⟨_, _, rfl⟩ (by
      rintro x hx ρ ⟨a, b, rfl⟩
      refine ⟨[.v (.d (encT T)), .v (.d (.str name)), .v (.d (.str x.1)), .v (.d (encMs x.2))], by simp [encRow, tgT, tgs, tgN], ?_⟩
      by_cases hc : x.1 = name
      · exact .inl ⟨by simp [hc], by simp [eV, eB, vw_d, vw_scr, vw_ls, vw_dic, eBi, evs_nil, evs_cons, lift, eIdx, eOp, eC, tCmp, eTup, eLst, valsR_nil, valsR_cons, tAnd, tOr, tNot, tE, eT, eIf, eCall, tIsN, tNotN, eNeg, eSlc, oN, oE, EqDep, eqD, D.dep, D.depL, runB, sq, sIf, sRet, sRetN, fin, sNil, sAs, tgN, tgT, tgs, iE, iEnum, sX, hc]⟩
      · exact .inr ⟨by simp [hc], _, ⟨.v (.d (.str x.1)), .v (.d (encMs x.2)), rfl⟩, by simp [eV, eB, vw_d, vw_scr, vw_ls, vw_dic, eBi, evs_nil, evs_cons, lift, eIdx, eOp, eC, tCmp, eTup, eLst, valsR_nil, valsR_cons, tAnd, tOr, tNot, tE, eT, eIf, eCall, tIsN, tNotN, eNeg, eSlc, oN, oE, EqDep, eqD, D.dep, D.depL, runB, sq, sIf, sRet, sRetN, fin, sNil, sAs, tgN, tgT, tgs, iE, iEnum, sX, hc]⟩)
  have hit : iE (eV 0) [.v (.d (encT T)), .v (.d (.str name)), .un, .un] μ = .ok (T.map fun r => .d (encRow r)) μ := by rw [iE_tup (ds := T.map encRow) (eV_at rfl), List.map_map]; rfl
  rcases h with ⟨x, h1, h2⟩ | ⟨h1, ρ', ⟨a, b, rfl⟩, h2⟩
  · rw [sq_rt (sFor_rt hit h2), makersOf, h1]
  · rw [sq_nx (sFor_rt hit h2), makersOf, h1]
    exact sRet_ok (by simp [eV, eB, vw_d, vw_scr, vw_ls, vw_dic, eBi, evs_nil, evs_cons, lift, eIdx, eOp, eC, tCmp, eTup, eLst, valsR_nil, valsR_cons, tAnd, tOr, tNot, tE, eT, eIf, eCall, tIsN, tNotN, eNeg, eSlc, oN, oE, EqDep, eqD, D.dep, D.depL, encMs])
theorem fields_spec (n : Nat) (T : Ty) (c : String) (μ : Mem) : callN P (n + 1) "fields_of" [.d (encT T), .d (.str c)] μ = .ok (.d (encF (fieldsOf T c))) μ := by
  rw [callN_run (d := f_fields_of) rfl rfl]
  refine runB_rt (μ' := μ) ?_ rfl
  simp only [f_fields_of, List.map_cons, List.map_nil, List.length_cons, List.length_nil, Nat.reduceAdd, Nat.reduceSub, List.replicate_succ, List.replicate_zero, List.cons_append, List.nil_append]
  have h := forL_find (t := tgT [tgN 2, tgN 3]) (b := sFor (tgT [tgN 4, tgN 5]) (iE (eV 3)) (sIf (tCmp eqR (eV 4) (eV 1)) (sRet (eV 5)) sNil)) (μ := μ) (fun r : String × List Mk => .d (encRow r)) (fun r => (r.2.find? (fun m => m.1 == c)).isSome)
    (fun r => .d (encF (match r.2.find? (fun m => m.1 == c) with
      | some m => m.2
      | none => [])))
    (fun ρ => ∃ a b d e, ρ = [.v (.d (encT T)), .v (.d (.str c)), a, b, d, e]) (xs := T) (ρ := [.v (.d (encT T)), .v (.d (.str c)), .un, .un, .un, .un]) ⟨_, _, _, _, rfl⟩ (by
      rintro x hx ρ ⟨a, b, d, e, rfl⟩
      refine ⟨[.v (.d (encT T)), .v (.d (.str c)), .v (.d (.str x.1)), .v (.d (encMs x.2)), d, e], by simp [encRow, tgT, tgs, tgN], ?_⟩
      have h := forL_find (t := tgT [tgN 4, tgN 5]) (b := sIf (tCmp eqR (eV 4) (eV 1)) (sRet (eV 5)) sNil) (μ := μ) (fun m : Mk => .d (encM m)) (fun m => m.1 == c) (fun m => .d (encF m.2))
        (fun ρ => ∃ d e, ρ = [.v (.d (encT T)), .v (.d (.str c)), .v (.d (.str x.1)), .v (.d (encMs x.2)), d, e]) (xs := x.2) (ρ := [.v (.d (encT T)), .v (.d (.str c)), .v (.d (.str x.1)), .v (.d (encMs x.2)), d, e]) ⟨_, _, rfl⟩ (by
          rintro m hm ρ ⟨d, e, rfl⟩
          refine ⟨[.v (.d (encT T)), .v (.d (.str c)), .v (.d (.str x.1)), .v (.d (encMs x.2)), .v (.d (.str m.1)), .v (.d (encF m.2))], by simp [encM, tgT, tgs, tgN], ?_⟩
          by_cases hc : m.1 = c
          · exact .inl ⟨by simp [hc], by simp [eV, eB, vw_d, vw_scr, vw_ls, vw_dic, eBi, evs_nil, evs_cons, lift, eIdx, eOp, eC, tCmp, eTup, eLst, valsR_nil, valsR_cons, tAnd, tOr, tNot, tE, eT, eIf, eCall, tIsN, tNotN, eNeg, eSlc, oN, oE, EqDep, eqD, D.dep, D.depL, runB, sq, sIf, sRet, sRetN, fin, sNil, sAs, tgN, tgT, tgs, iE, iEnum, sX, hc]⟩
          · exact .inr ⟨by simp [hc], _, ⟨.v (.d (.str m.1)), .v (.d (encF m.2)), rfl⟩, by simp [eV, eB, vw_d, vw_scr, vw_ls, vw_dic, eBi, evs_nil, evs_cons, lift, eIdx, eOp, eC, tCmp, eTup, eLst, valsR_nil, valsR_cons, tAnd, tOr, tNot, tE, eT, eIf, eCall, tIsN, tNotN, eNeg, eSlc, oN, oE, EqDep, eqD, D.dep, D.depL, runB, sq, sIf, sRet, sRetN, fin, sNil, sAs, tgN, tgT, tgs, iE, iEnum, sX, hc]⟩)
      have hit : iE (eV 3) [.v (.d (encT T)), .v (.d (.str c)), .v (.d (.str x.1)), .v (.d (encMs x.2)), d, e] μ = .ok (x.2.map fun m => .d (encM m)) μ := by rw [iE_tup (ds := x.2.map encM) (eV_at rfl), List.map_map]; rfl
      rcases h with ⟨m, h1, h2⟩ | ⟨h1, ρ', ⟨d', e', rfl⟩, h2⟩
      · exact .inl ⟨by simp [h1], by rw [sFor_rt hit h2, h1]⟩
      · exact .inr ⟨by simp only [h1]; rfl, _, ⟨.v (.d (.str x.1)), .v (.d (encMs x.2)), d', e', rfl⟩, sFor_rt hit h2⟩)
  have hit : iE (eV 0) [.v (.d (encT T)), .v (.d (.str c)), .un, .un, .un, .un] μ = .ok (T.map fun r => .d (encRow r)) μ := by rw [iE_tup (ds := T.map encRow) (eV_at rfl), List.map_map]; rfl
  rcases h with ⟨x, h1, h2⟩ | ⟨h1, ρ', ⟨a, b, d, e, rfl⟩, h2⟩
  · rw [sq_rt (sFor_rt hit h2), fieldsOf, h1]
  · rw [sq_nx (sFor_rt hit h2), fieldsOf, h1]
    exact sRet_ok (by simp [eV, eB, vw_d, vw_scr, vw_ls, vw_dic, eBi, evs_nil, evs_cons, lift, eIdx, eOp, eC, tCmp, eTup, eLst, valsR_nil, valsR_cons, tAnd, tOr, tNot, tE, eT, eIf, eCall, tIsN, tNotN, eNeg, eSlc, oN, oE, EqDep, eqD, D.dep, D.depL, encF])
theorem makers_spec (n : Nat) (T : Ty) (name : String) (μ : Mem) : callN P (n + 1) "_law_makers" [.d (encT T), .d (.str name)] μ = .ok (.d (encMs (makersOf T name))) μ := by
  rw [callN_run (d := f_law_makers) rfl rfl]
  refine runB_rt (μ' := μ) ?_ rfl
  simp only [f_law_makers, List.map_cons, List.map_nil, List.length_cons, List.length_nil, Nat.reduceAdd, Nat.reduceSub, List.replicate_succ, List.replicate_zero, List.cons_append, List.nil_append]
  have h := forL_find (t := tgN 2) (b := sIf (tCmp eqR (eIdx (eV 2) (eC (.int 0))) (eV 1)) (sRet (eIdx (eV 2) (eC (.int 1)))) sNil) (μ := μ) (fun r : String × List Mk => .d (encRow r)) (fun r => r.1 == name) (fun r => .d (encMs r.2))
    (fun ρ => ∃ a, ρ = [.v (.d (encT T)), .v (.d (.str name)), a]) (xs := T) (ρ := [.v (.d (encT T)), .v (.d (.str name)), .un]) ⟨_, rfl⟩ (by
      rintro x hx ρ ⟨a, rfl⟩
      refine ⟨[.v (.d (encT T)), .v (.d (.str name)), .v (.d (encRow x))], by simp [tgN], ?_⟩
      by_cases hc : x.1 = name
      · exact .inl ⟨by simp [hc], by simp [eV, eB, vw_d, vw_scr, vw_ls, vw_dic, eBi, evs_nil, evs_cons, lift, eIdx, eOp, eC, tCmp, eTup, eLst, valsR_nil, valsR_cons, tAnd, tOr, tNot, tE, eT, eIf, eCall, tIsN, tNotN, eNeg, eSlc, oN, oE, EqDep, eqD, D.dep, D.depL, runB, sq, sIf, sRet, sRetN, fin, sNil, sAs, tgN, tgT, tgs, iE, iEnum, sX, encRow, hc]⟩
      · exact .inr ⟨by simp [hc], _, ⟨.v (.d (encRow x)), rfl⟩, by simp [eV, eB, vw_d, vw_scr, vw_ls, vw_dic, eBi, evs_nil, evs_cons, lift, eIdx, eOp, eC, tCmp, eTup, eLst, valsR_nil, valsR_cons, tAnd, tOr, tNot, tE, eT, eIf, eCall, tIsN, tNotN, eNeg, eSlc, oN, oE, EqDep, eqD, D.dep, D.depL, runB, sq, sIf, sRet, sRetN, fin, sNil, sAs, tgN, tgT, tgs, iE, iEnum, sX, encRow, hc]⟩)
  have hit : iE (eV 0) [.v (.d (encT T)), .v (.d (.str name)), .un] μ = .ok (T.map fun r => .d (encRow r)) μ := by rw [iE_tup (ds := T.map encRow) (eV_at rfl), List.map_map]; rfl
  rcases h with ⟨x, h1, h2⟩ | ⟨h1, ρ', ⟨a, rfl⟩, h2⟩
  · rw [sq_rt (sFor_rt hit h2), makersOf, h1]
  · rw [sq_nx (sFor_rt hit h2), makersOf, h1]
    exact sRet_ok (by simp [eV, eB, vw_d, vw_scr, vw_ls, vw_dic, eBi, evs_nil, evs_cons, lift, eIdx, eOp, eC, tCmp, eTup, eLst, valsR_nil, valsR_cons, tAnd, tOr, tNot, tE, eT, eIf, eCall, tIsN, tNotN, eNeg, eSlc, oN, oE, EqDep, eqD, D.dep, D.depL, encMs])

/-! ### what is left of a range -/
def rr (r : Rg) (lo hi c d : Int) : List Rg := if d < lo ∨ hi < c then [r] else (if lo < c then [.rng lo (c - 1)] else []) ++ (if d < hi then [.rng (d + 1) hi] else [])
theorem sApp_ok {i : Nat} {e : E} {ρ : Env} {μ μ' : Mem} {xs : List R} {r : R} (h1 : ρ[i]? = some (.own xs)) (h2 : e ρ μ = .ok r μ') (h3 : xs.length < 1000000) : sApp i e ρ μ = .ok (.nx (ρ.set i (.own (xs ++ [r])))) μ' := by
  unfold sApp; rw [h1]; show (e ρ μ).bind _ = _; rw [h2, bind_ok, if_pos (lt_SL h3)]
theorem sOwn_lst {i : Nat} {e : E} {ρ : Env} {μ μ' : Mem} {ds : List D} (h : e ρ μ = .ok (.d (.lst ds)) μ') : sOwn i e ρ μ = .ok (.nx (ρ.set i (.own (ds.map .d)))) μ' := by unfold sOwn; rw [h]; rfl
theorem sFrz_ok {i : Nat} {ρ : Env} {μ : Mem} {rs : List R} (h : ρ[i]? = some (.own rs)) : sFrz i ρ μ = .ok (.nx (ρ.set i (.v (mkL rs)))) μ := by unfold sFrz; rw [h]
theorem range_any (n : Nat) (c d : Int) (μ : Mem) : callN P (n + 1) "rest_of_range" [.d (enc .any), .d (enc (.rng c d))] μ = .ok (.d (.lst ((rr .any (-99) 99 c d).map enc))) μ := by
  rw [callN_run (d := f_rest_of_range) rfl rfl]
  unfold rr
  by_cases h1 : d < -99
  · simp [eV, eB, vw_d, vw_scr, vw_ls, vw_dic, eBi, evs_nil, evs_cons, lift, eIdx, eOp, eC, tCmp, eTup, eLst, valsR_nil, valsR_cons, tAnd, tOr, tNot, tE, eT, eIf, eCall, tIsN, tNotN, eNeg, eSlc, oN, oE, EqDep, eqD, D.dep, D.depL, runB, sq, sIf, sRet, sRetN, fin, sNil, sAs, tgN, tgT, tgs, iE, iEnum, sX, f_rest_of_range, enc, h1]
  · by_cases h2 : 99 < c
    · simp [eV, eB, vw_d, vw_scr, vw_ls, vw_dic, eBi, evs_nil, evs_cons, lift, eIdx, eOp, eC, tCmp, eTup, eLst, valsR_nil, valsR_cons, tAnd, tOr, tNot, tE, eT, eIf, eCall, tIsN, tNotN, eNeg, eSlc, oN, oE, EqDep, eqD, D.dep, D.depL, runB, sq, sIf, sRet, sRetN, fin, sNil, sAs, tgN, tgT, tgs, iE, iEnum, sX, f_rest_of_range, enc, h1, h2]
    · by_cases h3 : -99 < c <;> by_cases h4 : d < 99 <;> simp [eV, eB, vw_d, vw_scr, vw_ls, vw_dic, eBi, evs_nil, evs_cons, lift, eIdx, eOp, eC, tCmp, eTup, eLst, valsR_nil, valsR_cons, tAnd, tOr, tNot, tE, eT, eIf, eCall, tIsN, tNotN, eNeg, eSlc, oN, oE, EqDep, eqD, D.dep, D.depL, runB, sq, sIf, sRet, sRetN, fin, sNil, sAs, tgN, tgT, tgs, iE, iEnum, sX, sOwn, sApp, sFrz, mkL, f_rest_of_range, enc, h1, h2, h3, h4]
theorem range_rng (n : Nat) (a b c d : Int) (μ : Mem) : callN P (n + 1) "rest_of_range" [.d (enc (.rng a b)), .d (enc (.rng c d))] μ = .ok (.d (.lst ((rr (.rng a b) a b c d).map enc))) μ := by
  rw [callN_run (d := f_rest_of_range) rfl rfl]
  unfold rr
  by_cases h1 : d < a
  · simp [eV, eB, vw_d, vw_scr, vw_ls, vw_dic, eBi, evs_nil, evs_cons, lift, eIdx, eOp, eC, tCmp, eTup, eLst, valsR_nil, valsR_cons, tAnd, tOr, tNot, tE, eT, eIf, eCall, tIsN, tNotN, eNeg, eSlc, oN, oE, EqDep, eqD, D.dep, D.depL, runB, sq, sIf, sRet, sRetN, fin, sNil, sAs, tgN, tgT, tgs, iE, iEnum, sX, f_rest_of_range, enc, h1, cut, sIx]
  · by_cases h2 : b < c
    · simp [eV, eB, vw_d, vw_scr, vw_ls, vw_dic, eBi, evs_nil, evs_cons, lift, eIdx, eOp, eC, tCmp, eTup, eLst, valsR_nil, valsR_cons, tAnd, tOr, tNot, tE, eT, eIf, eCall, tIsN, tNotN, eNeg, eSlc, oN, oE, EqDep, eqD, D.dep, D.depL, runB, sq, sIf, sRet, sRetN, fin, sNil, sAs, tgN, tgT, tgs, iE, iEnum, sX, f_rest_of_range, enc, h1, h2, cut, sIx]
    · by_cases h3 : a < c <;> by_cases h4 : d < b <;> simp [eV, eB, vw_d, vw_scr, vw_ls, vw_dic, eBi, evs_nil, evs_cons, lift, eIdx, eOp, eC, tCmp, eTup, eLst, valsR_nil, valsR_cons, tAnd, tOr, tNot, tE, eT, eIf, eCall, tIsN, tNotN, eNeg, eSlc, oN, oE, EqDep, eqD, D.dep, D.depL, runB, sq, sIf, sRet, sRetN, fin, sNil, sAs, tgN, tgT, tgs, iE, iEnum, sX, sOwn, sApp, sFrz, mkL, f_rest_of_range, enc, h1, h2, h3, h4, cut, sIx]

/-! ### which constructors are left -/
def namesOf (T : Ty) (name : String) : List String := (makersOf T name).map (·.1)
def leftM (T : Ty) (name : String) (l : List String) (c : String) : List Rg :=
  if ((namesOf T name).filter fun x => x ∈ l ∨ x = c).length < (namesOf T name).length then [.nt ((namesOf T name).filter fun x => x ∈ l ∨ x = c)] else []
theorem filter_len {ns l : List String} {c : String} (h1 : ns.Nodup) (h2 : l.Nodup) (h3 : ∀ x ∈ l, x ∈ ns) (h4 : c ∈ ns) (h5 : c ∉ l) : (ns.filter fun x => x ∈ l ∨ x = c).length = l.length + 1 := by
  have hp : (ns.filter fun x => x ∈ l ∨ x = c).Perm (c :: l) := by
    refine (List.perm_ext_iff_of_nodup (h1.filter _) (List.nodup_cons.mpr ⟨h5, h2⟩)).mpr fun x => ?_
    simp only [List.mem_filter, List.mem_cons, decide_eq_true_eq]
    constructor
    · rintro ⟨_, h | h⟩
      · exact .inr h
      · exact .inl h
    · rintro (h | h)
      · exact ⟨h ▸ h4, .inr h⟩
      · exact ⟨h3 x h, .inl h⟩
  rw [hp.length_eq]; rfl
theorem depL_str (l : List String) : D.depL (l.map D.str) = 0 := by
  induction l with
  | nil => rfl
  | cons x l ih => simp [D.depL, D.dep, ih]
theorem any_str (l : List String) (c : String) : ((l.map D.str).any fun y => y.eqv (.str c)) = decide (c ∈ l) := by
  induction l with
  | nil => simp
  | cons x l ih =>
    rw [List.map_cons, List.any_cons, ih]
    by_cases hx : x = c
    · simp [hx]
    · simp [hx, Ne.symm hx]
theorem left_out_core (n : Nat) (T : Ty) (name c : String) (l : List String) (rg : D) (μ : Mem) (hlen : (makersOf T name).length ≤ 1000) (hl : l.length ≤ 1000)
    (hrg : ∀ ρ : Env, ρ[2]? = some (.v (.d rg)) → ρ[3]? = some (.v (.d (.str c))) → eIf (tCmp eqR (eV 2) (eC (.tup [.str "any"]))) (eLst [eV 3]) (eOp addR (eBi listR [eIdx (eV 2) (eC (.int 1))]) (eLst [eV 3])) ρ μ = .ok (.d (.lst ((l ++ [c]).map .str))) μ) :
    callN P (n + 2) "left_out" [.d (encT T), .d (.str name), .d rg, .d (.str c)] μ = .ok (.d (.lst (if l.length + 1 = (namesOf T name).length then [] else [enc (.nt ((namesOf T name).filter fun x => x ∈ l ∨ x = c))]))) μ := by
  rw [callN_run (d := f_left_out) rfl rfl]
  refine runB_rt (μ' := μ) ?_ rfl
  simp only [f_left_out, List.map_cons, List.map_nil, List.length_cons, List.length_nil, Nat.reduceAdd, Nat.reduceSub, List.replicate_succ, List.replicate_zero, List.cons_append, List.nil_append]
  have hit : iE (eCall (callN P (n + 1)) "constructors" [eV 0, eV 1]) [.v (.d (encT T)), .v (.d (.str name)), .v (.d rg), .v (.d (.str c)), .un, .un, .un, .un] μ = .ok ((makersOf T name).map fun m => .d (encM m)) μ := by
    rw [iE_tup (μ' := μ) (ds := (makersOf T name).map encM) (by simp [eV, eB, vw_d, vw_scr, vw_ls, vw_dic, eBi, evs_nil, evs_cons, lift, eIdx, eOp, eC, tCmp, eTup, eLst, valsR_nil, valsR_cons, tAnd, tOr, tNot, tE, eT, eIf, eCall, tIsN, tNotN, eNeg, eSlc, oN, oE, EqDep, eqD, D.dep, D.depL, cons_spec, encMs]), List.map_map]; rfl
  have hcomp : compL (tgT [tgN 5, tgN 6]) tYes (eV 5) ((makersOf T name).map fun m => .d (encM m)) [.v (.d (encT T)), .v (.d (.str name)), .v (.d rg), .v (.d (.str c)), .un, .un, .un, .un] μ = .ok ((makersOf T name).map fun m => .d (.str m.1)) μ := by
    have := compL_filter (t := tgT [tgN 5, tgN 6]) (c := tYes) (e := eV 5) (ρ := [.v (.d (encT T)), .v (.d (.str name)), .v (.d rg), .v (.d (.str c)), .un, .un, .un, .un]) (μ := μ) (fun m : Mk => .d (encM m)) (fun m => .d (.str m.1)) (fun _ => true) (xs := makersOf T name) (by
      intro m hm
      exact ⟨[.v (.d (encT T)), .v (.d (.str name)), .v (.d rg), .v (.d (.str c)), .un, .v (.d (.str m.1)), .v (.d (encF m.2)), .un], by simp [encM, tgT, tgs, tgN], by simp [tYes], fun _ => by simp [eV]⟩)
    rw [List.filter_eq_self.mpr fun _ _ => rfl] at this
    exact this
  rw [sq_as (eComp_ok (own := [5, 6]) hit hcomp (by simp; omega)), mkL_map (fun m : Mk => D.str m.1)]
  simp only [List.set_cons_succ, List.set_cons_zero]
  rw [sq_as (hrg _ rfl rfl)]
  simp only [List.set_cons_succ, List.set_cons_zero]
  by_cases he : l.length + 1 = (namesOf T name).length
  · rw [if_pos he]
    have he' : l.length + 1 = (makersOf T name).length := by rw [he]; simp [namesOf]
    have he2 : ((l.length : Int) + 1 == ((makersOf T name).length : Int)) = true := by simp; omega
    refine sq_rt (sIf_t (μ' := μ) (by simp [eV, eB, vw_d, vw_scr, vw_ls, vw_dic, eBi, evs_nil, evs_cons, lift, eIdx, eOp, eC, tCmp, eTup, eLst, valsR_nil, valsR_cons, tAnd, tOr, tNot, tE, eT, eIf, eCall, tIsN, tNotN, eNeg, eSlc, oN, oE, EqDep, eqD, D.dep, D.depL, he2]) |>.trans (sRet_ok (by simp [eV, eB, vw_d, vw_scr, vw_ls, vw_dic, eBi, evs_nil, evs_cons, lift, eIdx, eOp, eC, tCmp, eTup, eLst, valsR_nil, valsR_cons, tAnd, tOr, tNot, tE, eT, eIf, eCall, tIsN, tNotN, eNeg, eSlc, oN, oE, EqDep, eqD, D.dep, D.depL])))
  · rw [if_neg he]
    have he' : ¬ l.length + 1 = (makersOf T name).length := fun z => he (by rw [z]; simp [namesOf])
    have he2 : ((l.length : Int) + 1 == ((makersOf T name).length : Int)) = false := by simp; omega
    rw [sq_if_f (μ' := μ) (by simp [eV, eB, vw_d, vw_scr, vw_ls, vw_dic, eBi, evs_nil, evs_cons, lift, eIdx, eOp, eC, tCmp, eTup, eLst, valsR_nil, valsR_cons, tAnd, tOr, tNot, tE, eT, eIf, eCall, tIsN, tNotN, eNeg, eSlc, oN, oE, EqDep, eqD, D.dep, D.depL, he2])]
    refine sRet_ok ?_
    have hcomp2 : compL (tgN 5) (tCmp inR (eV 5) (eV 7)) (eV 5) ((namesOf T name).map fun x => .d (.str x)) [.v (.d (encT T)), .v (.d (.str name)), .v (.d rg), .v (.d (.str c)), .v (.d (.lst ((makersOf T name).map fun m => D.str m.1))), .un, .un, .v (.d (.lst ((l ++ [c]).map .str)))] μ =
        .ok (((namesOf T name).filter fun x => x ∈ l ∨ x = c).map fun x => .d (.str x)) μ := by
      refine compL_filter (fun x : String => .d (.str x)) (fun x => .d (.str x)) (fun x => decide (x ∈ l ∨ x = c)) fun x hx => ?_
      refine ⟨[.v (.d (encT T)), .v (.d (.str name)), .v (.d rg), .v (.d (.str c)), .v (.d (.lst ((makersOf T name).map fun m => D.str m.1))), .v (.d (.str x)), .un, .v (.d (.lst ((l ++ [c]).map .str)))], by simp [tgN], ?_, fun _ => by simp [eV]⟩
      have h0 := depL_str (l ++ [c])
      have h1 := any_str (l ++ [c]) x
      simp only [tCmp, eV, List.getElem?_cons_succ, List.getElem?_cons_zero, bind_ok, vw_d, inR_lst, h0, h1]
      simp [EqDep]
    have hit2 : iE (eV 4) [.v (.d (encT T)), .v (.d (.str name)), .v (.d rg), .v (.d (.str c)), .v (.d (.lst ((makersOf T name).map fun m => D.str m.1))), .un, .un, .v (.d (.lst ((l ++ [c]).map .str)))] μ = .ok ((namesOf T name).map fun x => .d (.str x)) μ := by
      rw [iE_lst (ds := (makersOf T name).map fun m => D.str m.1) (eV_at rfl)]; simp [namesOf]
    have hc := eComp_ok (own := [5]) hit2 hcomp2 (by
      have := List.length_filter_le (fun x => decide (x ∈ l ∨ x = c)) (namesOf T name)
      simp [namesOf] at this ⊢; omega)
    rw [mkL_map] at hc
    simp only [eV, eB, vw_d, vw_scr, vw_ls, vw_dic, eBi, evs_nil, evs_cons, lift, eIdx, eOp, eC, tCmp, eTup, eLst, valsR_nil, valsR_cons, tAnd, tOr, tNot, tE, eT, eIf, eCall, tIsN, tNotN, eNeg, eSlc, oN, oE, EqDep, eqD, D.dep, D.depL, hc, bind_ok]
    simp [enc]
theorem left_out_spec (n : Nat) (T : Ty) (name c : String) (l : List String) (rg : D) (μ : Mem) (hlen : (makersOf T name).length ≤ 1000) (hl : l.length ≤ 1000)
    (h1 : (namesOf T name).Nodup) (h2 : l.Nodup) (h3 : ∀ x ∈ l, x ∈ namesOf T name) (h4 : c ∈ namesOf T name) (h5 : c ∉ l) (hr : rg = enc (.nt l) ∨ (rg = enc .any ∧ l = [])) :
    callN P (n + 2) "left_out" [.d (encT T), .d (.str name), .d rg, .d (.str c)] μ = .ok (.d (.lst ((leftM T name l c).map enc))) μ := by
  rw [left_out_core n T name c l rg μ hlen hl]
  · have hf := filter_len h1 h2 h3 h4 h5
    have hle := List.length_filter_le (fun x => decide (x ∈ l ∨ x = c)) (namesOf T name)
    unfold leftM
    by_cases he : l.length + 1 = (namesOf T name).length
    · rw [if_pos he, if_neg (by omega)]; rfl
    · rw [if_neg he, if_pos (by omega)]; rfl
  · intro ρ e2 e3
    rcases hr with rfl | ⟨rfl, rfl⟩
    · have : l.length + 1 ≤ SL := le_SL (by omega)
      simp [eV, eB, vw_d, vw_scr, vw_ls, vw_dic, eBi, evs_nil, evs_cons, lift, eIdx, eOp, eC, tCmp, eTup, eLst, valsR_nil, valsR_cons, tAnd, tOr, tNot, tE, eT, eIf, eCall, tIsN, tNotN, eNeg, eSlc, oN, oE, EqDep, eqD, D.dep, D.depL, e2, e3, enc, this]
    · simp [eV, eB, vw_d, vw_scr, vw_ls, vw_dic, eBi, evs_nil, evs_cons, lift, eIdx, eOp, eC, tCmp, eTup, eLst, valsR_nil, valsR_cons, tAnd, tOr, tNot, tE, eT, eIf, eCall, tIsN, tNotN, eNeg, eSlc, oN, oE, EqDep, eqD, D.dep, D.depL, e2, e3, enc]
end K09
end

section
set_option maxHeartbeats 0
set_option linter.all false
set_option maxRecDepth 100000
namespace K09
open Ev
mutual
/-- what is left of a region behind a simple one -/
def restM (T : Ty) : String → Rg → Rg → List Rg
  | _, _, .any => []
  | _, .rng a b, .rng c d => rr (.rng a b) a b c d
  | _, r, .rng c d => rr r (-99) 99 c d
  | name, .nt l, .mk c qs => if c ∈ l then [.nt l] else leftM T name l c ++ (match cutL (qs.map fun _ => .any) qs with
    | none => [qs.map fun _ => Rg.any]
    | some cs => rowsL T [] (fieldsOf T c) (qs.map fun _ => .any) qs cs).map (.mk c)
  | _, .mk c' ps, .mk c qs => if c' = c then (match cutL ps qs with
    | none => [ps]
    | some cs => rowsL T [] (fieldsOf T c) ps qs cs).map (.mk c) else [.mk c' ps]
  | name, _, .mk c qs => leftM T name [] c ++ (match cutL (qs.map fun _ => .any) qs with
    | none => [qs.map fun _ => Rg.any]
    | some cs => rowsL T [] (fieldsOf T c) (qs.map fun _ => .any) qs cs).map (.mk c)
  | _, _, .nt _ => []
def rowsL (T : Ty) : List Rg → List String → List Rg → List Rg → List Rg → List (List Rg)
  | pre, n :: ns, p :: ps, q :: qs, c :: cs => (restM T n p q).map (fun x => pre ++ x :: ps) ++ rowsL T (pre ++ [c]) ns ps qs cs
  | _, _, _, _, _ => []
end
def restL (T : Ty) (ns : List String) (ps qs : List Rg) : List (List Rg) := match cutL ps qs with
  | none => [ps]
  | some cs => rowsL T [] ns ps qs cs
mutual
def wt : Rg → Nat
  | .any => 1
  | .rng _ _ => 2
  | .nt _ => 1
  | .mk _ qs => 2 + wtL qs
def wtL : List Rg → Nat
  | [] => 0
  | q :: qs => wt q + wtL qs
end
theorem rr_len (r : Rg) (lo hi c d : Int) : (rr r lo hi c d).length ≤ 2 := by
  unfold rr
  split
  · simp
  · split <;> split <;> simp
theorem left_len (T : Ty) (name : String) (l : List String) (c : String) : (leftM T name l c).length ≤ 1 := by
  unfold leftM; split <;> simp
mutual
theorem restM_len (T : Ty) : ∀ (name : String) (r s : Rg), (restM T name r s).length ≤ wt s
  | _, r, .any => by cases r <;> simp [restM]
  | _, r, .rng c d => by cases r <;> simp only [restM, wt] <;> exact rr_len ..
  | _, r, .nt _ => by cases r <;> simp [restM]
  | name, r, .mk c qs => by
    have key : ∀ ps : List Rg, (match cutL ps qs with
        | none => [ps]
        | some cs => rowsL T [] (fieldsOf T c) ps qs cs).length ≤ 1 + wtL qs := fun ps => by
      split
      · simp
      · rename_i cs _
        have := rowsL_len T [] (fieldsOf T c) ps qs cs
        omega
    have k1 := key (qs.map fun _ => .any)
    cases r with
    | any =>
      have := left_len T name [] c
      simp only [restM, wt, List.length_append, List.length_map]; omega
    | rng a b =>
      have := left_len T name [] c
      simp only [restM, wt, List.length_append, List.length_map]; omega
    | nt l =>
      have := left_len T name l c
      simp only [restM, wt]
      split
      · simp; omega
      · simp only [List.length_append, List.length_map]; omega
    | mk c' ps =>
      have k2 := key ps
      simp only [restM, wt]
      split
      · simp only [List.length_map]; omega
      · simp; omega
theorem rowsL_len (T : Ty) : ∀ (pre : List Rg) (ns : List String) (ps qs cs : List Rg), (rowsL T pre ns ps qs cs).length ≤ wtL qs
  | pre, n :: ns, p :: ps, q :: qs, c :: cs => by
    have h1 := restM_len T n p q
    have h2 := rowsL_len T (pre ++ [c]) ns ps qs cs
    simp only [rowsL, wtL, List.length_append, List.length_map]; omega
  | _, [], _, _, _ => by simp [rowsL]
  | _, _ :: _, [], _, _ => by simp [rowsL]
  | _, _ :: _, _ :: _, [], _ => by simp [rowsL]
  | _, _ :: _, _ :: _, _ :: _, [] => by simp [rowsL]
end
mutual
/-- a region and a simple one, of the type name -/
def RT (T : Ty) : String → Rg → Rg → Prop
  | _, _, .any => True
  | _, .any, .rng _ _ => True
  | _, .rng _ _, .rng _ _ => True
  | name, .any, .mk c qs => c ∈ namesOf T name ∧ (namesOf T name).Nodup ∧ qs.length ≤ 100 ∧ (fieldsOf T c).length = qs.length ∧ RTL T (fieldsOf T c) (qs.map fun _ => .any) qs
  | name, .nt l, .mk c qs => c ∈ namesOf T name ∧ (namesOf T name).Nodup ∧ qs.length ≤ 100 ∧ (fieldsOf T c).length = qs.length ∧ l.Nodup ∧ l.length ≤ 1000 ∧ (∀ x ∈ l, x ∈ namesOf T name) ∧ RTL T (fieldsOf T c) (qs.map fun _ => .any) qs
  | name, .mk c' ps, .mk c qs => c' = c → qs.length ≤ 100 ∧ RTL T (fieldsOf T c) ps qs
  | _, _, _ => False
def RTL (T : Ty) : List String → List Rg → List Rg → Prop
  | [], [], [] => True
  | n :: ns, p :: ps, q :: qs => RT T n p q ∧ Al p q ∧ RTL T ns ps qs
  | _, _, _ => False
end
theorem RTL.al {T : Ty} : ∀ {ns : List String} {ps qs : List Rg}, RTL T ns ps qs → AlL ps qs
  | [], [], [], _ => by simp [AlL]
  | _ :: _, _ :: _, _ :: _, h => by
    simp only [RTL] at h
    simp only [AlL]
    exact ⟨h.2.1, RTL.al h.2.2⟩
  | [], [], _ :: _, h => by simp [RTL] at h
  | [], _ :: _, _, h => by simp [RTL] at h
  | _ :: _, [], _, h => by simp [RTL] at h
  | _ :: _, _ :: _, [], h => by simp [RTL] at h
theorem RTL.len {T : Ty} : ∀ {ns : List String} {ps qs : List Rg}, RTL T ns ps qs → ns.length = ps.length ∧ ps.length = qs.length
  | [], [], [], _ => by simp
  | _ :: _, _ :: _, _ :: _, h => by
    simp only [RTL] at h
    have := RTL.len h.2.2
    simp; omega
  | [], [], _ :: _, h => by simp [RTL] at h
  | [], _ :: _, _, h => by simp [RTL] at h
  | _ :: _, [], _, h => by simp [RTL] at h
  | _ :: _, _ :: _, [], h => by simp [RTL] at h
theorem RTL.get {T : Ty} : ∀ {ns : List String} {ps qs : List Rg} {i : Nat} {n : String} {p q : Rg}, RTL T ns ps qs → ns[i]? = some n → ps[i]? = some p → qs[i]? = some q → RT T n p q
  | _ :: _, _ :: _, _ :: _, 0, _, _, _, h, h1, h2, h3 => by
    simp only [RTL] at h
    simp at h1 h2 h3; subst h1 h2 h3; exact h.1
  | _ :: _, _ :: _, _ :: _, i + 1, _, _, _, h, h1, h2, h3 => by
    simp only [RTL] at h
    exact RTL.get h.2.2 (by simpa using h1) (by simpa using h2) (by simpa using h3)
  | [], _, _, _, _, _, _, _, h1, _, _ => by simp at h1
  | _ :: _, [], _, _, _, _, _, _, _, h2, _ => by simp at h2
  | _ :: _, _ :: _, [], _, _, _, _, _, _, _, h3 => by simp at h3
theorem cutL_len : ∀ {ps qs cs : List Rg}, cutL ps qs = some cs → cs.length = ps.length ∧ ps.length = qs.length
  | [], [], _, h => by simp [cutL] at h; subst h; simp
  | p :: ps, q :: qs, cs, h => by
    unfold cutL at h
    split at h
    · split at h
      · rename_i x hx xs hxs
        cases h
        have := cutL_len hxs
        simp; omega
      · cases h
    · cases h
  | [], _ :: _, _, h => by simp [cutL] at h
  | _ :: _, [], _, h => by simp [cutL] at h
theorem wt_get : ∀ {qs : List Rg} {i : Nat} {q : Rg}, qs[i]? = some q → wt q ≤ wtL qs
  | q :: qs, 0, _, h => by simp at h; subst h; simp [wtL]
  | q :: qs, i + 1, _, h => by
    have := wt_get (qs := qs) (by simpa using h)
    simp [wtL]; omega
  | [], _, _, h => by simp at h
def encW (row : List Rg) : D := .tup (encL row)
/-- the rows from place i on -/
def rowsFrom (T : Ty) (ns : List String) (ps qs cs : List Rg) (i : Nat) : List (List Rg) := rowsL T (cs.take i) (ns.drop i) (ps.drop i) (qs.drop i) (cs.drop i)
theorem rowsFrom_step {T : Ty} {ns : List String} {ps qs cs : List Rg} {i : Nat} (h1 : i < ns.length) (h2 : i < ps.length) (h3 : i < qs.length) (h4 : i < cs.length) :
    rowsFrom T ns ps qs cs i = (restM T ns[i] ps[i] qs[i]).map (fun x => cs.take i ++ x :: ps.drop (i + 1)) ++ rowsFrom T ns ps qs cs (i + 1) := by
  unfold rowsFrom
  rw [List.drop_eq_getElem_cons h1, List.drop_eq_getElem_cons h2, List.drop_eq_getElem_cons h3, List.drop_eq_getElem_cons h4]
  simp only [rowsL]
  rw [List.take_succ_eq_append_getElem h4]
theorem rowsFrom_end {T : Ty} {ns : List String} {ps qs cs : List Rg} {i : Nat} (h : ns.length ≤ i) : rowsFrom T ns ps qs cs i = [] := by
  unfold rowsFrom
  rw [List.drop_eq_nil_of_le h]
  simp [rowsL]

/-- the state of the loops: acc are the rows so far -/
theorem rest_all_spec {n : Nat} {T : Ty} (ns : List String) (ps qs : List Rg) (μ : Mem) (hr : RTL T ns ps qs) (hl : ps.length ≤ 100) (hw : wtL qs ≤ 1000) (hc : 2 * hgtL ps + 1 < n)
    (ih : ∀ (i : Nat) (nm : String) (p q : Rg), ns[i]? = some nm → ps[i]? = some p → qs[i]? = some q → callN P n "rest" [.d (encT T), .d (.str nm), .d (enc p), .d (enc q)] μ = .ok (.d (.lst ((restM T nm p q).map enc))) μ) :
    callN P (n + 1) "rest_all" [.d (encT T), .d (encF ns), .d (.tup (encL ps)), .d (.tup (encL qs))] μ = .ok (.d (.lst ((restL T ns ps qs).map encW))) μ := by
  obtain ⟨l1, l2⟩ := hr.len
  rw [callN_run (d := f_rest_all) rfl rfl]
  refine runB_rt (μ' := μ) ?_ rfl
  simp only [f_rest_all, List.map_cons, List.map_nil, List.length_cons, List.length_nil, Nat.reduceAdd, Nat.reduceSub, List.replicate_succ, List.replicate_zero, List.cons_append, List.nil_append]
  have hcut := (cut_both n).2 ps qs μ hr.al hc hl
  rw [sq_as (μ' := μ) (r := .d (encOL (cutL ps qs))) (by simp [eV, eB, vw_d, vw_scr, vw_ls, vw_dic, eBi, evs_nil, evs_cons, lift, eIdx, eOp, eC, tCmp, eTup, eLst, valsR_nil, valsR_cons, tAnd, tOr, tNot, tE, eT, eIf, eCall, tIsN, tNotN, eNeg, eSlc, oN, oE, EqDep, eqD, D.dep, D.depL, hcut])]
  simp only [List.set_cons_succ, List.set_cons_zero]
  unfold restL
  cases hcs : cutL ps qs with
  | none =>
    refine sq_rt ?_
    rw [sIf_t (μ' := μ) (by simp [eV, eB, vw_d, vw_scr, vw_ls, vw_dic, eBi, evs_nil, evs_cons, lift, eIdx, eOp, eC, tCmp, eTup, eLst, valsR_nil, valsR_cons, tAnd, tOr, tNot, tE, eT, eIf, eCall, tIsN, tNotN, eNeg, eSlc, oN, oE, EqDep, eqD, D.dep, D.depL, encOL])]
    exact sRet_ok (by simp [eV, eB, vw_d, vw_scr, vw_ls, vw_dic, eBi, evs_nil, evs_cons, lift, eIdx, eOp, eC, tCmp, eTup, eLst, valsR_nil, valsR_cons, tAnd, tOr, tNot, tE, eT, eIf, eCall, tIsN, tNotN, eNeg, eSlc, oN, oE, EqDep, eqD, D.dep, D.depL, encW])
  | some cs =>
    obtain ⟨c1, c2⟩ := cutL_len hcs
    rw [sq_if_f (μ' := μ) (by simp [eV, eB, vw_d, vw_scr, vw_ls, vw_dic, eBi, evs_nil, evs_cons, lift, eIdx, eOp, eC, tCmp, eTup, eLst, valsR_nil, valsR_cons, tAnd, tOr, tNot, tE, eT, eIf, eCall, tIsN, tNotN, eNeg, eSlc, oN, oE, EqDep, eqD, D.dep, D.depL, encOL])]
    rw [sq_nx (sOwn_lst (ds := []) (μ' := μ) (by simp [eV, eB, vw_d, vw_scr, vw_ls, vw_dic, eBi, evs_nil, evs_cons, lift, eIdx, eOp, eC, tCmp, eTup, eLst, valsR_nil, valsR_cons, tAnd, tOr, tNot, tE, eT, eIf, eCall, tIsN, tNotN, eNeg, eSlc, oN, oE, EqDep, eqD, D.dep, D.depL]))]
    simp only [List.set_cons_succ, List.set_cons_zero, encOL, List.map_nil]
    have hit : iEnum (eV 1) [.v (.d (encT T)), .v (.d (encF ns)), .v (.d (.tup (encL ps))), .v (.d (.tup (encL qs))), .v (.d (.tup (cs.map enc))), .own [], .un, .un, .un] μ = .ok (enumF 0 (ns.map .str)) μ := iEnum_tup (eV_at rfl)
    have tot := rowsL_len T [] ns ps qs cs
    obtain ⟨ρ', ⟨acc, x6, x7, x8, rfl, hacc⟩, hloop⟩ := forL_inv (t := tgT [tgN 6, tgN 7]) (b := sFor (tgN 8) (iE (eCall (callN P n) "rest" [eV 0, eV 7, eIdx (eV 2) (eV 6), eIdx (eV 3) (eV 6)]))
        (sApp 5 (eOp addR (eOp addR (eSlc (eV 4) oN (oE (eV 6))) (eTup [eV 8])) (eSlc (eV 2) (oE (eOp addR (eV 6) (eC (.int 1)))) oN)))) (μ := μ)
      (fun i ρ => ∃ (acc : List (List Rg)) (x6 x7 x8 : Sl), ρ = [.v (.d (encT T)), .v (.d (encF ns)), .v (.d (.tup (encL ps))), .v (.d (.tup (encL qs))), .v (.d (.tup (cs.map enc))), .own (acc.map fun r => .d (encW r)), x6, x7, x8] ∧
        acc ++ rowsFrom T ns ps qs cs i = rowsL T [] ns ps qs cs)
      (xs := enumF 0 (ns.map .str)) (k := 0) (ρ := [.v (.d (encT T)), .v (.d (encF ns)), .v (.d (.tup (encL ps))), .v (.d (.tup (encL qs))), .v (.d (.tup (cs.map enc))), .own [], .un, .un, .un])
      ⟨[], _, _, _, rfl, by simp [rowsFrom]⟩ (by
        rintro i x ρ hx ⟨acc, x6, x7, x8, rfl, hacc⟩
        rw [Nat.zero_add] at hacc ⊢
        rw [getElem_enumF, List.getElem?_map] at hx
        obtain ⟨d, hd, hx⟩ := Option.map_eq_some_iff.mp hx
        obtain ⟨nm, hnm, hd⟩ := Option.map_eq_some_iff.mp hd
        subst hd hx
        have i1 : i < ns.length := (List.getElem?_eq_some_iff.mp hnm).1
        have i2 : i < ps.length := by omega
        have i3 : i < qs.length := by omega
        have i4 : i < cs.length := by omega
        have en : ns[i] = nm := (List.getElem?_eq_some_iff.mp hnm).2
        have ep : ps[i]? = some ps[i] := by simp [i2]
        have eq : qs[i]? = some qs[i] := by simp [i3]
        have hih := ih i nm ps[i] qs[i] hnm ep eq
        rw [Nat.zero_add]
        refine ⟨[.v (.d (encT T)), .v (.d (encF ns)), .v (.d (.tup (encL ps))), .v (.d (.tup (encL qs))), .v (.d (.tup (cs.map enc))), .own (acc.map fun r => .d (encW r)), .v (.d (.int i)), .v (.d (.str nm)), x8], by simp [tgT, tgs, tgN], ?_⟩
        have hit2 : iE (eCall (callN P n) "rest" [eV 0, eV 7, eIdx (eV 2) (eV 6), eIdx (eV 3) (eV 6)]) [.v (.d (encT T)), .v (.d (encF ns)), .v (.d (.tup (encL ps))), .v (.d (.tup (encL qs))), .v (.d (.tup (cs.map enc))), .own (acc.map fun r => .d (encW r)), .v (.d (.int i)), .v (.d (.str nm)), x8] μ =
            .ok ((restM T nm ps[i] qs[i]).map fun r => .d (enc r)) μ := by
          rw [iE_lst (μ' := μ) (ds := (restM T nm ps[i] qs[i]).map enc) (by simp [eV, eB, vw_d, vw_scr, vw_ls, vw_dic, eBi, evs_nil, evs_cons, lift, eIdx, eOp, eC, tCmp, eTup, eLst, valsR_nil, valsR_cons, tAnd, tOr, tNot, tE, eT, eIf, eCall, tIsN, tNotN, eNeg, eSlc, oN, oE, EqDep, eqD, D.dep, D.depL, encL_map, ep, eq, hih]), List.map_map]; rfl
        have hst := rowsFrom_step (T := T) i1 i2 i3 i4
        rw [en] at hst
        have hlen : acc.length + (restM T nm ps[i] qs[i]).length ≤ 1000 := by
          have z := congrArg List.length hacc
          rw [hst, List.length_append, List.length_append, List.length_map] at z
          omega
        obtain ⟨ρ', ⟨y8, rfl⟩, hin⟩ := forL_inv (t := tgN 8) (b := sApp 5 (eOp addR (eOp addR (eSlc (eV 4) oN (oE (eV 6))) (eTup [eV 8])) (eSlc (eV 2) (oE (eOp addR (eV 6) (eC (.int 1)))) oN))) (μ := μ)
          (fun j ρ => ∃ (x8 : Sl), ρ = [.v (.d (encT T)), .v (.d (encF ns)), .v (.d (.tup (encL ps))), .v (.d (.tup (encL qs))), .v (.d (.tup (cs.map enc))), .own ((acc ++ ((restM T nm ps[i] qs[i]).take j).map (fun x => cs.take i ++ x :: ps.drop (i + 1))).map fun r => .d (encW r)), .v (.d (.int i)), .v (.d (.str nm)), x8])
          (xs := (restM T nm ps[i] qs[i]).map fun r => .d (enc r)) (k := 0) (ρ := [.v (.d (encT T)), .v (.d (encF ns)), .v (.d (.tup (encL ps))), .v (.d (.tup (encL qs))), .v (.d (.tup (cs.map enc))), .own (acc.map fun r => .d (encW r)), .v (.d (.int i)), .v (.d (.str nm)), x8])
          ⟨x8, by simp⟩ (by
            rintro j x ρ hx ⟨x8, rfl⟩
            rw [Nat.zero_add]
            rw [List.getElem?_map] at hx
            obtain ⟨r, hr2, hx⟩ := Option.map_eq_some_iff.mp hx
            subst hx
            have j1 : j < (restM T nm ps[i] qs[i]).length := (List.getElem?_eq_some_iff.mp hr2).1
            refine ⟨_, by simp only [tgN]; rfl, _, ⟨.v (.d (enc r)), rfl⟩, ?_⟩
            simp only [List.set_cons_succ, List.set_cons_zero]
            have e1 : i + 1 ≤ SL := le_SL (by omega)
            have hv : eOp addR (eOp addR (eSlc (eV 4) oN (oE (eV 6))) (eTup [eV 8])) (eSlc (eV 2) (oE (eOp addR (eV 6) (eC (.int 1)))) oN)
                [.v (.d (encT T)), .v (.d (encF ns)), .v (.d (.tup (encL ps))), .v (.d (.tup (encL qs))), .v (.d (.tup (cs.map enc))), .own ((acc ++ ((restM T nm ps[i] qs[i]).take j).map (fun x => cs.take i ++ x :: ps.drop (i + 1))).map fun r => .d (encW r)), .v (.d (.int i)), .v (.d (.str nm)), .v (.d (enc r))] μ =
                .ok (.d (encW (cs.take i ++ r :: ps.drop (i + 1)))) μ := by
              have a1 : ((cs.map enc).take i).length + 1 ≤ SL := le_SL (by simp; omega)
              have a2 : ((cs.map enc).take i ++ [enc r]).length + ((encL ps).drop (i + 1)).length ≤ SL := le_SL (by simp; omega)
              simp only [eOp, eSlc, eV, oN, oE, eTup, eC, evs_cons, evs_nil, List.getElem?_cons_succ, List.getElem?_cons_zero, bind_ok, vw_d, slcR_tup, cut_take, lift_some, addR_int, cut_drop1, valsR_cons, valsR_nil, Option.map_some, List.length_singleton, le_SL_1, if_true, addR_tup, if_pos a1, if_pos a2]
              simp [encW, encL_map]
            rw [sApp_ok rfl hv (by simp; omega)]
            simp only [List.set_cons_succ, List.set_cons_zero]
            rw [show (restM T nm ps[i] qs[i]).take (j + 1) = (restM T nm ps[i] qs[i]).take j ++ [r] by rw [List.take_succ_eq_append_getElem j1, (List.getElem?_eq_some_iff.mp hr2).2]]
            simp)
        rw [Nat.zero_add, List.length_map, List.take_length] at hin
        refine ⟨_, ⟨_, _, _, _, rfl, ?_⟩, sFor_rt hit2 hin⟩
        rw [← hacc, hst, List.append_assoc])
    rw [sq_nx (sFor_rt hit hloop)]
    rw [Nat.zero_add, length_enumF, List.length_map, rowsFrom_end (Nat.le_refl _), List.append_nil] at hacc
    rw [sq_nx (sFrz_ok rfl)]
    simp only [List.set_cons_succ, List.set_cons_zero]
    rw [mkL_map encW, hacc]
    exact sRet_ok (eV_at rfl)
end K09
end

section
set_option maxHeartbeats 0
set_option linter.all false
set_option maxRecDepth 100000
namespace K09
open Ev
abbrev aT (T : Ty) : R := .d (encT T)
theorem encW_map (c : String) (rows : List (List Rg)) : rows.map (fun row => D.tup [.str "make", .str c, encW row]) = (rows.map (Rg.mk c)).map enc := by
  rw [List.map_map]; rfl
theorem any_fields (fs : List String) (qs : List Rg) (h : fs.length = qs.length) : fs.map (fun _ => D.tup [.str "any"]) = encL (qs.map fun _ => .any) := by
  rw [encL_map, List.map_map]
  have : (enc ∘ fun _ : Rg => Rg.any) = fun _ => D.tup [.str "any"] := by funext x; simp [enc]
  rw [this, List.map_const', List.map_const', h]
/-- the comprehension over the rows -/
theorem rows_comp {ρ : Env} {μ : Mem} {k : Nat} {it : It} {elt : E} (c : String) (rows : List (List Rg)) (h1 : it ρ μ = .ok (rows.map fun r => .d (encW r)) μ) (h2 : ∀ row ∈ rows, elt ((wipeE ρ [k]).set k (.v (.d (encW row)))) μ = .ok (.d (.tup [.str "make", .str c, encW row])) μ) (h3 : rows.length ≤ 100000) :
    eComp [k] (tgN k) it tYes elt ρ μ = .ok (.d (.lst ((rows.map (Rg.mk c)).map enc))) μ := by
  have hc : compL (tgN k) tYes elt (rows.map fun r => .d (encW r)) (wipeE ρ [k]) μ = .ok ((rows.filter fun _ => true).map fun row => .d (.tup [.str "make", .str c, encW row])) μ :=
    compL_filter _ _ _ fun row hr => ⟨_, by simp only [tgN], by simp [tYes], fun _ => h2 row hr⟩
  rw [List.filter_eq_self.mpr fun _ _ => rfl] at hc
  rw [eComp_ok h1 hc (by simp; omega), mkL_map, encW_map]
/-- .. over the fields: any for each -/
theorem any_comp {ρ : Env} {μ : Mem} {k : Nat} {it : It} {elt : E} (fs : List String) (h1 : it ρ μ = .ok (fs.map fun r => .d (.str r)) μ) (h2 : ∀ f ∈ fs, elt ((wipeE ρ [k]).set k (.v (.d (.str f)))) μ = .ok (.d (.tup [.str "any"])) μ) (h3 : fs.length ≤ 100000) :
    eComp [k] (tgN k) it tYes elt ρ μ = .ok (.d (.lst (fs.map fun _ => .tup [.str "any"]))) μ := by
  have hc : compL (tgN k) tYes elt (fs.map fun r => .d (.str r)) (wipeE ρ [k]) μ = .ok ((fs.filter fun _ => true).map fun _ => .d (.tup [.str "any"])) μ :=
    compL_filter _ _ _ fun row hr => ⟨_, by simp only [tgN], by simp [tYes], fun _ => h2 row hr⟩
  rw [List.filter_eq_self.mpr fun _ _ => rfl] at hc
  rw [eComp_ok h1 hc (by simp; omega), mkL_map (fun _ : String => D.tup [.str "any"])]
section
variable {n : Nat} {T : Ty} {name c : String} {ps qs : List Rg} {μ : Mem}
theorem rest_mk (c' : String) (rows : List (List Rg)) (hk : rows.length ≤ 100000)
    (hra : c' = c → callN P (n + 2) "rest_all" [.d (encT T), .d (encF (fieldsOf T c)), .d (.tup (encL ps)), .d (.tup (encL qs))] μ = .ok (.d (.lst (rows.map encW))) μ) :
    callN P (n + 3) "rest" [.d (encT T), .d (.str name), .d (enc (.mk c' ps)), .d (enc (.mk c qs))] μ = .ok (.d (.lst ((if c' = c then rows.map (.mk c) else [.mk c' ps]).map enc))) μ := by
  rw [callN_run (d := f_rest) rfl rfl]
  refine runB_rt (μ' := μ) ?_ rfl
  simp only [f_rest, enc, List.map_cons, List.map_nil, List.length_cons, List.length_nil, Nat.reduceAdd, Nat.reduceSub, List.replicate_succ, List.replicate_zero, List.cons_append, List.nil_append]
  rw [sq_if_f (μ' := μ) (by simp [eV, eB, vw_d, vw_scr, vw_ls, vw_dic, eBi, evs_nil, evs_cons, lift, eIdx, eOp, eC, tCmp, eTup, eLst, valsR_nil, valsR_cons, tAnd, tOr, tNot, tE, eT, eIf, eCall, tIsN, tNotN, eNeg, eSlc, oN, oE, EqDep, eqD, D.dep, D.depL])]
  rw [sq_if_f (μ' := μ) (by simp [eV, eB, vw_d, vw_scr, vw_ls, vw_dic, eBi, evs_nil, evs_cons, lift, eIdx, eOp, eC, tCmp, eTup, eLst, valsR_nil, valsR_cons, tAnd, tOr, tNot, tE, eT, eIf, eCall, tIsN, tNotN, eNeg, eSlc, oN, oE, EqDep, eqD, D.dep, D.depL])]
  rw [sq_nx (sAs_gen (eV_at rfl) (by simp only [tgT, tgs, tgN, List.map_cons, List.map_nil, Option.bind_some]; rfl))]
  simp only [List.set_cons_succ, List.set_cons_zero]
  by_cases hc : c' = c
  · subst hc
    have hra := hra rfl
    rw [if_pos rfl]
    rw [sq_if_f (μ' := μ) (by simp [eV, eB, vw_d, vw_scr, vw_ls, vw_dic, eBi, evs_nil, evs_cons, lift, eIdx, eOp, eC, tCmp, eTup, eLst, valsR_nil, valsR_cons, tAnd, tOr, tNot, tE, eT, eIf, eCall, tIsN, tNotN, eNeg, eSlc, oN, oE, EqDep, eqD, D.dep, D.depL])]
    rw [sq_as (μ' := μ) (r := .d (encF (fieldsOf T c'))) (by simp [eV, eB, vw_d, vw_scr, vw_ls, vw_dic, eBi, evs_nil, evs_cons, lift, eIdx, eOp, eC, tCmp, eTup, eLst, valsR_nil, valsR_cons, tAnd, tOr, tNot, tE, eT, eIf, eCall, tIsN, tNotN, eNeg, eSlc, oN, oE, EqDep, eqD, D.dep, D.depL, fields_spec])]
    simp only [List.set_cons_succ, List.set_cons_zero]
    rw [sq_nx (sOwn_lst (ds := []) (μ' := μ) (by simp [eV, eB, vw_d, vw_scr, vw_ls, vw_dic, eBi, evs_nil, evs_cons, lift, eIdx, eOp, eC, tCmp, eTup, eLst, valsR_nil, valsR_cons, tAnd, tOr, tNot, tE, eT, eIf, eCall, tIsN, tNotN, eNeg, eSlc, oN, oE, EqDep, eqD, D.dep, D.depL]))]
    simp only [List.set_cons_succ, List.set_cons_zero, List.map_nil]
    rw [sq_as (μ' := μ) (r := .d (.tup (encL ps))) (by simp [eV, eB, vw_d, vw_scr, vw_ls, vw_dic, eBi, evs_nil, evs_cons, lift, eIdx, eOp, eC, tCmp, eTup, eLst, valsR_nil, valsR_cons, tAnd, tOr, tNot, tE, eT, eIf, eCall, tIsN, tNotN, eNeg, eSlc, oN, oE, EqDep, eqD, D.dep, D.depL])]
    simp only [List.set_cons_succ, List.set_cons_zero]
    rw [sq_if_f (μ' := μ) (by simp [eV, eB, vw_d, vw_scr, vw_ls, vw_dic, eBi, evs_nil, evs_cons, lift, eIdx, eOp, eC, tCmp, eTup, eLst, valsR_nil, valsR_cons, tAnd, tOr, tNot, tE, eT, eIf, eCall, tIsN, tNotN, eNeg, eSlc, oN, oE, EqDep, eqD, D.dep, D.depL])]
    rw [sq_nx (sExt_lst (μ' := μ) rfl (rows_comp c' rows (by rw [iE_lst (μ' := μ) (ds := rows.map encW) (by simp [eV, eB, vw_d, vw_scr, vw_ls, vw_dic, eBi, evs_nil, evs_cons, lift, eIdx, eOp, eC, tCmp, eTup, eLst, valsR_nil, valsR_cons, tAnd, tOr, tNot, tE, eT, eIf, eCall, tIsN, tNotN, eNeg, eSlc, oN, oE, EqDep, eqD, D.dep, D.depL, hra]), List.map_map]; rfl) (fun row _ => by simp [eV, eB, vw_d, vw_scr, vw_ls, vw_dic, eBi, evs_nil, evs_cons, lift, eIdx, eOp, eC, tCmp, eTup, eLst, valsR_nil, valsR_cons, tAnd, tOr, tNot, tE, eT, eIf, eCall, tIsN, tNotN, eNeg, eSlc, oN, oE, EqDep, eqD, D.dep, D.depL, wipeE]) hk) (by simp; omega))]
    simp only [List.set_cons_succ, List.set_cons_zero, List.nil_append]
    rw [sq_nx (sFrz_ok rfl)]
    simp only [List.set_cons_succ, List.set_cons_zero]
    rw [mkL_ds]
    exact sRet_ok (eV_at rfl)
  · rw [if_neg hc]
    refine sq_rt ?_
    rw [sIf_t (μ' := μ) (by simp [eV, eB, vw_d, vw_scr, vw_ls, vw_dic, eBi, evs_nil, evs_cons, lift, eIdx, eOp, eC, tCmp, eTup, eLst, valsR_nil, valsR_cons, tAnd, tOr, tNot, tE, eT, eIf, eCall, tIsN, tNotN, eNeg, eSlc, oN, oE, EqDep, eqD, D.dep, D.depL, hc])]
    exact sRet_ok (by simp [eV, eB, vw_d, vw_scr, vw_ls, vw_dic, eBi, evs_nil, evs_cons, lift, eIdx, eOp, eC, tCmp, eTup, eLst, valsR_nil, valsR_cons, tAnd, tOr, tNot, tE, eT, eIf, eCall, tIsN, tNotN, eNeg, eSlc, oN, oE, EqDep, eqD, D.dep, D.depL, enc])
/-- the rest of a region that is no make -/
theorem rest_oth (rg : Rg) (l : List String) (rows : List (List Rg)) (hg : rg = .any ∧ l = [] ∨ rg = .nt l) (hk : rows.length ≤ 100000) (hlen : (makersOf T name).length ≤ 1000) (hl : l.length ≤ 1000)
    (h1 : (namesOf T name).Nodup) (h2 : l.Nodup) (h3 : ∀ x ∈ l, x ∈ namesOf T name) (h4 : c ∈ namesOf T name) (hf : (fieldsOf T c).length = qs.length) (hq : qs.length ≤ 100)
    (hra : callN P (n + 2) "rest_all" [.d (encT T), .d (encF (fieldsOf T c)), .d (.tup (encL (qs.map fun _ => .any))), .d (.tup (encL qs))] μ = .ok (.d (.lst (rows.map encW))) μ) :
    callN P (n + 3) "rest" [.d (encT T), .d (.str name), .d (enc rg), .d (enc (.mk c qs))] μ = .ok (.d (.lst ((if c ∈ l then [rg] else leftM T name l c ++ rows.map (.mk c)).map enc))) μ := by
  rw [callN_run (d := f_rest) rfl rfl]
  refine runB_rt (μ' := μ) ?_ rfl
  have hfs : (fieldsOf T c).length ≤ 100000 := by omega
  have h0 := depL_str l
  have hm := any_str l c
  have hlo : c ∉ l → callN P (n + 2) "left_out" [.d (encT T), .d (.str name), .d (enc rg), .d (.str c)] μ = .ok (.d (.lst ((leftM T name l c).map enc))) μ := fun h5 =>
    left_out_spec n T name c l (enc rg) μ hlen hl h1 h2 h3 h4 h5 (by rcases hg with ⟨rfl, rfl⟩ | rfl; exact .inr ⟨rfl, rfl⟩; exact .inl rfl)
  have hll := left_len T name l c
  have hshape : ∃ hd tl, enc rg = .tup (.str hd :: tl) ∧ hd ≠ "make" ∧ ((hd = "any" ∧ tl = [] ∧ l = []) ∨ (hd = "not" ∧ tl = [.tup (l.map .str)])) := by
    rcases hg with ⟨rfl, rfl⟩ | rfl
    · exact ⟨"any", [], by simp [enc], by decide, .inl ⟨rfl, rfl, rfl⟩⟩
    · exact ⟨"not", [.tup (l.map .str)], by simp [enc], by decide, .inr ⟨rfl, rfl⟩⟩
  have hcs : encL (qs.map fun _ => .any) = (fieldsOf T c).map fun _ => D.tup [.str "any"] := (any_fields _ _ hf).symm
  rw [hcs] at hra
  obtain ⟨hd, tl, he, hne, hor⟩ := hshape
  rw [he] at hlo ⊢
  simp only [f_rest, show enc (.mk c qs) = .tup [.str "make", .str c, .tup (encL qs)] from by simp [enc], List.map_cons, List.map_nil, List.length_cons, List.length_nil, Nat.reduceAdd, Nat.reduceSub, List.replicate_succ, List.replicate_zero, List.cons_append, List.nil_append]
  rw [sq_if_f (μ' := μ) (by simp [eV, eB, vw_d, vw_scr, vw_ls, vw_dic, eBi, evs_nil, evs_cons, lift, eIdx, eOp, eC, tCmp, eTup, eLst, valsR_nil, valsR_cons, tAnd, tOr, tNot, tE, eT, eIf, eCall, tIsN, tNotN, eNeg, eSlc, oN, oE, EqDep, eqD, D.dep, D.depL])]
  rw [sq_if_f (μ' := μ) (by simp [eV, eB, vw_d, vw_scr, vw_ls, vw_dic, eBi, evs_nil, evs_cons, lift, eIdx, eOp, eC, tCmp, eTup, eLst, valsR_nil, valsR_cons, tAnd, tOr, tNot, tE, eT, eIf, eCall, tIsN, tNotN, eNeg, eSlc, oN, oE, EqDep, eqD, D.dep, D.depL])]
  rw [sq_nx (sAs_gen (eV_at rfl) (by simp only [tgT, tgs, tgN, List.map_cons, List.map_nil, Option.bind_some]; rfl))]
  simp only [List.set_cons_succ, List.set_cons_zero]
  by_cases hc : c ∈ l
  · rw [if_pos hc]
    refine sq_rt ?_
    rcases hor with ⟨rfl, rfl, rfl⟩ | ⟨rfl, rfl⟩
    · simp at hc
    · rw [sIf_t (μ' := μ) (by simp [eV, eB, vw_d, vw_scr, vw_ls, vw_dic, eBi, evs_nil, evs_cons, lift, eIdx, eOp, eC, tCmp, eTup, eLst, valsR_nil, valsR_cons, tAnd, tOr, tNot, tE, eT, eIf, eCall, tIsN, tNotN, eNeg, eSlc, oN, oE, EqDep, eqD, D.dep, D.depL, h0, hm, hc])]
      exact sRet_ok (by simp [eV, eB, vw_d, vw_scr, vw_ls, vw_dic, eBi, evs_nil, evs_cons, lift, eIdx, eOp, eC, tCmp, eTup, eLst, valsR_nil, valsR_cons, tAnd, tOr, tNot, tE, eT, eIf, eCall, tIsN, tNotN, eNeg, eSlc, oN, oE, EqDep, eqD, D.dep, D.depL, he])
  · rw [if_neg hc]
    have hlo := hlo hc
    rw [sq_if_f (μ' := μ) (by
      rcases hor with ⟨rfl, rfl, rfl⟩ | ⟨rfl, rfl⟩
      · simp [eV, eB, vw_d, vw_scr, vw_ls, vw_dic, eBi, evs_nil, evs_cons, lift, eIdx, eOp, eC, tCmp, eTup, eLst, valsR_nil, valsR_cons, tAnd, tOr, tNot, tE, eT, eIf, eCall, tIsN, tNotN, eNeg, eSlc, oN, oE, EqDep, eqD, D.dep, D.depL]
      · simp [eV, eB, vw_d, vw_scr, vw_ls, vw_dic, eBi, evs_nil, evs_cons, lift, eIdx, eOp, eC, tCmp, eTup, eLst, valsR_nil, valsR_cons, tAnd, tOr, tNot, tE, eT, eIf, eCall, tIsN, tNotN, eNeg, eSlc, oN, oE, EqDep, eqD, D.dep, D.depL, h0, hm, hc])]
    rw [sq_as (μ' := μ) (r := .d (encF (fieldsOf T c))) (by simp [eV, eB, vw_d, vw_scr, vw_ls, vw_dic, eBi, evs_nil, evs_cons, lift, eIdx, eOp, eC, tCmp, eTup, eLst, valsR_nil, valsR_cons, tAnd, tOr, tNot, tE, eT, eIf, eCall, tIsN, tNotN, eNeg, eSlc, oN, oE, EqDep, eqD, D.dep, D.depL, fields_spec])]
    simp only [List.set_cons_succ, List.set_cons_zero]
    rw [sq_nx (sOwn_lst (ds := []) (μ' := μ) (by simp [eV, eB, vw_d, vw_scr, vw_ls, vw_dic, eBi, evs_nil, evs_cons, lift, eIdx, eOp, eC, tCmp, eTup, eLst, valsR_nil, valsR_cons, tAnd, tOr, tNot, tE, eT, eIf, eCall, tIsN, tNotN, eNeg, eSlc, oN, oE, EqDep, eqD, D.dep, D.depL]))]
    simp only [List.set_cons_succ, List.set_cons_zero, List.map_nil]
    have hac : eComp [4] (tgN 4) (iE (eV 7)) tYes (eC (.tup [.str "any"])) [.v (.d (encT T)), .v (.d (.str name)), .v (.d (.tup (.str hd :: tl))), .v (.d (.tup [.str "make", .str c, .tup (encL qs)])), .v (.d (.str "make")), .v (.d (.str c)), .v (.d (.tup (encL qs))), .v (.d (encF (fieldsOf T c))), .own [], .un, .un] μ =
        .ok (.d (.lst ((fieldsOf T c).map fun _ => .tup [.str "any"]))) μ := any_comp (fieldsOf T c) (by rw [iE_tup (μ' := μ) (ds := (fieldsOf T c).map .str) (eV_at rfl), List.map_map]; rfl) (fun _ _ => by simp [eC]) hfs
    rw [sq_as (μ' := μ) (r := .d (.tup ((fieldsOf T c).map fun _ => .tup [.str "any"]))) (by simp only [eIf, tCmp, eIdx, eOp, eV, eC, List.getElem?_cons_succ, List.getElem?_cons_zero, bind_ok, vw_d, idxR_tup, atI_zero, Option.map_some, lift_some, eqR_d, eqD, EqDep, D.dep]; simp [hne, eBi, evs_cons, hac])]
    simp only [List.set_cons_succ, List.set_cons_zero]
    rw [sq_nx (show sIf (tCmp neR (eIdx (eV 2) (eC (.int 0))) (eC (.str "make"))) (sExt 8 (eCall (callN P (n + 2)) "left_out" [eV 0, eV 1, eV 2, eV 5])) sNil _ μ = _ from by
      rw [sIf_t (μ' := μ) (by simp [eV, eB, vw_d, vw_scr, vw_ls, vw_dic, eBi, evs_nil, evs_cons, lift, eIdx, eOp, eC, tCmp, eTup, eLst, valsR_nil, valsR_cons, tAnd, tOr, tNot, tE, eT, eIf, eCall, tIsN, tNotN, eNeg, eSlc, oN, oE, EqDep, eqD, D.dep, D.depL, hne])]
      exact sExt_lst (μ' := μ) (ds := (leftM T name l c).map enc) rfl (by simp [eV, eB, vw_d, vw_scr, vw_ls, vw_dic, eBi, evs_nil, evs_cons, lift, eIdx, eOp, eC, tCmp, eTup, eLst, valsR_nil, valsR_cons, tAnd, tOr, tNot, tE, eT, eIf, eCall, tIsN, tNotN, eNeg, eSlc, oN, oE, EqDep, eqD, D.dep, D.depL, hlo]) (by simp; omega))]
    simp only [List.set_cons_succ, List.set_cons_zero, List.nil_append]
    rw [sq_nx (sExt_lst (μ' := μ) rfl (rows_comp c rows (by rw [iE_lst (μ' := μ) (ds := rows.map encW) (by simp [eV, eB, vw_d, vw_scr, vw_ls, vw_dic, eBi, evs_nil, evs_cons, lift, eIdx, eOp, eC, tCmp, eTup, eLst, valsR_nil, valsR_cons, tAnd, tOr, tNot, tE, eT, eIf, eCall, tIsN, tNotN, eNeg, eSlc, oN, oE, EqDep, eqD, D.dep, D.depL, hra]), List.map_map]; rfl) (fun row _ => by simp [eV, eB, vw_d, vw_scr, vw_ls, vw_dic, eBi, evs_nil, evs_cons, lift, eIdx, eOp, eC, tCmp, eTup, eLst, valsR_nil, valsR_cons, tAnd, tOr, tNot, tE, eT, eIf, eCall, tIsN, tNotN, eNeg, eSlc, oN, oE, EqDep, eqD, D.dep, D.depL, wipeE]) hk) (by simp; omega))]
    simp only [List.set_cons_succ, List.set_cons_zero]
    rw [sq_nx (sFrz_ok rfl)]
    simp only [List.set_cons_succ, List.set_cons_zero]
    rw [← List.map_append, ← List.map_append, mkL_ds]
    exact sRet_ok (eV_at rfl)
end
end K09
end

section
set_option maxHeartbeats 0
set_option linter.all false
set_option maxRecDepth 100000
namespace K09
open Ev
theorem restL_len (T : Ty) (ns : List String) (ps qs : List Rg) : (restL T ns ps qs).length ≤ 1 + wtL qs := by
  unfold restL
  split
  · simp
  · rename_i cs _
    have := rowsL_len T [] ns ps qs cs
    omega
theorem hgtL_any (qs : List Rg) : hgtL (qs.map fun _ => Rg.any) = 0 := by
  induction qs with
  | nil => rfl
  | cons q qs ih => simp [hgtL, hgt, ih]
theorem rest_any (n : Nat) (T : Ty) (name : String) (r : Rg) (μ : Mem) : callN P (n + 1) "rest" [.d (encT T), .d (.str name), .d (enc r), .d (enc .any)] μ = .ok (.d (.lst [])) μ := by
  rw [callN_run (d := f_rest) rfl rfl]
  refine runB_rt (μ' := μ) ?_ rfl
  generalize callN P n = C
  simp only [f_rest, List.map_cons, List.map_nil, List.length_cons, List.length_nil, Nat.reduceAdd, Nat.reduceSub, List.replicate_succ, List.replicate_zero, List.cons_append, List.nil_append]
  refine sq_rt ?_
  rw [sIf_t (μ' := μ) (by simp [eV, eB, vw_d, vw_scr, vw_ls, vw_dic, eBi, evs_nil, evs_cons, lift, eIdx, eOp, eC, tCmp, eTup, eLst, valsR_nil, valsR_cons, tAnd, tOr, tNot, tE, eT, eIf, eCall, tIsN, tNotN, eNeg, eSlc, oN, oE, EqDep, eqD, D.dep, D.depL, enc])]
  exact sRet_ok (by simp [eV, eB, vw_d, vw_scr, vw_ls, vw_dic, eBi, evs_nil, evs_cons, lift, eIdx, eOp, eC, tCmp, eTup, eLst, valsR_nil, valsR_cons, tAnd, tOr, tNot, tE, eT, eIf, eCall, tIsN, tNotN, eNeg, eSlc, oN, oE, EqDep, eqD, D.dep, D.depL])
theorem rest_rng (n : Nat) (T : Ty) (name : String) (r : Rg) (c d : Int) (out : List D) (μ : Mem) (h : callN P n "rest_of_range" [.d (enc r), .d (enc (.rng c d))] μ = .ok (.d (.lst out)) μ) : callN P (n + 1) "rest" [.d (encT T), .d (.str name), .d (enc r), .d (enc (.rng c d))] μ = .ok (.d (.lst out)) μ := by
  rw [callN_run (d := f_rest) rfl rfl]
  refine runB_rt (μ' := μ) ?_ rfl
  generalize callN P n = C at h ⊢
  simp only [enc] at h
  simp only [f_rest, show enc (.rng c d) = .tup [.str "range", .int c, .int d] from by simp [enc], List.map_cons, List.map_nil, List.length_cons, List.length_nil, Nat.reduceAdd, Nat.reduceSub, List.replicate_succ, List.replicate_zero, List.cons_append, List.nil_append]
  rw [sq_if_f (μ' := μ) (by simp [eV, eB, vw_d, vw_scr, vw_ls, vw_dic, eBi, evs_nil, evs_cons, lift, eIdx, eOp, eC, tCmp, eTup, eLst, valsR_nil, valsR_cons, tAnd, tOr, tNot, tE, eT, eIf, eCall, tIsN, tNotN, eNeg, eSlc, oN, oE, EqDep, eqD, D.dep, D.depL])]
  refine sq_rt ?_
  rw [sIf_t (μ' := μ) (by simp [eV, eB, vw_d, vw_scr, vw_ls, vw_dic, eBi, evs_nil, evs_cons, lift, eIdx, eOp, eC, tCmp, eTup, eLst, valsR_nil, valsR_cons, tAnd, tOr, tNot, tE, eT, eIf, eCall, tIsN, tNotN, eNeg, eSlc, oN, oE, EqDep, eqD, D.dep, D.depL])]
  exact sRet_ok (by simp [eV, eB, vw_d, vw_scr, vw_ls, vw_dic, eBi, evs_nil, evs_cons, lift, eIdx, eOp, eC, tCmp, eTup, eLst, valsR_nil, valsR_cons, tAnd, tOr, tNot, tE, eT, eIf, eCall, tIsN, tNotN, eNeg, eSlc, oN, oE, EqDep, eqD, D.dep, D.depL, h])
theorem rest_both (T : Ty) (hT : ∀ name, (makersOf T name).length ≤ 1000) : ∀ n,
    (∀ (name : String) (r s : Rg) (μ : Mem), RT T name r s → wt s ≤ 1000 → 2 * (hgt r + hgt s) + 3 ≤ n → callN P n "rest" [.d (encT T), .d (.str name), .d (enc r), .d (enc s)] μ = .ok (.d (.lst ((restM T name r s).map enc))) μ) ∧
    ∀ (ns : List String) (ps qs : List Rg) (μ : Mem), RTL T ns ps qs → ps.length ≤ 100 → wtL qs ≤ 1000 → 2 * (hgtL ps + hgtL qs) + 4 ≤ n → callN P n "rest_all" [.d (encT T), .d (encF ns), .d (.tup (encL ps)), .d (.tup (encL qs))] μ = .ok (.d (.lst ((restL T ns ps qs).map encW))) μ
  | 0 => ⟨fun _ _ _ _ _ _ h => by omega, fun _ _ _ _ _ _ _ h => by omega⟩
  | n + 1 => by
    obtain ⟨ihA, ihB⟩ := rest_both T hT n
    constructor
    · intro name r s μ h hw hn
      cases s with
      | any => rw [rest_any]; cases r <;> simp [restM]
      | nt l => cases r <;> simp [RT] at h
      | rng c d =>
        obtain ⟨m, rfl⟩ : ∃ m, n = m + 1 := ⟨n - 1, by omega⟩
        cases r with
        | any => rw [rest_rng _ _ _ _ _ _ _ _ (range_any m c d μ)]; simp [restM]
        | rng a b => rw [rest_rng _ _ _ _ _ _ _ _ (range_rng m a b c d μ)]; simp [restM]
        | nt l => simp [RT] at h
        | mk c' ps => simp [RT] at h
      | mk c qs =>
        obtain ⟨m, rfl⟩ : ∃ m, n = m + 2 := ⟨n - 2, by simp only [hgt] at hn; omega⟩
        have hwq : wtL qs ≤ 1000 := by simp only [wt] at hw; omega
        have hga := hgtL_any qs
        cases r with
        | any =>
          simp only [RT] at h
          obtain ⟨h1, h2, h3, h4, h5⟩ := h
          have hb := ihB (fieldsOf T c) (qs.map fun _ => .any) qs μ h5 (by simpa using h3) hwq (by rw [hga]; simp only [hgt] at hn; omega)
          have hl := restL_len T (fieldsOf T c) (qs.map fun _ => .any) qs
          rw [rest_oth .any [] _ (.inl ⟨rfl, rfl⟩) (by omega) (hT name) (by simp) h2 (by simp) (by simp) h1 h4 h3 hb]
          simp [restM, restL]
        | rng a b => simp [RT] at h
        | nt l =>
          simp only [RT] at h
          obtain ⟨h1, h2, h3, h4, h6, h7, h8, h5⟩ := h
          have hb := ihB (fieldsOf T c) (qs.map fun _ => .any) qs μ h5 (by simpa using h3) hwq (by rw [hga]; simp only [hgt] at hn; omega)
          have hl := restL_len T (fieldsOf T c) (qs.map fun _ => .any) qs
          rw [rest_oth (.nt l) l _ (.inr rfl) (by omega) (hT name) h7 h2 h6 h8 h1 h4 h3 hb]
          simp only [restM, restL]
        | mk c' ps =>
          simp only [RT] at h
          have hl := restL_len T (fieldsOf T c) ps qs
          rw [rest_mk c' (restL T (fieldsOf T c) ps qs) (by omega) fun e => ?_]
          · simp only [restM, restL]
          · obtain ⟨h3, h5⟩ := h e
            have hlen := h5.len
            exact ihB (fieldsOf T c) ps qs μ h5 (by omega) hwq (by simp only [hgt] at hn; omega)
    · intro ns ps qs μ h hl hw hn
      refine rest_all_spec ns ps qs μ h hl hw (by omega) fun i nm p q e1 e2 e3 => ihA nm p q μ (h.get e1 e2 e3) (Nat.le_trans (wt_get e3) hw) ?_
      have := hgt_get e2
      have := hgt_get e3
      omega
end K09
end

section
set_option maxHeartbeats 0
set_option linter.all false
set_option maxRecDepth 100000
namespace K09
open Ev
/-- the box: its digits and the place -/
def Bx (digs : List Int) (k : Nat) : Mem := [.lst [.lst (digs.map .int), .int k]]
theorem vw_box (digs : List Int) (k : Nat) : vw (Bx digs k) (.p 0) = .d (.lst [.lst (digs.map .int), .int k]) := rfl
theorem draw_spec (n : Nat) (digs : List Int) (k : Nat) (m : Int) (hm : 0 < m) : ∃ v, 0 ≤ v ∧ v < m ∧ callN P (n + 1) "_law_draw" [.p 0, .d (.int m)] (Bx digs k) = .ok (.d (.int v)) (Bx digs (k + 1)) := by
  rw [callN_run (d := f_law_draw) rfl rfl]
  generalize callN P n = C
  have key : ∀ w : Int, 0 ≤ w % m ∧ w % m < m := fun w => ⟨Int.emod_nonneg _ (by omega), Int.emod_lt_of_pos _ hm⟩
  have s1 : sAs (tgN 2) (eIdx (eV 0) (eC (.int 1))) [.v (.p 0), .v (.d (.int m)), .un] (Bx digs k) = .ok (.nx [.v (.p 0), .v (.d (.int m)), .v (.d (.int k))]) (Bx digs k) := by
    rw [sAs_ok (μ' := Bx digs k) (r := .d (.int k)) (by simp [eIdx, eOp, eV, eC, vw_box, lift])]; rfl
  have s2 : sSet (eV 0) (eC (.int 1)) (eOp addR (eV 2) (eC (.int 1))) [.v (.p 0), .v (.d (.int m)), .v (.d (.int k))] (Bx digs k) = .ok (.nx [.v (.p 0), .v (.d (.int m)), .v (.d (.int k))]) (Bx digs (k + 1)) := by
    simp [sSet, eV, eC, eOp, vw_d, lift, Bx, ixN]
  by_cases h : k < digs.length
  · refine ⟨digs[k] % m, (key _).1, (key _).2, runB_rt ?_ rfl⟩
    simp only [f_law_draw, List.map_cons, List.map_nil, List.length_cons, List.length_nil, Nat.reduceAdd, Nat.reduceSub, List.replicate_succ, List.replicate_zero, List.cons_append, List.nil_append]
    rw [sq_nx s1, sq_nx s2]
    refine sq_rt ?_
    rw [sIf_t (μ' := Bx digs (k + 1)) (by simp [tCmp, eV, vw_d, eBi, evs_cons, evs_nil, eIdx, eOp, eC, vw_box, lift, h])]
    exact sRet_ok (by simp [eOp, eBi, evs_cons, evs_nil, eIdx, eV, eC, vw_d, vw_box, lift, h, hm])
  · refine ⟨((k : Int) * 7 + 3) % m, (key _).1, (key _).2, runB_rt ?_ rfl⟩
    simp only [f_law_draw, List.map_cons, List.map_nil, List.length_cons, List.length_nil, Nat.reduceAdd, Nat.reduceSub, List.replicate_succ, List.replicate_zero, List.cons_append, List.nil_append]
    rw [sq_nx s1, sq_nx s2]
    rw [sq_if_f (μ' := Bx digs (k + 1)) (by simp [tCmp, eV, vw_d, eBi, evs_cons, evs_nil, eIdx, eOp, eC, vw_box, lift]; omega)]
    exact sRet_ok (eOp_ok (eBi1_ok (eOp_ok (eOp_ok (eV_at rfl) eC_ok (mulR_r (by decide))) eC_ok rfl) rfl) (eV_at rfl) (modR_ok hm))
/-! ### the digits -/
theorem cell_spec (n : Nat) (ns : List Int) (k : Nat) (μ : Mem) : ∃ v : Int, callN P (n + 1) "_law_cell" [.scr ns, .d (.int k)] μ = .ok (.d (.int v)) μ := by
  rw [callN_run (d := f_law_cell) rfl rfl]
  generalize callN P n = C
  by_cases h : k < ns.length
  · refine ⟨ns[k], runB_rt (μ' := μ) ?_ rfl⟩
    simp only [f_law_cell, List.map_cons, List.map_nil, List.length_cons, List.length_nil, Nat.reduceAdd, Nat.reduceSub, List.replicate_succ, List.replicate_zero, List.cons_append, List.nil_append]
    refine sq_rt ?_
    rw [sIf_t (μ' := μ) (by simp [eV, eB, vw_d, vw_scr, vw_ls, vw_dic, eBi, evs_nil, evs_cons, lift, eIdx, eOp, eC, tCmp, eTup, eLst, valsR_nil, valsR_cons, tAnd, tOr, tNot, tE, eT, eIf, eCall, tIsN, tNotN, eNeg, eSlc, oN, oE, EqDep, eqD, D.dep, D.depL, h])]
    exact sRet_ok (by simp [eV, eB, vw_d, vw_scr, vw_ls, vw_dic, eBi, evs_nil, evs_cons, lift, eIdx, eOp, eC, tCmp, eTup, eLst, valsR_nil, valsR_cons, tAnd, tOr, tNot, tE, eT, eIf, eCall, tIsN, tNotN, eNeg, eSlc, oN, oE, EqDep, eqD, D.dep, D.depL, h])
  · refine ⟨0, runB_rt (μ' := μ) ?_ rfl⟩
    simp only [f_law_cell, List.map_cons, List.map_nil, List.length_cons, List.length_nil, Nat.reduceAdd, Nat.reduceSub, List.replicate_succ, List.replicate_zero, List.cons_append, List.nil_append]
    rw [sq_if_f (μ' := μ) (by simp [eV, eB, vw_d, vw_scr, vw_ls, vw_dic, eBi, evs_nil, evs_cons, lift, eIdx, eOp, eC, tCmp, eTup, eLst, valsR_nil, valsR_cons, tAnd, tOr, tNot, tE, eT, eIf, eCall, tIsN, tNotN, eNeg, eSlc, oN, oE, EqDep, eqD, D.dep, D.depL]; omega)]
    exact sRet_ok (by simp [eV, eB, vw_d, vw_scr, vw_ls, vw_dic, eBi, evs_nil, evs_cons, lift, eIdx, eOp, eC, tCmp, eTup, eLst, valsR_nil, valsR_cons, tAnd, tOr, tNot, tE, eT, eIf, eCall, tIsN, tNotN, eNeg, eSlc, oN, oE, EqDep, eqD, D.dep, D.depL])
theorem digits_spec (n : Nat) (ns : List Int) (μ : Mem) : ∃ digs : List Int, callN P (n + 2) "_law_digits" [.scr ns, .d (.int 0), .d (.int 50)] μ = .ok (.d (.lst (digs.map .int))) μ := by
  rw [callN_run (d := f_law_digits) rfl rfl]
  have hcell := fun k => cell_spec n ns k μ
  generalize callN P (n + 1) = C at hcell ⊢
  -- the digits of a small cell: twelve
  have small_loop : ∀ (digs : List Int) (k cell seed0 : Int) (x6 : Sl), digs.length ≤ 100000 → ∃ (digs' : List Int) (x6' x7' : Sl), digs'.length ≤ digs.length + 12 ∧
      forL (tgN 6) (sq (sAs (tgN 7) (eOp modR (eBi intR [eOp addR (eOp addR (eOp mulR (eV 7) (eC (.int 16807))) (eOp mulR (eC (.int 7)) (eV 6))) (eC (.int 1))]) (eC (.int 2147483647)))) (sApp 3 (eOp modR (eBi intR [eOp fdivR (eV 7) (eC (.int 997))]) (eC (.int 1000))))) (rangeF 0 12)
        [.v (.scr ns), .v (.d (.int 0)), .v (.d (.int 50)), .own (digs.map fun d => .d (.int d)), .v (.d (.int k)), .v (.d (.int cell)), x6, .v (.d (.int seed0))] μ =
        .ok (.nx [.v (.scr ns), .v (.d (.int 0)), .v (.d (.int 50)), .own (digs'.map fun d => .d (.int d)), .v (.d (.int k)), .v (.d (.int cell)), x6', x7']) μ := by
    intro digs k cell seed0 x6 hl
    obtain ⟨ρ', ⟨digs', y6, seed', rfl, hd⟩, h⟩ := forL_inv (t := tgN 6) (b := sq (sAs (tgN 7) (eOp modR (eBi intR [eOp addR (eOp addR (eOp mulR (eV 7) (eC (.int 16807))) (eOp mulR (eC (.int 7)) (eV 6))) (eC (.int 1))]) (eC (.int 2147483647)))) (sApp 3 (eOp modR (eBi intR [eOp fdivR (eV 7) (eC (.int 997))]) (eC (.int 1000))))) (μ := μ)
      (fun i ρ => ∃ (digs' : List Int) (y6 : Sl) (seed' : Int), ρ = [.v (.scr ns), .v (.d (.int 0)), .v (.d (.int 50)), .own (digs'.map fun d => .d (.int d)), .v (.d (.int k)), .v (.d (.int cell)), y6, .v (.d (.int seed'))] ∧ digs'.length ≤ digs.length + i)
      (xs := rangeF 0 12) (k := 0) (ρ := [.v (.scr ns), .v (.d (.int 0)), .v (.d (.int 50)), .own (digs.map fun d => .d (.int d)), .v (.d (.int k)), .v (.d (.int cell)), x6, .v (.d (.int seed0))]) ⟨digs, x6, seed0, rfl, by simp⟩ (by
        rintro i x ρ hx ⟨digs', y6, seed', rfl, hd⟩
        have hi : i < 12 := by
          have := (List.getElem?_eq_some_iff.mp hx).1
          simpa using this
        rw [getElem_rangeF _ _ _ hi] at hx
        cases hx
        refine ⟨_, by simp only [tgN]; rfl, ?_⟩
        simp only [List.set_cons_succ, List.set_cons_zero]
        refine ⟨_, ⟨digs' ++ [(seed' * 16807 + 7 * (0 + (i : Int)) + 1) % 2147483647 / 997 % 1000], .v (.d (.int (0 + (i : Int)))), (seed' * 16807 + 7 * (0 + (i : Int)) + 1) % 2147483647, rfl, by simp; omega⟩, ?_⟩
        rw [sq_as (μ' := μ) (r := .d (.int ((seed' * 16807 + 7 * (0 + (i : Int)) + 1) % 2147483647))) (eOp_ok (eBi1_ok (eOp_ok (eOp_ok (eOp_ok (eV_at rfl) eC_ok (mulR_r (by decide))) (eOp_ok eC_ok (eV_at rfl) (mulR_l (by decide))) rfl) eC_ok rfl) rfl) eC_ok (modR_ok (by decide)))]
        simp only [List.set_cons_succ, List.set_cons_zero]
        rw [sApp_ok (μ' := μ) (r := .d (.int ((seed' * 16807 + 7 * (0 + (i : Int)) + 1) % 2147483647 / 997 % 1000))) rfl (eOp_ok (eBi1_ok (eOp_ok (eV_at rfl) eC_ok (fdivR_ok (by decide))) rfl) eC_ok (modR_ok (by decide))) (by simp; omega)]
        simp only [List.set_cons_succ, List.set_cons_zero]
        simp)
    exact ⟨digs', y6, _, by simpa using hd, h⟩
  -- of a huge cell: at most sixty
  have big_loop : ∀ (digs : List Int) (k cell : Int) (x6 x7 : Sl), digs.length ≤ 100000 → ∃ (digs' : List Int) (x6' : Sl) (cell' : Int), digs'.length ≤ digs.length + 60 ∧
      forL (tgN 6) (sIf (tCmp gtR (eV 5) (eC (.int 0))) (sq (sApp 3 (eOp modR (eBi intR [eV 5]) (eC (.int 1000)))) (sAs (tgN 5) (eOp fdivR (eV 5) (eC (.int 1000))))) sNil) (rangeF 0 60)
        [.v (.scr ns), .v (.d (.int 0)), .v (.d (.int 50)), .own (digs.map fun d => .d (.int d)), .v (.d (.int k)), .v (.d (.int cell)), x6, x7] μ =
        .ok (.nx [.v (.scr ns), .v (.d (.int 0)), .v (.d (.int 50)), .own (digs'.map fun d => .d (.int d)), .v (.d (.int k)), .v (.d (.int cell')), x6', x7]) μ := by
    intro digs k cell x6 x7 hl
    obtain ⟨ρ', ⟨digs', y6, cell', rfl, hd⟩, h⟩ := forL_inv (t := tgN 6) (b := sIf (tCmp gtR (eV 5) (eC (.int 0))) (sq (sApp 3 (eOp modR (eBi intR [eV 5]) (eC (.int 1000)))) (sAs (tgN 5) (eOp fdivR (eV 5) (eC (.int 1000))))) sNil) (μ := μ)
      (fun i ρ => ∃ (digs' : List Int) (y6 : Sl) (cell' : Int), ρ = [.v (.scr ns), .v (.d (.int 0)), .v (.d (.int 50)), .own (digs'.map fun d => .d (.int d)), .v (.d (.int k)), .v (.d (.int cell')), y6, x7] ∧ digs'.length ≤ digs.length + i)
      (xs := rangeF 0 60) (k := 0) (ρ := [.v (.scr ns), .v (.d (.int 0)), .v (.d (.int 50)), .own (digs.map fun d => .d (.int d)), .v (.d (.int k)), .v (.d (.int cell)), x6, x7]) ⟨digs, x6, cell, rfl, by simp⟩ (by
        rintro i x ρ hx ⟨digs', y6, cell', rfl, hd⟩
        have hi : i < 60 := by
          have := (List.getElem?_eq_some_iff.mp hx).1
          simpa using this
        rw [getElem_rangeF _ _ _ hi] at hx
        cases hx
        refine ⟨_, by simp only [tgN]; rfl, ?_⟩
        simp only [List.set_cons_succ, List.set_cons_zero]
        by_cases hc : 0 < cell'
        · refine ⟨_, ⟨digs' ++ [cell' % 1000], .v (.d (.int (0 + (i : Int)))), cell' / 1000, rfl, by simp; omega⟩, ?_⟩
          rw [sIf_t (tCmp_ok (μ2 := μ) (eV_at rfl) eC_ok (show some (decide (0 < cell')) = some true by rw [decide_eq_true hc]))]
          rw [sq_nx (sApp_ok (μ' := μ) (r := .d (.int (cell' % 1000))) rfl (eOp_ok (eBi1_ok (eV_at rfl) rfl) eC_ok (modR_ok (by decide))) (by simp; omega))]
          simp only [List.set_cons_succ, List.set_cons_zero]
          rw [sAs_ok (μ' := μ) (r := .d (.int (cell' / 1000))) (eOp_ok (eV_at rfl) eC_ok (fdivR_ok (by decide)))]
          simp only [List.set_cons_succ, List.set_cons_zero]
          simp
        · refine ⟨_, ⟨digs', .v (.d (.int (0 + (i : Int)))), cell', rfl, by omega⟩, ?_⟩
          rw [sIf_f (tCmp_ok (μ2 := μ) (eV_at rfl) eC_ok (show some (decide (0 < cell')) = some false by rw [decide_eq_false hc]))]
          exact sNil_ok)
    exact ⟨digs', y6, cell', by simpa using hd, h⟩
  have pow18 : powR (.d (.int 10)) (.d (.int 18)) = some (.d (.int 1000000000000000000)) := by
    rw [powR_ok (by decide)]
    rfl
  obtain ⟨ρ', ⟨digs, x4, x5, x6, x7, rfl, hd⟩, h⟩ := forL_inv (t := tgN 4) (b := (sq (sAs (tgN 5) (eCall C "_law_cell" [eV 0, eV 4]))
  (sq (sIf (tCmp ltR (eV 5) (eC (.int 0))) (sAs (tgN 5) (eOp subR (eC (.int 1)) (eOp mulR (eC (.int 2)) (eV 5)))) sNil)
  (sIf (tCmp geR (eV 5) (eOp powR (eC (.int 10)) (eC (.int 18)))) (sFor (tgN 6) (iRange1 (eC (.int 60)))
  (sIf (tCmp gtR (eV 5) (eC (.int 0))) (sq (sApp 3 (eOp modR (eBi intR [eV 5]) (eC (.int 1000)))) (sAs (tgN 5) (eOp fdivR (eV 5) (eC (.int 1000))))) sNil))
  (sq (sAs (tgN 7) (eOp modR (eBi intR [eOp addR (eOp addR (eOp mulR (eV 5) (eC (.int 48271))) (eOp mulR (eV 4) (eC (.int 69621)))) (eC (.int 11))]) (eC (.int 2147483647))))
  (sFor (tgN 6) (iRange1 (eC (.int 12)))
  (sq (sAs (tgN 7) (eOp modR (eBi intR [eOp addR (eOp addR (eOp mulR (eV 7) (eC (.int 16807))) (eOp mulR (eC (.int 7)) (eV 6))) (eC (.int 1))]) (eC (.int 2147483647)))) (sApp 3 (eOp modR (eBi intR [eOp fdivR (eV 7) (eC (.int 997))]) (eC (.int 1000))))))))))) (μ := μ)
    (fun i ρ => ∃ (digs : List Int) (x4 x5 x6 x7 : Sl), ρ = [.v (.scr ns), .v (.d (.int 0)), .v (.d (.int 50)), .own (digs.map fun d => .d (.int d)), x4, x5, x6, x7] ∧ digs.length ≤ 60 * i)
    (xs := rangeF 0 50) (k := 0) (ρ := [.v (.scr ns), .v (.d (.int 0)), .v (.d (.int 50)), .own [], .un, .un, .un, .un]) ⟨[], _, _, _, _, rfl, by simp⟩ (by
      rintro i x ρ hx ⟨digs, x4, x5, x6, x7, rfl, hd⟩
      have hi : i < 50 := by
        have := (List.getElem?_eq_some_iff.mp hx).1
        simpa using this
      rw [getElem_rangeF _ _ _ hi] at hx
      cases hx
      rw [Int.zero_add]
      rw [Nat.zero_add] at hd ⊢
      refine ⟨_, by simp only [tgN]; rfl, ?_⟩
      simp only [List.set_cons_succ, List.set_cons_zero]
      obtain ⟨v, hv⟩ := hcell i
      have hv1 : eCall C "_law_cell" [eV 0, eV 4] [.v (.scr ns), .v (.d (.int 0)), .v (.d (.int 50)), .own (digs.map fun d => .d (.int d)), .v (.d (.int i)), x5, x6, x7] μ = .ok (.d (.int v)) μ := by simp [eCall, evs_cons, evs_nil, eV, hv]
      rw [sq_as hv1]
      simp only [List.set_cons_succ, List.set_cons_zero]
      obtain ⟨w, hw⟩ : ∃ w : Int, sIf (tCmp ltR (eV 5) (eC (.int 0))) (sAs (tgN 5) (eOp subR (eC (.int 1)) (eOp mulR (eC (.int 2)) (eV 5)))) sNil [.v (.scr ns), .v (.d (.int 0)), .v (.d (.int 50)), .own (digs.map fun d => .d (.int d)), .v (.d (.int i)), .v (.d (.int v)), x6, x7] μ =
          .ok (.nx [.v (.scr ns), .v (.d (.int 0)), .v (.d (.int 50)), .own (digs.map fun d => .d (.int d)), .v (.d (.int i)), .v (.d (.int w)), x6, x7]) μ := by
        by_cases h0 : v < 0
        · refine ⟨1 - 2 * v, ?_⟩
          rw [sIf_t (tCmp_ok (μ2 := μ) (eV_at rfl) eC_ok (show some (decide (v < 0)) = some true by rw [decide_eq_true h0]))]
          rw [sAs_ok (μ' := μ) (r := .d (.int (1 - 2 * v))) (eOp_ok eC_ok (eOp_ok eC_ok (eV_at rfl) (mulR_l (by decide))) rfl)]
          simp only [List.set_cons_succ, List.set_cons_zero]
        · refine ⟨v, ?_⟩
          rw [sIf_f (tCmp_ok (μ2 := μ) (eV_at rfl) eC_ok (show some (decide (v < 0)) = some false by rw [decide_eq_false h0]))]
          exact sNil_ok
      rw [sq_nx hw]
      by_cases hb : (1000000000000000000 : Int) ≤ w
      · rw [sIf_t (tCmp_ok (μ2 := μ) (eV_at rfl) (eOp_ok eC_ok eC_ok pow18) (show some (decide ((1000000000000000000 : Int) ≤ w)) = some true by rw [decide_eq_true hb]))]
        obtain ⟨digs', y6, c', hd', hl⟩ := big_loop digs i w x6 x7 (by omega)
        exact ⟨_, ⟨digs', _, _, _, _, rfl, by omega⟩, sFor_rt (iRange1_nat (n := 60) eC_ok (by omega)) hl⟩
      · rw [sIf_f (tCmp_ok (μ2 := μ) (eV_at rfl) (eOp_ok eC_ok eC_ok pow18) (show some (decide ((1000000000000000000 : Int) ≤ w)) = some false by rw [decide_eq_false hb]))]
        rw [sq_as (μ' := μ) (r := .d (.int ((w * 48271 + (i : Int) * 69621 + 11) % 2147483647))) (eOp_ok (eBi1_ok (eOp_ok (eOp_ok (eOp_ok (eV_at rfl) eC_ok (mulR_r (by decide))) (eOp_ok (eV_at rfl) eC_ok (mulR_r (by decide))) rfl) eC_ok rfl) rfl) eC_ok (modR_ok (by decide)))]
        simp only [List.set_cons_succ, List.set_cons_zero]
        obtain ⟨digs', y6, y7, hd', hl⟩ := small_loop digs i w ((w * 48271 + (i : Int) * 69621 + 11) % 2147483647) x6 (by omega)
        exact ⟨_, ⟨digs', _, _, _, _, rfl, by omega⟩, sFor_rt (iRange1_nat (n := 12) eC_ok (by omega)) hl⟩)
  refine ⟨digs, runB_rt (μ' := μ) ?_ rfl⟩
  simp only [f_law_digits, List.map_cons, List.map_nil, List.length_cons, List.length_nil, Nat.reduceAdd, Nat.reduceSub, List.replicate_succ, List.replicate_zero, List.cons_append, List.nil_append]
  rw [sq_nx (sOwn_lst (ds := []) (μ' := μ) (by simp [eLst, evs_nil]))]
  simp only [List.set_cons_succ, List.set_cons_zero, List.map_nil]
  have hit : iRange2 (eV 1) (eV 2) [.v (.scr ns), .v (.d (.int 0)), .v (.d (.int 50)), .own [], .un, .un, .un, .un] μ = .ok (rangeF 0 50) μ := by
    unfold iRange2
    rw [eV_at rfl, bind_ok, eV_at rfl, bind_ok]
    show (if (inRange62 0 && inRange62 50) = true then _ else _) = _
    rw [if_pos (by decide)]
    rfl
  rw [sq_nx (sFor_rt hit h), sq_nx (sFrz_ok rfl)]
  simp only [List.set_cons_succ, List.set_cons_zero]
  rw [mkL_map]
  exact sRet_ok (eV_at rfl)
end K09
end

section
set_option maxHeartbeats 0
set_option linter.all false
set_option maxRecDepth 100000
namespace K09
open Ev
def nms : List String := ["L", "T", "Nat"]
def abc : List String := ["A", "B", "C"]
/-- a draw, as a natural number -/
theorem draw_nat (n : Nat) (digs : List Int) (k m : Nat) (hm : 0 < m) : ∃ v : Nat, v < m ∧ callN P (n + 1) "_law_draw" [.p 0, .d (.int m)] (Bx digs k) = .ok (.d (.int v)) (Bx digs (k + 1)) := by
  obtain ⟨v, h0, h1, h2⟩ := draw_spec n digs k m (by omega)
  exact ⟨v.toNat, by omega, by rw [h2]; congr 3; omega⟩
/-- what a draw gives, told of any C -/
def Draws (C : Fn) : Prop := ∀ (digs : List Int) (k m : Nat), 0 < m → ∃ v : Nat, v < m ∧ C "_law_draw" [.p 0, .d (.int m)] (Bx digs k) = .ok (.d (.int v)) (Bx digs (k + 1))
theorem draws (n : Nat) : Draws (callN P (n + 1)) := fun digs k m hm => draw_nat n digs k m hm
/-- a draw's expression -/
theorem eDraw {C : Fn} {ρ : Env} {digs : List Int} {k v : Nat} {m : Int} {i : Nat} (hb : ρ[i]? = some (.v (.p 0))) (h : C "_law_draw" [.p 0, .d (.int m)] (Bx digs k) = .ok (.d (.int v)) (Bx digs (k + 1))) : eCall C "_law_draw" [eV i, eC (.int m)] ρ (Bx digs k) = .ok (.d (.int v)) (Bx digs (k + 1)) := by
  unfold eCall
  rw [evs_cons, eV_at hb, bind_ok, evs_cons, eC_ok, bind_ok, evs_nil, bind_ok, bind_ok, bind_ok]
  exact h
/-- int(draw) % len(pool) -/
theorem ePick {C : Fn} {ρ : Env} {digs : List Int} {k v : Nat} {i j : Nat} {pool : List D} (hb : ρ[i]? = some (.v (.p 0))) (hp : ρ[j]? = some (.v (.d (.lst pool)))) (h0 : 0 < pool.length) (h : C "_law_draw" [.p 0, .d (.int 90)] (Bx digs k) = .ok (.d (.int v)) (Bx digs (k + 1))) :
    ∃ (w : Nat) (d : D), w < pool.length ∧ pool[w]? = some d ∧ eIdx (eV j) (eOp modR (eBi intR [eCall C "_law_draw" [eV i, eC (.int 90)]]) (eBi lenR [eV j])) ρ (Bx digs k) = .ok (.d d) (Bx digs (k + 1)) := by
  have hw : v % pool.length < pool.length := Nat.mod_lt _ h0
  refine ⟨v % pool.length, pool[v % pool.length], hw, by simp [hw], ?_⟩
  unfold eIdx
  have e1 : eBi intR [eCall C "_law_draw" [eV i, eC (.int 90)]] ρ (Bx digs k) = .ok (.d (.int v)) (Bx digs (k + 1)) := eBi1_ok (eDraw hb h) rfl
  have e2 : eBi lenR [eV j] ρ (Bx digs (k + 1)) = .ok (.d (.int pool.length)) (Bx digs (k + 1)) := eBi1_ok (eV_at hp) rfl
  have e3 := eOp_ok (f := modR) e1 e2 (z := .d (.int ((v : Int) % (pool.length : Int)))) (modR_ok (by omega))
  refine eOp_ok (eV_at hp) e3 ?_
  rw [vw_d, vw_d, idxR_lst, show ((v : Int) % (pool.length : Int)) = ((v % pool.length : Nat) : Int) by omega, atI_cast]
  simp [hw]
/-- a row's constructors: of that type, fields of the pool -/
def MkOk (names : List String) (nm : String) (ms : List Mk) (cnt : Nat) : Prop :=
  ms.map (fun m => m.1) = (abc.take cnt).map (fun a => a ++ nm) ∧ (∀ m ∈ ms, m.2.length ≤ 2 ∧ ∀ f ∈ m.2, f ∈ "Int" :: names) ∧ ∃ i : Nat, names[i]? = some nm ∧ ∀ m, ms[0]? = some m → ∀ f ∈ m.2, f ∈ "Int" :: names.take i
def RowOk (names : List String) (nm : String) (row : String × List Mk) : Prop := row.1 = nm ∧ ∃ cnt, 1 ≤ cnt ∧ cnt ≤ 3 ∧ (MkOk names nm row.2 cnt ∨ MkOk names nm row.2.reverse cnt)
/-- the drawn types -/
def GoodT (T : Ty) : Prop := ∃ kk, 1 ≤ kk ∧ kk ≤ 3 ∧ T.length = kk ∧ ∀ (i : Nat) (row : String × List Mk), T[i]? = some row → ∃ nm, nms[i]? = some nm ∧ RowOk (nms.take kk) nm row

/-! ### the drawn types -/
/-- one constructor's fields -/
theorem fields_draw {C : Fn} (hC : Draws C) (digs : List Int) (k : Nat) (x1 x2 x3 x4 x7 x8 : Sl) (m : Nat) (pool : List String) (hp : pool ≠ []) : ∃ (k' : Nat) (fs : List String), fs.length ≤ 2 ∧ (∀ f ∈ fs, f ∈ pool) ∧
    eComp [8] (tgN 8) (iRange1 (eOp mulR (eCall C "_law_draw" [eV 0, eC (.int 3)]) (eBi intR [eOr (eT (tCmp gtR (eV 5) (eC (.int 0)))) (eT (tCmp eqR (eCall C "_law_draw" [eV 0, eC (.int 3)]) (eC (.int 0))))]))) tYes
      (eIdx (eV 6) (eOp modR (eBi intR [eCall C "_law_draw" [eV 0, eC (.int 90)]]) (eBi lenR [eV 6]))) [.v (.p 0), x1, x2, x3, x4, .v (.d (.int m)), .v (.d (.lst (pool.map .str))), x7, x8] (Bx digs k) =
      .ok (.d (.lst (fs.map .str))) (Bx digs k') := by
  obtain ⟨v, hv, h1⟩ := hC digs k 3 (by omega)
  -- how many
  obtain ⟨k1, c, hc, h2⟩ : ∃ (k1 c : Nat), c ≤ 2 ∧ iRange1 (eOp mulR (eCall C "_law_draw" [eV 0, eC (.int 3)]) (eBi intR [eOr (eT (tCmp gtR (eV 5) (eC (.int 0)))) (eT (tCmp eqR (eCall C "_law_draw" [eV 0, eC (.int 3)]) (eC (.int 0))))]))
      [.v (.p 0), x1, x2, x3, x4, .v (.d (.int m)), .v (.d (.lst (pool.map .str))), x7, x8] (Bx digs k) = .ok (rangeF 0 c) (Bx digs k1) := by
    have e1 := eDraw (C := C) (ρ := [.v (.p 0), x1, x2, x3, x4, .v (.d (.int m)), .v (.d (.lst (pool.map .str))), x7, x8]) (i := 0) rfl h1
    have hg : tCmp gtR (eV 5) (eC (.int 0)) [.v (.p 0), x1, x2, x3, x4, .v (.d (.int m)), .v (.d (.lst (pool.map .str))), x7, x8] (Bx digs (k + 1)) = .ok (decide (0 < (m : Int))) (Bx digs (k + 1)) := tCmp_ok (eV_at rfl) eC_ok rfl
    by_cases hm : 0 < (m : Int)
    · rw [decide_eq_true hm] at hg
      refine ⟨k + 1, v, by omega, iRange1_nat (eOp_ok (z := .d (.int v)) e1 (eBi1_ok (x := .d (.bl true)) (z := .d (.int 1)) ?_ rfl) ?_) (by omega)⟩
      · unfold eOr eT
        rw [hg]
        simp
      · rw [vw_d, vw_d, mulR_r (by decide), Int.mul_one]
    · rw [decide_eq_false hm] at hg
      obtain ⟨w, hw, h3⟩ := hC digs (k + 1) 3 (by omega)
      have e2 := eDraw (C := C) (ρ := [.v (.p 0), x1, x2, x3, x4, .v (.d (.int m)), .v (.d (.lst (pool.map .str))), x7, x8]) (i := 0) rfl h3
      have hq : tCmp eqR (eCall C "_law_draw" [eV 0, eC (.int 3)]) (eC (.int 0)) [.v (.p 0), x1, x2, x3, x4, .v (.d (.int m)), .v (.d (.lst (pool.map .str))), x7, x8] (Bx digs (k + 1)) = .ok (decide (w = 0)) (Bx digs (k + 1 + 1)) :=
        tCmp_ok e2 eC_ok (by
          rw [vw_d, vw_d, eqR_d, eqD_left (by simp [D.dep]), eqv_int]
          by_cases hz : w = 0
          · simp [hz]
          · simp [hz])
      have hor : eOr (eT (tCmp gtR (eV 5) (eC (.int 0)))) (eT (tCmp eqR (eCall C "_law_draw" [eV 0, eC (.int 3)]) (eC (.int 0)))) [.v (.p 0), x1, x2, x3, x4, .v (.d (.int m)), .v (.d (.lst (pool.map .str))), x7, x8] (Bx digs (k + 1)) = .ok (.d (.bl (decide (w = 0)))) (Bx digs (k + 1 + 1)) := by
        unfold eOr eT
        rw [hg]
        simp [hq]
      by_cases hz : w = 0
      · rw [decide_eq_true hz] at hor
        refine ⟨k + 1 + 1, v, by omega, iRange1_nat (eOp_ok (z := .d (.int v)) e1 (eBi1_ok (z := .d (.int 1)) hor rfl) ?_) (by omega)⟩
        rw [vw_d, vw_d, mulR_r (by decide), Int.mul_one]
      · rw [decide_eq_false hz] at hor
        refine ⟨k + 1 + 1, 0, by omega, iRange1_nat (eOp_ok (z := .d (.int 0)) e1 (eBi1_ok (z := .d (.int 0)) hor rfl) ?_) (by omega)⟩
        rw [vw_d, vw_d, mulR_r (by decide), Int.mul_zero]
  obtain ⟨ys, μ', ⟨k2, fs, e1, e2, e3, e4⟩, h3⟩ := compL_invM (t := tgN 8) (c := tYes) (e := eIdx (eV 6) (eOp modR (eBi intR [eCall C "_law_draw" [eV 0, eC (.int 90)]]) (eBi lenR [eV 6])))
    (ρ := [.v (.p 0), x1, x2, x3, x4, .v (.d (.int m)), .v (.d (.lst (pool.map .str))), x7, .un]) (fun i acc μ => ∃ (k2 : Nat) (fs : List String), μ = Bx digs k2 ∧ acc = fs.map (fun f => .d (.str f)) ∧ fs.length ≤ i ∧ ∀ f ∈ fs, f ∈ pool) (xs := rangeF 0 c) (k := 0) (acc := []) (μ := Bx digs k1)
    ⟨k1, [], rfl, rfl, by simp, by simp⟩ (by
      rintro i x acc μ hx ⟨k2, fs, rfl, rfl, hl, hf⟩
      refine ⟨_, by simp only [tgN]; rfl, .inl ?_⟩
      obtain ⟨w, hw, h3⟩ := hC digs k2 90 (by omega)
      obtain ⟨q, d, q1, q2, q3⟩ := ePick (C := C) (ρ := [.v (.p 0), x1, x2, x3, x4, .v (.d (.int m)), .v (.d (.lst (pool.map .str))), x7, .v x]) (i := 0) (j := 6) (pool := pool.map .str) rfl rfl (by simpa using List.length_pos_iff.mpr hp) h3
      rw [List.getElem?_map] at q2
      obtain ⟨f, hf2, hfd⟩ := Option.map_eq_some_iff.mp q2
      subst hfd
      refine ⟨Bx digs k2, .d (.str f), Bx digs (k2 + 1), by simp [tYes], q3, k2 + 1, fs ++ [f], rfl, by simp, by simp; omega, ?_⟩
      intro g hg
      rcases List.mem_append.mp hg with z | z
      · exact hf g z
      · rw [List.mem_singleton.mp z]; exact List.mem_of_getElem? hf2)
  rw [List.nil_append] at e2
  subst e1 e2
  rw [length_rangeF] at e3
  refine ⟨k2, fs, by omega, e4, ?_⟩
  rw [eComp_ok (own := [8]) h2 h3 (by simp; omega), mkL_map]
theorem add_strs (xs : List String) (h : xs.length ≤ 1000) : addR (.d (.lst [.str "Int"])) (.d (.lst (xs.map .str))) = some (.d (.lst (("Int" :: xs).map .str))) := by
  have hz : [D.str "Int"].length + (xs.map D.str).length ≤ SL := le_SL (by simp; omega)
  rw [addR_lst, if_pos hz]; rfl
theorem short_names : ∀ a ∈ abc, ∀ b ∈ nms, a.length + b.length ≤ 100 := by decide
/-- one turn of the makers' loop -/
theorem maker_turn {C : Fn} (hC : Draws C) (digs : List Int) (k : Nat) (names : List String) (hn : names.length ≤ 3) (x2 : Sl) (i : Nat) (nm : String) (hnm : names[i]? = some nm) (hmem : nm ∈ nms) (ms : List Mk) (hms : ms.length ≤ 10) (m : Nat) (a : String) (ha : abc[m]? = some a) (x6 x7 x8 : Sl) :
    ∃ (k' : Nat) (fs : List String) (y6 y7 y8 : Sl), fs.length ≤ 2 ∧ (∀ f ∈ fs, f ∈ "Int" :: names) ∧ (m = 0 → ∀ f ∈ fs, f ∈ "Int" :: names.take i) ∧
    (sq (sAs (tgN 6) (eOp addR (eLst [eC (.str "Int")]) (eV 1))) (sq (sIf (tCmp eqR (eV 5) (eC (.int 0))) (sAs (tgN 6) (eOp addR (eLst [eC (.str "Int")]) (eSlc (eV 1) oN (oE (eV 3))))) sNil)
    (sq (sAs (tgN 7) (eComp [8] (tgN 8) (iRange1 (eOp mulR (eCall C "_law_draw" [eV 0, eC (.int 3)]) (eBi intR [eOr (eT (tCmp gtR (eV 5) (eC (.int 0)))) (eT (tCmp eqR (eCall C "_law_draw" [eV 0, eC (.int 3)]) (eC (.int 0))))]))) tYes
      (eIdx (eV 6) (eOp modR (eBi intR [eCall C "_law_draw" [eV 0, eC (.int 90)]]) (eBi lenR [eV 6])))))
      (sApp 4 (eTup [eOp addR (eIdx (eLst [eC (.str "A"), eC (.str "B"), eC (.str "C")]) (eV 5)) (eIdx (eV 1) (eV 3)), eBi tupleR [eV 7]]))))) [.v (.p 0), .v (.d (.lst (names.map .str))), x2, .v (.d (.int i)), .own (ms.map fun m => .d (encM m)), .v (.d (.int m)), x6, x7, x8] (Bx digs k) =
    .ok (.nx [.v (.p 0), .v (.d (.lst (names.map .str))), x2, .v (.d (.int i)), .own ((ms ++ [(a ++ nm, fs)]).map fun m => .d (encM m)), .v (.d (.int m)), y6, y7, y8]) (Bx digs k') := by
  have eInt : ∀ (ρ : Env) (μ : Mem), eLst [eC (.str "Int")] ρ μ = .ok (.d (.lst [.str "Int"])) μ := fun ρ μ => by simp [eLst, evs_cons, evs_nil, eC]
  rw [sq_as (eOp_ok (eInt _ _) (eV_at rfl) (add_strs names (by omega)))]
  simp only [List.set_cons_succ, List.set_cons_zero]
  obtain ⟨pool, hp0, hp1, hp2, h2⟩ : ∃ pool : List String, pool ≠ [] ∧ (∀ f ∈ pool, f ∈ "Int" :: names) ∧ (m = 0 → ∀ f ∈ pool, f ∈ "Int" :: names.take i) ∧ sIf (tCmp eqR (eV 5) (eC (.int 0))) (sAs (tgN 6) (eOp addR (eLst [eC (.str "Int")]) (eSlc (eV 1) oN (oE (eV 3))))) sNil
      [.v (.p 0), .v (.d (.lst (names.map .str))), x2, .v (.d (.int i)), .own (ms.map fun m => .d (encM m)), .v (.d (.int m)), .v (.d (.lst (("Int" :: names).map .str))), x7, x8] (Bx digs k) =
      .ok (.nx [.v (.p 0), .v (.d (.lst (names.map .str))), x2, .v (.d (.int i)), .own (ms.map fun m => .d (encM m)), .v (.d (.int m)), .v (.d (.lst (pool.map .str))), x7, x8]) (Bx digs k) := by
    have hq : tCmp eqR (eV 5) (eC (.int 0)) [.v (.p 0), .v (.d (.lst (names.map .str))), x2, .v (.d (.int i)), .own (ms.map fun m => .d (encM m)), .v (.d (.int m)), .v (.d (.lst (("Int" :: names).map .str))), x7, x8] (Bx digs k) = .ok (decide (m = 0)) (Bx digs k) :=
      tCmp_ok (eV_at rfl) eC_ok (by
        rw [vw_d, vw_d, eqR_d, eqD_left (by simp [D.dep]), eqv_int]
        by_cases hz : m = 0
        · simp [hz]
        · simp [hz])
    by_cases hm : m = 0
    · rw [decide_eq_true hm] at hq
      refine ⟨"Int" :: names.take i, by simp, ?_, fun _ f hf => hf, ?_⟩
      · intro f hf
        rcases List.mem_cons.mp hf with z | z
        · rw [z]; exact List.mem_cons_self
        · exact List.mem_cons_of_mem _ (List.mem_of_mem_take z)
      · rw [sIf_t hq]
        have hsl : eSlc (eV 1) oN (oE (eV 3)) [.v (.p 0), .v (.d (.lst (names.map .str))), x2, .v (.d (.int i)), .own (ms.map fun m => .d (encM m)), .v (.d (.int m)), .v (.d (.lst (("Int" :: names).map .str))), x7, x8] (Bx digs k) = .ok (.d (.lst ((names.take i).map .str))) (Bx digs k) := by
          simp [eSlc, eV, oN, oE, vw_d, lift, cut_take, List.map_take]
        rw [sAs_ok (eOp_ok (eInt _ _) hsl (add_strs (names.take i) (by simp; omega)))]
        simp only [List.set_cons_succ, List.set_cons_zero]
    · rw [decide_eq_false hm] at hq
      exact ⟨"Int" :: names, by simp, fun f hf => hf, fun z => absurd z hm, by rw [sIf_f hq]; exact sNil_ok⟩
  rw [sq_nx h2]
  obtain ⟨k', fs, hf1, hf2, h3⟩ := fields_draw hC digs k (.v (.d (.lst (names.map .str)))) x2 (.v (.d (.int i))) (.own (ms.map fun m => .d (encM m))) x7 x8 m pool hp0
  rw [sq_as h3]
  simp only [List.set_cons_succ, List.set_cons_zero]
  refine ⟨k', fs, .v (.d (.lst (pool.map .str))), .v (.d (.lst (fs.map .str))), x8, hf1, fun f hf => hp1 f (hf2 f hf), fun z f hf => hp2 z f (hf2 f hf), ?_⟩
  have hsn := short_names a (List.mem_of_getElem? ha) nm hmem
  have habc : [D.str "A", D.str "B", D.str "C"][m]? = some (.str a) := by
    have : [D.str "A", D.str "B", D.str "C"] = abc.map .str := rfl
    rw [this, List.getElem?_map, ha]; rfl
  have hc : eOp addR (eIdx (eLst [eC (.str "A"), eC (.str "B"), eC (.str "C")]) (eV 5)) (eIdx (eV 1) (eV 3)) [.v (.p 0), .v (.d (.lst (names.map .str))), x2, .v (.d (.int i)), .own (ms.map fun m => .d (encM m)), .v (.d (.int m)), .v (.d (.lst (pool.map .str))), .v (.d (.lst (fs.map .str))), x8] (Bx digs k') = .ok (.d (.str (a ++ nm))) (Bx digs k') := by
    have e1 : eIdx (eLst [eC (.str "A"), eC (.str "B"), eC (.str "C")]) (eV 5) [.v (.p 0), .v (.d (.lst (names.map .str))), x2, .v (.d (.int i)), .own (ms.map fun m => .d (encM m)), .v (.d (.int m)), .v (.d (.lst (pool.map .str))), .v (.d (.lst (fs.map .str))), x8] (Bx digs k') = .ok (.d (.str a)) (Bx digs k') := by
      simp [eIdx, eOp, eLst, evs_cons, evs_nil, eC, eV, vw_d, lift, habc]
    have e2 : eIdx (eV 1) (eV 3) [.v (.p 0), .v (.d (.lst (names.map .str))), x2, .v (.d (.int i)), .own (ms.map fun m => .d (encM m)), .v (.d (.int m)), .v (.d (.lst (pool.map .str))), .v (.d (.lst (fs.map .str))), x8] (Bx digs k') = .ok (.d (.str nm)) (Bx digs k') := by
      simp [eIdx, eOp, eV, vw_d, lift, hnm]
    refine eOp_ok e1 e2 ?_
    rw [vw_d, vw_d, addR_str, if_pos (le_SL (by omega))]
  have ht : eTup [eOp addR (eIdx (eLst [eC (.str "A"), eC (.str "B"), eC (.str "C")]) (eV 5)) (eIdx (eV 1) (eV 3)), eBi tupleR [eV 7]] [.v (.p 0), .v (.d (.lst (names.map .str))), x2, .v (.d (.int i)), .own (ms.map fun m => .d (encM m)), .v (.d (.int m)), .v (.d (.lst (pool.map .str))), .v (.d (.lst (fs.map .str))), x8] (Bx digs k') = .ok (.d (encM (a ++ nm, fs))) (Bx digs k') := by
    unfold eTup
    rw [evs_cons, hc, bind_ok, evs_cons, eBi1_ok (eV_at rfl) (show tupleR [vw _ _] = some (.d (.tup (fs.map .str))) from rfl), bind_ok, evs_nil, bind_ok, bind_ok, bind_ok]
    simp [encM, encF]
  rw [sApp_ok rfl ht (by simp; omega)]
  simp only [List.set_cons_succ, List.set_cons_zero]
  simp
/-- one row -/
theorem row_turn {C : Fn} (hC : Draws C) (digs : List Int) (k : Nat) (names : List String) (hn : names.length ≤ 3) (found : Ty) (hf : found.length ≤ 10) (i : Nat) (nm : String) (hnm : names[i]? = some nm) (hmem : nm ∈ nms) (x4 x5 x6 x7 x8 : Sl) :
    ∃ (k' : Nat) (row : String × List Mk) (y4 y5 y6 y7 y8 : Sl), RowOk names nm row ∧
    (sq (sOwn 4 (eLst []))
    (sq (sFor (tgN 5) (iRange1 (eOp addR (eC (.int 1)) (eCall C "_law_draw" [eV 0, eC (.int 3)]))) (sq (sAs (tgN 6) (eOp addR (eLst [eC (.str "Int")]) (eV 1))) (sq (sIf (tCmp eqR (eV 5) (eC (.int 0))) (sAs (tgN 6) (eOp addR (eLst [eC (.str "Int")]) (eSlc (eV 1) oN (oE (eV 3))))) sNil)
    (sq (sAs (tgN 7) (eComp [8] (tgN 8) (iRange1 (eOp mulR (eCall C "_law_draw" [eV 0, eC (.int 3)]) (eBi intR [eOr (eT (tCmp gtR (eV 5) (eC (.int 0)))) (eT (tCmp eqR (eCall C "_law_draw" [eV 0, eC (.int 3)]) (eC (.int 0))))]))) tYes
      (eIdx (eV 6) (eOp modR (eBi intR [eCall C "_law_draw" [eV 0, eC (.int 90)]]) (eBi lenR [eV 6])))))
      (sApp 4 (eTup [eOp addR (eIdx (eLst [eC (.str "A"), eC (.str "B"), eC (.str "C")]) (eV 5)) (eIdx (eV 1) (eV 3)), eBi tupleR [eV 7]]))))))
      (sq (sIf (tCmp eqR (eCall C "_law_draw" [eV 0, eC (.int 3)]) (eC (.int 0))) (sRev 4) sNil)
        (sApp 2 (eTup [eIdx (eV 1) (eV 3), eBi tupleR [eB 4]]))))) [.v (.p 0), .v (.d (.lst (names.map .str))), .own (found.map fun r => .d (encRow r)), .v (.d (.int i)), x4, x5, x6, x7, x8] (Bx digs k) =
    .ok (.nx [.v (.p 0), .v (.d (.lst (names.map .str))), .own ((found ++ [row]).map fun r => .d (encRow r)), .v (.d (.int i)), y4, y5, y6, y7, y8]) (Bx digs k') := by
  rw [sq_nx (sOwn_lst (ds := []) (μ' := Bx digs k) (by simp [eLst, evs_nil]))]
  simp only [List.set_cons_succ, List.set_cons_zero, List.map_nil]
  obtain ⟨v, hv, h1⟩ := hC digs k 3 (by omega)
  have hcnt : iRange1 (eOp addR (eC (.int 1)) (eCall C "_law_draw" [eV 0, eC (.int 3)])) [.v (.p 0), .v (.d (.lst (names.map .str))), .own (found.map fun r => .d (encRow r)), .v (.d (.int i)), .own [], x5, x6, x7, x8] (Bx digs k) = .ok (rangeF 0 (1 + v)) (Bx digs (k + 1)) :=
    iRange1_nat (n := 1 + v) (eOp_ok eC_ok (eDraw rfl h1) (by rw [vw_d, vw_d, addR_int]; rfl)) (by omega)
  obtain ⟨ρ', μ', ⟨k2, ms, y5, y6, y7, y8, rfl, rfl, hms⟩, hl⟩ := forL_invM (t := tgN 5) (b := (sq (sAs (tgN 6) (eOp addR (eLst [eC (.str "Int")]) (eV 1))) (sq (sIf (tCmp eqR (eV 5) (eC (.int 0))) (sAs (tgN 6) (eOp addR (eLst [eC (.str "Int")]) (eSlc (eV 1) oN (oE (eV 3))))) sNil)
    (sq (sAs (tgN 7) (eComp [8] (tgN 8) (iRange1 (eOp mulR (eCall C "_law_draw" [eV 0, eC (.int 3)]) (eBi intR [eOr (eT (tCmp gtR (eV 5) (eC (.int 0)))) (eT (tCmp eqR (eCall C "_law_draw" [eV 0, eC (.int 3)]) (eC (.int 0))))]))) tYes
      (eIdx (eV 6) (eOp modR (eBi intR [eCall C "_law_draw" [eV 0, eC (.int 90)]]) (eBi lenR [eV 6])))))
      (sApp 4 (eTup [eOp addR (eIdx (eLst [eC (.str "A"), eC (.str "B"), eC (.str "C")]) (eV 5)) (eIdx (eV 1) (eV 3)), eBi tupleR [eV 7]]))))))
    (fun m ρ μ => ∃ (k2 : Nat) (ms : List Mk) (y5 y6 y7 y8 : Sl), ρ = [.v (.p 0), .v (.d (.lst (names.map .str))), .own (found.map fun r => .d (encRow r)), .v (.d (.int i)), .own (ms.map fun m => .d (encM m)), y5, y6, y7, y8] ∧ μ = Bx digs k2 ∧ MkOk names nm ms m)
    (xs := rangeF 0 (1 + v)) (k := 0) (ρ := [.v (.p 0), .v (.d (.lst (names.map .str))), .own (found.map fun r => .d (encRow r)), .v (.d (.int i)), .own [], x5, x6, x7, x8]) (μ := Bx digs (k + 1)) ⟨k + 1, [], _, _, _, _, rfl, rfl, by simp [MkOk]; exact ⟨i, hnm⟩⟩ (by
      rintro m x ρ μ hx ⟨k2, ms, y5, y6, y7, y8, rfl, rfl, hms⟩
      have hi : m < 1 + v := by
        have := (List.getElem?_eq_some_iff.mp hx).1
        simpa using this
      rw [getElem_rangeF _ _ _ hi] at hx
      cases hx
      rw [Int.zero_add]
      rw [Nat.zero_add] at hms ⊢
      refine ⟨_, by simp only [tgN]; rfl, ?_⟩
      simp only [List.set_cons_succ, List.set_cons_zero]
      have hm3 : m < abc.length := by simp [abc]; omega
      have hlen : ms.length = m := by
        have := congrArg List.length hms.1
        simp at this; omega
      obtain ⟨k3, fs, z6, z7, z8, hf1, hf2, hf3, ht⟩ := maker_turn hC digs k2 names hn (.own (found.map fun r => .d (encRow r))) i nm hnm hmem ms (by omega) m abc[m] (by simp [hm3]) y6 y7 y8
      refine ⟨_, _, ⟨k3, ms ++ [(abc[m] ++ nm, fs)], .v (.d (.int m)), z6, z7, z8, rfl, rfl, ?_⟩, ht⟩
      refine ⟨?_, ?_, ?_⟩
      · rw [List.map_append, hms.1, List.take_succ_eq_append_getElem hm3, List.map_append]; rfl
      · intro q hq
        rcases List.mem_append.mp hq with z | z
        · exact hms.2.1 q z
        · rw [List.mem_singleton.mp z]; exact ⟨hf1, hf2⟩
      · by_cases hm0 : m = 0
        · refine ⟨i, hnm, fun q hq => ?_⟩
          have hms0 : ms = [] := List.eq_nil_of_length_eq_zero (by omega)
          rw [hms0] at hq
          obtain rfl := Option.some.inj hq
          exact hf3 hm0
        · obtain ⟨i', hi', hq'⟩ := hms.2.2
          refine ⟨i', hi', fun q hq => hq' q ?_⟩
          rw [List.getElem?_append_left (by omega)] at hq
          exact hq)
  rw [Nat.zero_add, length_rangeF] at hms
  rw [sq_nx (sFor_rt hcnt hl)]
  obtain ⟨w, hw, h2⟩ := hC digs k2 3 (by omega)
  have hq : tCmp eqR (eCall C "_law_draw" [eV 0, eC (.int 3)]) (eC (.int 0)) [.v (.p 0), .v (.d (.lst (names.map .str))), .own (found.map fun r => .d (encRow r)), .v (.d (.int i)), .own (ms.map fun m => .d (encM m)), y5, y6, y7, y8] (Bx digs k2) = .ok (decide (w = 0)) (Bx digs (k2 + 1)) :=
    tCmp_ok (eDraw rfl h2) eC_ok (by
      rw [vw_d, vw_d, eqR_d, eqD_left (by simp [D.dep]), eqv_int]
      by_cases hz : w = 0
      · simp [hz]
      · simp [hz])
  have hlen : ms.length ≤ 3 := by
    have := congrArg List.length hms.1
    simp [abc] at this; omega
  obtain ⟨ms2, hms2, hrow, h3⟩ : ∃ ms2 : List Mk, ms2.length ≤ 3 ∧ RowOk names nm (nm, ms2) ∧ sIf (tCmp eqR (eCall C "_law_draw" [eV 0, eC (.int 3)]) (eC (.int 0))) (sRev 4) sNil
      [.v (.p 0), .v (.d (.lst (names.map .str))), .own (found.map fun r => .d (encRow r)), .v (.d (.int i)), .own (ms.map fun m => .d (encM m)), y5, y6, y7, y8] (Bx digs k2) =
      .ok (.nx [.v (.p 0), .v (.d (.lst (names.map .str))), .own (found.map fun r => .d (encRow r)), .v (.d (.int i)), .own (ms2.map fun m => .d (encM m)), y5, y6, y7, y8]) (Bx digs (k2 + 1)) := by
    by_cases hz : w = 0
    · rw [decide_eq_true hz] at hq
      refine ⟨ms.reverse, by simpa using hlen, ⟨rfl, 1 + v, by omega, by omega, .inr (by simpa using hms)⟩, ?_⟩
      rw [sIf_t hq]
      simp [sRev]
    · rw [decide_eq_false hz] at hq
      refine ⟨ms, hlen, ⟨rfl, 1 + v, by omega, by omega, .inl hms⟩, ?_⟩
      rw [sIf_f hq]
      exact sNil_ok
  rw [sq_nx h3]
  have ht : eTup [eIdx (eV 1) (eV 3), eBi tupleR [eB 4]] [.v (.p 0), .v (.d (.lst (names.map .str))), .own (found.map fun r => .d (encRow r)), .v (.d (.int i)), .own (ms2.map fun m => .d (encM m)), y5, y6, y7, y8] (Bx digs (k2 + 1)) = .ok (.d (encRow (nm, ms2))) (Bx digs (k2 + 1)) := by
    have e2 : eIdx (eV 1) (eV 3) [.v (.p 0), .v (.d (.lst (names.map .str))), .own (found.map fun r => .d (encRow r)), .v (.d (.int i)), .own (ms2.map fun m => .d (encM m)), y5, y6, y7, y8] (Bx digs (k2 + 1)) = .ok (.d (.str nm)) (Bx digs (k2 + 1)) := by
      simp [eIdx, eOp, eV, vw_d, lift, hnm]
    have e3 : eBi tupleR [eB 4] [.v (.p 0), .v (.d (.lst (names.map .str))), .own (found.map fun r => .d (encRow r)), .v (.d (.int i)), .own (ms2.map fun m => .d (encM m)), y5, y6, y7, y8] (Bx digs (k2 + 1)) = .ok (.d (encMs ms2)) (Bx digs (k2 + 1)) := by
      simp [eBi, evs_cons, evs_nil, eB, mkL_map, vw_d, lift, encMs]
    unfold eTup
    rw [evs_cons, e2, bind_ok, evs_cons, e3, bind_ok, evs_nil, bind_ok, bind_ok, bind_ok]
    simp [encRow]
  refine ⟨k2 + 1, (nm, ms2), .own (ms2.map fun m => .d (encM m)), y5, y6, y7, y8, hrow, ?_⟩
  rw [sApp_ok rfl ht (by simp; omega)]
  simp only [List.set_cons_succ, List.set_cons_zero]
  simp
theorem types_spec (n : Nat) (digs : List Int) (k : Nat) : ∃ (T : Ty) (k' : Nat), GoodT T ∧ callN P (n + 2) "_law_types" [.p 0] (Bx digs k) = .ok (.d (encT T)) (Bx digs k') := by
  rw [callN_run (d := f_law_types) rfl rfl]
  have hC := draws n
  generalize callN P (n + 1) = C at hC ⊢
  obtain ⟨v, hv, h1⟩ := hC digs k 3 (by omega)
  have hnms : (eLst [eC (.str "L"), eC (.str "T"), eC (.str "Nat")]) [.v (.p 0), .un, .un, .un, .un, .un, .un, .un, .un] (Bx digs k) = .ok (.d (.lst (nms.map .str))) (Bx digs k) := by
    simp [eLst, evs_cons, evs_nil, eC, nms]
  have hnames : eSlc (eLst [eC (.str "L"), eC (.str "T"), eC (.str "Nat")]) oN (oE (eOp addR (eC (.int 1)) (eCall C "_law_draw" [eV 0, eC (.int 3)]))) [.v (.p 0), .un, .un, .un, .un, .un, .un, .un, .un] (Bx digs k) = .ok (.d (.lst ((nms.take (1 + v)).map .str))) (Bx digs (k + 1)) := by
    have e1 : eOp addR (eC (.int 1)) (eCall C "_law_draw" [eV 0, eC (.int 3)]) [.v (.p 0), .un, .un, .un, .un, .un, .un, .un, .un] (Bx digs k) = .ok (.d (.int ((1 + v : Nat) : Int))) (Bx digs (k + 1)) := eOp_ok eC_ok (eDraw rfl h1) (by rw [vw_d, vw_d, addR_int]; rfl)
    unfold eSlc oN oE
    rw [hnms, bind_ok, bind_ok, e1, bind_ok]
    show lift (slcR (vw (Bx digs (k + 1)) (.d (.lst (nms.map .str)))) none (some ((1 + v : Nat) : Int))) (Bx digs (k + 1)) = _
    rw [vw_d, slcR_lst, cut_take, ← List.map_take]
    rfl
  have hnl : (nms.take (1 + v)).length = 1 + v := by simp [nms]; omega
  obtain ⟨ρ', μ', ⟨k2, T, y3, y4, y5, y6, y7, y8, rfl, rfl, hT1, hT2⟩, hl⟩ := forL_invM (t := tgN 3) (b := (sq (sOwn 4 (eLst []))
    (sq (sFor (tgN 5) (iRange1 (eOp addR (eC (.int 1)) (eCall C "_law_draw" [eV 0, eC (.int 3)]))) (sq (sAs (tgN 6) (eOp addR (eLst [eC (.str "Int")]) (eV 1))) (sq (sIf (tCmp eqR (eV 5) (eC (.int 0))) (sAs (tgN 6) (eOp addR (eLst [eC (.str "Int")]) (eSlc (eV 1) oN (oE (eV 3))))) sNil)
    (sq (sAs (tgN 7) (eComp [8] (tgN 8) (iRange1 (eOp mulR (eCall C "_law_draw" [eV 0, eC (.int 3)]) (eBi intR [eOr (eT (tCmp gtR (eV 5) (eC (.int 0)))) (eT (tCmp eqR (eCall C "_law_draw" [eV 0, eC (.int 3)]) (eC (.int 0))))]))) tYes
      (eIdx (eV 6) (eOp modR (eBi intR [eCall C "_law_draw" [eV 0, eC (.int 90)]]) (eBi lenR [eV 6])))))
      (sApp 4 (eTup [eOp addR (eIdx (eLst [eC (.str "A"), eC (.str "B"), eC (.str "C")]) (eV 5)) (eIdx (eV 1) (eV 3)), eBi tupleR [eV 7]]))))))
      (sq (sIf (tCmp eqR (eCall C "_law_draw" [eV 0, eC (.int 3)]) (eC (.int 0))) (sRev 4) sNil)
        (sApp 2 (eTup [eIdx (eV 1) (eV 3), eBi tupleR [eB 4]]))))))
    (fun i ρ μ => ∃ (k2 : Nat) (T : Ty) (y3 y4 y5 y6 y7 y8 : Sl), ρ = [.v (.p 0), .v (.d (.lst ((nms.take (1 + v)).map .str))), .own (T.map fun r => .d (encRow r)), y3, y4, y5, y6, y7, y8] ∧ μ = Bx digs k2 ∧ T.length = i ∧
      ∀ (j : Nat) (row : String × List Mk), T[j]? = some row → ∃ nm, nms[j]? = some nm ∧ RowOk (nms.take (1 + v)) nm row)
    (xs := rangeF 0 (1 + v)) (k := 0) (ρ := [.v (.p 0), .v (.d (.lst ((nms.take (1 + v)).map .str))), .own [], .un, .un, .un, .un, .un, .un]) (μ := Bx digs (k + 1)) ⟨k + 1, [], _, _, _, _, _, _, rfl, rfl, rfl, by simp⟩ (by
      rintro i x ρ μ hx ⟨k2, T, y3, y4, y5, y6, y7, y8, rfl, rfl, hT1, hT2⟩
      have hi : i < 1 + v := by
        have := (List.getElem?_eq_some_iff.mp hx).1
        simpa using this
      rw [getElem_rangeF _ _ _ hi] at hx
      cases hx
      rw [Int.zero_add]
      rw [Nat.zero_add] at hT1 ⊢
      refine ⟨_, by simp only [tgN]; rfl, ?_⟩
      simp only [List.set_cons_succ, List.set_cons_zero]
      have hi3 : i < nms.length := by simp [nms]; omega
      have hnm : (nms.take (1 + v))[i]? = some nms[i] := by rw [List.getElem?_take_of_lt hi]; simp [hi3]
      obtain ⟨k3, row, z4, z5, z6, z7, z8, hrow, ht⟩ := row_turn hC digs k2 (nms.take (1 + v)) (by omega) T (by omega) i nms[i] hnm (List.getElem_mem hi3) y4 y5 y6 y7 y8
      refine ⟨_, _, ⟨k3, T ++ [row], .v (.d (.int i)), z4, z5, z6, z7, z8, rfl, rfl, by simp [hT1], ?_⟩, ht⟩
      intro j r hj
      by_cases hlt : j < T.length
      · rw [List.getElem?_append_left hlt] at hj; exact hT2 j r hj
      · rw [List.getElem?_append_right (by omega)] at hj
        have hj0 : j - T.length = 0 := by
          by_cases h0 : j - T.length = 0
          · exact h0
          · rw [List.getElem?_eq_none (by simp; omega)] at hj; cases hj
        rw [hj0] at hj
        cases hj
        have : j = i := by omega
        subst this
        exact ⟨nms[j], by simp [hi3], hrow⟩)
  rw [Nat.zero_add, length_rangeF] at hT1
  refine ⟨T, k2, ⟨1 + v, by omega, by omega, hT1, hT2⟩, runB_rt (μ' := Bx digs k2) ?_ rfl⟩
  simp only [f_law_types, List.map_cons, List.map_nil, List.length_cons, List.length_nil, Nat.reduceAdd, Nat.reduceSub, List.replicate_succ, List.replicate_zero, List.cons_append, List.nil_append]
  rw [sq_as hnames]
  simp only [List.set_cons_succ, List.set_cons_zero]
  rw [sq_nx (sOwn_lst (ds := []) (μ' := Bx digs (k + 1)) (by simp [eLst, evs_nil]))]
  simp only [List.set_cons_succ, List.set_cons_zero, List.map_nil]
  have hit : iRange1 (eBi lenR [eV 1]) [.v (.p 0), .v (.d (.lst ((nms.take (1 + v)).map .str))), .own [], .un, .un, .un, .un, .un, .un] (Bx digs (k + 1)) = .ok (rangeF 0 (1 + v)) (Bx digs (k + 1)) :=
    iRange1_nat (n := 1 + v) (eBi1_ok (eV_at rfl) (by rw [vw_d, lenR_lst, List.length_map, hnl])) (by omega)
  rw [sq_nx (sFor_rt hit hl)]
  exact sRet_ok (by simp [eBi, evs_cons, evs_nil, eB, mkL_map, vw_d, lift, encT])
end K09
end

section
set_option maxHeartbeats 0
set_option linter.all false
set_option maxRecDepth 100000
namespace K09
open Ev
/-! ### what holds of the drawn types -/
theorem abc_nodup : ∀ cnt, cnt ≤ 3 → ∀ nm ∈ nms, ((abc.take cnt).map fun a => a ++ nm).Nodup := by decide
theorem abc_inj : ∀ a ∈ abc, ∀ b ∈ abc, ∀ n ∈ nms, ∀ m ∈ nms, a ++ n = b ++ m → n = m := by decide
theorem abc_short : ∀ a ∈ abc, ∀ n ∈ nms, (a ++ n).length ≤ 8 := by decide
theorem nms_inj {i j : Nat} {n : String} (h1 : nms[i]? = some n) (h2 : nms[j]? = some n) : i = j := by
  have hn : nms.Nodup := by decide
  exact (List.getElem?_inj (List.getElem?_eq_some_iff.mp h1).1 hn).mp (by rw [h1, h2])
theorem MkOk.len {names : List String} {nm : String} {ms : List Mk} {cnt : Nat} (h : MkOk names nm ms cnt) (hc : cnt ≤ 3) : ms.length = cnt := by
  have := congrArg List.length h.1
  simp [abc] at this; omega
section
variable {names : List String} {nm : String} {row : String × List Mk}
theorem RowOk.len (h : RowOk names nm row) : 1 ≤ row.2.length ∧ row.2.length ≤ 3 := by
  obtain ⟨_, cnt, h1, h2, h3 | h3⟩ := h
  · have := h3.len h2; omega
  · have := h3.len h2; simp at this; omega
theorem RowOk.nodup (h : RowOk names nm row) (hn : nm ∈ nms) : (row.2.map fun m => m.1).Nodup := by
  obtain ⟨_, cnt, h1, h2, h3 | h3⟩ := h
  · rw [h3.1]; exact abc_nodup cnt h2 nm hn
  · have := abc_nodup cnt h2 nm hn
    rw [← h3.1, List.map_reverse] at this
    exact (List.reverse_perm _).nodup_iff.mp this
theorem RowOk.mem (h : RowOk names nm row) {m : Mk} (hm : m ∈ row.2) : (∃ a ∈ abc, m.1 = a ++ nm) ∧ m.2.length ≤ 2 ∧ ∀ f ∈ m.2, f ∈ "Int" :: names := by
  have key : ∀ {ms : List Mk} {cnt : Nat}, MkOk names nm ms cnt → m ∈ ms → (∃ a ∈ abc, m.1 = a ++ nm) ∧ m.2.length ≤ 2 ∧ ∀ f ∈ m.2, f ∈ "Int" :: names := fun {ms cnt} hk hmm => by
    refine ⟨?_, hk.2.1 m hmm⟩
    have : m.1 ∈ ms.map fun m => m.1 := List.mem_map.mpr ⟨m, hmm, rfl⟩
    rw [hk.1] at this
    obtain ⟨a, ha, e⟩ := List.mem_map.mp this
    exact ⟨a, List.mem_of_mem_take ha, e.symm⟩
  obtain ⟨_, cnt, h1, h2, h3 | h3⟩ := h
  · exact key h3 hm
  · exact key h3 (by simpa using hm)
end
section
variable {T : Ty}
theorem makers_row (g : GoodT T) {name : String} {row : String × List Mk} (h : T.find? (fun r => r.1 == name) = some row) : row.1 = name ∧ ∃ i : Nat, T[i]? = some row ∧ nms[i]? = some name ∧ RowOk (nms.take T.length) name row := by
  obtain ⟨kk, h1, h2, h3, h4⟩ := g
  have e := List.find?_some h
  have e : row.1 = name := by simpa using e
  obtain ⟨i, hi, hr⟩ := List.mem_iff_getElem.mp (List.mem_of_find?_eq_some h)
  have hi2 : T[i]? = some row := by rw [List.getElem?_eq_getElem hi, hr]
  obtain ⟨nm, hn, hro⟩ := h4 i row hi2
  have : nm = name := hro.1.symm.trans e
  subst this
  rw [h3]
  exact ⟨e, i, hi2, hn, hro⟩
theorem makersOf_le (g : GoodT T) (name : String) : (makersOf T name).length ≤ 3 := by
  unfold makersOf
  cases h : T.find? (fun r => r.1 == name) with
  | none => simp
  | some row =>
    obtain ⟨_, i, _, _, hr⟩ := makers_row g h
    exact hr.len.2
theorem namesOf_nodup (g : GoodT T) (name : String) : (namesOf T name).Nodup := by
  unfold namesOf makersOf
  cases h : T.find? (fun r => r.1 == name) with
  | none => simp
  | some row =>
    obtain ⟨_, i, _, hn, hr⟩ := makers_row g h
    exact hr.nodup (List.mem_of_getElem? hn)
theorem makersOf_pos (g : GoodT T) {i : Nat} {name : String} (hi : i < T.length) (hn : nms[i]? = some name) : makersOf T name ≠ [] := by
  obtain ⟨kk, h1, h2, h3, h4⟩ := g
  have hi2 : T[i]? = some T[i] := by simp [hi]
  obtain ⟨nm, hn2, hro⟩ := h4 i T[i] hi2
  rw [hn] at hn2
  cases hn2
  unfold makersOf
  cases h : T.find? (fun r => r.1 == name) with
  | none =>
    have := List.find?_eq_none.mp h T[i] (List.getElem_mem hi)
    simp [hro.1] at this
  | some row =>
    obtain ⟨_, j, _, _, hr⟩ := makers_row ⟨kk, h1, h2, h3, h4⟩ h
    have := hr.len.1
    intro z
    have z : row.2 = [] := z
    rw [z] at this; simp at this
/-- the names that may be asked for: Int, and the drawn types -/
def TyNm (T : Ty) (name : String) : Prop := name = "Int" ∨ ∃ i : Nat, i < T.length ∧ nms[i]? = some name
theorem maker_fields (g : GoodT T) {name : String} {m : Mk} (hm : m ∈ makersOf T name) : fieldsOf T m.1 = m.2 ∧ m.2.length ≤ 2 ∧ (∀ f ∈ m.2, TyNm T f) ∧ m.1.length ≤ 8 := by
  unfold makersOf at hm
  cases h : T.find? (fun r => r.1 == name) with
  | none => rw [h] at hm; simp at hm
  | some row =>
    rw [h] at hm
    have hm : m ∈ row.2 := hm
    obtain ⟨e, i, hi, hn, hr⟩ := makers_row g h
    obtain ⟨⟨a, ha, ea⟩, hl, hf⟩ := hr.mem hm
    have hnm := List.mem_of_getElem? hn
    refine ⟨?_, hl, fun f hff => ?_, by rw [ea]; exact abc_short a ha name hnm⟩
    · unfold fieldsOf
      have uniq : ∀ r ∈ T, (r.2.find? (fun q => q.1 == m.1)).isSome = true → r = row := fun r hr2 hs => by
        obtain ⟨q, hq⟩ := Option.isSome_iff_exists.mp hs
        have hq1 : q.1 = m.1 := by simpa using List.find?_some hq
        have hq2 := List.mem_of_find?_eq_some hq
        obtain ⟨j, hj, hrj⟩ := List.mem_iff_getElem.mp hr2
        have hj2 : T[j]? = some r := by rw [List.getElem?_eq_getElem hj, hrj]
        obtain ⟨kk, h1, h2, h3, h4⟩ := g
        obtain ⟨nm, hn2, hro⟩ := h4 j r hj2
        obtain ⟨⟨b, hb, eb⟩, _, _⟩ := hro.mem hq2
        have : nm = name := abc_inj b hb a ha nm (List.mem_of_getElem? hn2) name hnm (by rw [← eb, ← ea, hq1])
        subst this
        have : j = i := nms_inj hn2 hn
        subst this
        rw [hj2] at hi; exact Option.some.inj hi
      have hsome : (row.2.find? (fun q => q.1 == m.1)).isSome = true := by
        rw [List.find?_isSome]
        exact ⟨m, hm, by simp⟩
      cases hf2 : T.find? (fun r => (r.2.find? (fun q : Mk => q.1 == m.1)).isSome) with
      | none =>
        have := List.find?_eq_none.mp hf2 row (List.mem_of_getElem? hi)
        rw [hsome] at this; simp at this
      | some r =>
        have hr3 := uniq r (List.mem_of_find?_eq_some hf2) (by simpa using List.find?_some hf2)
        subst hr3
        show (match r.2.find? (fun q => q.1 == m.1) with
          | some m => m.2
          | none => []) = m.2
        cases hq : r.2.find? (fun q => q.1 == m.1) with
        | none => rw [hq] at hsome; cases hsome
        | some q =>
          have hq1 : q.1 = m.1 := by simpa using List.find?_some hq
          have hq2 := List.mem_of_find?_eq_some hq
          have hnd := hr.nodup hnm
          have : q = m := by
            obtain ⟨x, hx, ex⟩ := List.mem_iff_getElem.mp hq2
            obtain ⟨y, hy, ey⟩ := List.mem_iff_getElem.mp hm
            have : x = y := (List.getElem?_inj (l := r.2.map fun m => m.1) (by simpa using hx) hnd).mp (by simp [hx, hy, ex, ey, hq1])
            subst this
            rw [← ex, ← ey]
          rw [this]
    · rcases List.mem_cons.mp (hf f hff) with z | z
      · exact .inl z
      · obtain ⟨j, hj, ej⟩ := List.mem_iff_getElem.mp z
        refine .inr ⟨j, by simp at hj; omega, ?_⟩
        have : (nms.take T.length)[j]? = some f := by rw [List.getElem?_eq_getElem hj, ej]
        rwa [List.getElem?_take_of_lt (by simp at hj; omega)] at this
theorem fieldsOf_le (g : GoodT T) (c : String) : (fieldsOf T c).length ≤ 2 := by
  unfold fieldsOf
  cases h : T.find? (fun r => (r.2.find? (fun q : Mk => q.1 == c)).isSome) with
  | none => simp
  | some r =>
    show (match r.2.find? (fun q : Mk => q.1 == c) with
      | some m => m.2
      | none => []).length ≤ 2
    cases hq : r.2.find? (fun q : Mk => q.1 == c) with
    | none => simp
    | some m =>
      obtain ⟨j, hj, hrj⟩ := List.mem_iff_getElem.mp (List.mem_of_find?_eq_some h)
      obtain ⟨kk, h1, h2, h3, h4⟩ := g
      obtain ⟨nm, hn2, hro⟩ := h4 j r (by rw [List.getElem?_eq_getElem hj, hrj])
      exact (hro.mem (List.mem_of_find?_eq_some hq)).2.1
end
end K09
end

section
set_option maxHeartbeats 0
set_option linter.all false
set_option maxRecDepth 100000
namespace K09
open Ev
/-! ### drawn regions -/
/-- a region of the type name, at most d deep; nt only where fl -/
def Wr (fl : Bool) (T : Ty) : Nat → String → Rg → Prop
  | _, _, .any => True
  | _, name, .rng a b => name = "Int" ∧ -99 ≤ a ∧ a ≤ 99 ∧ -99 ≤ b ∧ b ≤ 99 ∧ a ≤ b
  | _, name, .nt l => fl = true ∧ name ≠ "Int" ∧ l.Nodup ∧ (∀ x ∈ l, x ∈ namesOf T name) ∧ ∃ x ∈ namesOf T name, x ∉ l
  | 0, _, .mk _ _ => False
  | d + 1, name, .mk c ps => name ≠ "Int" ∧ ∃ fs, (c, fs) ∈ makersOf T name ∧ fs.length = ps.length ∧ ∀ (i : Nat) (f : String) (p : Rg), fs[i]? = some f → ps[i]? = some p → Wr fl T d f p
theorem Wr.any {fl : Bool} {T : Ty} {d : Nat} {name : String} : Wr fl T d name .any := by cases d <;> simp [Wr]
theorem ePickT {C : Fn} {ρ : Env} {digs : List Int} {k v : Nat} {i j : Nat} {pool : List D} (hb : ρ[i]? = some (.v (.p 0))) (hp : ρ[j]? = some (.v (.d (.tup pool)))) (h0 : 0 < pool.length) (h : C "_law_draw" [.p 0, .d (.int 90)] (Bx digs k) = .ok (.d (.int v)) (Bx digs (k + 1))) :
    ∃ (w : Nat) (d : D), w < pool.length ∧ pool[w]? = some d ∧ eIdx (eV j) (eOp modR (eBi intR [eCall C "_law_draw" [eV i, eC (.int 90)]]) (eBi lenR [eV j])) ρ (Bx digs k) = .ok (.d d) (Bx digs (k + 1)) := by
  have hw : v % pool.length < pool.length := Nat.mod_lt _ h0
  refine ⟨v % pool.length, pool[v % pool.length], hw, by simp [hw], ?_⟩
  unfold eIdx
  have e1 : eBi intR [eCall C "_law_draw" [eV i, eC (.int 90)]] ρ (Bx digs k) = .ok (.d (.int v)) (Bx digs (k + 1)) := eBi1_ok (eDraw hb h) rfl
  have e2 : eBi lenR [eV j] ρ (Bx digs (k + 1)) = .ok (.d (.int pool.length)) (Bx digs (k + 1)) := eBi1_ok (eV_at hp) rfl
  have e3 := eOp_ok (f := modR) e1 e2 (z := .d (.int ((v : Int) % (pool.length : Int)))) (modR_ok (by omega))
  refine eOp_ok (eV_at hp) e3 ?_
  rw [vw_d, vw_d, idxR_tup, show ((v : Int) % (pool.length : Int)) = ((v % pool.length : Nat) : Int) by omega, atI_cast]
  simp [hw]
theorem tCmp_eqi {a b : E} {ρ : Env} {μ μ1 μ2 : Mem} {x y : Nat} (ha : a ρ μ = .ok (.d (.int x)) μ1) (hb : b ρ μ1 = .ok (.d (.int y)) μ2) : tCmp eqR a b ρ μ = .ok (decide (x = y)) μ2 :=
  tCmp_ok ha hb (by
    rw [vw_d, vw_d, eqR_d, eqD_left (by simp [D.dep]), eqv_int]
    by_cases hz : x = y
    · simp [hz]
    · simp [hz]; omega)
theorem tCmp_eqs {a b : E} {ρ : Env} {μ μ1 μ2 : Mem} {x y : String} (ha : a ρ μ = .ok (.d (.str x)) μ1) (hb : b ρ μ1 = .ok (.d (.str y)) μ2) : tCmp eqR a b ρ μ = .ok (decide (x = y)) μ2 :=
  tCmp_ok ha hb (by
    rw [vw_d, vw_d, eqR_d, eqD_left (by simp [D.dep]), eqv_str]
    by_cases hz : x = y
    · simp [hz]
    · simp [hz])
theorem tOr_ok {a b : T} {ρ : Env} {μ μ1 μ2 : Mem} {x y : Bool} (ha : a ρ μ = .ok x μ1) (hb : x = false → b ρ μ1 = .ok y μ2) (hx : x = true → y = true ∧ μ2 = μ1) : tOr a b ρ μ = .ok (x || y) μ2 := by
  unfold tOr
  rw [ha, bind_ok]
  cases x with
  | true => obtain ⟨h1, h2⟩ := hx rfl; subst h1 h2; rfl
  | false => simpa using hb rfl
/-- the parts, each drawn -/
theorem parts_draw {C : Fn} {T : Ty} {fl : Bool} {d : Nat} {f : String} {elt : E} {slot : Nat} {ρ ρw : Env} {digs : List Int} {k : Nat} {it : It} (fs : List String) (hit : it ρ (Bx digs k) = .ok (fs.map fun x => .d (.str x)) (Bx digs k)) (hw : wipeE ρ [slot] = ρw) (hfs : fs.length ≤ 1000)
    (hel : ∀ (x : String) (k : Nat), x ∈ fs → ∃ (r : Rg) (k' : Nat), Wr fl T d x r ∧ elt (ρw.set slot (.v (.d (.str x)))) (Bx digs k) = .ok (.d (enc r)) (Bx digs k')) :
    ∃ (rs : List Rg) (k' : Nat), rs.length = fs.length ∧ (∀ (i : Nat) (g : String) (p : Rg), fs[i]? = some g → rs[i]? = some p → Wr fl T d g p) ∧ eComp [slot] (tgN slot) it tYes elt ρ (Bx digs k) = .ok (.d (.lst (encL rs))) (Bx digs k') := by
  obtain ⟨ys, μ', ⟨k2, rs, rfl, e2, e3, e4⟩, h3⟩ := compL_invM (t := tgN slot) (c := tYes) (e := elt) (ρ := ρw)
    (fun i acc μ => ∃ (k2 : Nat) (rs : List Rg), μ = Bx digs k2 ∧ acc = rs.map (fun r => .d (enc r)) ∧ rs.length = i ∧ ∀ (j : Nat) (g : String) (p : Rg), fs[j]? = some g → rs[j]? = some p → Wr fl T d g p)
    (xs := fs.map fun x => .d (.str x)) (k := 0) (acc := []) (μ := Bx digs k) ⟨k, [], rfl, rfl, rfl, by simp⟩ (by
      rintro i x acc μ hx ⟨k2, rs, rfl, rfl, hl, hf⟩
      rw [List.getElem?_map] at hx
      obtain ⟨g, hg, hx⟩ := Option.map_eq_some_iff.mp hx
      subst hx
      obtain ⟨r, k3, h1, h2⟩ := hel g k2 (List.mem_of_getElem? hg)
      refine ⟨_, by simp only [tgN], .inl ⟨Bx digs k2, .d (enc r), Bx digs k3, by simp [tYes], h2, k3, rs ++ [r], rfl, by simp, by simp [hl], ?_⟩⟩
      intro j g' p hj hp
      by_cases hlt : j < rs.length
      · rw [List.getElem?_append_left hlt] at hp; exact hf j g' p hj hp
      · rw [List.getElem?_append_right (by omega)] at hp
        have hj0 : j - rs.length = 0 := by
          by_cases h0 : j - rs.length = 0
          · exact h0
          · rw [List.getElem?_eq_none (by simp; omega)] at hp; cases hp
        rw [hj0] at hp
        cases hp
        have : j = i := by omega
        subst this
        rw [hg] at hj; cases hj
        exact h1)
  rw [List.nil_append] at e2
  subst e2
  rw [Nat.zero_add, List.length_map] at e3
  refine ⟨rs, k2, e3, e4, ?_⟩
  rw [eComp_ok hit (by rw [hw]; exact h3) (by simp; omega), mkL_map, encL_map]
/-- low, low + more: a range -/
theorem rng_tup {C : Fn} {ρ : Env} {digs : List Int} {k : Nat} {a b : Int} {i : Nat} {e : E} (h1 : eV i ρ (Bx digs k) = .ok (.d (.int a)) (Bx digs k)) (h2 : eOp addR (eV i) e ρ (Bx digs k) = .ok (.d (.int b)) (Bx digs (k + 1))) :
    eTup [eC (.str "range"), eV i, eOp addR (eV i) e] ρ (Bx digs k) = .ok (.d (enc (.rng a b))) (Bx digs (k + 1)) := by
  unfold eTup
  rw [evs_cons, eC_ok, bind_ok, evs_cons, h1, bind_ok, evs_cons, h2, bind_ok, evs_nil, bind_ok, bind_ok, bind_ok, bind_ok]
  simp [enc]
theorem mk_tup {ρ : Env} {μ μ' : Mem} {c : String} {rs : List Rg} {i : Nat} {e : E} (h1 : eV i ρ μ = .ok (.d (.str c)) μ) (h2 : e ρ μ = .ok (.d (.lst (encL rs))) μ') : eTup [eC (.str "make"), eV i, eBi tupleR [e]] ρ μ = .ok (.d (enc (.mk c rs))) μ' := by
  unfold eTup
  rw [evs_cons, eC_ok, bind_ok, evs_cons, h1, bind_ok, evs_cons, eBi1_ok (z := .d (.tup (encL rs))) h2 (by rw [vw_d, tupleR_lst]), bind_ok, evs_nil, bind_ok, bind_ok, bind_ok, bind_ok]
  simp [enc]
theorem simple_spec {T : Ty} (g : GoodT T) : ∀ (d n : Nat) (digs : List Int) (k : Nat) (name : String), TyNm T name → d + 2 ≤ n → ∃ (r : Rg) (k' : Nat), Wr false T d name r ∧ callN P n "_law_plain_simple" [.p 0, .d (encT T), .d (.str name), .d (.int d)] (Bx digs k) = .ok (.d (enc r)) (Bx digs k')
  | d, 0, _, _, _, _, h => by omega
  | d, 1, _, _, _, _, h => by omega
  | d, n + 2, digs, k, name, hty, hn => by
    have hrec : ∀ d', d = d' + 1 → ∀ (x : String) (k : Nat), TyNm T x → ∃ (r : Rg) (k' : Nat), Wr false T d' x r ∧ callN P (n + 1) "_law_plain_simple" [.p 0, .d (encT T), .d (.str x), .d (.int d')] (Bx digs k) = .ok (.d (enc r)) (Bx digs k') :=
      fun d' e x k hx => simple_spec g d' (n + 1) digs k x hx (by omega)
    rw [callN_run (d := f_law_plain_simple) rfl rfl]
    have hC := draws n
    have hmk := makers_spec n T name
    generalize callN P (n + 1) = C at hC hrec hmk ⊢
    -- the first test
    obtain ⟨b, k1, ht, hb⟩ : ∃ (b : Bool) (k1 : Nat), tOr (tCmp eqR (eV 3) (eC (.int 0))) (tCmp eqR (eCall C "_law_draw" [eV 0, eC (.int 3)]) (eC (.int 0))) [.v (.p 0), .v (.d (encT T)), .v (.d (.str name)), .v (.d (.int d)), .un, .un, .un, .un, .un] (Bx digs k) = .ok b (Bx digs k1) ∧ (b = false → d ≠ 0) := by
      have h0 : tCmp eqR (eV 3) (eC (.int 0)) [.v (.p 0), .v (.d (encT T)), .v (.d (.str name)), .v (.d (.int d)), .un, .un, .un, .un, .un] (Bx digs k) = .ok (decide (d = 0)) (Bx digs k) := tCmp_eqi (y := 0) (eV_at rfl) eC_ok
      by_cases hd : d = 0
      · rw [decide_eq_true hd] at h0
        exact ⟨true, k, by unfold tOr; rw [h0]; rfl, by simp⟩
      · rw [decide_eq_false hd] at h0
        obtain ⟨v, hv, h1⟩ := hC digs k 3 (by omega)
        refine ⟨decide (v = 0), k + 1, ?_, fun _ => hd⟩
        unfold tOr
        rw [h0, bind_ok]
        exact tCmp_eqi (y := 0) (eDraw rfl h1) eC_ok
    cases b with
    | true =>
      refine ⟨.any, k1, Wr.any, runB_rt ?_ rfl⟩
      simp only [f_law_plain_simple, List.map_cons, List.map_nil, List.length_cons, List.length_nil, Nat.reduceAdd, Nat.reduceSub, List.replicate_succ, List.replicate_zero, List.cons_append, List.nil_append]
      refine sq_rt ?_
      rw [sIf_t ht]
      exact sRet_ok (by simp [eTup, evs_cons, evs_nil, eC, enc])
    | false =>
      have hd := hb rfl
      obtain ⟨d', rfl⟩ : ∃ d', d = d' + 1 := ⟨d - 1, by omega⟩
      have hi : tCmp eqR (eV 2) (eC (.str "Int")) [.v (.p 0), .v (.d (encT T)), .v (.d (.str name)), .v (.d (.int ((d' + 1 : Nat) : Int))), .un, .un, .un, .un, .un] (Bx digs k1) = .ok (decide (name = "Int")) (Bx digs k1) := tCmp_eqs (eV_at rfl) eC_ok
      by_cases hint : name = "Int"
      · rw [decide_eq_true hint] at hi
        obtain ⟨v, hv, h1⟩ := hC digs k1 9 (by omega)
        obtain ⟨w, hw, h2⟩ := hC digs (k1 + 1) 4 (by omega)
        replace h1 : C "_law_draw" [.p 0, .d (.int 9)] (Bx digs k1) = .ok (.d (.int v)) (Bx digs (k1 + 1)) := h1
        replace h2 : C "_law_draw" [.p 0, .d (.int 4)] (Bx digs (k1 + 1)) = .ok (.d (.int w)) (Bx digs (k1 + 1 + 1)) := h2
        refine ⟨.rng ((v : Int) - 5) ((v : Int) - 5 + w), k1 + 1 + 1, by simp only [Wr]; exact ⟨hint, by omega, by omega, by omega, by omega, by omega⟩, runB_rt ?_ rfl⟩
        simp only [f_law_plain_simple, List.map_cons, List.map_nil, List.length_cons, List.length_nil, Nat.reduceAdd, Nat.reduceSub, List.replicate_succ, List.replicate_zero, List.cons_append, List.nil_append]
        rw [sq_if_f ht]
        refine sq_rt ?_
        rw [sIf_t hi]
        rw [sq_as (eOp_ok (z := .d (.int ((v : Int) - 5))) (eDraw rfl h1) eC_ok rfl)]
        simp only [List.set_cons_succ, List.set_cons_zero]
        exact sRet_ok (rng_tup (C := C) (eV_at rfl) (eOp_ok (eV_at rfl) (eDraw rfl h2) rfl))
      · rw [decide_eq_false hint] at hi
        have hpos : makersOf T name ≠ [] := by
          rcases hty with h | ⟨i, h1, h2⟩
          · exact absurd h hint
          · exact makersOf_pos g h1 h2
        have hm1 : eCall C "_law_makers" [eV 1, eV 2] [.v (.p 0), .v (.d (encT T)), .v (.d (.str name)), .v (.d (.int ((d' + 1 : Nat) : Int))), .un, .un, .un, .un, .un] (Bx digs k1) = .ok (.d (encMs (makersOf T name))) (Bx digs k1) := by simp [eCall, evs_cons, evs_nil, eV, hmk]
        obtain ⟨v, hv, h1⟩ := hC digs k1 90 (by omega)
        obtain ⟨w, q, hw, hq, hpick⟩ := ePickT (C := C) (ρ := [.v (.p 0), .v (.d (encT T)), .v (.d (.str name)), .v (.d (.int ((d' + 1 : Nat) : Int))), .un, .v (.d (encMs (makersOf T name))), .un, .un, .un]) (i := 0) (j := 5) (pool := (makersOf T name).map encM) rfl rfl (by simpa using List.length_pos_iff.mpr hpos) h1
        rw [List.getElem?_map] at hq
        obtain ⟨m, hm, hqm⟩ := Option.map_eq_some_iff.mp hq
        subst hqm
        have hmem := List.mem_of_getElem? hm
        obtain ⟨mf1, mf2, mf3, mf4⟩ := maker_fields g hmem
        obtain ⟨rs, k2, r1, r2, r3⟩ := parts_draw (C := C) (T := T) (fl := false) (d := d') (f := name) (elt := eCall C "_law_plain_simple" [eV 0, eV 1, eV 8, eOp subR (eV 3) (eC (.int 1))]) (slot := 8)
          (ρ := [.v (.p 0), .v (.d (encT T)), .v (.d (.str name)), .v (.d (.int ((d' + 1 : Nat) : Int))), .un, .v (.d (encMs (makersOf T name))), .v (.d (.str m.1)), .v (.d (encF m.2)), .un]) (digs := digs) (k := k1 + 1) (it := iE (eV 7)) m.2
          (by rw [iE_tup (μ' := Bx digs (k1 + 1)) (ds := m.2.map .str) (eV_at rfl), List.map_map]; rfl) rfl (by omega) (by
            intro x k hx
            obtain ⟨r, k', e1, e2⟩ := hrec d' rfl x k (mf3 x hx)
            refine ⟨r, k', e1, ?_⟩
            have hsub : eOp subR (eV 3) (eC (.int 1)) [.v (.p 0), .v (.d (encT T)), .v (.d (.str name)), .v (.d (.int ((d' + 1 : Nat) : Int))), .un, .v (.d (encMs (makersOf T name))), .v (.d (.str m.1)), .v (.d (encF m.2)), .v (.d (.str x))] (Bx digs k) = .ok (.d (.int d')) (Bx digs k) :=
              eOp_ok (eV_at rfl) eC_ok (by rw [vw_d, vw_d, subR_int]; congr 3; omega)
            simp only [wipeE, List.set_cons_succ, List.set_cons_zero]
            unfold eCall
            rw [evs_cons, eV_at rfl, bind_ok, evs_cons, eV_at rfl, bind_ok, evs_cons, eV_at rfl, bind_ok, evs_cons, hsub, bind_ok, evs_nil, bind_ok, bind_ok, bind_ok, bind_ok, bind_ok]
            exact e2)
        refine ⟨.mk m.1 rs, k2, ?_, runB_rt ?_ rfl⟩
        · simp only [Wr]
          exact ⟨hint, m.2, hmem, r1.symm, r2⟩
        · simp only [f_law_plain_simple, List.map_cons, List.map_nil, List.length_cons, List.length_nil, Nat.reduceAdd, Nat.reduceSub, List.replicate_succ, List.replicate_zero, List.cons_append, List.nil_append]
          rw [sq_if_f ht, sq_if_f hi, sq_as hm1]
          simp only [List.set_cons_succ, List.set_cons_zero]
          rw [sq_nx (sAs_gen hpick (by simp only [tgT, encM, tgs, tgN, List.map_cons, List.map_nil, Option.bind_some]; rfl))]
          simp only [List.set_cons_succ, List.set_cons_zero]
          exact sRet_ok (mk_tup (eV_at rfl) r3)
end K09
end

section
set_option maxHeartbeats 0
set_option linter.all false
set_option maxRecDepth 100000
namespace K09
open Ev
theorem tAnd_ok {a b : T} {ρ : Env} {μ μ1 : Mem} {x y : Bool} (ha : a ρ μ = .ok x μ1) (hb : b ρ μ1 = .ok y μ1) : tAnd a b ρ μ = .ok (x && y) μ1 := by
  unfold tAnd
  rw [ha, bind_ok]
  cases x with
  | true => simpa using hb
  | false => rfl
theorem tOr_pure {a b : T} {ρ : Env} {μ μ1 : Mem} {x y : Bool} (ha : a ρ μ = .ok x μ1) (hb : b ρ μ1 = .ok y μ1) : tOr a b ρ μ = .ok (x || y) μ1 := by
  unfold tOr
  rw [ha, bind_ok]
  cases x with
  | true => rfl
  | false => simpa using hb
theorem tCh_ok {f g : R → R → Option Bool} {a b c : E} {ρ : Env} {μ : Mem} {x y z : R} {k k2 : Bool} (ha : a ρ μ = .ok x μ) (hb : b ρ μ = .ok y μ) (hc : c ρ μ = .ok z μ) (hf : f (vw μ x) (vw μ y) = some k) (hg : g (vw μ y) (vw μ z) = some k2) : tCh f g a b c ρ μ = .ok (k && k2) μ := by
  unfold tCh
  rw [ha, bind_ok, hb, bind_ok, hf]
  cases k with
  | true => simp [lift, hc, hg]
  | false => rfl
/-- makers, some of them by draw -/
theorem left_draw {C : Fn} (hC : Draws C) {ρ ρw : Env} {digs : List Int} {k : Nat} {it : It} (ms : List (String × List String)) (hit : it ρ (Bx digs k) = .ok ((ms.map encM).map .d) (Bx digs k)) (hw : wipeE ρ [8, 9] = ρw) (hb : ρ[0]? = some (.v (.p 0))) (hlen : ρw.length = 11) (hb0 : ρw[0]? = some (.v (.p 0))) (hms : ms.length ≤ 1000) :
    ∃ (l : List String) (k' : Nat), l.Sublist (ms.map (·.1)) ∧ eComp [8, 9] (tgT [(tgN 8), (tgN 9)]) it (tCmp eqR (eCall C "_law_draw" [(eV 0), (eC (.int 2))]) (eC (.int 0))) (eV 8) ρ (Bx digs k) = .ok (.d (.lst (l.map .str))) (Bx digs k') := by
  obtain ⟨ys, μ', ⟨k2, l, rfl, e2, e3⟩, h3⟩ := compL_invM (t := tgT [(tgN 8), (tgN 9)]) (c := tCmp eqR (eCall C "_law_draw" [(eV 0), (eC (.int 2))]) (eC (.int 0))) (e := eV 8) (ρ := ρw)
    (fun i acc μ => ∃ (k2 : Nat) (l : List String), μ = Bx digs k2 ∧ acc = l.map (fun r => .d (.str r)) ∧ l.Sublist ((ms.take i).map (·.1)))
    (xs := (ms.map encM).map .d) (k := 0) (acc := []) (μ := Bx digs k) ⟨k, [], rfl, rfl, by simp⟩ (by
      rintro i x acc μ hx ⟨k2, l, rfl, rfl, hl⟩
      rw [List.getElem?_map, List.getElem?_map] at hx
      obtain ⟨g, hg, hx⟩ := Option.map_eq_some_iff.mp hx
      subst hx
      obtain ⟨m, hm, hg⟩ := Option.map_eq_some_iff.mp hg
      subst hg
      obtain ⟨v, hv, h1⟩ := hC digs k2 2 (by omega)
      have ht : (ms.take (0 + i + 1)).map (·.1) = (ms.take (0 + i)).map (·.1) ++ [m.1] := by
        rw [Nat.zero_add, List.take_add_one, hm]; simp
      refine ⟨(ρw.set 8 (.v (.d (.str m.1)))).set 9 (.v (.d (encF m.2))), by simp only [tgT, encM, tgs, tgN, List.map_cons, List.map_nil, Option.bind_some], ?_⟩
      have hc : tCmp eqR (eCall C "_law_draw" [(eV 0), (eC (.int 2))]) (eC (.int 0)) ((ρw.set 8 (.v (.d (.str m.1)))).set 9 (.v (.d (encF m.2)))) (Bx digs k2) = .ok (decide (v = 0)) (Bx digs (k2 + 1)) := tCmp_eqi (y := 0) (eDraw (by simp [hb0]) h1) eC_ok
      by_cases hv0 : v = 0
      · rw [decide_eq_true hv0] at hc
        exact .inl ⟨_, _, _, hc, eV_at (r := .d (.str m.1)) (by simp [hlen]), k2 + 1, l ++ [m.1], rfl, by simp, by rw [ht]; exact List.Sublist.append hl (List.Sublist.refl _)⟩
      · rw [decide_eq_false hv0] at hc
        exact .inr ⟨_, hc, k2 + 1, l, rfl, rfl, by rw [ht]; exact hl.trans (List.sublist_append_left _ _)⟩)
  rw [List.nil_append] at e2
  subst e2
  rw [Nat.zero_add, List.length_map, List.length_map, List.take_length] at e3
  refine ⟨l, k2, e3, ?_⟩
  have := e3.length_le
  rw [List.length_map] at this
  rw [eComp_ok hit (by rw [hw]; exact h3) (by simp; omega), mkL_map]
abbrev rgE (T : Ty) (name : String) (d : Nat) (kd : Nat) (x6 x7 x8 x9 : Sl) : Env := [.v (.p 0), .v (.d (encT T)), .v (.d (.str name)), .v (.d (.int d)), .v (.d (.int kd)), .un, x6, x7, x8, x9, .un]
/-- the last step: a maker, its parts drawn -/
theorem region_make {C : Fn} {T : Ty} (g : GoodT T) (hC : Draws C) {d' : Nat} {name : String} {kd : Nat} {x7 : Sl} {digs : List Int} {k1 : Nat}
    (hne : name ≠ "Int") (hpos : makersOf T name ≠ [])
    (hrec : ∀ (x : String) (k : Nat), TyNm T x → ∃ (r : Rg) (k' : Nat), Wr true T d' x r ∧ C "_law_region" [.p 0, .d (encT T), .d (.str x), .d (.int d')] (Bx digs k) = .ok (.d (enc r)) (Bx digs k')) :
    ∃ (r : Rg) (k' : Nat), Wr true T (d' + 1) name r ∧
      sq (sAs (tgT [(tgN 8), (tgN 9)]) (eIdx (eV 6) (eOp modR (eBi intR [(eCall C "_law_draw" [(eV 0), (eC (.int 90))])]) (eBi lenR [(eV 6)]))))
        (sRet (eTup [(eC (.str "make")), (eV 8), (eBi tupleR [(eComp [10] (tgN 10) (iE (eV 9)) tYes (eCall C "_law_region" [(eV 0), (eV 1), (eV 10), (eOp subR (eV 3) (eC (.int 1)))]))])]))
        (rgE T name (d' + 1) kd (.v (.d (encMs (makersOf T name)))) x7 .un .un) (Bx digs k1) = .ok (.rt (.d (enc r))) (Bx digs k') := by
  obtain ⟨v, hv, h1⟩ := hC digs k1 90 (by omega)
  obtain ⟨w, q, hw, hq, hpick⟩ := ePickT (C := C) (ρ := rgE T name (d' + 1) kd (.v (.d (encMs (makersOf T name)))) x7 .un .un) (i := 0) (j := 6) (pool := (makersOf T name).map encM) rfl rfl (by simpa using List.length_pos_iff.mpr hpos) h1
  rw [List.getElem?_map] at hq
  obtain ⟨m, hm, hqm⟩ := Option.map_eq_some_iff.mp hq
  subst hqm
  have hmem := List.mem_of_getElem? hm
  obtain ⟨mf1, mf2, mf3, mf4⟩ := maker_fields g hmem
  obtain ⟨rs, k2, r1, r2, r3⟩ := parts_draw (C := C) (T := T) (fl := true) (d := d') (f := name) (elt := eCall C "_law_region" [eV 0, eV 1, eV 10, eOp subR (eV 3) (eC (.int 1))]) (slot := 10)
    (ρ := rgE T name (d' + 1) kd (.v (.d (encMs (makersOf T name)))) x7 (.v (.d (.str m.1))) (.v (.d (encF m.2)))) (digs := digs) (k := k1 + 1) (it := iE (eV 9)) m.2
    (by rw [iE_tup (μ' := Bx digs (k1 + 1)) (ds := m.2.map .str) (eV_at rfl), List.map_map]; rfl) rfl (by omega) (by
      intro x k hx
      obtain ⟨r, k', e1, e2⟩ := hrec x k (mf3 x hx)
      refine ⟨r, k', e1, ?_⟩
      have hsub : eOp subR (eV 3) (eC (.int 1)) [.v (.p 0), .v (.d (encT T)), .v (.d (.str name)), .v (.d (.int ((d' + 1 : Nat) : Int))), .v (.d (.int kd)), .un, .v (.d (encMs (makersOf T name))), x7, .v (.d (.str m.1)), .v (.d (encF m.2)), .v (.d (.str x))] (Bx digs k) = .ok (.d (.int d')) (Bx digs k) :=
        eOp_ok (eV_at rfl) eC_ok (by rw [vw_d, vw_d, subR_int]; congr 3; omega)
      simp only [wipeE, rgE, List.set_cons_succ, List.set_cons_zero]
      unfold eCall
      rw [evs_cons, eV_at rfl, bind_ok, evs_cons, eV_at rfl, bind_ok, evs_cons, eV_at rfl, bind_ok, evs_cons, hsub, bind_ok, evs_nil, bind_ok, bind_ok, bind_ok, bind_ok, bind_ok]
      exact e2)
  refine ⟨.mk m.1 rs, k2, ?_, ?_⟩
  · simp only [Wr]
    exact ⟨hne, m.2, hmem, r1.symm, r2⟩
  · rw [sq_nx (sAs_gen hpick (by simp only [rgE, tgT, encM, tgs, tgN, List.map_cons, List.map_nil, Option.bind_some]; rfl))]
    simp only [rgE, List.set_cons_succ, List.set_cons_zero]
    exact sRet_ok (mk_tup (eV_at rfl) r3)
theorem region_spec {T : Ty} (g : GoodT T) : ∀ (d n : Nat) (digs : List Int) (k : Nat) (name : String), TyNm T name → d + 2 ≤ n → ∃ (r : Rg) (k' : Nat), Wr true T d name r ∧ callN P n "_law_region" [.p 0, .d (encT T), .d (.str name), .d (.int d)] (Bx digs k) = .ok (.d (enc r)) (Bx digs k')
  | d, 0, _, _, _, _, h => by omega
  | d, 1, _, _, _, _, h => by omega
  | d, n + 2, digs, k, name, hty, hn => by
    have hrec : ∀ d', d = d' + 1 → ∀ (x : String) (k : Nat), TyNm T x → ∃ (r : Rg) (k' : Nat), Wr true T d' x r ∧ callN P (n + 1) "_law_region" [.p 0, .d (encT T), .d (.str x), .d (.int d')] (Bx digs k) = .ok (.d (enc r)) (Bx digs k') :=
      fun d' e x k hx => region_spec g d' (n + 1) digs k x hx (by omega)
    rw [callN_run (d := f_law_region) rfl rfl]
    have hC := draws n
    have hmk := makers_spec n T name
    generalize callN P (n + 1) = C at hC hrec hmk ⊢
    obtain ⟨kd, hkd, h0⟩ := hC digs k 4 (by omega)
    replace h0 : C "_law_draw" [.p 0, .d (.int 4)] (Bx digs k) = .ok (.d (.int kd)) (Bx digs (k + 1)) := h0
    -- the first test
    have ht : tOr (tCmp eqR (eV 4) (eC (.int 0))) (tCmp eqR (eV 3) (eC (.int 0))) (rgE T name d kd .un .un .un .un) (Bx digs (k + 1)) = .ok (decide (kd = 0) || decide (d = 0)) (Bx digs (k + 1)) :=
      tOr_pure (tCmp_eqi (y := 0) (eV_at rfl) eC_ok) (tCmp_eqi (y := 0) (eV_at rfl) eC_ok)
    have hk : sAs (tgN 4) (eCall C "_law_draw" [(eV 0), (eC (.int 4))]) [.v (.p 0), .v (.d (encT T)), .v (.d (.str name)), .v (.d (.int d)), .un, .un, .un, .un, .un, .un, .un] (Bx digs k) = .ok (.nx (rgE T name d kd .un .un .un .un)) (Bx digs (k + 1)) := sAs_ok (eDraw rfl h0)
    by_cases hz : kd = 0 ∨ d = 0
    · rw [show (decide (kd = 0) || decide (d = 0)) = true by simpa using hz] at ht
      refine ⟨.any, k + 1, Wr.any, runB_rt ?_ rfl⟩
      simp only [f_law_region, List.map_cons, List.map_nil, List.length_cons, List.length_nil, Nat.reduceAdd, Nat.reduceSub, List.replicate_succ, List.replicate_zero, List.cons_append, List.nil_append]
      rw [sq_nx hk]
      refine sq_rt ?_
      rw [sIf_t ht]
      exact sRet_ok (by simp [eTup, evs_cons, evs_nil, eC, enc])
    · rw [show (decide (kd = 0) || decide (d = 0)) = false by simpa using hz] at ht
      obtain ⟨d', rfl⟩ : ∃ d', d = d' + 1 := ⟨d - 1, by omega⟩
      have hi : tCmp eqR (eV 2) (eC (.str "Int")) (rgE T name (d' + 1) kd .un .un .un .un) (Bx digs (k + 1)) = .ok (decide (name = "Int")) (Bx digs (k + 1)) := tCmp_eqs (eV_at rfl) eC_ok
      by_cases hint : name = "Int"
      · rw [decide_eq_true hint] at hi
        obtain ⟨v, hv, h1⟩ := hC digs (k + 1) 9 (by omega)
        obtain ⟨w, hw, h2⟩ := hC digs (k + 1 + 1) 7 (by omega)
        replace h1 : C "_law_draw" [.p 0, .d (.int 9)] (Bx digs (k + 1)) = .ok (.d (.int v)) (Bx digs (k + 1 + 1)) := h1
        replace h2 : C "_law_draw" [.p 0, .d (.int 7)] (Bx digs (k + 1 + 1)) = .ok (.d (.int w)) (Bx digs (k + 1 + 1 + 1)) := h2
        refine ⟨.rng ((v : Int) - 5) ((v : Int) - 5 + w), k + 1 + 1 + 1, by simp only [Wr]; exact ⟨hint, by omega, by omega, by omega, by omega, by omega⟩, runB_rt ?_ rfl⟩
        simp only [f_law_region, List.map_cons, List.map_nil, List.length_cons, List.length_nil, Nat.reduceAdd, Nat.reduceSub, List.replicate_succ, List.replicate_zero, List.cons_append, List.nil_append]
        rw [sq_nx hk, sq_if_f ht]
        refine sq_rt ?_
        rw [sIf_t hi]
        rw [sq_as (eOp_ok (z := .d (.int ((v : Int) - 5))) (eDraw rfl h1) eC_ok rfl)]
        simp only [rgE, List.set_cons_succ, List.set_cons_zero]
        exact sRet_ok (rng_tup (C := C) (eV_at rfl) (eOp_ok (eV_at rfl) (eDraw rfl h2) rfl))
      · rw [decide_eq_false hint] at hi
        have hpos : makersOf T name ≠ [] := by
          rcases hty with h | ⟨i, h1, h2⟩
          · exact absurd h hint
          · exact makersOf_pos g h1 h2
        have hm3 := makersOf_le g name
        have hm1 : eCall C "_law_makers" [eV 1, eV 2] (rgE T name (d' + 1) kd .un .un .un .un) (Bx digs (k + 1)) = .ok (.d (encMs (makersOf T name))) (Bx digs (k + 1)) := by simp [rgE, eCall, evs_cons, evs_nil, eV, hmk]
        have hs : sAs (tgN 6) (eCall C "_law_makers" [eV 1, eV 2]) (rgE T name (d' + 1) kd .un .un .un .un) (Bx digs (k + 1)) = .ok (.nx (rgE T name (d' + 1) kd (.v (.d (encMs (makersOf T name)))) .un .un .un)) (Bx digs (k + 1)) := sAs_ok hm1
        have hlen : eBi lenR [eV 6] (rgE T name (d' + 1) kd (.v (.d (encMs (makersOf T name)))) .un .un .un) (Bx digs (k + 1)) = .ok (.d (.int (makersOf T name).length)) (Bx digs (k + 1)) :=
          eBi1_ok (eV_at rfl) (by rw [vw_d]; simp [encMs])
        have ht2 : tAnd (tCmp eqR (eV 4) (eC (.int 1))) (tCmp gtR (eBi lenR [(eV 6)]) (eC (.int 1))) (rgE T name (d' + 1) kd (.v (.d (encMs (makersOf T name)))) .un .un .un) (Bx digs (k + 1)) = .ok (decide (kd = 1) && decide ((1 : Int) < (makersOf T name).length)) (Bx digs (k + 1)) :=
          tAnd_ok (tCmp_eqi (y := 1) (eV_at rfl) eC_ok) (tCmp_ok hlen eC_ok (by rw [vw_d, vw_d, gtR_int]))
        cases hb : (decide (kd = 1) && decide ((1 : Int) < (makersOf T name).length)) with
        | false =>
          rw [hb] at ht2
          obtain ⟨r, k', e1, e2⟩ := region_make g hC (x7 := .un) (kd := kd) (digs := digs) (k1 := k + 1) hint hpos (hrec d' rfl)
          refine ⟨r, k', e1, runB_rt ?_ rfl⟩
          simp only [f_law_region, List.map_cons, List.map_nil, List.length_cons, List.length_nil, Nat.reduceAdd, Nat.reduceSub, List.replicate_succ, List.replicate_zero, List.cons_append, List.nil_append]
          rw [sq_nx hk, sq_if_f ht, sq_if_f hi, sq_nx hs, sq_if_f ht2]
          exact e2
        | true =>
          rw [hb] at ht2
          obtain ⟨l, k2, l1, l2⟩ := left_draw hC (ρ := rgE T name (d' + 1) kd (.v (.d (encMs (makersOf T name)))) .un .un .un) (digs := digs) (k := k + 1) (it := iE (eV 6)) (makersOf T name) (iE_tup (eV_at rfl)) rfl rfl rfl rfl (by omega)
          have hl2 : sAs (tgN 7) (eComp [8, 9] (tgT [(tgN 8), (tgN 9)]) (iE (eV 6)) (tCmp eqR (eCall C "_law_draw" [(eV 0), (eC (.int 2))]) (eC (.int 0))) (eV 8)) (rgE T name (d' + 1) kd (.v (.d (encMs (makersOf T name)))) .un .un .un) (Bx digs (k + 1)) = .ok (.nx (rgE T name (d' + 1) kd (.v (.d (encMs (makersOf T name)))) (.v (.d (.lst (l.map .str)))) .un .un)) (Bx digs k2) := sAs_ok l2
          have ht3 : tCh ltR ltR (eC (.int 0)) (eBi lenR [(eV 7)]) (eBi lenR [(eV 6)]) (rgE T name (d' + 1) kd (.v (.d (encMs (makersOf T name)))) (.v (.d (.lst (l.map .str)))) .un .un) (Bx digs k2) = .ok (decide ((0 : Int) < l.length) && decide ((l.length : Int) < (makersOf T name).length)) (Bx digs k2) :=
            tCh_ok (y := .d (.int l.length)) eC_ok (eBi1_ok (eV_at rfl) (by rw [vw_d]; simp)) (eBi1_ok (z := .d (.int (makersOf T name).length)) (eV_at rfl) (by rw [vw_d]; simp [encMs])) (by rw [vw_d, vw_d, ltR_int]) (by rw [vw_d, vw_d, ltR_int])
          cases hb2 : (decide ((0 : Int) < l.length) && decide ((l.length : Int) < (makersOf T name).length)) with
          | true =>
            rw [hb2] at ht3
            refine ⟨.nt l, k2, ?_, runB_rt ?_ rfl⟩
            · simp only [Wr]
              exact ⟨trivial, hint, (namesOf_nodup g name).sublist l1, fun x hx => l1.subset hx, by
                have hlt : l.length < (namesOf T name).length := by
                  rw [Bool.and_eq_true, decide_eq_true_eq, decide_eq_true_eq] at hb2
                  unfold namesOf
                  rw [List.length_map]
                  omega
                refine Classical.byContradiction fun hne => ?_
                have hsub : ∀ x ∈ namesOf T name, x ∈ l := fun x hx => Classical.byContradiction fun hn => hne ⟨x, hx, hn⟩
                have := (namesOf_nodup g name).length_le_of_subset hsub
                omega⟩
            · simp only [f_law_region, List.map_cons, List.map_nil, List.length_cons, List.length_nil, Nat.reduceAdd, Nat.reduceSub, List.replicate_succ, List.replicate_zero, List.cons_append, List.nil_append]
              rw [sq_nx hk, sq_if_f ht, sq_if_f hi, sq_nx hs]
              refine sq_rt ?_
              rw [sIf_t ht2, sq_nx hl2, sIf_t ht3]
              refine sRet_ok ?_
              unfold eTup
              rw [evs_cons, eC_ok, bind_ok, evs_cons, eBi1_ok (z := .d (.tup (l.map .str))) (eV_at rfl) (by rw [vw_d, tupleR_lst]), bind_ok, evs_nil, bind_ok, bind_ok, bind_ok]
              simp [enc]
          | false =>
            rw [hb2] at ht3
            obtain ⟨r, k', e1, e2⟩ := region_make g hC (x7 := .v (.d (.lst (l.map .str)))) (kd := kd) (digs := digs) (k1 := k2) hint hpos (hrec d' rfl)
            refine ⟨r, k', e1, runB_rt ?_ rfl⟩
            simp only [f_law_region, List.map_cons, List.map_nil, List.length_cons, List.length_nil, Nat.reduceAdd, Nat.reduceSub, List.replicate_succ, List.replicate_zero, List.cons_append, List.nil_append]
            rw [sq_nx hk, sq_if_f ht, sq_if_f hi, sq_nx hs]
            rw [sq_nx (by rw [sIf_t ht2, sq_nx hl2, sIf_f ht3]; exact sNil_ok)]
            exact e2
end K09
end

section
set_option maxHeartbeats 0
set_option linter.all false
set_option maxRecDepth 100000
namespace K09
open Ev
/-! ### drawn regions fit -/
section
variable {fl : Bool} {T : Ty} {d : Nat} {name : String}
theorem Wr.rng2 {a b : Int} (h : Wr fl T d name (.rng a b)) : name = "Int" ∧ -99 ≤ a ∧ a ≤ 99 ∧ -99 ≤ b ∧ b ≤ 99 ∧ a ≤ b := by cases d <;> simpa only [Wr] using h
theorem Wr.rng {a b : Int} (h : Wr fl T d name (.rng a b)) : name = "Int" ∧ -99 ≤ a ∧ a ≤ 99 ∧ -99 ≤ b ∧ b ≤ 99 := let ⟨h1, h2, h3, h4, h5, _⟩ := h.rng2; ⟨h1, h2, h3, h4, h5⟩
theorem Wr.nt2 {l : List String} (h : Wr fl T d name (.nt l)) : fl = true ∧ name ≠ "Int" ∧ l.Nodup ∧ (∀ x ∈ l, x ∈ namesOf T name) ∧ ∃ x ∈ namesOf T name, x ∉ l := by cases d <;> simpa only [Wr] using h
theorem Wr.nt {l : List String} (h : Wr fl T d name (.nt l)) : fl = true ∧ name ≠ "Int" ∧ l.Nodup ∧ ∀ x ∈ l, x ∈ namesOf T name := let ⟨h1, h2, h3, h4, _⟩ := h.nt2; ⟨h1, h2, h3, h4⟩
theorem Wr.mk {c : String} {ps : List Rg} (h : Wr fl T d name (.mk c ps)) : ∃ d', d = d' + 1 ∧ name ≠ "Int" ∧ ∃ fs, (c, fs) ∈ makersOf T name ∧ fs.length = ps.length ∧ ∀ (i : Nat) (f : String) (p : Rg), fs[i]? = some f → ps[i]? = some p → Wr fl T d' f p := by
  cases d with
  | zero => simp only [Wr] at h
  | succ d' => exact ⟨d', rfl, by simpa only [Wr] using h⟩
end
theorem AlL_get : ∀ {ps qs : List Rg}, ps.length = qs.length → (∀ (i : Nat) (p q : Rg), ps[i]? = some p → qs[i]? = some q → Al p q) → AlL ps qs
  | [], [], _, _ => by simp only [AlL]
  | [], _ :: _, h, _ => by simp at h
  | _ :: _, [], h, _ => by simp at h
  | p :: ps, q :: qs, h, f => by
    simp only [AlL]
    exact ⟨f 0 p q rfl rfl, AlL_get (by simpa using h) fun i p q h1 h2 => f (i + 1) p q (by simpa using h1) (by simpa using h2)⟩
theorem RTL_get {T : Ty} : ∀ {ns : List String} {ps qs : List Rg}, ns.length = ps.length → ps.length = qs.length → (∀ (i : Nat) (n : String) (p q : Rg), ns[i]? = some n → ps[i]? = some p → qs[i]? = some q → RT T n p q ∧ Al p q) → RTL T ns ps qs
  | [], [], [], _, _, _ => by simp only [RTL]
  | [], _ :: _, _, h, _, _ => by simp at h
  | _ :: _, [], _, h, _, _ => by simp at h
  | _, [], _ :: _, _, h, _ => by simp at h
  | _, _ :: _, [], _, h, _ => by simp at h
  | n :: ns, p :: ps, q :: qs, h1, h2, f => by
    simp only [RTL]
    obtain ⟨a, b⟩ := f 0 n p q rfl rfl rfl
    exact ⟨a, b, RTL_get (by simpa using h1) (by simpa using h2) fun i n p q h1 h2 h3 => f (i + 1) n p q (by simpa using h1) (by simpa using h2) (by simpa using h3)⟩
theorem same_fields {T : Ty} (g : GoodT T) {name : String} {c : String} {fs gs : List String} (h1 : (c, fs) ∈ makersOf T name) (h2 : (c, gs) ∈ makersOf T name) : fs = gs := by
  have a := (maker_fields g h1).1
  have b := (maker_fields g h2).1
  exact a.symm.trans b
theorem Wr.al {T : Ty} (g : GoodT T) : ∀ {d d2 : Nat} {name : String} {r s : Rg}, Wr true T d name r → Wr false T d2 name s → Al r s
  | d, d2, name, r, .any, _, _ => by cases r <;> simp only [Al]
  | d, d2, name, r, .nt l, _, h2 => by have := h2.nt.1; simp at this
  | d, d2, name, .any, .rng _ _, _, _ => by simp only [Al]
  | d, d2, name, .rng _ _, .rng _ _, _, _ => by simp only [Al]
  | d, d2, name, .nt _, .rng _ _, h1, h2 => absurd h2.rng.1 h1.nt.2.1
  | d, d2, name, .mk _ _, .rng _ _, h1, h2 => by obtain ⟨_, _, h, _⟩ := h1.mk; exact absurd h2.rng.1 h
  | d, d2, name, .any, .mk _ _, _, _ => by simp only [Al]
  | d, d2, name, .rng _ _, .mk _ _, h1, h2 => by obtain ⟨_, _, h, _⟩ := h2.mk; exact absurd h1.rng.1 h
  | d, d2, name, .nt _, .mk _ _, _, _ => by simp only [Al]
  | d, d2, name, .mk c ps, .mk c' qs, h1, h2 => by
    simp only [Al]
    intro hc; subst hc
    obtain ⟨d', rfl, _, fs, m1, l1, f1⟩ := h1.mk
    obtain ⟨d2', rfl, _, gs, m2, l2, f2⟩ := h2.mk
    obtain rfl := same_fields g m1 m2
    have := (maker_fields g m1).2.1
    simp only at this
    refine ⟨by omega, AlL_get (by omega) fun i p q hp hq => ?_⟩
    have hi := (List.getElem?_eq_some_iff.mp hp).1
    have hf : fs[i]? = some fs[i] := by simp
    exact Wr.al g (f1 i _ p hf hp) (f2 i _ q hf hq)
theorem Wr.rt {T : Ty} (g : GoodT T) : ∀ {d d2 : Nat} {name : String} {r s : Rg}, Wr true T d name r → Wr false T d2 name s → RT T name r s
  | d, d2, name, r, .any, _, _ => by cases r <;> simp only [RT]
  | d, d2, name, r, .nt l, _, h2 => by have := h2.nt.1; simp at this
  | d, d2, name, .any, .rng _ _, _, _ => by simp only [RT]
  | d, d2, name, .rng _ _, .rng _ _, _, _ => by simp only [RT]
  | d, d2, name, .nt _, .rng _ _, h1, h2 => absurd h2.rng.1 h1.nt.2.1
  | d, d2, name, .mk _ _, .rng _ _, h1, h2 => by obtain ⟨_, _, h, _⟩ := h1.mk; exact absurd h2.rng.1 h
  | d, d2, name, .any, .mk c qs, _, h2 => by
    obtain ⟨d2', rfl, _, gs, m2, l2, f2⟩ := h2.mk
    obtain ⟨e1, e2, e3, e4⟩ := maker_fields g m2
    simp only at e1 e2 e3 e4
    simp only [RT]
    refine ⟨List.mem_map.mpr ⟨_, m2, rfl⟩, namesOf_nodup g name, by omega, by rw [e1]; exact l2, ?_⟩
    rw [e1]
    refine RTL_get (by simpa using l2) (by simp) fun i n p q h1 h2 h3 => ?_
    rw [List.getElem?_map] at h2
    obtain ⟨_, _, rfl⟩ := Option.map_eq_some_iff.mp h2
    exact ⟨Wr.rt g (d := 0) Wr.any (f2 i n q h1 h3), Wr.al g (d := 0) Wr.any (f2 i n q h1 h3)⟩
  | d, d2, name, .rng _ _, .mk _ _, h1, h2 => by obtain ⟨_, _, h, _⟩ := h2.mk; exact absurd h1.rng.1 h
  | d, d2, name, .nt l, .mk c qs, h1, h2 => by
    obtain ⟨d2', rfl, _, gs, m2, l2, f2⟩ := h2.mk
    obtain ⟨e1, e2, e3, e4⟩ := maker_fields g m2
    obtain ⟨_, _, n1, n2⟩ := h1.nt
    simp only at e1 e2 e3 e4
    have hl : l.length ≤ (namesOf T name).length := n1.length_le_of_subset n2
    have := makersOf_le g name
    have hn : (namesOf T name).length = (makersOf T name).length := by simp [namesOf]
    simp only [RT]
    refine ⟨List.mem_map.mpr ⟨_, m2, rfl⟩, namesOf_nodup g name, by omega, by rw [e1]; exact l2, n1, by omega, n2, ?_⟩
    rw [e1]
    refine RTL_get (by simpa using l2) (by simp) fun i n p q h1 h2 h3 => ?_
    rw [List.getElem?_map] at h2
    obtain ⟨_, _, rfl⟩ := Option.map_eq_some_iff.mp h2
    exact ⟨Wr.rt g (d := 0) Wr.any (f2 i n q h1 h3), Wr.al g (d := 0) Wr.any (f2 i n q h1 h3)⟩
  | d, d2, name, .mk c' ps, .mk c qs, h1, h2 => by
    simp only [RT]
    intro hc; subst hc
    obtain ⟨d', rfl, _, fs, m1, l1, f1⟩ := h1.mk
    obtain ⟨d2', rfl, _, gs, m2, l2, f2⟩ := h2.mk
    obtain rfl := same_fields g m1 m2
    obtain ⟨e1, e2, e3, e4⟩ := maker_fields g m2
    simp only at e1 e2 e3 e4
    refine ⟨by omega, ?_⟩
    rw [e1]
    exact RTL_get l1 (by omega) fun i n p q h1 h2 h3 => ⟨Wr.rt g (f1 i n p h1 h2) (f2 i n q h1 h3), Wr.al g (f1 i n p h1 h2) (f2 i n q h1 h3)⟩
termination_by d d2 => d2
end K09
end

section
set_option maxHeartbeats 0
set_option linter.all false
set_option maxRecDepth 100000
namespace K09
open Ev
/-! ### how large the answers grow -/
/-- short words, small numbers, at most two parts, at most d deep -/
def Bd (B : Int) : Nat → Rg → Prop
  | _, .any => True
  | _, .rng a b => -B ≤ a ∧ a ≤ B ∧ -B ≤ b ∧ b ≤ B
  | _, .nt l => l.length ≤ 3 ∧ ∀ x ∈ l, x.length ≤ 8
  | 0, .mk _ _ => False
  | d + 1, .mk c ps => c.length ≤ 8 ∧ ps.length ≤ 2 ∧ ∀ p ∈ ps, Bd B d p
section
variable {B : Int} {d : Nat}
theorem Bd.any : Bd B d .any := by cases d <;> simp only [Bd]
theorem Bd_rng {a b : Int} : Bd B d (.rng a b) ↔ -B ≤ a ∧ a ≤ B ∧ -B ≤ b ∧ b ≤ B := by cases d <;> simp only [Bd]
theorem Bd_nt {l : List String} : Bd B d (.nt l) ↔ l.length ≤ 3 ∧ ∀ x ∈ l, x.length ≤ 8 := by cases d <;> simp only [Bd]
theorem Bd_mk {c : String} {ps : List Rg} : Bd B d (.mk c ps) ↔ ∃ d', d = d' + 1 ∧ c.length ≤ 8 ∧ ps.length ≤ 2 ∧ ∀ p ∈ ps, Bd B d' p := by
  cases d with
  | zero => simp only [Bd]; exact ⟨fun h => h.elim, fun ⟨_, h, _⟩ => by omega⟩
  | succ d' => simp only [Bd]; exact ⟨fun h => ⟨d', rfl, h⟩, fun ⟨_, h, h2⟩ => by cases h; exact h2⟩
end
theorem Bd.mono {B B' : Int} (hB : B ≤ B') : ∀ {d : Nat} {r : Rg}, Bd B d r → Bd B' d r
  | _, .any, _ => Bd.any
  | _, .rng _ _, h => by rw [Bd_rng] at h ⊢; omega
  | _, .nt _, h => by rw [Bd_nt] at h ⊢; exact h
  | d, .mk c ps, h => by
    rw [Bd_mk] at h ⊢
    obtain ⟨d', rfl, h1, h2, h3⟩ := h
    exact ⟨d', rfl, h1, h2, fun p hp => Bd.mono hB (h3 p hp)⟩
def Kc : Nat → Nat
  | 0 => 400
  | d + 1 => 400 + 2 * (Kc d + 2)
theorem costL_le {K : Nat} : ∀ {ds : List D}, (∀ x ∈ ds, x.cost ≤ K) → D.costL ds ≤ ds.length * (K + 2)
  | [], _ => by simp [D.costL]
  | d :: ds, h => by
    have h1 := h d (by simp)
    have h2 := costL_le (fun x hx => h x (List.mem_cons_of_mem _ hx))
    rw [D.costL, List.length_cons, Nat.succ_mul]; omega
theorem depL_le {K : Nat} : ∀ {ds : List D}, (∀ x ∈ ds, x.dep ≤ K) → D.depL ds ≤ K
  | [], _ => by simp [D.depL]
  | d :: ds, h => by
    have h1 := h d (by simp)
    have h2 := depL_le (fun x hx => h x (List.mem_cons_of_mem _ hx))
    rw [D.depL]; omega
theorem Kc_ge (d : Nat) : 400 ≤ Kc d := by cases d <;> simp [Kc]; 
theorem Bd.cost {B : Int} (hB : B ≤ 100000) : ∀ {d : Nat} {r : Rg}, Bd B d r → (enc r).cost ≤ Kc d
  | d, .any, _ => by have := Kc_ge d; simp [enc, D.cost, D.costL, String.length]; omega
  | d, .rng a b, h => by
    have := Kc_ge d
    rw [Bd_rng] at h
    have ha : a.natAbs < 1000000000000 := by omega
    have hb : b.natAbs < 1000000000000 := by omega
    simp only [enc, D.cost, D.costL, if_pos ha, if_pos hb, show ("range" : String).length = 5 from rfl]; omega
  | d, .nt l, h => by
    have := Kc_ge d
    rw [Bd_nt] at h
    have hc : D.costL (l.map .str) ≤ (l.map D.str).length * (82 + 2) := costL_le (by
      intro x hx
      obtain ⟨y, hy, rfl⟩ := List.mem_map.mp hx
      have := h.2 y hy
      rw [D.cost]; omega)
    rw [List.length_map] at hc
    have h1 := h.1
    simp only [enc, D.cost, D.costL, show ("not" : String).length = 3 from rfl]; omega
  | d, .mk c ps, h => by
    rw [Bd_mk] at h
    obtain ⟨d', rfl, h1, h2, h3⟩ := h
    have hc : D.costL (encL ps) ≤ (encL ps).length * (Kc d' + 2) := costL_le (by
      intro x hx
      rw [encL_map] at hx
      obtain ⟨y, hy, rfl⟩ := List.mem_map.mp hx
      exact Bd.cost hB (h3 y hy))
    rw [encL_len] at hc
    have hm : ps.length * (Kc d' + 2) ≤ 2 * (Kc d' + 2) := Nat.mul_le_mul_right _ h2
    simp only [enc, D.cost, D.costL, Kc, show ("make" : String).length = 4 from rfl]; omega
theorem Bd.dep {B : Int} : ∀ {d : Nat} {r : Rg}, Bd B d r → (enc r).dep ≤ 2 * d + 2
  | d, .any, _ => by simp [enc, D.dep, D.depL]
  | d, .rng a b, h => by simp [enc, D.dep, D.depL]
  | d, .nt l, h => by
    have hc : D.depL (l.map .str) ≤ 0 := depL_le (by
      intro x hx
      obtain ⟨y, hy, rfl⟩ := List.mem_map.mp hx
      simp [D.dep])
    simp only [enc, D.dep, D.depL]; omega
  | d, .mk c ps, h => by
    rw [Bd_mk] at h
    obtain ⟨d', rfl, h1, h2, h3⟩ := h
    have hc : D.depL (encL ps) ≤ 2 * d' + 2 := depL_le (by
      intro x hx
      rw [encL_map] at hx
      obtain ⟨y, hy, rfl⟩ := List.mem_map.mp hx
      exact Bd.dep (h3 y hy))
    simp only [enc, D.dep, D.depL]; omega
theorem Bd.wt {B : Int} : ∀ {d : Nat} {r : Rg}, Bd B d r → wt r + 4 ≤ 4 * 2 ^ (d + 1)
  | d, .any, _ => by have := Nat.one_le_two_pow (n := d); simp only [K09.wt]; omega
  | d, .rng a b, h => by have := Nat.one_le_two_pow (n := d); simp only [K09.wt]; omega
  | d, .nt l, h => by have := Nat.one_le_two_pow (n := d); simp only [K09.wt]; omega
  | d, .mk c ps, h => by
    rw [Bd_mk] at h
    obtain ⟨d', rfl, h1, h2, h3⟩ := h
    have hp := Nat.one_le_two_pow (n := d')
    match ps, h2, h3 with
    | [], _, _ => simp only [K09.wt, wtL]; omega
    | [p], _, h3 =>
      have := Bd.wt (h3 p (by simp))
      simp only [K09.wt, wtL]; omega
    | [p, q], _, h3 =>
      have := Bd.wt (h3 p (by simp))
      have := Bd.wt (h3 q (by simp))
      simp only [K09.wt, wtL]; omega
    | _ :: _ :: _ :: _, h, _ => simp at h
theorem Bd.hgt {B : Int} : ∀ {d : Nat} {r : Rg}, Bd B d r → hgt r ≤ d
  | d, .any, _ => by simp [K09.hgt]
  | d, .rng a b, h => by simp [K09.hgt]
  | d, .nt l, h => by simp [K09.hgt]
  | d, .mk c ps, h => by
    rw [Bd_mk] at h
    obtain ⟨d', rfl, h1, h2, h3⟩ := h
    have : hgtL ps ≤ d' := by
      clear h2
      induction ps with
      | nil => simp [hgtL]
      | cons p ps ih =>
        have := Bd.hgt (h3 p (by simp))
        have := ih fun q hq => h3 q (List.mem_cons_of_mem _ hq)
        simp only [hgtL]; omega
    simp only [K09.hgt]; omega
end K09
end

section
set_option maxHeartbeats 0
set_option linter.all false
set_option maxRecDepth 100000
namespace K09
open Ev
/-! ### the bounds of what is cut and of what rests -/
mutual
theorem cutM_bd {B : Int} : ∀ {d : Nat} {r s x : Rg}, Bd B d r → Bd B d s → cutM r s = some x → Bd B d x
  | d, r, .any, x, hr, _, h => by cases r <;> simp [cutM] at h <;> subst h <;> exact hr
  | d, .any, .rng a b, x, _, hs, h => by simp [cutM] at h; subst h; exact hs
  | d, .any, .nt l, x, _, hs, h => by simp [cutM] at h; subst h; exact hs
  | d, .any, .mk c qs, x, _, hs, h => by simp [cutM] at h; subst h; exact hs
  | d, .rng a b, .rng c e, x, hr, hs, h => by
    rw [Bd_rng] at hr hs
    simp only [cutM] at h
    obtain ⟨lo, hlo⟩ : ∃ lo, lo = (if c > a then c else a) := ⟨_, rfl⟩
    obtain ⟨hi, hhi⟩ : ∃ hi, hi = (if e < b then e else b) := ⟨_, rfl⟩
    rw [← hlo, ← hhi] at h
    have b1 : -B ≤ lo ∧ lo ≤ B := by rw [hlo]; split <;> omega
    have b2 : -B ≤ hi ∧ hi ≤ B := by rw [hhi]; split <;> omega
    split at h
    · cases h
      rw [Bd_rng]
      omega
    · cases h
  | d, .rng a b, .nt l, x, _, _, h => by simp [cutM] at h
  | d, .rng a b, .mk c qs, x, _, _, h => by simp [cutM] at h
  | d, .nt l, .rng a b, x, _, _, h => by simp [cutM] at h
  | d, .nt l, .nt l', x, _, _, h => by simp [cutM] at h
  | d, .nt l, .mk c qs, x, _, hs, h => by
    simp only [cutM] at h
    split at h
    · cases h
    · cases h; exact hs
  | d, .mk c ps, .rng a b, x, _, _, h => by simp [cutM] at h
  | d, .mk c ps, .nt l', x, _, _, h => by simp [cutM] at h
  | d, .mk c ps, .mk c' qs, x, hr, hs, h => by
    rw [Bd_mk] at hr hs
    obtain ⟨d', rfl, h1, h2, h3⟩ := hr
    obtain ⟨d'', e, h4, h5, h6⟩ := hs
    obtain rfl : d' = d'' := by omega
    simp only [cutM] at h
    split at h
    · cases hc : cutL ps qs with
      | none => rw [hc] at h; cases h
      | some xs =>
        rw [hc] at h
        cases h
        obtain ⟨a, b⟩ := cutL_bd h3 h6 hc
        rw [Bd_mk]
        exact ⟨d', rfl, h1, by omega, b⟩
    · cases h
theorem cutL_bd {B : Int} : ∀ {d : Nat} {ps qs xs : List Rg}, (∀ p ∈ ps, Bd B d p) → (∀ q ∈ qs, Bd B d q) → cutL ps qs = some xs → xs.length = ps.length ∧ ∀ x ∈ xs, Bd B d x
  | d, [], [], xs, _, _, h => by simp [cutL] at h; subst h; simp
  | d, [], _ :: _, xs, _, _, h => by simp [cutL] at h
  | d, _ :: _, [], xs, _, _, h => by simp [cutL] at h
  | d, p :: ps, q :: qs, xs, h1, h2, h => by
    simp only [cutL] at h
    cases hp : cutM p q with
    | none => rw [hp] at h; cases h
    | some y =>
      rw [hp] at h
      cases hl : cutL ps qs with
      | none => rw [hl] at h; cases h
      | some ys =>
        rw [hl] at h
        cases h
        have a := cutM_bd (h1 p (by simp)) (h2 q (by simp)) hp
        obtain ⟨b, c⟩ := cutL_bd (fun p hp => h1 p (List.mem_cons_of_mem _ hp)) (fun p hp => h2 p (List.mem_cons_of_mem _ hp)) hl
        exact ⟨by simp [b], by
          intro x hx
          rcases List.mem_cons.mp hx with rfl | hx
          · exact a
          · exact c x hx⟩
end
theorem rr_bd {B : Int} {d : Nat} {r : Rg} {lo hi c e : Int} (hr : Bd B d r) (h1 : -B ≤ lo ∧ lo ≤ B ∧ -B ≤ hi ∧ hi ≤ B) (h2 : -B ≤ c ∧ c ≤ B ∧ -B ≤ e ∧ e ≤ B) : ∀ x ∈ rr r lo hi c e, Bd (B + 1) d x := by
  intro x hx
  unfold rr at hx
  split at hx
  · rw [List.mem_singleton] at hx; subst hx; exact hr.mono (by omega)
  · rcases List.mem_append.mp hx with hx | hx
    · split at hx
      · rw [List.mem_singleton] at hx; subst hx; rw [Bd_rng]; omega
      · simp at hx
    · split at hx
      · rw [List.mem_singleton] at hx; subst hx; rw [Bd_rng]; omega
      · simp at hx
/-- the names of the types: few and short -/
def Nk (T : Ty) : Prop := ∀ name, (namesOf T name).length ≤ 3 ∧ ∀ x ∈ namesOf T name, x.length ≤ 8
theorem left_bd {B : Int} {d : Nat} {T : Ty} (hT : Nk T) {name : String} {l : List String} {c : String} : ∀ x ∈ leftM T name l c, Bd B d x := by
  intro x hx
  obtain ⟨h1, h2⟩ := hT name
  unfold leftM at hx
  split at hx
  · rw [List.mem_singleton] at hx; subst hx
    rw [Bd_nt]
    exact ⟨by omega, fun y hy => h2 y (List.mem_filter.mp hy).1⟩
  · simp at hx
theorem any_bd {B : Int} {d : Nat} (qs : List Rg) : ∀ p ∈ qs.map (fun _ => Rg.any), Bd B d p := by
  intro p hp
  obtain ⟨_, _, rfl⟩ := List.mem_map.mp hp
  exact Bd.any
mutual
theorem restM_bd {B : Int} (hB : 99 ≤ B) {T : Ty} (hT : Nk T) : ∀ {d : Nat} {name : String} {r s : Rg}, Bd B d r → Bd B d s → ∀ x ∈ restM T name r s, Bd (B + 1) d x
  | d, name, r, .any, _, _, x, hx => by cases r <;> simp [restM] at hx
  | d, name, r, .nt _, _, _, x, hx => by cases r <;> simp [restM] at hx
  | d, name, .any, .rng a b, hr, hs, x, hx => by rw [Bd_rng] at hs; simp only [restM] at hx; exact rr_bd hr (by omega) hs x hx
  | d, name, .nt _, .rng a b, hr, hs, x, hx => by rw [Bd_rng] at hs; simp only [restM] at hx; exact rr_bd hr (by omega) hs x hx
  | d, name, .mk _ _, .rng a b, hr, hs, x, hx => by rw [Bd_rng] at hs; simp only [restM] at hx; exact rr_bd hr (by omega) hs x hx
  | d, name, .rng _ _, .rng a b, hr, hs, x, hx => by rw [Bd_rng] at hs; simp only [restM] at hx; exact rr_bd hr (Bd_rng.mp hr) hs x hx
  | d, name, .any, .mk c qs, hr, hs, x, hx => by
    rw [Bd_mk] at hs
    obtain ⟨d', rfl, h4, h5, h6⟩ := hs
    simp only [restM] at hx
    rcases List.mem_append.mp hx with hx | hx
    · exact left_bd hT x hx
    · obtain ⟨row, hrow, rfl⟩ := List.mem_map.mp hx
      have := restL_bd hB hT (d := d') (ns := fieldsOf T c) (ps := qs.map fun _ => .any) (qs := qs) (any_bd qs) h6 row hrow
      rw [List.length_map] at this
      rw [Bd_mk]
      exact ⟨d', rfl, h4, by omega, this.2⟩
  | d, name, .rng _ _, .mk c qs, hr, hs, x, hx => by
    rw [Bd_mk] at hs
    obtain ⟨d', rfl, h4, h5, h6⟩ := hs
    simp only [restM] at hx
    rcases List.mem_append.mp hx with hx | hx
    · exact left_bd hT x hx
    · obtain ⟨row, hrow, rfl⟩ := List.mem_map.mp hx
      have := restL_bd hB hT (d := d') (ns := fieldsOf T c) (ps := qs.map fun _ => .any) (qs := qs) (any_bd qs) h6 row hrow
      rw [List.length_map] at this
      rw [Bd_mk]
      exact ⟨d', rfl, h4, by omega, this.2⟩
  | d, name, .nt l, .mk c qs, hr, hs, x, hx => by
    rw [Bd_mk] at hs
    obtain ⟨d', rfl, h4, h5, h6⟩ := hs
    simp only [restM] at hx
    split at hx
    · rw [List.mem_singleton] at hx; subst hx; exact hr.mono (by omega)
    rcases List.mem_append.mp hx with hx | hx
    · exact left_bd hT x hx
    · obtain ⟨row, hrow, rfl⟩ := List.mem_map.mp hx
      have := restL_bd hB hT (d := d') (ns := fieldsOf T c) (ps := qs.map fun _ => .any) (qs := qs) (any_bd qs) h6 row hrow
      rw [List.length_map] at this
      rw [Bd_mk]
      exact ⟨d', rfl, h4, by omega, this.2⟩
  | d, name, .mk c' ps, .mk c qs, hr, hs, x, hx => by
    have hr0 := hr
    rw [Bd_mk] at hs hr
    obtain ⟨d', rfl, h4, h5, h6⟩ := hs
    obtain ⟨d'', e, h7, h8, h9⟩ := hr
    obtain rfl : d' = d'' := by omega
    simp only [restM] at hx
    split at hx
    · obtain ⟨row, hrow, rfl⟩ := List.mem_map.mp hx
      have := restL_bd hB hT (d := d') (ns := fieldsOf T c) (ps := ps) (qs := qs) h9 h6 row hrow
      rw [Bd_mk]
      exact ⟨d', rfl, h4, by omega, this.2⟩
    · rw [List.mem_singleton] at hx; subst hx; exact hr0.mono (by omega)
theorem restL_bd {B : Int} (hB : 99 ≤ B) {T : Ty} (hT : Nk T) {d : Nat} {ns : List String} {ps qs : List Rg} (hp : ∀ p ∈ ps, Bd B d p) (hq : ∀ q ∈ qs, Bd B d q) :
    ∀ row ∈ (match cutL ps qs with | none => [ps] | some cs => rowsL T [] ns ps qs cs), row.length = ps.length ∧ ∀ x ∈ row, Bd (B + 1) d x := by
  intro row hrow
  cases hc : cutL ps qs with
  | none =>
    rw [hc] at hrow
    simp only [List.mem_singleton] at hrow; subst hrow
    exact ⟨rfl, fun x hx => (hp x hx).mono (by omega)⟩
  | some cs =>
    rw [hc] at hrow
    have h1 := (cutL_bd hp hq hc).2
    have := rowsL_bd hB hT (pre := []) (ns := ns) (by simp) hp hq h1 row hrow
    simpa using this
theorem rowsL_bd {B : Int} (hB : 99 ≤ B) {T : Ty} (hT : Nk T) : ∀ {d : Nat} {pre : List Rg} {ns : List String} {ps qs cs : List Rg}, (∀ x ∈ pre, Bd (B + 1) d x) → (∀ p ∈ ps, Bd B d p) → (∀ q ∈ qs, Bd B d q) → (∀ q ∈ cs, Bd B d q) →
    ∀ row ∈ rowsL T pre ns ps qs cs, row.length = pre.length + ps.length ∧ ∀ x ∈ row, Bd (B + 1) d x
  | d, pre, n :: ns, p :: ps, q :: qs, c :: cs, h1, h2, h3, h4, row, hx => by
    simp only [rowsL] at hx
    rcases List.mem_append.mp hx with hx | hx
    · obtain ⟨y, hy, rfl⟩ := List.mem_map.mp hx
      have := restM_bd hB hT (h2 p (by simp)) (h3 q (by simp)) y hy
      refine ⟨by simp, fun x hx => ?_⟩
      rcases List.mem_append.mp hx with hx | hx
      · exact h1 x hx
      rcases List.mem_cons.mp hx with rfl | hx
      · exact this
      · exact (h2 x (List.mem_cons_of_mem _ hx)).mono (by omega)
    · have := rowsL_bd hB hT (pre := pre ++ [c]) (by
        intro x hx
        rcases List.mem_append.mp hx with hx | hx
        · exact h1 x hx
        · rw [List.mem_singleton] at hx; subst hx; exact (h4 x (by simp)).mono (by omega)) (fun x hx => h2 x (List.mem_cons_of_mem _ hx)) (fun x hx => h3 x (List.mem_cons_of_mem _ hx)) (fun x hx => h4 x (List.mem_cons_of_mem _ hx)) row hx
      refine ⟨by rw [this.1]; simp; omega, this.2⟩
  | d, pre, [], ps, qs, cs, _, _, _, _, row, hx => by simp [rowsL] at hx
  | d, pre, _ :: _, [], qs, cs, _, _, _, _, row, hx => by simp [rowsL] at hx
  | d, pre, _ :: _, _ :: _, [], cs, _, _, _, _, row, hx => by simp [rowsL] at hx
  | d, pre, _ :: _, _ :: _, _ :: _, [], _, _, _, _, row, hx => by simp [rowsL] at hx
end
end K09
end

section
set_option maxHeartbeats 0
set_option linter.all false
set_option maxRecDepth 100000
namespace K09
open Ev
/-! ### the two last looks -/
theorem repr_ok {x : D} (h1 : x.dep ≤ EqDep) (h2 : x.cost ≤ SL) : reprR [.d x] = some (.rep x) := by
  show (if x.dep ≤ EqDep ∧ x.cost ≤ SL then some (R.rep x) else none) = _
  rw [if_pos ⟨h1, h2⟩]
theorem same_spec (n : Nat) (x : D) (μ : Mem) (h1 : x.dep ≤ EqDep) (h2 : x.cost ≤ SL) : callN P (n + 1) "_law_same" [.d x, .d x] μ = .ok (.d (.bl true)) μ := by
  rw [callN_run (d := f_law_same) rfl rfl]
  refine runB_rt (μ' := μ) ?_ rfl
  generalize callN P n = C
  simp only [f_law_same, List.map_cons, List.map_nil, List.length_cons, List.length_nil, Nat.reduceAdd, Nat.reduceSub, List.replicate_succ, List.replicate_zero, List.cons_append, List.nil_append]
  refine sRet_ok ?_
  unfold eT
  rw [tCmp_ok (z := true) (eBi1_ok (μ1 := μ) (z := .rep x) (eV_at rfl) (by rw [vw_d]; exact repr_ok h1 h2)) (eBi1_ok (μ1 := μ) (z := .rep x) (eV_at rfl) (by rw [vw_d]; exact repr_ok h1 h2)) (by simp [vw, D.same_self]), bind_ok]
theorem Bd.encO_ok {d : Nat} {o : Option Rg} (hd : d ≤ 3) (h : ∀ x, o = some x → Bd 101 d x) : (encO o).dep ≤ EqDep ∧ (encO o).cost ≤ SL := by
  cases o with
  | none => exact ⟨by decide, by decide⟩
  | some x =>
    have a := (h x rfl).cost (by omega)
    have b := (h x rfl).dep
    have : Kc d ≤ Kc 3 := by
      rcases d with _ | _ | _ | _ | d
      · decide
      · decide
      · decide
      · decide
      · omega
    have e : Kc 3 ≤ 10000 := by decide
    rw [encO_some, EqDep, SL]
    exact ⟨by omega, by omega⟩
theorem Bd.list_ok {xs : List Rg} {k : Nat} (hk : xs.length ≤ k) (h : ∀ x ∈ xs, Bd 101 3 x) : D.depL (xs.map enc) ≤ 8 ∧ D.costL (xs.map enc) ≤ k * 10002 := by
  have e : Kc 3 ≤ 10000 := by decide
  refine ⟨depL_le fun x hx => ?_, Nat.le_trans (costL_le (K := 10000) fun x hx => ?_) (by rw [List.length_map]; exact Nat.mul_le_mul_right _ hk)⟩
  · obtain ⟨y, hy, rfl⟩ := List.mem_map.mp hx
    exact (h y hy).dep
  · obtain ⟨y, hy, rfl⟩ := List.mem_map.mp hx
    exact Nat.le_trans ((h y hy).cost (by omega)) e
theorem wtL_le {k : Nat} : ∀ {qs : List Rg}, (∀ q ∈ qs, wt q ≤ k) → wtL qs ≤ qs.length * k
  | [], _ => by simp [wtL]
  | q :: qs, h => by
    have a := h q (by simp)
    have b := wtL_le (fun q hq => h q (List.mem_cons_of_mem _ hq))
    rw [wtL, List.length_cons, Nat.succ_mul]; omega
theorem hgtL_le {k : Nat} : ∀ {qs : List Rg}, (∀ q ∈ qs, hgt q ≤ k) → hgtL qs ≤ k
  | [], _ => by simp [hgtL]
  | q :: qs, h => by
    have a := h q (by simp)
    have b := hgtL_le (fun q hq => h q (List.mem_cons_of_mem _ hq))
    rw [hgtL]; omega
theorem Nk_good {T : Ty} (g : GoodT T) : Nk T := fun name => by
  refine ⟨by have := makersOf_le g name; simpa [namesOf] using this, fun x hx => ?_⟩
  obtain ⟨m, hm, rfl⟩ := List.mem_map.mp hx
  exact (maker_fields g hm).2.2.2
theorem Wr.bd {fl : Bool} {T : Ty} (g : GoodT T) : ∀ {d : Nat} {name : String} {r : Rg}, Wr fl T d name r → Bd 100 d r
  | d, name, .any, _ => Bd.any
  | d, name, .rng a b, h => by rw [Bd_rng]; have := h.rng.2; omega
  | d, name, .nt l, h => by
    obtain ⟨_, _, n1, n2⟩ := h.nt
    obtain ⟨a, b⟩ := Nk_good g name
    have hl : l.length ≤ (namesOf T name).length := n1.length_le_of_subset n2
    rw [Bd_nt]
    exact ⟨by omega, fun x hx => b x (n2 x hx)⟩
  | d, name, .mk c ps, h => by
    obtain ⟨d', rfl, _, fs, m1, l1, f1⟩ := h.mk
    obtain ⟨e1, e2, e3, e4⟩ := maker_fields g m1
    simp only at e1 e2 e3 e4
    rw [Bd_mk]
    refine ⟨d', rfl, e4, by omega, fun p hp => ?_⟩
    obtain ⟨i, hi, hp⟩ := List.mem_iff_getElem.mp hp
    have hf : fs[i]? = some fs[i] := by simp
    exact Wr.bd g (f1 i _ p hf (by rw [List.getElem?_eq_getElem hi, hp]))
termination_by d => d
end K09
end

section
set_option maxHeartbeats 0
set_option linter.all false
set_option maxRecDepth 100000
namespace K09
open Ev
/-! ### values, and which regions hold them -/
inductive Vl where
  | int (i : Int) | mk (c : String) (vs : List Vl)
mutual
def encV : Vl → D
  | .int i => .tup [.str "int", .int i]
  | .mk c vs => .tup [.str "make", .str c, .tup (encVs vs)]
def encVs : List Vl → List D
  | [] => []
  | v :: vs => encV v :: encVs vs
end
theorem encVs_map : ∀ vs : List Vl, encVs vs = vs.map encV
  | [] => rfl
  | v :: vs => by rw [encVs, encVs_map vs]; rfl
mutual
/-- the region holds the value -/
def hd : Rg → Vl → Bool
  | .any, _ => true
  | .rng a b, .int i => decide (a ≤ i) && decide (i ≤ b)
  | .nt l, .mk c _ => !decide (c ∈ l)
  | .mk c ps, .mk c' vs => decide (c = c') && hdL ps vs
  | .rng _ _, .mk _ _ => false
  | .nt _, .int _ => false
  | .mk _ _, .int _ => false
def hdL : List Rg → List Vl → Bool
  | p :: ps, v :: vs => hd p v && hdL ps vs
  | [], [] => true
  | [], _ :: _ => false
  | _ :: _, [] => false
end
mutual
/-- the question makes sense -/
def Hv : Rg → Vl → Prop
  | .any, _ => True
  | .rng _ _, .int _ => True
  | .nt _, .mk _ _ => True
  | .mk c ps, .mk c' vs => c = c' → HvL ps vs
  | .rng _ _, .mk _ _ => False
  | .nt _, .int _ => False
  | .mk _ _, .int _ => False
def HvL : List Rg → List Vl → Prop
  | p :: ps, v :: vs => Hv p v ∧ HvL ps vs
  | [], [] => True
  | [], _ :: _ => False
  | _ :: _, [] => False
end
theorem HvL.len : ∀ {ps : List Rg} {vs : List Vl}, HvL ps vs → ps.length = vs.length
  | [], [], _ => rfl
  | [], _ :: _, h => by simp [HvL] at h
  | _ :: _, [], h => by simp [HvL] at h
  | p :: ps, v :: vs, h => by simp only [HvL] at h; simp [HvL.len h.2]
theorem HvL.get : ∀ {ps : List Rg} {vs : List Vl} {i : Nat} {p : Rg} {v : Vl}, HvL ps vs → ps[i]? = some p → vs[i]? = some v → Hv p v
  | p :: ps, v :: vs, 0, _, _, h, h1, h2 => by
    simp only [HvL] at h; simp at h1 h2; subst h1 h2; exact h.1
  | p :: ps, v :: vs, i + 1, _, _, h, h1, h2 => by
    simp only [HvL] at h; exact HvL.get h.2 (by simpa using h1) (by simpa using h2)
  | [], _, _, _, _, _, h1, _ => by simp at h1
  | _ :: _, [], _, _, _, _, _, h2 => by simp at h2
theorem HvL_append : ∀ {ps : List Rg} {vs : List Vl} {qs : List Rg} {ws : List Vl}, HvL ps vs → HvL qs ws → HvL (ps ++ qs) (vs ++ ws)
  | [], [], _, _, _, h => h
  | [], _ :: _, _, _, h, _ => by simp [HvL] at h
  | _ :: _, [], _, _, h, _ => by simp [HvL] at h
  | p :: ps, v :: vs, _, _, h, h2 => by simp only [HvL] at h; simp only [List.cons_append, HvL]; exact ⟨h.1, HvL_append h.2 h2⟩
theorem hdL_append : ∀ {ps : List Rg} {vs : List Vl} {qs : List Rg} {ws : List Vl}, ps.length = vs.length → hdL (ps ++ qs) (vs ++ ws) = (hdL ps vs && hdL qs ws)
  | [], [], _, _, _ => by simp [hdL]
  | [], _ :: _, _, _, h => by simp at h
  | _ :: _, [], _, _, h => by simp at h
  | p :: ps, v :: vs, _, _, h => by simp only [List.cons_append, hdL]; rw [hdL_append (by simpa using h), Bool.and_assoc]
def CutP (r s : Rg) (v : Vl) : Prop := (cutM r s = none → (hd r v && hd s v) = false) ∧ ∀ x, cutM r s = some x → Hv x v ∧ hd x v = (hd r v && hd s v)
theorem cut_hd_any (r : Rg) (v : Vl) (h1 : Hv r v) : CutP r .any v := by
  have e : cutM r .any = some r := by cases r <;> simp [cutM]
  unfold CutP
  rw [e]
  refine ⟨(fun h => by cases h), fun x hx => ?_⟩
  obtain rfl := Option.some.inj hx
  exact ⟨h1, by simp [hd]⟩
theorem any_cut_hd (s : Rg) (v : Vl) (h1 : Hv s v) (e : cutM .any s = some s) : CutP .any s v := by
  unfold CutP
  rw [e]
  refine ⟨(fun h => by cases h), fun x hx => ?_⟩
  obtain rfl := Option.some.inj hx
  exact ⟨h1, by simp [hd]⟩
theorem rng_cut_hd (a b c d i : Int) : CutP (.rng a b) (.rng c d) (.int i) := by
  unfold CutP
  simp only [cutM]
  by_cases hc : (if c > a then c else a) ≤ (if d < b then d else b)
  · rw [if_pos hc]
    refine ⟨(fun h => by cases h), fun x hx => ?_⟩
    obtain rfl := Option.some.inj hx
    refine ⟨by simp [Hv], ?_⟩
    simp only [hd]
    rw [Bool.eq_iff_iff]
    simp only [Bool.and_eq_true, decide_eq_true_eq]
    split <;> split <;> omega
  · rw [if_neg hc]
    refine ⟨fun _ => ?_, fun x h => by cases h⟩
    simp only [hd]
    rw [Bool.eq_false_iff]
    intro hh
    simp only [Bool.and_eq_true, decide_eq_true_eq] at hh
    apply hc
    split <;> split <;> omega
theorem nt_cut_hd (l : List String) (c c' : String) (qs : List Rg) (vs : List Vl) (h2 : Hv (.mk c qs) (.mk c' vs)) : CutP (.nt l) (.mk c qs) (.mk c' vs) := by
  unfold CutP
  simp only [cutM]
  by_cases hc : c ∈ l
  · rw [if_pos hc]
    refine ⟨fun _ => ?_, fun x h => by cases h⟩
    simp only [hd]
    by_cases e : c = c'
    · subst e; simp [hc]
    · simp [e]
  · rw [if_neg hc]
    refine ⟨(fun h => by cases h), fun x hx => ?_⟩
    obtain rfl := Option.some.inj hx
    refine ⟨h2, ?_⟩
    simp only [hd]
    by_cases e : c = c'
    · subst e; simp [hc]
    · simp [e]
def CutPL (ps qs : List Rg) (vs : List Vl) : Prop := (cutL ps qs = none → (hdL ps vs && hdL qs vs) = false) ∧ ∀ xs, cutL ps qs = some xs → HvL xs vs ∧ hdL xs vs = (hdL ps vs && hdL qs vs)
theorem mk_cut_hd (c c' c'' : String) (ps qs : List Rg) (vs : List Vl) (h : c = c' → c = c'' → CutPL ps qs vs) : CutP (.mk c ps) (.mk c' qs) (.mk c'' vs) := by
  unfold CutP
  simp only [cutM]
  by_cases e : c = c'
  · subst e
    rw [if_pos rfl]
    by_cases e2 : c = c''
    · subst e2
      obtain ⟨k1, k2⟩ := h rfl rfl
      cases hc : cutL ps qs with
      | none =>
        refine ⟨fun _ => ?_, fun x h => by cases h⟩
        simp only [hd, decide_true, Bool.true_and]
        exact k1 hc
      | some xs =>
        refine ⟨(fun h => by cases h), fun x hx => ?_⟩
        obtain rfl := Option.some.inj hx
        obtain ⟨k3, k4⟩ := k2 xs hc
        refine ⟨by simp only [Hv]; exact fun _ => k3, ?_⟩
        simp only [hd, decide_true, Bool.true_and]
        exact k4
    · cases hc : cutL ps qs with
      | none => exact ⟨fun _ => by simp [hd, e2], fun x h => by cases h⟩
      | some xs =>
        refine ⟨(fun h => by cases h), fun x hx => ?_⟩
        obtain rfl := Option.some.inj hx
        exact ⟨by simp only [Hv]; exact fun z => absurd z e2, by simp [hd, e2]⟩
  · rw [if_neg e]
    refine ⟨fun _ => ?_, fun x h => by cases h⟩
    simp only [hd]
    by_cases e2 : c = c''
    · subst e2; simp [Ne.symm e]
    · simp [e2]
theorem cons_cut_hd (p q : Rg) (ps qs : List Rg) (v : Vl) (vs : List Vl) (a : CutP p q v) (b : CutPL ps qs vs) : CutPL (p :: ps) (q :: qs) (v :: vs) := by
  obtain ⟨a1, a2⟩ := a
  obtain ⟨b1, b2⟩ := b
  unfold CutPL
  simp only [cutL, hdL]
  cases hc : cutM p q with
  | none =>
    refine ⟨fun _ => ?_, fun x h => by cases h⟩
    have := a1 hc
    revert this
    cases hd p v <;> cases hd q v <;> simp
  | some x =>
    obtain ⟨a3, a4⟩ := a2 x hc
    cases hc2 : cutL ps qs with
    | none =>
      refine ⟨fun _ => ?_, fun x h => by cases h⟩
      have := b1 hc2
      revert this
      cases hd p v <;> cases hd q v <;> cases hdL ps vs <;> cases hdL qs vs <;> simp
    | some ys =>
      obtain ⟨b3, b4⟩ := b2 ys hc2
      refine ⟨(fun h => by cases h), fun xs hx => ?_⟩
      obtain rfl := Option.some.inj hx
      refine ⟨by simp only [HvL]; exact ⟨a3, b3⟩, ?_⟩
      simp only [hdL, a4, b4]
      cases hd p v <;> cases hd q v <;> cases hdL ps vs <;> cases hdL qs vs <;> rfl
/-- a cut holds what both hold -/
theorem cut_hd_n : ∀ n : Nat, (∀ (r s : Rg) (v : Vl), sizeOf r < n → Al r s → Hv r v → Hv s v → CutP r s v) ∧ ∀ (ps qs : List Rg) (vs : List Vl), sizeOf ps < n → AlL ps qs → HvL ps vs → HvL qs vs → CutPL ps qs vs
  | 0 => ⟨fun _ _ _ h => absurd h (Nat.not_lt_zero _), fun _ _ _ h => absurd h (Nat.not_lt_zero _)⟩
  | n + 1 => by
    obtain ⟨ih1, ih2⟩ := cut_hd_n n
    constructor
    · intro r s v hn ha h1 h2
      cases s with
      | any => exact cut_hd_any r v h1
      | nt l => cases r <;> simp [Al] at ha
      | rng c d =>
        cases r with
        | any => exact any_cut_hd _ v h2 (by simp [cutM])
        | rng a b =>
          cases v with
          | int i => exact rng_cut_hd a b c d i
          | mk _ _ => simp [Hv] at h1
        | nt _ => simp [Al] at ha
        | mk _ _ => simp [Al] at ha
      | mk c' qs =>
        cases r with
        | any => exact any_cut_hd _ v h2 (by simp [cutM])
        | rng a b => simp [Al] at ha
        | nt l =>
          cases v with
          | int i => simp [Hv] at h1
          | mk c'' vs => exact nt_cut_hd l c' c'' qs vs h2
        | mk c ps =>
          cases v with
          | int i => simp [Hv] at h1
          | mk c'' vs =>
            simp only [Al] at ha
            simp only [Hv] at h1 h2
            refine mk_cut_hd c c' c'' ps qs vs fun e1 e2 => ?_
            refine ih2 ps qs vs ?_ (ha e1).2 (h1 e2) (h2 (by rw [← e1]; exact e2))
            simp at hn; omega
    · intro ps qs vs hn ha h1 h2
      match ps, qs, vs, hn, ha, h1, h2 with
      | [], [], [], _, _, _, _ =>
        unfold CutPL
        simp [cutL, HvL, hdL]
      | [], [], _ :: _, _, _, h, _ => simp [HvL] at h
      | [], _ :: _, _, _, h, _, _ => simp [AlL] at h
      | _ :: _, [], _, _, h, _, _ => simp [AlL] at h
      | _ :: _, _ :: _, [], _, _, h, _ => simp [HvL] at h
      | p :: ps, q :: qs, v :: vs, hn, ha, h1, h2 =>
        simp only [AlL] at ha
        simp only [HvL] at h1 h2
        simp at hn
        exact cons_cut_hd p q ps qs v vs (ih1 p q v (by omega) ha.1 h1.1 h2.1) (ih2 ps qs vs (by omega) ha.2 h1.2 h2.2)
theorem cut_hd (r s : Rg) (v : Vl) (ha : Al r s) (h1 : Hv r v) (h2 : Hv s v) : CutP r s v := (cut_hd_n (sizeOf r + 1)).1 r s v (Nat.lt_succ_self _) ha h1 h2
theorem cutL_hd (ps qs : List Rg) (vs : List Vl) (ha : AlL ps qs) (h1 : HvL ps vs) (h2 : HvL qs vs) : CutPL ps qs vs := (cut_hd_n (sizeOf ps + 1)).2 ps qs vs (Nat.lt_succ_self _) ha h1 h2
/-! ### values of a type -/
def Wv (T : Ty) : Nat → String → Vl → Prop
  | _, name, .int i => name = "Int" ∧ -99 ≤ i ∧ i ≤ 99
  | 0, _, .mk _ _ => False
  | d + 1, name, .mk c vs => name ≠ "Int" ∧ ∃ fs, (c, fs) ∈ makersOf T name ∧ fs.length = vs.length ∧ ∀ (i : Nat) (f : String) (v : Vl), fs[i]? = some f → vs[i]? = some v → Wv T d f v
section
variable {T : Ty} {d d2 : Nat} {name : String} {fl : Bool}
theorem Wv.int {i : Int} (h : Wv T d name (.int i)) : name = "Int" ∧ -99 ≤ i ∧ i ≤ 99 := by cases d <;> simpa only [Wv] using h
theorem Wv.mk {c : String} {vs : List Vl} (h : Wv T d name (.mk c vs)) : ∃ d', d = d' + 1 ∧ name ≠ "Int" ∧ ∃ fs, (c, fs) ∈ makersOf T name ∧ fs.length = vs.length ∧ ∀ (i : Nat) (f : String) (v : Vl), fs[i]? = some f → vs[i]? = some v → Wv T d' f v := by
  cases d with
  | zero => simp only [Wv] at h
  | succ d' => exact ⟨d', rfl, by simpa only [Wv] using h⟩
end
theorem HvL_get : ∀ {ps : List Rg} {vs : List Vl}, ps.length = vs.length → (∀ (i : Nat) (p : Rg) (v : Vl), ps[i]? = some p → vs[i]? = some v → Hv p v) → HvL ps vs
  | [], [], _, _ => by simp only [HvL]
  | [], _ :: _, h, _ => by simp at h
  | _ :: _, [], h, _ => by simp at h
  | p :: ps, v :: vs, h, f => by
    simp only [HvL]
    exact ⟨f 0 p v rfl rfl, HvL_get (by simpa using h) fun i p v h1 h2 => f (i + 1) p v (by simpa using h1) (by simpa using h2)⟩
theorem Wr.hv {T : Ty} (g : GoodT T) {fl : Bool} : ∀ {d d2 : Nat} {name : String} {r : Rg} {v : Vl}, Wr fl T d name r → Wv T d2 name v → Hv r v
  | d, d2, name, .any, v, _, _ => by simp only [Hv]
  | d, d2, name, .rng _ _, .int _, _, _ => by simp only [Hv]
  | d, d2, name, .rng _ _, .mk _ _, h1, h2 => by obtain ⟨_, _, h, _⟩ := h2.mk; exact absurd h1.rng.1 h
  | d, d2, name, .nt _, .mk _ _, _, _ => by simp only [Hv]
  | d, d2, name, .nt _, .int _, h1, h2 => absurd h2.int.1 h1.nt.2.1
  | d, d2, name, .mk _ _, .int _, h1, h2 => by obtain ⟨_, _, h, _⟩ := h1.mk; exact absurd h2.int.1 h
  | d, d2, name, .mk c ps, .mk c' vs, h1, h2 => by
    simp only [Hv]
    rintro rfl
    obtain ⟨d', rfl, _, fs, m1, l1, f1⟩ := h1.mk
    obtain ⟨d'', rfl, _, gs, m2, l2, f2⟩ := h2.mk
    obtain rfl := same_fields g m1 m2
    refine HvL_get (by omega) fun i p v hp hv => ?_
    have hi : i < fs.length := by have := (List.getElem?_eq_some_iff.mp hp).1; omega
    exact Wr.hv g (f1 i fs[i] p (by simp) hp) (f2 i fs[i] v (by simp) hv)
termination_by d => d
end K09
end

section
set_option maxHeartbeats 0
set_option linter.all false
set_option maxRecDepth 100000
namespace K09
open Ev
/-! ### what is left holds what only the region holds, by one part -/
theorem countP_one {α : Type} (x : α) (p : α → Bool) : [x].countP p = (p x).toNat := by
  rw [List.countP_singleton]; cases p x <;> rfl
def RestP (T : Ty) (name : String) (r s : Rg) (v : Vl) : Prop := (∀ x ∈ restM T name r s, Hv x v) ∧ (restM T name r s).countP (fun x => hd x v) = (hd r v && !hd s v).toNat
def RowsQ (rows : List (List Rg)) (vs : List Vl) (b : Bool) : Prop := (∀ row ∈ rows, HvL row vs) ∧ rows.countP (fun x => hdL x vs) = b.toNat
theorem countP_no {α : Type} (l : List α) (p : α → Bool) (h : ∀ x ∈ l, p x = false) : l.countP p = 0 := by
  rw [List.countP_eq_zero]
  intro x hx
  rw [h x hx]; decide
theorem toNat_eq {b : Bool} {P : Prop} [Decidable P] (h : b = true ↔ P) : b.toNat = if P then 1 else 0 := by
  cases b with
  | true => rw [if_pos (h.mp rfl)]; rfl
  | false => rw [if_neg (fun z => by have := h.mpr z; cases this)]; rfl
theorem rr_hd (r : Rg) (lo hi c d i : Int) (hr : hd r (.int i) = (decide (lo ≤ i) && decide (i ≤ hi))) (hv : Hv r (.int i)) (hcd : c ≤ d) : (∀ x ∈ rr r lo hi c d, Hv x (.int i)) ∧ (rr r lo hi c d).countP (fun x => hd x (.int i)) = (hd r (.int i) && !hd (.rng c d) (.int i)).toNat := by
  have e0 : (hd r (.int i) && !hd (.rng c d) (.int i)).toNat = if (lo ≤ i ∧ i ≤ hi) ∧ ¬ (c ≤ i ∧ i ≤ d) then 1 else 0 := toNat_eq (by
    rw [hr]
    simp only [hd, Bool.and_eq_true, Bool.not_eq_true', Bool.and_eq_false_iff, decide_eq_true_eq, decide_eq_false_iff_not]
    omega)
  rw [e0]
  unfold rr
  by_cases h : d < lo ∨ hi < c
  · rw [if_pos h]
    refine ⟨fun x hx => by rw [List.mem_singleton.mp hx]; exact hv, ?_⟩
    rw [countP_one]
    refine toNat_eq ?_
    rw [hr]
    simp only [Bool.and_eq_true, decide_eq_true_eq]
    omega
  · rw [if_neg h]
    refine ⟨fun x hx => ?_, ?_⟩
    · rcases List.mem_append.mp hx with hx | hx
      · split at hx
        · rw [List.mem_singleton.mp hx]; simp [Hv]
        · cases hx
      · split at hx
        · rw [List.mem_singleton.mp hx]; simp [Hv]
        · cases hx
    · rw [List.countP_append]
      have e1 : (if lo < c then [Rg.rng lo (c - 1)] else []).countP (fun x => hd x (.int i)) = if lo ≤ i ∧ i < c then 1 else 0 := by
        split
        · rw [countP_one]
          refine toNat_eq ?_
          simp only [hd, Bool.and_eq_true, decide_eq_true_eq]
          omega
        · rw [if_neg (by omega)]; rfl
      have e2 : (if d < hi then [Rg.rng (d + 1) hi] else []).countP (fun x => hd x (.int i)) = if d < i ∧ i ≤ hi then 1 else 0 := by
        split
        · rw [countP_one]
          refine toNat_eq ?_
          simp only [hd, Bool.and_eq_true, decide_eq_true_eq]
          omega
        · rw [if_neg (by omega)]; rfl
      rw [e1, e2]
      by_cases a : lo ≤ i ∧ i < c <;> by_cases b : d < i ∧ i ≤ hi
      · omega
      · rw [if_pos a, if_neg b, if_pos (by omega)]
      · rw [if_neg a, if_pos b, if_pos (by omega)]
      · rw [if_neg a, if_neg b, if_neg (by omega)]
theorem rows_cons {T : Ty} {n : String} {p q c : Rg} {v : Vl} {pre : List Rg} {vpre : List Vl} {ns : List String} {ps qs cs : List Rg} {vs : List Vl} (a : RestP T n p q v) (hc : hd c v = (hd p v && hd q v)) (hpre : HvL pre vpre) (hps : HvL ps vs)
    (b : RowsQ (rowsL T (pre ++ [c]) ns ps qs cs) (vpre ++ [v] ++ vs) (hdL (pre ++ [c]) (vpre ++ [v]) && (hdL ps vs && !hdL qs vs))) :
    RowsQ (rowsL T pre (n :: ns) (p :: ps) (q :: qs) (c :: cs)) (vpre ++ v :: vs) (hdL pre vpre && (hdL (p :: ps) (v :: vs) && !hdL (q :: qs) (v :: vs))) := by
  obtain ⟨a1, a2⟩ := a
  obtain ⟨b1, b2⟩ := b
  have ev : vpre ++ [v] ++ vs = vpre ++ v :: vs := by simp
  rw [ev] at b1 b2
  simp only [rowsL]
  refine ⟨fun row hrow => ?_, ?_⟩
  · rcases List.mem_append.mp hrow with h | h
    · obtain ⟨x, hx, rfl⟩ := List.mem_map.mp h
      exact HvL_append hpre (by simp only [HvL]; exact ⟨a1 x hx, hps⟩)
    · exact b1 row h
  · rw [List.countP_append, b2, List.countP_map]
    have e1 : (restM T n p q).countP ((fun x => hdL x (vpre ++ v :: vs)) ∘ fun x => pre ++ x :: ps) = if (hdL pre vpre && hdL ps vs) = true then (restM T n p q).countP (fun x => hd x v) else 0 := by
      have e0 : ((fun x => hdL x (vpre ++ v :: vs)) ∘ fun x => pre ++ x :: ps) = fun x => hdL pre vpre && (hd x v && hdL ps vs) := by
        funext x
        simp only [Function.comp_apply]
        rw [hdL_append hpre.len, hdL]
      rw [e0]
      cases h1 : hdL pre vpre with
      | false => exact countP_no _ _ fun x _ => rfl
      | true =>
        cases h2 : hdL ps vs with
        | false => exact countP_no _ _ fun x _ => by simp
        | true => simp
    rw [e1, a2, hdL_append hpre.len]
    simp only [hdL, hc, Bool.and_true]
    cases hdL pre vpre <;> cases hd p v <;> cases hd q v <;> cases hdL ps vs <;> cases hdL qs vs <;> simp
/-- typed alike, place by place -/
def TL (T : Ty) (d d2 d3 : Nat) : List String → List Rg → List Rg → List Vl → Prop
  | [], [], [], [] => True
  | n :: ns, p :: ps, q :: qs, v :: vs => Wr true T d n p ∧ Wr false T d2 n q ∧ Wv T d3 n v ∧ TL T d d2 d3 ns ps qs vs
  | _, _, _, _ => False
theorem TL_get {T : Ty} {d d2 d3 : Nat} : ∀ {ns : List String} {ps qs : List Rg} {vs : List Vl}, ps.length = ns.length → qs.length = ns.length → vs.length = ns.length →
    (∀ (i : Nat) (n : String) (p : Rg), ns[i]? = some n → ps[i]? = some p → Wr true T d n p) → (∀ (i : Nat) (n : String) (p : Rg), ns[i]? = some n → qs[i]? = some p → Wr false T d2 n p) →
    (∀ (i : Nat) (n : String) (p : Vl), ns[i]? = some n → vs[i]? = some p → Wv T d3 n p) → TL T d d2 d3 ns ps qs vs
  | [], [], [], [], _, _, _, _, _, _ => by simp only [TL]
  | [], _ :: _, _, _, h, _, _, _, _, _ => by simp at h
  | [], [], _ :: _, _, _, h, _, _, _, _ => by simp at h
  | [], [], [], _ :: _, _, _, h, _, _, _ => by simp at h
  | _ :: _, [], _, _, h, _, _, _, _, _ => by simp at h
  | _ :: _, _ :: _, [], _, _, h, _, _, _, _ => by simp at h
  | _ :: _, _ :: _, _ :: _, [], _, _, h, _, _, _ => by simp at h
  | n :: ns, p :: ps, q :: qs, v :: vs, h1, h2, h3, f1, f2, f3 => by
    simp only [TL]
    exact ⟨f1 0 n p rfl rfl, f2 0 n q rfl rfl, f3 0 n v rfl rfl, TL_get (by simpa using h1) (by simpa using h2) (by simpa using h3)
      (fun i n p a b => f1 (i + 1) n p (by simpa using a) (by simpa using b)) (fun i n p a b => f2 (i + 1) n p (by simpa using a) (by simpa using b)) (fun i n p a b => f3 (i + 1) n p (by simpa using a) (by simpa using b))⟩
theorem TL.fst {T : Ty} (g : GoodT T) {d d2 d3 : Nat} : ∀ {ns : List String} {ps qs : List Rg} {vs : List Vl}, TL T d d2 d3 ns ps qs vs → HvL ps vs ∧ HvL qs vs ∧ AlL ps qs
  | [], [], [], [], _ => by simp [HvL, AlL]
  | n :: ns, p :: ps, q :: qs, v :: vs, h => by
    simp only [TL] at h
    obtain ⟨h1, h2, h3, h4⟩ := h
    obtain ⟨k1, k2, k3⟩ := TL.fst g h4
    simp only [HvL, AlL]
    exact ⟨⟨h1.hv g h3, k1⟩, ⟨h2.hv g h3, k2⟩, Wr.al g h1 h2, k3⟩
  | [], _ :: _, _, _, h => by simp [TL] at h
  | [], [], _ :: _, _, h => by simp [TL] at h
  | [], [], [], _ :: _, h => by simp [TL] at h
  | _ :: _, [], _, _, h => by simp [TL] at h
  | _ :: _, _ :: _, [], _, h => by simp [TL] at h
  | _ :: _, _ :: _, _ :: _, [], h => by simp [TL] at h
theorem mk_rows {c c' : String} {rows : List (List Rg)} {vs : List Vl} {b : Bool} (h : c = c' → RowsQ rows vs b) : (∀ x ∈ rows.map (Rg.mk c), Hv x (.mk c' vs)) ∧ (rows.map (Rg.mk c)).countP (fun x => hd x (.mk c' vs)) = (decide (c = c') && b).toNat := by
  refine ⟨fun x hx => ?_, ?_⟩
  · obtain ⟨row, hrow, rfl⟩ := List.mem_map.mp hx
    simp only [Hv]
    exact fun e => (h e).1 row hrow
  · rw [List.countP_map]
    by_cases e : c = c'
    · subst e
      have e0 : ((fun x => hd x (.mk c vs)) ∘ Rg.mk c) = fun row => hdL row vs := by
        funext row
        simp [hd]
      rw [e0, (h rfl).2]
      simp
    · rw [countP_no]
      · simp [e]
      · intro row _
        simp [hd, e]
theorem left_hd {T : Ty} {name c c' : String} {l : List String} {vs : List Vl} (hm : c' ∈ namesOf T name) : (∀ x ∈ leftM T name l c, Hv x (.mk c' vs)) ∧ (leftM T name l c).countP (fun x => hd x (.mk c' vs)) = (!decide (c' ∈ l) && !decide (c = c')).toNat := by
  unfold leftM
  split
  · refine ⟨fun x hx => by rw [List.mem_singleton.mp hx]; simp [Hv], ?_⟩
    rw [countP_one]
    congr 1
    simp only [hd]
    rw [Bool.eq_iff_iff]
    simp only [List.mem_filter, hm, true_and, decide_eq_true_eq, Bool.not_eq_true', decide_eq_false_iff_not, Bool.and_eq_true, not_or]
    constructor
    · rintro ⟨h1, h2⟩; exact ⟨h1, fun z => h2 z.symm⟩
    · rintro ⟨h1, h2⟩; exact ⟨h1, fun z => h2 z.symm⟩
  · rename_i hn
    refine ⟨(fun x hx => by cases hx), ?_⟩
    have hle := List.length_filter_le (fun x => decide (x ∈ l ∨ x = c)) (namesOf T name)
    have hall := List.length_filter_eq_length_iff.mp (show ((namesOf T name).filter fun x => decide (x ∈ l ∨ x = c)).length = (namesOf T name).length by omega) c' hm
    rw [decide_eq_true_eq] at hall
    have : (!decide (c' ∈ l) && !decide (c = c')) = false := by
      rcases hall with h | h
      · simp [h]
      · simp [h]
    rw [this]; rfl
theorem hdL_any : ∀ {qs : List Rg} {vs : List Vl}, qs.length = vs.length → hdL (qs.map fun _ => Rg.any) vs = true
  | [], [], _ => rfl
  | [], _ :: _, h => by simp at h
  | _ :: _, [], h => by simp at h
  | q :: qs, v :: vs, h => by simp only [List.map_cons, hdL, hd, Bool.true_and]; exact hdL_any (by simpa using h)
/-- the rows behind a cut that there is, or the whole -/
theorem restL_of {T : Ty} (g : GoodT T) {d d2 d3 : Nat} {ns : List String} {ps qs : List Rg} {vs : List Vl} (t : TL T d d2 d3 ns ps qs vs)
    (h : ∀ cs, cutL ps qs = some cs → RowsQ (rowsL T [] ns ps qs cs) ([] ++ vs) (hdL [] [] && (hdL ps vs && !hdL qs vs))) : RowsQ (restL T ns ps qs) vs (hdL ps vs && !hdL qs vs) := by
  obtain ⟨h1, h2, h3⟩ := t.fst g
  obtain ⟨k1, k2⟩ := cutL_hd ps qs vs h3 h1 h2
  unfold restL
  cases hc : cutL ps qs with
  | none =>
    refine ⟨fun row hr => by rw [List.mem_singleton.mp hr]; exact h1, ?_⟩
    rw [countP_one]
    have := k1 hc
    revert this
    cases hdL ps vs <;> cases hdL qs vs <;> simp
  | some cs =>
    have := h cs hc
    simpa [hdL] using this
/-- the law of the rest -/
theorem rest_hd_n {T : Ty} (g : GoodT T) : ∀ n : Nat, (∀ (d d2 d3 : Nat) (name : String) (r s : Rg) (v : Vl), sizeOf s < n → Wr true T d name r → Wr false T d2 name s → Wv T d3 name v → RestP T name r s v) ∧
    ∀ (d d2 d3 : Nat) (ns : List String) (ps qs : List Rg) (vs : List Vl) (cs pre : List Rg) (vpre : List Vl), sizeOf qs < n → TL T d d2 d3 ns ps qs vs → cutL ps qs = some cs → HvL pre vpre → RowsQ (rowsL T pre ns ps qs cs) (vpre ++ vs) (hdL pre vpre && (hdL ps vs && !hdL qs vs))
  | 0 => ⟨fun _ _ _ _ _ _ _ h => absurd h (Nat.not_lt_zero _), fun _ _ _ _ _ _ _ _ _ _ h => absurd h (Nat.not_lt_zero _)⟩
  | n + 1 => by
    obtain ⟨ih1, ih2⟩ := rest_hd_n g n
    constructor
    · intro d d2 d3 name r s v hn h1 h2 h3
      cases s with
      | any =>
        have e : restM T name r .any = [] := by cases r <;> simp [restM]
        unfold RestP
        rw [e]
        simp [hd]
      | nt l => have := h2.nt.1; simp at this
      | rng c d' =>
        have hcd : c ≤ d' := h2.rng2.2.2.2.2.2
        cases v with
        | mk _ _ =>
          obtain ⟨_, _, hne, _⟩ := h3.mk
          exact absurd h2.rng.1 hne
        | int i =>
          have hi := h3.int
          unfold RestP
          cases r with
          | any =>
            simp only [restM]
            exact rr_hd .any (-99) 99 c d' i (by simp only [hd]; rw [eq_comm]; simp only [Bool.and_eq_true, decide_eq_true_eq]; omega) (by simp [Hv]) hcd
          | rng a b =>
            simp only [restM]
            exact rr_hd (.rng a b) a b c d' i (by simp only [hd]) (by simp [Hv]) hcd
          | nt l => exact absurd hi.1 h1.nt.2.1
          | mk _ _ =>
            obtain ⟨_, _, hne, _⟩ := h1.mk
            exact absurd hi.1 hne
      | mk c qs =>
        obtain ⟨e2, rfl, hne, fs, m2, l2, f2⟩ := h2.mk
        obtain ⟨me1, me2, me3, me4⟩ := maker_fields g m2
        simp only at me1 me2 me3 me4
        have hcn : c ∈ namesOf T name := List.mem_map.mpr ⟨_, m2, rfl⟩
        cases v with
        | int i => exact absurd h3.int.1 hne
        | mk c'' vs =>
          obtain ⟨e3, rfl, _, gs, m3, l3, f3⟩ := h3.mk
          have hc'' : c'' ∈ namesOf T name := List.mem_map.mpr ⟨_, m3, rfl⟩
          have hsz : sizeOf qs < n := by simp at hn; omega
          -- the rows behind parts ps
          have rows : ∀ (dd : Nat) (ps : List Rg), ps.length = qs.length → (∀ (i : Nat) (f : String) (p : Rg), fs[i]? = some f → ps[i]? = some p → Wr true T dd f p) → c = c'' → RowsQ (restL T (fieldsOf T c) ps qs) vs (hdL ps vs && !hdL qs vs) := by
            intro dd ps hl hf e
            subst e
            obtain rfl := same_fields g m2 m3
            rw [me1]
            have t : TL T dd e2 e3 fs ps qs vs := TL_get (by omega) (by omega) (by omega) hf f2 f3
            exact restL_of g t fun cs hcs => ih2 dd e2 e3 fs ps qs vs cs [] [] hsz t hcs (by simp [HvL])
          have anys := rows 0 (qs.map fun _ => Rg.any) (by simp) (fun i f p _ hp => by
            rw [List.getElem?_map] at hp
            obtain ⟨_, _, rfl⟩ := Option.map_eq_some_iff.mp hp
            exact Wr.any)
          have hany : c = c'' → hdL (qs.map fun _ => Rg.any) vs = true := fun e => by
            subst e
            obtain rfl := same_fields g m2 m3
            exact hdL_any (by omega)
          unfold RestP
          cases r with
          | any =>
            have e : restM T name .any (.mk c qs) = leftM T name [] c ++ (restL T (fieldsOf T c) (qs.map fun _ => Rg.any) qs).map (.mk c) := by simp only [restM, restL]
            rw [e]
            obtain ⟨a1, a2⟩ := left_hd (T := T) (name := name) (c := c) (l := []) (vs := vs) hc''
            obtain ⟨b1, b2⟩ := mk_rows anys
            refine ⟨fun x hx => (List.mem_append.mp hx).elim (a1 x) (b1 x), ?_⟩
            rw [List.countP_append, a2, b2]
            simp only [hd]
            by_cases e : c = c''
            · simp [e, hany e]
            · simp [e]
          | rng a b => exact absurd h1.rng.1 hne
          | nt l =>
            by_cases hl : c ∈ l
            · have e : restM T name (.nt l) (.mk c qs) = [.nt l] := by simp only [restM]; rw [if_pos hl]
              rw [e]
              refine ⟨fun x hx => by rw [List.mem_singleton.mp hx]; simp [Hv], ?_⟩
              rw [countP_one]
              simp only [hd]
              by_cases e : c = c''
              · subst e; simp [hl]
              · simp [e]
            · have e : restM T name (.nt l) (.mk c qs) = leftM T name l c ++ (restL T (fieldsOf T c) (qs.map fun _ => Rg.any) qs).map (.mk c) := by simp only [restM, restL]; rw [if_neg hl]
              rw [e]
              obtain ⟨a1, a2⟩ := left_hd (T := T) (name := name) (c := c) (l := l) (vs := vs) hc''
              obtain ⟨b1, b2⟩ := mk_rows anys
              refine ⟨fun x hx => (List.mem_append.mp hx).elim (a1 x) (b1 x), ?_⟩
              rw [List.countP_append, a2, b2]
              simp only [hd]
              by_cases e : c = c''
              · subst e; simp [hl, hany rfl]
              · simp [e]
          | mk c' ps =>
            obtain ⟨e1, rfl, _, fs', m1, l1, f1⟩ := h1.mk
            by_cases e : c' = c
            · subst e
              obtain rfl := same_fields g m1 m2
              have e : restM T name (.mk c' ps) (.mk c' qs) = (restL T (fieldsOf T c') ps qs).map (.mk c') := by simp only [restM, restL]; exact if_pos trivial
              rw [e]
              have := rows e1 ps (by omega) f1
              obtain ⟨b1, b2⟩ := mk_rows this
              refine ⟨b1, ?_⟩
              rw [b2]
              simp only [hd]
              by_cases e : c' = c''
              · simp [e]
              · simp [e]
            · have e2 : restM T name (.mk c' ps) (.mk c qs) = [.mk c' ps] := by simp only [restM]; rw [if_neg e]
              rw [e2]
              refine ⟨fun x hx => by rw [List.mem_singleton.mp hx]; exact h1.hv g h3, ?_⟩
              rw [countP_one]
              simp only [hd]
              by_cases e3 : c' = c''
              · subst e3; simp [Ne.symm e]
              · simp [e3]
    · intro d d2 d3 ns ps qs vs cs pre vpre hn t hcs hpre
      match ns, ps, qs, vs, hn, t, hcs with
      | [], [], [], [], _, _, hcs =>
        simp [cutL] at hcs
        subst hcs
        unfold RowsQ
        simp [rowsL, hdL]
      | n' :: ns, p :: ps, q :: qs, v :: vs, hn, t, hcs =>
        have t0 := t
        simp only [TL] at t
        obtain ⟨w1, w2, w3, t⟩ := t
        obtain ⟨k1, k2, k3⟩ := t.fst g
        simp at hn
        simp only [cutL] at hcs
        cases hc : cutM p q with
        | none => rw [hc] at hcs; cases hcs
        | some x =>
          rw [hc] at hcs
          cases hc2 : cutL ps qs with
          | none => rw [hc2] at hcs; cases hcs
          | some ys =>
            rw [hc2] at hcs
            obtain rfl := Option.some.inj hcs
            obtain ⟨c1, c2⟩ := (cut_hd p q v (Wr.al g w1 w2) (w1.hv g w3) (w2.hv g w3)).2 x hc
            have hpre2 : HvL (pre ++ [x]) (vpre ++ [v]) := HvL_append hpre (by simp only [HvL]; exact ⟨c1, trivial⟩)
            exact rows_cons (ih1 d d2 d3 n' p q v (by omega) w1 w2 w3) c2 hpre k1 (ih2 d d2 d3 ns ps qs vs ys (pre ++ [x]) (vpre ++ [v]) (by omega) t hc2 hpre2)
      | [], _ :: _, _, _, _, h, _ => simp [TL] at h
      | [], [], _ :: _, _, _, h, _ => simp [TL] at h
      | [], [], [], _ :: _, _, h, _ => simp [TL] at h
      | _ :: _, [], _, _, _, h, _ => simp [TL] at h
      | _ :: _, _ :: _, [], _, _, h, _ => simp [TL] at h
      | _ :: _, _ :: _, _ :: _, [], _, h, _ => simp [TL] at h
theorem rest_hd {T : Ty} (g : GoodT T) {d d2 d3 : Nat} {name : String} {r s : Rg} {v : Vl} (h1 : Wr true T d name r) (h2 : Wr false T d2 name s) (h3 : Wv T d3 name v) : RestP T name r s v := (rest_hd_n g (sizeOf s + 1)).1 d d2 d3 name r s v (Nat.lt_succ_self _) h1 h2 h3
theorem restL_hd {T : Ty} (g : GoodT T) {d d2 d3 : Nat} {ns : List String} {ps qs : List Rg} {vs : List Vl} (t : TL T d d2 d3 ns ps qs vs) : RowsQ (restL T ns ps qs) vs (hdL ps vs && !hdL qs vs) :=
  restL_of g t fun cs hcs => (rest_hd_n g (sizeOf qs + 1)).2 d d2 d3 ns ps qs vs cs [] [] (Nat.lt_succ_self _) t hcs (by simp [HvL])
end K09
end

section
set_option maxHeartbeats 0
set_option linter.all false
set_option maxRecDepth 100000
namespace K09
open Ev
/-! ### the looks: holds, _law_holds, _law_fits, _law_in -/
theorem ix_ok {a b : E} {ρ : Env} {μ μ1 μ2 : Mem} {ds : List D} {k : Nat} {x : D} (ha : a ρ μ = .ok (.d (.tup ds)) μ1) (hb : b ρ μ1 = .ok (.d (.int k)) μ2) (hx : ds[k]? = some x) : eIdx a b ρ μ = .ok (.d x) μ2 := by
  unfold eIdx
  refine eOp_ok ha hb ?_
  rw [vw_d, vw_d]
  show (atI ds (k : Int)).map R.d = _
  rw [atI_nat, hx]; rfl
theorem ixc_ok {a : E} {ρ : Env} {μ μ1 : Mem} {ds : List D} {i : Int} {x : D} (ha : a ρ μ = .ok (.d (.tup ds)) μ1) (hx : atI ds i = some x) : eIdx a (eC (.int i)) ρ μ = .ok (.d x) μ1 := by
  unfold eIdx
  refine eOp_ok ha eC_ok ?_
  rw [vw_d, vw_d]
  show (atI ds i).map R.d = _
  rw [hx]; rfl
theorem ixl_ok {a b : E} {ρ : Env} {μ μ1 μ2 : Mem} {ds : List D} {k : Nat} {x : D} (ha : a ρ μ = .ok (.d (.lst ds)) μ1) (hb : b ρ μ1 = .ok (.d (.int k)) μ2) (hx : ds[k]? = some x) : eIdx a b ρ μ = .ok (.d x) μ2 := by
  unfold eIdx
  refine eOp_ok ha hb ?_
  rw [vw_d, vw_d]
  show (atI ds (k : Int)).map R.d = _
  rw [atI_nat, hx]; rfl
theorem eT_ok {t : Ev.T} {ρ : Env} {μ μ1 : Mem} {b : Bool} (h : t ρ μ = .ok b μ1) : eT t ρ μ = .ok (.d (.bl b)) μ1 := by unfold eT; rw [h]; rfl
theorem eAll_ok {k b : Bool} {own : List Nat} {t : Tg} {it : It} {elt : E} {ρ : Env} {μ μ1 μ2 : Mem} {xs : List R} (h1 : it ρ μ = .ok xs μ1) (h2 : allL k t elt xs (wipeE ρ own) μ1 = .ok b μ2) : eAll k own t it elt ρ μ = .ok (.d (.bl b)) μ2 := by
  unfold eAll; rw [h1, bind_ok, h2]; rfl
theorem allL_map {t : Tg} {elt : E} {ρ : Env} {μ : Mem} : ∀ {xs : List R} {ys : List Bool}, xs.length = ys.length → (∀ (i : Nat) (x : R) (y : Bool), xs[i]? = some x → ys[i]? = some y → ∃ ρ1, t x ρ = some ρ1 ∧ elt ρ1 μ = .ok (.d (.bl y)) μ) → allL true t elt xs ρ μ = .ok (ys.all id) μ
  | [], [], _, _ => rfl
  | [], _ :: _, h, _ => by simp at h
  | _ :: _, [], h, _ => by simp at h
  | x :: xs, y :: ys, h, f => by
    obtain ⟨ρ1, h1, h2⟩ := f 0 x y rfl rfl
    rw [allL_cons, h1]
    dsimp only
    rw [h2]
    have ih := allL_map (t := t) (elt := elt) (ρ := ρ) (μ := μ) (xs := xs) (ys := ys) (by simpa using h) fun i x y a b => f (i + 1) x y (by simpa using a) (by simpa using b)
    cases y with
    | true => rw [nx_ok, bind_ok]; dsimp only; rw [if_pos rfl, ih]; simp
    | false => rw [nx_ok, bind_ok]; dsimp only; rw [if_neg (by decide)]; simp
theorem hdL_zip : ∀ {ps : List Rg} {vs : List Vl}, ps.length = vs.length → hdL ps vs = ((ps.zip vs).map fun p => hd p.1 p.2).all id
  | [], [], _ => rfl
  | [], _ :: _, h => by simp at h
  | _ :: _, [], h => by simp at h
  | p :: ps, v :: vs, h => by simp only [hdL, List.zip_cons_cons, List.map_cons, List.all_cons, id]; rw [hdL_zip (by simpa using h)]
theorem encL_get' {rs : List Rg} {i : Nat} {p : Rg} (h : rs[i]? = some p) : (encL rs)[i]? = some (enc p) := by rw [encL_map, List.getElem?_map, h]; rfl
theorem encVs_get {rs : List Vl} {i : Nat} {p : Vl} (h : rs[i]? = some p) : (encVs rs)[i]? = some (encV p) := by rw [encVs_map, List.getElem?_map, h]; rfl
theorem nin_str {l : List String} {c : String} : ninR (.d (.str c)) (.d (.tup (l.map .str))) = some (!decide (c ∈ l)) := by
  show ((if min (D.dep (.str c)) (D.depL (l.map .str)) ≤ EqDep then some ((l.map D.str).any fun y => y.eqv (.str c)) else none)).map not = _
  rw [if_pos (by rw [depL_str]; simp), any_str]; rfl
theorem str_eq (c c' : String) : eqR (.d (.str c)) (.d (.str c')) = some (decide (c = c')) := by
  show eqD _ _ = _
  rw [eqD_left (by simp [D.dep])]
  simp only [D.eqv]
  congr 1
theorem str_ne (c c' : String) : neR (.d (.str c)) (.d (.str c')) = some (!decide (c = c')) := by
  show (eqR _ _).map not = _
  rw [str_eq]; rfl
/-- the head of a written region -/
def hdS : Rg → String
  | .any => "any"
  | .rng _ _ => "range"
  | .nt _ => "not"
  | .mk _ _ => "make"
theorem enc_hd (r : Rg) : ∃ ds, enc r = .tup ds ∧ atI ds 0 = some (.str (hdS r)) := by
  cases r <;> exact ⟨_, by simp only [enc]; rfl, rfl⟩
theorem is_hd {i : Nat} {ρ : Env} {μ : Mem} {r : Rg} {s : String} {b : Bool} (h : ρ[i]? = some (.v (.d (enc r)))) (hb : decide (hdS r = s) = b) : tCmp eqR (eIdx (eV i) (eC (.int 0))) (eC (.str s)) ρ μ = .ok b μ := by
  obtain ⟨ds, e1, e2⟩ := enc_hd r
  rw [e1] at h
  exact tCmp_ok (ixc_ok (eV_at h) e2) eC_ok (by rw [vw_d, vw_d, str_eq, hb])
theorem is_any {i : Nat} {ρ : Env} {μ : Mem} {r : Rg} {b : Bool} (h : ρ[i]? = some (.v (.d (enc r)))) (hb : decide (hdS r = "any") = b) : tCmp eqR (eV i) (eC (.tup [.str "any"])) ρ μ = .ok b μ := by
  refine tCmp_ok (eV_at h) eC_ok ?_
  rw [vw_d, vw_d]
  show eqD _ _ = _
  rw [eqD_right (by simp [D.dep, D.depL])]
  subst hb
  cases r <;> simp [enc, D.eqv, D.eqvL, hdS]
theorem rng_look {ρ : Env} {μ : Mem} {a b i : Int} (h0 : ρ[0]? = some (.v (.d (enc (.rng a b))))) (h1 : ρ[1]? = some (.v (.d (encV (.int i))))) : eT (tCh leR leR (eIdx (eV 0) (eC (.int 1))) (eIdx (eV 1) (eC (.int 1))) (eIdx (eV 0) (eC (.int 2)))) ρ μ = .ok (.d (.bl (hd (.rng a b) (.int i)))) μ := by
  have e0 : eV 0 ρ μ = .ok (.d (.tup [.str "range", .int a, .int b])) μ := by rw [eV_at h0]; simp [enc]
  have e1 : eV 1 ρ μ = .ok (.d (.tup [.str "int", .int i])) μ := by rw [eV_at h1]; simp [encV]
  refine eT_ok ?_
  unfold tCh
  rw [ixc_ok e0 rfl, bind_ok, ixc_ok e1 rfl, bind_ok]
  show (lift (some (decide (a ≤ i))) μ).bind _ = _
  rw [lift_some, bind_ok]
  simp only [hd]
  by_cases h : a ≤ i
  · rw [decide_eq_true h, if_pos rfl, ixc_ok e0 rfl, bind_ok, Bool.true_and]
    rfl
  · rw [decide_eq_false h, if_neg (by decide), Bool.false_and]
theorem nt_look {ρ : Env} {μ : Mem} {l : List String} {c : String} {vs : List Vl} (h0 : ρ[0]? = some (.v (.d (enc (.nt l))))) (h1 : ρ[1]? = some (.v (.d (encV (.mk c vs))))) : eT (tCmp ninR (eIdx (eV 1) (eC (.int 1))) (eIdx (eV 0) (eC (.int 1)))) ρ μ = .ok (.d (.bl (hd (.nt l) (.mk c vs)))) μ := by
  have e0 : eV 0 ρ μ = .ok (.d (.tup [.str "not", .tup (l.map .str)])) μ := by rw [eV_at h0]; simp [enc]
  have e1 : eV 1 ρ μ = .ok (.d (.tup [.str "make", .str c, .tup (encVs vs)])) μ := by rw [eV_at h1]; simp [encV]
  exact eT_ok (tCmp_ok (ixc_ok e1 rfl) (ixc_ok e0 rfl) (by rw [vw_d, vw_d, nin_str]; rfl))
theorem holds_spec : ∀ (n : Nat) (r : Rg) (v : Vl) (μ : Mem), Hv r v → hgt r < n → callN P n "holds" [.d (enc r), .d (encV v)] μ = .ok (.d (.bl (hd r v))) μ
  | 0, _, _, _, _, h => absurd h (Nat.not_lt_zero _)
  | n + 1, r, v, μ, hv, hn => by
    rw [callN_run (d := f_holds) rfl rfl]
    have ih := holds_spec n
    generalize callN P n = C at ih ⊢
    refine runB_rt (μ' := μ) ?_ rfl
    simp only [f_holds, List.map_cons, List.map_nil, List.length_cons, List.length_nil, Nat.reduceAdd, Nat.reduceSub, List.replicate_succ, List.replicate_zero, List.cons_append, List.nil_append]
    cases r with
    | any =>
      refine sq_rt ?_
      rw [sIf_t (is_any (r := .any) rfl rfl)]
      exact sRet_ok (by rw [eC_ok]; simp [hd])
    | rng a b =>
      cases v with
      | mk _ _ => simp [Hv] at hv
      | int i =>
        rw [sq_if_f (is_any (r := .rng a b) rfl rfl)]
        refine sq_rt ?_
        rw [sIf_t (is_hd (r := .rng a b) rfl rfl)]
        exact sRet_ok (rng_look rfl rfl)
    | nt l =>
      cases v with
      | int i => simp [Hv] at hv
      | mk c vs =>
        rw [sq_if_f (is_any (r := .nt l) rfl rfl), sq_if_f (is_hd (r := .nt l) rfl rfl)]
        refine sq_rt ?_
        rw [sIf_t (is_hd (r := .nt l) rfl rfl)]
        exact sRet_ok (nt_look rfl rfl)
    | mk c ps =>
      cases v with
      | int i => simp [Hv] at hv
      | mk c' vs =>
        simp only [Hv] at hv
        rw [sq_if_f (is_any (r := .mk c ps) rfl rfl), sq_if_f (is_hd (r := .mk c ps) rfl rfl), sq_if_f (is_hd (r := .mk c ps) rfl rfl)]
        refine sRet_ok ?_
        have e0 : eV 0 [.v (.d (enc (.mk c ps))), .v (.d (encV (.mk c' vs))), .un, .un] μ = .ok (.d (.tup [.str "make", .str c, .tup (encL ps)])) μ := by rw [eV_at rfl]; simp [enc]
        have e1 : eV 1 [.v (.d (enc (.mk c ps))), .v (.d (encV (.mk c' vs))), .un, .un] μ = .ok (.d (.tup [.str "make", .str c', .tup (encVs vs)])) μ := by rw [eV_at rfl]; simp [encV]
        unfold eAnd
        rw [eT_ok (tCmp_ok (ixc_ok e0 rfl) (ixc_ok e1 rfl) (by rw [vw_d, vw_d, str_eq])), bind_ok]
        simp only [hd]
        by_cases e : c = c'
        · subst e
          rw [decide_eq_true rfl]
          show eAll _ _ _ _ _ _ _ = _
          rw [Bool.true_and]
          have hvl := hv rfl
          have hl := hvl.len
          rw [hdL_zip hl]
          refine eAll_ok (iEnum_tup (ixc_ok e0 rfl)) ?_
          refine allL_map (by rw [length_enumF, encL_map]; simp; omega) fun i x y hx hy => ?_
          rw [getElem_enumF, encL_map, List.getElem?_map] at hx
          obtain ⟨z, hz, hx⟩ := Option.map_eq_some_iff.mp hx
          obtain ⟨p, hp, hz⟩ := Option.map_eq_some_iff.mp hz
          subst hx hz
          rw [List.getElem?_map] at hy
          obtain ⟨pv, hpv, hy⟩ := Option.map_eq_some_iff.mp hy
          obtain ⟨h1, h2⟩ := List.getElem?_zip_eq_some.mp hpv
          rw [hp] at h1
          obtain rfl := Option.some.inj h1
          subst hy
          rw [Nat.zero_add]
          refine ⟨[.v (.d (enc (.mk c ps))), .v (.d (encV (.mk c vs))), .v (.d (.int i)), .v (.d (enc pv.1))], by simp only [tgT, tgs, tgN, wipeE, List.map_cons, List.map_nil, Option.bind_some, List.set_cons_succ, List.set_cons_zero], ?_⟩
          unfold eCall
          have e1' : eV 1 [.v (.d (enc (.mk c ps))), .v (.d (encV (.mk c vs))), .v (.d (.int i)), .v (.d (enc pv.1))] μ = .ok (.d (.tup [.str "make", .str c, .tup (encVs vs)])) μ := by rw [eV_at rfl]; simp [encV]
          rw [evs_cons, eV_at rfl, bind_ok, evs_cons, ix_ok (ixc_ok e1' rfl) (eV_at rfl) (encVs_get h2), bind_ok, evs_nil, bind_ok, bind_ok, bind_ok]
          have hg := hgt_get hp
          exact ih pv.1 pv.2 μ (hvl.get hp h2) (by simp only [hgt] at hn; omega)
        · rw [decide_eq_false e]
          rfl
end K09
end

section
set_option maxHeartbeats 0
set_option linter.all false
set_option maxRecDepth 100000
namespace K09
open Ev
theorem tE_bl {e : E} {ρ : Env} {μ μ1 : Mem} {b : Bool} (h : e ρ μ = .ok (.d (.bl b)) μ1) : tE e ρ μ = .ok b μ1 := by unfold tE; rw [h]; rfl
theorem tNot_ok {t : Ev.T} {ρ : Env} {μ μ1 : Mem} {b : Bool} (h : t ρ μ = .ok b μ1) : tNot t ρ μ = .ok (!b) μ1 := by unfold tNot; rw [h]; rfl
/-- for x in ..: if not look: return False -/
theorem look_for {j : Nat} {e : E} {μ : Mem} (I : Env → Prop) : ∀ {xs : List R} {ys : List Bool} {ρ : Env}, I ρ → xs.length = ys.length → (∀ (ρ : Env) (x : R), I ρ → I (ρ.set j (.v x))) →
    (∀ (i : Nat) (x : R) (y : Bool) (ρ : Env), I ρ → xs[i]? = some x → ys[i]? = some y → e (ρ.set j (.v x)) μ = .ok (.d (.bl y)) μ) →
    (ys.all id = true → ∃ ρ', I ρ' ∧ forL (tgN j) (sIf (tNot (tE e)) (sRet (eC (.bl false))) sNil) xs ρ μ = .ok (.nx ρ') μ) ∧ (ys.all id = false → forL (tgN j) (sIf (tNot (tE e)) (sRet (eC (.bl false))) sNil) xs ρ μ = .ok (.rt (.d (.bl false))) μ)
  | [], [], ρ, hI, _, _, _ => ⟨fun _ => ⟨ρ, hI, rfl⟩, fun h => by simp at h⟩
  | [], _ :: _, _, _, h, _, _ => by simp at h
  | _ :: _, [], _, _, h, _, _ => by simp at h
  | x :: xs, y :: ys, ρ, hI, hl, hs, h => by
    have h0 := h 0 x y ρ hI rfl rfl
    have hI2 := hs ρ x hI
    obtain ⟨a, b⟩ := look_for (j := j) (e := e) (μ := μ) I (xs := xs) (ys := ys) hI2 (by simpa using hl) hs fun i x y ρ hI a b => h (i + 1) x y ρ hI (by simpa using a) (by simpa using b)
    have ht := tNot_ok (tE_bl h0)
    cases y with
    | true =>
      have e1 : forL (tgN j) (sIf (tNot (tE e)) (sRet (eC (.bl false))) sNil) (x :: xs) ρ μ = forL (tgN j) (sIf (tNot (tE e)) (sRet (eC (.bl false))) sNil) xs (ρ.set j (.v x)) μ := by
        simp only [forL, tgN]
        rw [sIf_f ht, sNil_ok, bind_ok]
      rw [e1]
      have e2 : (true :: ys).all id = ys.all id := by simp
      rw [e2]
      exact ⟨a, b⟩
    | false =>
      refine ⟨fun h => by simp at h, fun _ => ?_⟩
      simp only [forL, tgN]
      rw [sIf_t ht, sRet_ok eC_ok, bind_ok]
theorem look_all {j : Nat} {e : E} {it : It} {ρ : Env} {μ : Mem} (I : Env → Prop) {xs : List R} {ys : List Bool} (hI : I ρ) (hit : it ρ μ = .ok xs μ) (hl : xs.length = ys.length) (hs : ∀ (ρ : Env) (x : R), I ρ → I (ρ.set j (.v x)))
    (h : ∀ (i : Nat) (x : R) (y : Bool) (ρ : Env), I ρ → xs[i]? = some x → ys[i]? = some y → e (ρ.set j (.v x)) μ = .ok (.d (.bl y)) μ) :
    sq (sFor (tgN j) it (sIf (tNot (tE e)) (sRet (eC (.bl false))) sNil)) (sRet (eC (.bl true))) ρ μ = .ok (.rt (.d (.bl (ys.all id)))) μ := by
  obtain ⟨a, b⟩ := look_for (j := j) (e := e) (μ := μ) I hI hl hs h
  cases hy : ys.all id with
  | true =>
    obtain ⟨ρ', _, e1⟩ := a hy
    rw [sq_nx (sFor_rt hit e1)]
    exact sRet_ok eC_ok
  | false => exact sq_rt (sFor_rt hit (b hy))
theorem call2' {C : Fn} {f : String} {a b : E} {ρ : Env} {μ : Mem} {x y : R} {o : Out R} (ha : a ρ μ = .ok x μ) (hb : b ρ μ = .ok y μ) (h : C f [x, y] μ = o) : eCall C f [a, b] ρ μ = o := by
  unfold eCall
  rw [evs_cons, ha, bind_ok, evs_cons, hb, bind_ok, evs_nil, bind_ok, bind_ok, bind_ok]; exact h
theorem zip_row {ps : List Rg} {vs : List Vl} {i : Nat} {y : Bool} (h : ((ps.zip vs).map fun p => hd p.1 p.2)[i]? = some y) : ∃ p v, ps[i]? = some p ∧ vs[i]? = some v ∧ y = hd p v := by
  rw [List.getElem?_map] at h
  obtain ⟨pv, hpv, hy⟩ := Option.map_eq_some_iff.mp h
  obtain ⟨h1, h2⟩ := List.getElem?_zip_eq_some.mp hpv
  exact ⟨_, _, h1, h2, hy.symm⟩
theorem lholds_spec {T : Ty} (g : GoodT T) : ∀ (n : Nat) (d : Nat) (name : String) (r : Rg) (v : Vl) (μ : Mem), Wv T d name v → Hv r v → hgt r < n → callN P n "_law_holds" [.d (enc r), .d (encV v)] μ = .ok (.d (.bl (hd r v))) μ
  | 0, _, _, _, _, _, _, _, h => absurd h (Nat.not_lt_zero _)
  | n + 1, d, name, r, v, μ, hw, hv, hn => by
    rw [callN_run (d := f_law_holds) rfl rfl]
    have ih := lholds_spec g n
    generalize callN P n = C at ih ⊢
    refine runB_rt (μ' := μ) ?_ rfl
    simp only [f_law_holds, List.map_cons, List.map_nil, List.length_cons, List.length_nil, Nat.reduceAdd, Nat.reduceSub, List.replicate_succ, List.replicate_zero, List.cons_append, List.nil_append]
    cases r with
    | any =>
      refine sq_rt ?_
      rw [sIf_t (is_hd (r := .any) rfl rfl)]
      exact sRet_ok (by rw [eC_ok]; simp [hd])
    | rng a b =>
      cases v with
      | mk _ _ => simp [Hv] at hv
      | int i =>
        rw [sq_if_f (is_hd (r := .rng a b) rfl rfl)]
        refine sq_rt ?_
        rw [sIf_t (is_hd (r := .rng a b) rfl rfl)]
        exact sRet_ok (rng_look rfl rfl)
    | nt l =>
      cases v with
      | int i => simp [Hv] at hv
      | mk c vs =>
        rw [sq_if_f (is_hd (r := .nt l) rfl rfl), sq_if_f (is_hd (r := .nt l) rfl rfl)]
        refine sq_rt ?_
        rw [sIf_t (is_hd (r := .nt l) rfl rfl)]
        exact sRet_ok (nt_look rfl rfl)
    | mk c ps =>
      cases v with
      | int i => simp [Hv] at hv
      | mk c' vs =>
        simp only [Hv] at hv
        rw [sq_if_f (is_hd (r := .mk c ps) rfl rfl), sq_if_f (is_hd (r := .mk c ps) rfl rfl), sq_if_f (is_hd (r := .mk c ps) rfl rfl)]
        have e0 : ∀ x : Sl, eV 0 [.v (.d (enc (.mk c ps))), .v (.d (encV (.mk c' vs))), x] μ = .ok (.d (.tup [.str "make", .str c, .tup (encL ps)])) μ := fun x => by rw [eV_at rfl]; simp [enc]
        have e1 : ∀ x : Sl, eV 1 [.v (.d (enc (.mk c ps))), .v (.d (encV (.mk c' vs))), x] μ = .ok (.d (.tup [.str "make", .str c', .tup (encVs vs)])) μ := fun x => by rw [eV_at rfl]; simp [encV]
        have e2 := tCmp_ok (f := neR) (ixc_ok (i := 1) (e0 .un) rfl) (ixc_ok (i := 1) (e1 .un) rfl) (by rw [vw_d, vw_d, str_ne])
        simp only [hd]
        by_cases e : c = c'
        · subst e
          rw [decide_eq_true rfl] at e2 ⊢
          rw [sq_if_f e2, Bool.true_and]
          have hvl := hv rfl
          have hl := hvl.len
          obtain ⟨d', rfl, _, fs, m1, l1, f1⟩ := hw.mk
          have hf2 := (maker_fields g m1).2.1
          simp only at hf2
          rw [hdL_zip hl]
          refine look_all (fun ρ => ∃ x : Sl, ρ = [.v (.d (enc (.mk c ps))), .v (.d (encV (.mk c vs))), x]) (xs := rangeF 0 ps.length) ⟨_, rfl⟩ ?_ (by simp; omega) ?_ ?_
          · exact iRange1_nat (eBi1_ok (ixc_ok (i := 2) (e0 .un) rfl) (by rw [vw_d, lenR_tup, encL_map, List.length_map])) (by omega)
          · rintro ρ x ⟨y, rfl⟩
            exact ⟨.v x, by simp only [List.set_cons_succ, List.set_cons_zero]⟩
          · rintro i x y ρ ⟨s, rfl⟩ hx hy
            obtain ⟨p, v, hp, hv', rfl⟩ := zip_row hy
            have hil : i < ps.length := (List.getElem?_eq_some_iff.mp hp).1
            rw [getElem_rangeF _ _ _ hil, Int.zero_add] at hx
            obtain rfl := Option.some.inj hx
            simp only [List.set_cons_succ, List.set_cons_zero]
            have hg := hgt_get hp
            exact call2' (ix_ok (ixc_ok (i := 2) (e0 _) rfl) (eV_at rfl) (encL_get' hp)) (ix_ok (ixc_ok (i := 2) (e1 _) rfl) (eV_at rfl) (encVs_get hv')) (ih d' fs[i] p v μ (f1 i fs[i] v (by simp) hv') (hvl.get hp hv') (by simp only [hgt] at hn; omega))
        · rw [decide_eq_false e] at e2 ⊢
          refine sq_rt ?_
          rw [sIf_t e2]
          exact sRet_ok eC_ok
end K09
end

section
set_option maxHeartbeats 0
set_option linter.all false
set_option maxRecDepth 100000
namespace K09
open Ev
/-! ### heights, in plain words -/
abbrev Hf := String → Option Nat
def known (F : Hf) (m : Mk) : Bool := m.2.all fun k => (F k).isSome
def mh (F : Hf) (m : Mk) : Nat := (m.2.map fun k => (F k).getD 0).foldl max 0 + 1
def rowsF (F : Hf) (ms : List Mk) : List Nat := (ms.filter (known F)).map (mh F)
def mn : List Nat → Nat
  | [] => 0
  | x :: xs => xs.foldl min x
theorem le_max (a : Nat) : ∀ (l : List Nat) (a : Nat), a ≤ l.foldl max a ∧ ∀ x ∈ l, x ≤ l.foldl max a
  | [], a => ⟨Nat.le_refl _, fun x h => by cases h⟩
  | y :: l, a => by
    obtain ⟨h1, h2⟩ := le_max a l (max a y)
    rw [List.foldl_cons]
    refine ⟨Nat.le_trans (Nat.le_max_left _ _) h1, fun x hx => ?_⟩
    rcases List.mem_cons.mp hx with rfl | hx
    · exact Nat.le_trans (Nat.le_max_right _ _) h1
    · exact h2 x hx
theorem max_le {b : Nat} : ∀ {l : List Nat} {a : Nat}, a ≤ b → (∀ x ∈ l, x ≤ b) → l.foldl max a ≤ b
  | [], a, h, _ => h
  | y :: l, a, h, h2 => by
    rw [List.foldl_cons]
    exact max_le (Nat.max_le.mpr ⟨h, h2 y (by simp)⟩) fun x hx => h2 x (by simp [hx])
theorem min_le : ∀ (l : List Nat) (a : Nat), l.foldl min a ≤ a ∧ (∀ x ∈ l, l.foldl min a ≤ x) ∧ (l.foldl min a = a ∨ l.foldl min a ∈ l)
  | [], a => ⟨Nat.le_refl _, (fun x h => by cases h), .inl rfl⟩
  | y :: l, a => by
    obtain ⟨h1, h2, h3⟩ := min_le l (min a y)
    rw [List.foldl_cons]
    refine ⟨Nat.le_trans h1 (Nat.min_le_left _ _), fun x hx => ?_, ?_⟩
    · rcases List.mem_cons.mp hx with rfl | hx
      · exact Nat.le_trans h1 (Nat.min_le_right _ _)
      · exact h2 x hx
    · rcases h3 with h3 | h3
      · rw [h3]
        by_cases h : a ≤ y
        · exact .inl (Nat.min_eq_left h)
        · exact .inr (by rw [Nat.min_eq_right (by omega)]; simp)
      · exact .inr (by simp [h3])
theorem mn_le {l : List Nat} {x : Nat} (h : x ∈ l) : mn l ≤ x := by
  cases l with
  | nil => cases h
  | cons y l =>
    obtain ⟨h1, h2, _⟩ := min_le l y
    rcases List.mem_cons.mp h with rfl | h
    · exact h1
    · exact h2 x h
theorem mn_mem {l : List Nat} (h : l ≠ []) : mn l ∈ l := by
  cases l with
  | nil => exact absurd rfl h
  | cons y l =>
    rcases (min_le l y).2.2 with h3 | h3
    · show l.foldl min y ∈ _
      rw [h3]; simp
    · exact List.mem_cons_of_mem _ h3
theorem mh_pos (F : Hf) (m : Mk) : 1 ≤ mh F m := by unfold mh; omega
theorem mh_field {F : Hf} {m : Mk} {f : String} {h : Nat} (hf : f ∈ m.2) (hh : F f = some h) : h + 1 ≤ mh F m := by
  have := (le_max 0 (m.2.map fun k => (F k).getD 0) 0).2 h (List.mem_map.mpr ⟨f, hf, by rw [hh]; rfl⟩)
  unfold mh; omega
theorem mh_le {F : Hf} {m : Mk} {b : Nat} (h : ∀ f ∈ m.2, (F f).getD 0 ≤ b) : mh F m ≤ b + 1 := by
  have : (m.2.map fun k => (F k).getD 0).foldl max 0 ≤ b := max_le (Nat.zero_le _) fun x hx => by
    obtain ⟨f, hf, rfl⟩ := List.mem_map.mp hx
    exact h f hf
  unfold mh; omega
theorem mh_congr {F G : Hf} {m : Mk} (h : ∀ f ∈ m.2, F f = G f) : mh F m = mh G m := by
  unfold mh
  have : (m.2.map fun k => (F k).getD 0) = m.2.map fun k => (G k).getD 0 := List.map_congr_left fun f hf => by rw [h f hf]
  rw [this]
/-- one type's step -/
def stepF (F : Hf) (row : String × List Mk) : Hf := if rowsF F row.2 = [] then F else fun x => if x = row.1 then some (mn (rowsF F row.2)) else F x
def passF (F : Hf) (T : Ty) : Hf := T.foldl stepF F
def F0 : Hf := fun x => if x = "Int" then some 0 else none
/-- the heights stand -/
structure Fix (T : Ty) (F : Hf) : Prop where
  fix : ∀ row ∈ T, stepF F row = F
theorem Fix.pass {T : Ty} {F : Hf} (h : Fix T F) : passF F T = F := by
  obtain ⟨h⟩ := h
  have key : ∀ (S : Ty), (∀ row ∈ S, row ∈ T) → passF F S = F := by
    intro S
    induction S with
    | nil => intro _; rfl
    | cons r S ih =>
      intro hs
      show passF (stepF F r) S = F
      rw [h r (hs r (by simp))]
      exact ih fun row hr => hs row (by simp [hr])
  exact key T fun _ h => h
/-- what is known when the first i types are done -/
structure Don (T : Ty) (i : Nat) (F : Hf) : Prop where
  int : F "Int" = some 0
  dom : ∀ x, (F x).isSome = true ↔ x = "Int" ∨ ∃ j : Nat, j < i ∧ nms[j]? = some x
  bd : ∀ (j : Nat) (x : String), j < i → nms[j]? = some x → ∃ h, F x = some h ∧ 1 ≤ h ∧ h ≤ j + 1
  loc : ∀ (j : Nat) (row : String × List Mk), j < i → T[j]? = some row → ∃ m ∈ row.2, known F m = true ∧ F row.1 = some (mh F m)
  low : ∀ (j : Nat) (row : String × List Mk) (m : Mk) (h : Nat), j < i → T[j]? = some row → m ∈ row.2 → (∀ f ∈ m.2, f = "Int" ∨ ∃ l : Nat, l < j ∧ nms[l]? = some f) → F row.1 = some h → h ≤ mh F m
theorem Don.zero (T : Ty) : Don T 0 F0 where
  int := rfl
  dom := fun x => by
    unfold F0
    by_cases h : x = "Int"
    · simp [h]
    · simp [h]
  bd := fun j x h => absurd h (Nat.not_lt_zero _)
  loc := fun j row h => absurd h (Nat.not_lt_zero _)
  low := fun j row m h hj => absurd hj (Nat.not_lt_zero _)
theorem nms_int : ∀ x ∈ nms, x ≠ "Int" := by decide
/-- the row's own first constructor has no field of its type or of a later one -/
theorem row_first {T : Ty} (g : GoodT T) {i : Nat} {row : String × List Mk} (hr : T[i]? = some row) : nms[i]? = some row.1 ∧ i < 3 ∧ (∃ m ∈ row.2, ∀ f ∈ m.2, f = "Int" ∨ ∃ l : Nat, l < i ∧ nms[l]? = some f) ∧ ∀ m ∈ row.2, ∀ f ∈ m.2, f = "Int" ∨ ∃ l : Nat, l < T.length ∧ nms[l]? = some f := by
  obtain ⟨kk, k1, k2, hT, hrow⟩ := g
  obtain ⟨nm, n1, hok⟩ := hrow i row hr
  obtain ⟨e1, cnt, c1, c2, hmk⟩ := id hok
  have hi : i < T.length := (List.getElem?_eq_some_iff.mp hr).1
  have tk : ∀ {j : Nat} {f : String} {n : Nat}, f ∈ (nms.take n).take j → ∃ l : Nat, l < j ∧ nms[l]? = some f := fun {j f n} h => by
    obtain ⟨l, hl, e⟩ := List.mem_iff_getElem.mp h
    simp at hl
    refine ⟨l, by omega, ?_⟩
    rw [List.getElem_take, List.getElem_take] at e
    rw [← e]; simp
  have first : ∀ ms : List Mk, MkOk (nms.take kk) nm ms cnt → ∃ m ∈ ms, ∀ f ∈ m.2, f = "Int" ∨ ∃ l : Nat, l < i ∧ nms[l]? = some f := fun ms h => by
    have hl := h.len c2
    obtain ⟨i', h1, h2⟩ := h.2.2
    have hi' : nms[i']? = some nm := by
      rw [List.getElem?_take] at h1
      split at h1
      · exact h1
      · cases h1
    obtain rfl := nms_inj hi' n1
    have hm : ms[0]? = some ms[0] := List.getElem?_eq_getElem (by omega)
    refine ⟨ms[0], List.getElem_mem _, fun f hf => ?_⟩
    rcases List.mem_cons.mp (h2 _ hm f hf) with z | z
    · exact .inl z
    · exact .inr (tk z)
  refine ⟨by rw [e1]; exact n1, ?_, ?_, fun m hm f hf => ?_⟩
  · have := (List.getElem?_eq_some_iff.mp n1).1
    simpa [nms] using this
  · rcases hmk with h | h
    · exact first _ h
    · obtain ⟨m, hm, hf⟩ := first _ h
      exact ⟨m, by simpa using hm, hf⟩
  · rcases List.mem_cons.mp ((hok.mem hm).2.2 f hf) with z | z
    · exact .inl z
    · obtain ⟨l, hl, e⟩ := List.mem_iff_getElem.mp z
      simp at hl
      refine .inr ⟨l, by omega, ?_⟩
      rw [List.getElem_take] at e
      rw [← e]; simp
theorem known_iff {F : Hf} {m : Mk} : known F m = true ↔ ∀ f ∈ m.2, (F f).isSome = true := by unfold known; simp
/-- the next type -/
theorem Don.step {T : Ty} (g : GoodT T) {i : Nat} {F : Hf} {row : String × List Mk} (hr : T[i]? = some row) (d : Don T i F) : Don T (i + 1) (stepF F row) := by
  obtain ⟨n1, i3, ⟨m0, hm0, hf0⟩, hall⟩ := row_first g hr
  have knw : ∀ m : Mk, (∀ f ∈ m.2, f = "Int" ∨ ∃ l : Nat, l < i ∧ nms[l]? = some f) ↔ known F m = true := fun m => by
    rw [known_iff]
    exact ⟨fun h f hf => (d.dom f).mpr (h f hf), fun h f hf => (d.dom f).mp (h f hf)⟩
  have hne : rowsF F row.2 ≠ [] := by
    have : mh F m0 ∈ rowsF F row.2 := List.mem_map.mpr ⟨m0, List.mem_filter.mpr ⟨hm0, (knw m0).mp hf0⟩, rfl⟩
    exact List.ne_nil_of_mem this
  have hstep : stepF F row = fun x => if x = row.1 then some (mn (rowsF F row.2)) else F x := by unfold stepF; rw [if_neg hne]
  have nint : row.1 ≠ "Int" := nms_int _ (List.mem_of_getElem? n1)
  have nold : ∀ (j : Nat) (x : String), j < i → nms[j]? = some x → x ≠ row.1 := fun j x hj hx e => by
    rw [e] at hx
    have := nms_inj hx n1
    omega
  have old : ∀ f, (f = "Int" ∨ ∃ l : Nat, l < i ∧ nms[l]? = some f) → stepF F row f = F f := fun f hf => by
    rw [hstep]
    rcases hf with z | ⟨l, hl, z⟩
    · rw [z]; exact if_neg (Ne.symm nint)
    · exact if_neg (nold l f hl z)
  have own : stepF F row row.1 = some (mn (rowsF F row.2)) := by rw [hstep]; exact if_pos rfl
  obtain ⟨mm, hmm, emm⟩ := List.mem_map.mp (mn_mem hne)
  obtain ⟨hmm1, hmm2⟩ := List.mem_filter.mp hmm
  have emm : mh F mm = mn (rowsF F row.2) := emm
  have same : ∀ m : Mk, known F m = true → mh (stepF F row) m = mh F m := fun m hm => mh_congr fun f hf => old f ((knw m).mpr hm f hf)
  have keepK : ∀ m : Mk, known F m = true → known (stepF F row) m = true := fun m hm => by
    rw [known_iff] at hm ⊢
    intro f hf
    have := hm f hf
    rw [old f ((d.dom f).mp this)]; exact this
  refine ⟨by rw [old _ (.inl rfl)]; exact d.int, fun x => ?_, fun j x hj hx => ?_, fun j row' hj hr' => ?_, fun j row' m h hj hr' hm hf hh => ?_⟩
  · by_cases hx : x = row.1
    · subst hx
      rw [own]
      exact ⟨fun _ => .inr ⟨i, Nat.lt_succ_self _, n1⟩, fun _ => rfl⟩
    · rw [hstep]
      show (if x = row.1 then _ else F x).isSome = true ↔ _
      rw [if_neg hx, d.dom x]
      constructor
      · rintro (z | ⟨j, hj, z⟩)
        · exact .inl z
        · exact .inr ⟨j, by omega, z⟩
      · rintro (z | ⟨j, hj, z⟩)
        · exact .inl z
        · by_cases hji : j = i
          · subst hji
            rw [n1] at z
            exact absurd (Option.some.inj z).symm hx
          · exact .inr ⟨j, by omega, z⟩
  · by_cases hji : j = i
    · subst hji
      rw [n1] at hx
      obtain rfl := Option.some.inj hx
      refine ⟨_, own, ?_, ?_⟩
      · rw [← emm]; exact mh_pos F mm
      · have h1 : mn (rowsF F row.2) ≤ mh F m0 := mn_le (List.mem_map.mpr ⟨m0, List.mem_filter.mpr ⟨hm0, (knw m0).mp hf0⟩, rfl⟩)
        refine Nat.le_trans h1 (mh_le fun f hf => ?_)
        rcases hf0 f hf with z | ⟨l, hl, z⟩
        · rw [z, d.int]; exact Nat.zero_le _
        · obtain ⟨h, e, _, h3⟩ := d.bd l f hl z
          rw [e]
          show h ≤ j
          omega
    · have hj' : j < i := by omega
      obtain ⟨h, e, h2, h3⟩ := d.bd j x hj' hx
      exact ⟨h, by rw [old x (.inr ⟨j, hj', hx⟩)]; exact e, h2, h3⟩
  · by_cases hji : j = i
    · subst hji
      rw [hr] at hr'
      obtain rfl := Option.some.inj hr'
      exact ⟨mm, hmm1, keepK mm hmm2, by rw [own, same mm hmm2, emm]⟩
    · have hj' : j < i := by omega
      obtain ⟨m, h1, h2, h3⟩ := d.loc j row' hj' hr'
      exact ⟨m, h1, keepK m h2, by rw [old _ (.inr ⟨j, hj', (row_first g hr').1⟩), same m h2]; exact h3⟩
  · by_cases hji : j = i
    · subst hji
      rw [hr] at hr'
      obtain rfl := Option.some.inj hr'
      rw [own] at hh
      obtain rfl := Option.some.inj hh
      have hk := (knw m).mp hf
      rw [same m hk]
      exact mn_le (List.mem_map.mpr ⟨m, List.mem_filter.mpr ⟨hm, hk⟩, rfl⟩)
    · have hj' : j < i := by omega
      have hk : known F m = true := (knw m).mp fun f hff => (hf f hff).imp id fun ⟨l, hl, z⟩ => ⟨l, by omega, z⟩
      rw [old _ (.inr ⟨j, hj', (row_first g hr').1⟩)] at hh
      rw [same m hk]
      exact d.low j row' m h hj' hr' hm hf hh
theorem Don.pass {T : Ty} (g : GoodT T) : ∀ (S : Ty) (i : Nat) (F : Hf), i ≤ T.length → T.drop i = S → Don T i F → Don T T.length (passF F S)
  | [], i, F, h0, h, d => by
    have hl : T.length = i := by
      have := congrArg List.length h
      simp at this; omega
    show Don T T.length F
    rw [hl]; exact d
  | row :: S, i, F, h0, h, d => by
    have hi : i < T.length := by
      by_cases hi : i < T.length
      · exact hi
      · rw [List.drop_of_length_le (by omega)] at h; cases h
    rw [List.drop_eq_getElem_cons hi] at h
    obtain ⟨h1, h2⟩ := List.cons.inj h
    show Don T T.length (passF (stepF F row) S)
    exact Don.pass g S (i + 1) _ hi h2 (d.step g (by rw [List.getElem?_eq_getElem hi, h1]))
theorem Don.fix {T : Ty} (g : GoodT T) {F : Hf} (d : Don T T.length F) : Fix T F := ⟨fun row hrow => by
  obtain ⟨j, hj, hr⟩ := List.mem_iff_getElem.mp hrow
  have hr : T[j]? = some row := by rw [List.getElem?_eq_getElem hj, hr]
  obtain ⟨n1, j3, _, hall⟩ := row_first g hr
  obtain ⟨m, hm, hk, hF⟩ := d.loc j row hj hr
  have hin : mh F m ∈ rowsF F row.2 := List.mem_map.mpr ⟨m, List.mem_filter.mpr ⟨hm, hk⟩, rfl⟩
  have hne : rowsF F row.2 ≠ [] := List.ne_nil_of_mem hin
  have hkk : T.length ≤ 3 := by obtain ⟨kk, a, b, c, _⟩ := g; omega
  have eq : mn (rowsF F row.2) = mh F m := by
    refine Nat.le_antisymm (mn_le hin) ?_
    obtain ⟨m', hm', e'⟩ := List.mem_map.mp (mn_mem hne)
    obtain ⟨hm1, hm2⟩ := List.mem_filter.mp hm'
    have e' : mh F m' = mn (rowsF F row.2) := e'
    rw [← e']
    by_cases hall' : ∀ f ∈ m'.2, f = "Int" ∨ ∃ l : Nat, l < j ∧ nms[l]? = some f
    · exact d.low j row m' _ hj hr hm1 hall' hF
    · simp only [Classical.not_forall] at hall'
      obtain ⟨f, hf, hnf⟩ := hall'
      rcases hall m' hm1 f hf with z | ⟨l, hl, z⟩
      · exact absurd (.inl z) hnf
      · have hlj : j ≤ l := by
          by_cases h : l < j
          · exact absurd (.inr ⟨l, h, z⟩) hnf
          · omega
        obtain ⟨hf', e1, e2, e3⟩ := d.bd l f hl z
        have := mh_field hf e1
        obtain ⟨hx, x1, x2, x3⟩ := d.bd j row.1 hj n1
        rw [x1] at hF
        have hF := Option.some.inj hF
        by_cases h : l = j
        · subst h
          rw [n1] at z
          obtain rfl := Option.some.inj z
          rw [x1] at e1
          have := Option.some.inj e1
          omega
        · omega
  unfold stepF
  rw [if_neg hne, eq]
  funext x
  by_cases hx : x = row.1
  · rw [if_pos hx, hx]; exact hF.symm
  · rw [if_neg hx]⟩
def passN (T : Ty) : Nat → Hf
  | 0 => F0
  | n + 1 => passF (passN T n) T
theorem passN_don {T : Ty} (g : GoodT T) : ∀ n, Don T T.length (passN T (n + 1))
  | 0 => Don.pass g T 0 F0 (Nat.zero_le _) rfl (Don.zero T)
  | n + 1 => by
    have h := passN_don g n
    show Don T T.length (passF (passN T (n + 1)) T)
    rw [(h.fix g).pass]; exact h
end K09
end

section
set_option maxHeartbeats 0
set_option linter.all false
set_option maxRecDepth 100000
namespace K09
open Ev
/-! ### heights, as the law writes them -/
def dn (n : Nat) : D := .int (n : Int)
def DicF (kvs : List (Ky × R)) (F : Hf) : Prop := ∀ x, valK kvs (.s x) = (F x).map fun n : Nat => .d (.int (n : Int))
theorem valK_put (k k' : Ky) (v : R) (kvs : List (Ky × R)) : valK (putK kvs k v) k' = if k' = k then some v else valK kvs k' := by
  have m1 : ∀ kvs : List (Ky × R), k' ≠ k → valK (kvs.map fun kv => if kv.1 = k then (kv.1, v) else kv) k' = valK kvs k' := by
    intro kvs hne
    induction kvs with
    | nil => rfl
    | cons p kvs ih =>
      unfold valK at ih ⊢
      rw [List.map_cons, List.find?_cons, List.find?_cons]
      have e : (if p.1 = k then (p.1, v) else p).1 = p.1 := by split <;> rfl
      rw [e]
      by_cases h : p.1 = k'
      · rw [decide_eq_true h]
        have h2 : p.1 ≠ k := fun z => hne (h.symm.trans z)
        rw [if_neg h2]
      · rw [decide_eq_false h]; exact ih
  have m2 : ∀ kvs : List (Ky × R), kvs.any (fun kv => decide (kv.1 = k)) = true → valK (kvs.map fun kv => if kv.1 = k then (kv.1, v) else kv) k = some v := by
    intro kvs
    induction kvs with
    | nil => intro h; simp at h
    | cons p kvs ih =>
      intro h
      unfold valK at ih ⊢
      rw [List.map_cons, List.find?_cons]
      have e : (if p.1 = k then (p.1, v) else p).1 = p.1 := by split <;> rfl
      rw [e]
      by_cases h1 : p.1 = k
      · rw [decide_eq_true h1, if_pos h1]; rfl
      · rw [decide_eq_false h1]
        refine ih ?_
        simpa [h1] using h
  have m3 : ∀ kvs : List (Ky × R), kvs.any (fun kv => decide (kv.1 = k)) = false → valK (kvs ++ [(k, v)]) k' = if k' = k then some v else valK kvs k' := by
    intro kvs
    induction kvs with
    | nil =>
      intro _
      unfold valK
      rw [List.nil_append, List.find?_cons]
      by_cases h : k' = k
      · rw [if_pos h, decide_eq_true h.symm]; rfl
      · rw [if_neg h, decide_eq_false (fun z => h z.symm)]
    | cons p kvs ih =>
      intro h
      rw [List.any_cons, Bool.or_eq_false_iff] at h
      have ih := ih h.2
      have hp : p.1 ≠ k := by simpa using h.1
      unfold valK at ih ⊢
      rw [List.cons_append, List.find?_cons, List.find?_cons]
      by_cases h1 : p.1 = k'
      · rw [decide_eq_true h1, if_neg (fun z => hp (h1.trans z))]
      · rw [decide_eq_false h1]; exact ih
  unfold putK
  cases ha : kvs.any (fun kv => decide (kv.1 = k)) with
  | true =>
    rw [if_pos rfl]
    by_cases h : k' = k
    · rw [if_pos h, h]; exact m2 kvs ha
    · rw [if_neg h]; exact m1 kvs h
  | false => rw [if_neg (by decide)]; exact m3 kvs ha
theorem putK_len (kvs : List (Ky × R)) (k : Ky) (v : R) : (putK kvs k v).length ≤ kvs.length + 1 := by
  unfold putK
  split
  · simp
  · simp
theorem DicF.put {kvs : List (Ky × R)} {F : Hf} (h : DicF kvs F) (x : String) (n : Nat) : DicF (putK kvs (.s x) (.d (.int n))) (fun y => if y = x then some n else F y) := fun y => by
  rw [valK_put]
  show _ = (if y = x then some n else F y).map fun n : Nat => R.d (.int (n : Int))
  by_cases e : y = x
  · rw [if_pos (by rw [e]), if_pos e]; rfl
  · rw [if_neg (fun z => e (by injection z)), if_neg e]; exact h y
theorem maxI_nat : ∀ (l : List Nat) (a : Nat), maxI (a : Int) (l.map fun (n : Nat) => (n : Int)) = ((l.foldl max a : Nat) : Int)
  | [], a => rfl
  | y :: l, a => by
    rw [List.map_cons, maxI, List.foldl_cons]
    have e : (if (y : Int) > (a : Int) then (y : Int) else (a : Int)) = ((max a y : Nat) : Int) := by split <;> omega
    rw [e]; exact maxI_nat l _
theorem minI_nat : ∀ (l : List Nat) (a : Nat), minI (a : Int) (l.map fun (n : Nat) => (n : Int)) = ((l.foldl min a : Nat) : Int)
  | [], a => rfl
  | y :: l, a => by
    rw [List.map_cons, minI, List.foldl_cons]
    have e : (if (y : Int) < (a : Int) then (y : Int) else (a : Int)) = ((min a y : Nat) : Int) := by split <;> omega
    rw [e]; exact minI_nat l _
theorem ints_map (l : List Int) : intsD (l.map D.int) = some l := by
  induction l with
  | nil => rfl
  | cons a l ih => rw [List.map_cons]; show (intsD (l.map D.int)).map (a :: ·) = _; rw [ih]; rfl
theorem maxR_nat (l : List Nat) : maxR [.d (.lst (.int 0 :: l.map dn))] = some (.d (.int ((l.foldl max 0 : Nat) : Int))) := by
  have e : (D.int 0 :: l.map dn) = ((0 : Int) :: l.map fun (n : Nat) => (n : Int)).map D.int := by simp [dn]
  show (match intsD (D.int 0 :: l.map dn) with
    | some (x :: xs) => some (R.d (.int (maxI x xs)))
    | _ => none) = _
  rw [e, ints_map]
  show some (R.d (.int (maxI 0 (l.map fun (n : Nat) => (n : Int))))) = _
  rw [← maxI_nat l 0]; rfl
theorem minR_nat (l : List Nat) (h : l ≠ []) : minR [.d (.lst (l.map dn))] = some (.d (.int (mn l : Int))) := by
  cases l with
  | nil => exact absurd rfl h
  | cons y l =>
    have e : ((y :: l).map dn) = ((y : Int) :: l.map fun (n : Nat) => (n : Int)).map D.int := by simp [dn]
    show (match intsD ((y :: l).map dn) with
      | some (x :: xs) => some (R.d (.int (minI x xs)))
      | _ => none) = _
    rw [e, ints_map]
    show some (R.d (.int (minI (y : Int) (l.map fun (n : Nat) => (n : Int))))) = _
    rw [minI_nat]; rfl
abbrev hE (T : Ty) (kvs : List (Ky × R)) (x2 x3 x4 x5 x6 x7 x8 : Sl) : Env := [.v (.d (encT T)), .odic kvs, x2, x3, x4, x5, x6, x7, x8]
theorem rows_eval {T : Ty} {kvs : List (Ky × R)} {F : Hf} (hF : DicF kvs F) (ms : List Mk) (hms : ms.length ≤ 1000) (hfs : ∀ m ∈ ms, m.2.length ≤ 1000) {x2 x3 x5 x6 x7 x8 : Sl} {μ : Mem} :
    eComp [7, 8] (tgT [(tgN 7), (tgN 8)]) (iE (eV 4)) (tCmp eqR (eBi lenR [(eComp [6] (tgN 6) (iE (eV 8)) (tCmp ninR (eV 6) (eB 1)) (eV 6))]) (eC (.int 0))) (eOp addR (eBi maxR [(eOp addR (eLst [(eC (.int 0))]) (eComp [6] (tgN 6) (iE (eV 8)) tYes (eIdx (eB 1) (eV 6))))]) (eC (.int 1)))
      (hE T kvs x2 x3 (.v (.d (encMs ms))) x5 x6 x7 x8) μ = .ok (.d (.lst ((rowsF F ms).map dn))) μ := by
  have hB : ∀ (s5 s6 s7 s8 : Sl), eB 1 (hE T kvs x2 x3 (.v (.d (encMs ms))) s5 s6 s7 s8) μ = .ok (.dic kvs) μ := fun _ _ _ _ => by unfold eB; rfl
  have hcomp := compL_filter (t := tgT [(tgN 7), (tgN 8)]) (c := tCmp eqR (eBi lenR [(eComp [6] (tgN 6) (iE (eV 8)) (tCmp ninR (eV 6) (eB 1)) (eV 6))]) (eC (.int 0))) (e := eOp addR (eBi maxR [(eOp addR (eLst [(eC (.int 0))]) (eComp [6] (tgN 6) (iE (eV 8)) tYes (eIdx (eB 1) (eV 6))))]) (eC (.int 1)))
    (ρ := hE T kvs x2 x3 (.v (.d (encMs ms))) x5 x6 .un .un) (μ := μ) (fun m : Mk => R.d (encM m)) (fun m => R.d (.int (mh F m : Int))) (known F) (xs := ms) (by
      intro m hm
      have hfl := hfs m hm
      refine ⟨hE T kvs x2 x3 (.v (.d (encMs ms))) x5 x6 (.v (.d (.str m.1))) (.v (.d (encF m.2))), by simp only [encM, tgT, tgs, tgN, List.map_cons, List.map_nil, Option.bind_some, List.set_cons_succ, List.set_cons_zero], ?_, fun hk => ?_⟩
      · have h1 := compL_filter (t := tgN 6) (c := tCmp ninR (eV 6) (eB 1)) (e := eV 6) (ρ := hE T kvs x2 x3 (.v (.d (encMs ms))) x5 .un (.v (.d (.str m.1))) (.v (.d (encF m.2)))) (μ := μ) (fun k : String => R.d (.str k)) (fun k => R.d (.str k)) (fun k => !(F k).isSome) (xs := m.2) (by
          intro k hk
          refine ⟨hE T kvs x2 x3 (.v (.d (encMs ms))) x5 (.v (.d (.str k))) (.v (.d (.str m.1))) (.v (.d (encF m.2))), by simp only [tgN, List.set_cons_succ, List.set_cons_zero], ?_, fun _ => eV_at rfl⟩
          refine tCmp_ok (eV_at rfl) (hB _ _ _ _) ?_
          rw [vw_d, vw_dic]
          show (some (valK kvs (.s k)).isSome).map not = _
          rw [hF k]
          cases F k <;> rfl)
        have e1 : eComp [6] (tgN 6) (iE (eV 8)) (tCmp ninR (eV 6) (eB 1)) (eV 6) (hE T kvs x2 x3 (.v (.d (encMs ms))) x5 x6 (.v (.d (.str m.1))) (.v (.d (encF m.2)))) μ = .ok (.d (.lst ((m.2.filter fun k => !(F k).isSome).map .str))) μ := by
          rw [eComp_ok (iE_tup (ds := m.2.map .str) (eV_at rfl)) (by rw [List.map_map]; exact h1) (by rw [List.length_map]; exact Nat.le_trans (List.length_filter_le _ _) (by omega)), mkL_map]
        refine tCmp_ok (eBi1_ok e1 (by rw [vw_d, lenR_lst])) eC_ok ?_
        rw [vw_d, vw_d, eqR_d, eqD_left (by simp [D.dep]), eqv_int]
        congr 1
        rw [List.length_map]
        unfold known
        rw [Bool.eq_iff_iff, beq_iff_eq, List.all_eq_true]
        constructor
        · intro h
          have h : (m.2.filter fun k => !(F k).isSome) = [] := List.eq_nil_of_length_eq_zero (by omega)
          intro k hk
          have := List.filter_eq_nil_iff.mp h k hk
          cases e : F k with
          | none => exact absurd (by rw [e]; rfl) this
          | some n => rfl
        · intro h
          have : (m.2.filter fun k => !(F k).isSome) = [] := List.filter_eq_nil_iff.mpr fun k hk => by rw [h k hk]; decide
          rw [this]; rfl
      · have h2 : compL (tgN 6) tYes (eIdx (eB 1) (eV 6)) (m.2.map fun k => R.d (.str k)) (hE T kvs x2 x3 (.v (.d (encMs ms))) x5 .un (.v (.d (.str m.1))) (.v (.d (encF m.2)))) μ = .ok (m.2.map fun k => R.d (.int ((F k).getD 0 : Int))) μ := by
          refine compL_map (by simp) fun i x y hx hy => ?_
          rw [List.getElem?_map] at hx hy
          obtain ⟨k, hk1, hx⟩ := Option.map_eq_some_iff.mp hx
          rw [hk1] at hy
          obtain rfl := Option.some.inj hy
          subst hx
          refine ⟨hE T kvs x2 x3 (.v (.d (encMs ms))) x5 (.v (.d (.str k))) (.v (.d (.str m.1))) (.v (.d (encF m.2))), by simp only [tgN, List.set_cons_succ, List.set_cons_zero], by simp [tYes], ?_⟩
          unfold eIdx
          refine eOp_ok (hB _ _ _ _) (eV_at rfl) ?_
          rw [vw_dic, vw_d]
          show valK kvs (.s k) = _
          rw [hF k]
          have hs := (known_iff.mp hk) k (List.mem_of_getElem? hk1)
          cases e : F k with
          | none => rw [e] at hs; cases hs
          | some n =>
            show _ = some (R.d (.int (((F k).getD 0 : Nat) : Int)))
            rw [e]; rfl
        have e2 : eComp [6] (tgN 6) (iE (eV 8)) tYes (eIdx (eB 1) (eV 6)) (hE T kvs x2 x3 (.v (.d (encMs ms))) x5 x6 (.v (.d (.str m.1))) (.v (.d (encF m.2)))) μ = .ok (.d (.lst ((m.2.map fun k => (F k).getD 0).map dn))) μ := by
          rw [eComp_ok (iE_tup (ds := m.2.map .str) (eV_at rfl)) (by rw [List.map_map]; exact h2) (by rw [List.length_map]; omega), mkL_map, List.map_map]; rfl
        refine eOp_ok (eBi1_ok (eOp_ok (x := .d (.lst [.int 0])) (by simp [eLst, evs_cons, evs_nil, eC]) e2 (z := .d (.lst (.int 0 :: (m.2.map fun k => (F k).getD 0).map dn))) ?_) (by rw [vw_d]; exact maxR_nat _)) eC_ok ?_
        · rw [vw_d, vw_d, addR_lst, if_pos (le_SL (by simp; omega))]; rfl
        · rw [vw_d, vw_d, addR_int]
          unfold mh
          congr 3)
  have hr : (rowsF F ms).length ≤ 1000 := by
    unfold rowsF
    rw [List.length_map]
    exact Nat.le_trans (List.length_filter_le _ _) hms
  rw [eComp_ok (iE_tup (ds := ms.map encM) (eV_at rfl)) (by rw [List.map_map]; exact hcomp) (by rw [List.length_map]; exact Nat.le_trans (List.length_filter_le _ _) (by omega)), mkL_map]
  unfold rowsF
  rw [List.map_map]; rfl
/-- a type's step, as written -/
theorem height_step {T : Ty} {kvs : List (Ky × R)} {F : Hf} (hF : DicF kvs F) (row : String × List Mk) (hms : row.2.length ≤ 1000) (hfs : ∀ m ∈ row.2, m.2.length ≤ 1000) (hk : kvs.length ≤ 1000) {x2 x5 x6 x7 x8 : Sl} {μ : Mem} :
    ∃ (kvs' : List (Ky × R)) (y5 : Sl), DicF kvs' (stepF F row) ∧ kvs'.length ≤ kvs.length + 1 ∧
    (sq (sAs (tgN 5) (eComp [7, 8] (tgT [(tgN 7), (tgN 8)]) (iE (eV 4)) (tCmp eqR (eBi lenR [(eComp [6] (tgN 6) (iE (eV 8)) (tCmp ninR (eV 6) (eB 1)) (eV 6))]) (eC (.int 0))) (eOp addR (eBi maxR [(eOp addR (eLst [(eC (.int 0))]) (eComp [6] (tgN 6) (iE (eV 8)) tYes (eIdx (eB 1) (eV 6))))]) (eC (.int 1)))))
      (sIf (tCmp gtR (eBi lenR [(eV 5)]) (eC (.int 0))) (sSetD 1 (eV 3) (eBi minR [(eV 5)])) sNil)) (hE T kvs x2 (.v (.d (.str row.1))) (.v (.d (encMs row.2))) x5 x6 x7 x8) μ =
      .ok (.nx (hE T kvs' x2 (.v (.d (.str row.1))) (.v (.d (encMs row.2))) y5 x6 x7 x8)) μ := by
  rw [sq_as (rows_eval hF row.2 hms hfs)]
  simp only [List.set_cons_succ, List.set_cons_zero]
  have hl : (rowsF F row.2).length ≤ 1000 := by
    unfold rowsF
    rw [List.length_map]
    exact Nat.le_trans (List.length_filter_le _ _) hms
  by_cases hne : rowsF F row.2 = []
  · refine ⟨kvs, .v (.d (.lst ((rowsF F row.2).map dn))), by unfold stepF; rw [if_pos hne]; exact hF, by omega, ?_⟩
    rw [sIf_f (tCmp_ok (μ2 := μ) (z := false) (eBi1_ok (μ1 := μ) (eV_at rfl) (by rw [vw_d, lenR_lst])) eC_ok (by rw [vw_d, vw_d, hne]; rfl))]
    exact sNil_ok
  · refine ⟨putK kvs (.s row.1) (.d (.int (mn (rowsF F row.2) : Int))), .v (.d (.lst ((rowsF F row.2).map dn))), by unfold stepF; rw [if_neg hne]; exact hF.put _ _, putK_len _ _ _, ?_⟩
    have hpos : 0 < (rowsF F row.2).length := List.length_pos_iff.mpr hne
    rw [sIf_t (tCmp_ok (μ2 := μ) (z := true) (eBi1_ok (μ1 := μ) (eV_at rfl) (by rw [vw_d, lenR_lst])) eC_ok (by
      rw [vw_d, vw_d, List.length_map]
      show some (decide ((0 : Int) < ((rowsF F row.2).length : Int))) = _
      rw [decide_eq_true (by omega)]))]
    unfold sSetD
    rw [eBi1_ok (μ1 := μ) (eV_at rfl) (by rw [vw_d]; exact minR_nat _ hne), bind_ok]
    show (eV 3 _ μ).bind _ = _
    rw [eV_at rfl, bind_ok]
    show (if kvs.length < SL then _ else _) = _
    rw [if_pos (lt_SL (by omega))]
    simp only [List.set_cons_succ, List.set_cons_zero]
theorem heights_spec (n : Nat) {T : Ty} (g : GoodT T) (μ : Mem) : ∃ kvs, DicF kvs (passN T (T.length + 1)) ∧ callN P (n + 1) "_law_heights" [.d (encT T)] μ = .ok (.dic kvs) μ := by
  have hT : T.length ≤ 3 := by obtain ⟨kk, a, b, c, _⟩ := g; omega
  have hrow : ∀ row ∈ T, row.2.length ≤ 3 ∧ ∀ m ∈ row.2, m.2.length ≤ 2 := fun row hr => by
    obtain ⟨kk, a, b, c, d⟩ := g
    obtain ⟨i, hi, e⟩ := List.mem_iff_getElem.mp hr
    obtain ⟨nm, n1, hok⟩ := d i row (by rw [List.getElem?_eq_getElem hi, e])
    exact ⟨hok.len.2, fun m hm => (hok.mem hm).2.1⟩
  rw [callN_run (d := f_law_heights) rfl rfl]
  generalize callN P n = C
  -- one pass
  have pass : ∀ (kvs : List (Ky × R)) (F : Hf) (x2 x3 x4 x5 x6 x7 x8 : Sl), DicF kvs F → kvs.length ≤ 500 → ∃ (kvs' : List (Ky × R)) (y3 y4 y5 : Sl), DicF kvs' (passF F T) ∧ kvs'.length ≤ kvs.length + 3 ∧
      sFor (tgT [(tgN 3), (tgN 4)]) (iE (eV 0)) (sq (sAs (tgN 5) (eComp [7, 8] (tgT [(tgN 7), (tgN 8)]) (iE (eV 4)) (tCmp eqR (eBi lenR [(eComp [6] (tgN 6) (iE (eV 8)) (tCmp ninR (eV 6) (eB 1)) (eV 6))]) (eC (.int 0))) (eOp addR (eBi maxR [(eOp addR (eLst [(eC (.int 0))]) (eComp [6] (tgN 6) (iE (eV 8)) tYes (eIdx (eB 1) (eV 6))))]) (eC (.int 1)))))
      (sIf (tCmp gtR (eBi lenR [(eV 5)]) (eC (.int 0))) (sSetD 1 (eV 3) (eBi minR [(eV 5)])) sNil)) (hE T kvs x2 x3 x4 x5 x6 x7 x8) μ = .ok (.nx (hE T kvs' x2 y3 y4 y5 x6 x7 x8)) μ := by
    intro kvs F x2 x3 x4 x5 x6 x7 x8 hF hk
    obtain ⟨ρ', ⟨kvs', y3, y4, y5, rfl, h1, h2⟩, h3⟩ := forL_inv (t := tgT [(tgN 3), (tgN 4)]) (b := (sq (sAs (tgN 5) (eComp [7, 8] (tgT [(tgN 7), (tgN 8)]) (iE (eV 4)) (tCmp eqR (eBi lenR [(eComp [6] (tgN 6) (iE (eV 8)) (tCmp ninR (eV 6) (eB 1)) (eV 6))]) (eC (.int 0))) (eOp addR (eBi maxR [(eOp addR (eLst [(eC (.int 0))]) (eComp [6] (tgN 6) (iE (eV 8)) tYes (eIdx (eB 1) (eV 6))))]) (eC (.int 1)))))
      (sIf (tCmp gtR (eBi lenR [(eV 5)]) (eC (.int 0))) (sSetD 1 (eV 3) (eBi minR [(eV 5)])) sNil))) (μ := μ)
      (fun i ρ => ∃ (kvs' : List (Ky × R)) (y3 y4 y5 : Sl), ρ = hE T kvs' x2 y3 y4 y5 x6 x7 x8 ∧ DicF kvs' (passF F (T.take i)) ∧ kvs'.length ≤ kvs.length + i)
      (xs := T.map fun r => .d (encRow r)) (k := 0) (ρ := hE T kvs x2 x3 x4 x5 x6 x7 x8) ⟨kvs, x3, x4, x5, rfl, by simpa [passF] using hF, by omega⟩ (by
        rintro i x ρ hx ⟨kvs', y3, y4, y5, rfl, h1, h2⟩
        rw [Nat.zero_add] at h1 h2 ⊢
        rw [List.getElem?_map] at hx
        obtain ⟨row, hr, hx⟩ := Option.map_eq_some_iff.mp hx
        subst hx
        have hmem := List.mem_of_getElem? hr
        have hi : i < T.length := (List.getElem?_eq_some_iff.mp hr).1
        obtain ⟨q1, q2⟩ := hrow row hmem
        refine ⟨hE T kvs' x2 (.v (.d (.str row.1))) (.v (.d (encMs row.2))) y5 x6 x7 x8, by simp only [encRow, tgT, tgs, tgN, List.map_cons, List.map_nil, Option.bind_some, List.set_cons_succ, List.set_cons_zero], ?_⟩
        obtain ⟨kvs2, z5, h4, h5, h6⟩ := height_step (T := T) h1 row (by omega) (fun m hm => by have := q2 m hm; omega) (by omega) (x2 := x2) (x5 := y5) (x6 := x6) (x7 := x7) (x8 := x8) (μ := μ)
        refine ⟨_, ⟨kvs2, _, _, z5, rfl, ?_, by omega⟩, h6⟩
        rw [List.take_add_one, hr]
        simp only [passF, Option.toList_some, List.foldl_append, List.foldl_cons, List.foldl_nil]
        exact h4)
    rw [Nat.zero_add, List.length_map] at h1 h2
    rw [List.take_length] at h1
    exact ⟨kvs', y3, y4, y5, h1, by omega, sFor_rt (by rw [iE_tup (ds := T.map encRow) (eV_at rfl), List.map_map]; rfl) h3⟩
  have start : DicF [(.s "Int", .d (.int 0))] F0 := fun x => by
    unfold valK F0
    rw [List.find?_cons]
    by_cases h : x = "Int"
    · subst h; rfl
    · rw [if_neg h, decide_eq_false (fun z => h (by injection z with z; exact z.symm))]; rfl
  obtain ⟨ρ', ⟨kvs', y2, y3, y4, y5, rfl, h1, h2⟩, h3⟩ := forL_inv (t := tgN 2) (b := (sFor (tgT [(tgN 3), (tgN 4)]) (iE (eV 0)) (sq (sAs (tgN 5) (eComp [7, 8] (tgT [(tgN 7), (tgN 8)]) (iE (eV 4)) (tCmp eqR (eBi lenR [(eComp [6] (tgN 6) (iE (eV 8)) (tCmp ninR (eV 6) (eB 1)) (eV 6))]) (eC (.int 0))) (eOp addR (eBi maxR [(eOp addR (eLst [(eC (.int 0))]) (eComp [6] (tgN 6) (iE (eV 8)) tYes (eIdx (eB 1) (eV 6))))]) (eC (.int 1)))))
      (sIf (tCmp gtR (eBi lenR [(eV 5)]) (eC (.int 0))) (sSetD 1 (eV 3) (eBi minR [(eV 5)])) sNil)))) (μ := μ)
    (fun i ρ => ∃ (kvs' : List (Ky × R)) (y2 y3 y4 y5 : Sl), ρ = hE T kvs' y2 y3 y4 y5 .un .un .un ∧ DicF kvs' (passN T i) ∧ kvs'.length ≤ 1 + 3 * i)
    (xs := rangeF 0 (T.length + 1)) (k := 0) (ρ := hE T [(.s "Int", .d (.int 0))] .un .un .un .un .un .un .un) ⟨_, _, _, _, _, rfl, start, by simp⟩ (by
      rintro i x ρ hx ⟨kvs', y2, y3, y4, y5, rfl, h1, h2⟩
      rw [Nat.zero_add] at h1 h2 ⊢
      have hi : i < T.length + 1 := by
        have := (List.getElem?_eq_some_iff.mp hx).1
        simpa using this
      refine ⟨hE T kvs' (.v x) y3 y4 y5 .un .un .un, by simp only [tgN, List.set_cons_succ, List.set_cons_zero], ?_⟩
      obtain ⟨kvs2, z3, z4, z5, h4, h5, h6⟩ := pass kvs' (passN T i) (.v x) y3 y4 y5 .un .un .un h1 (by omega)
      exact ⟨_, ⟨kvs2, _, z3, z4, z5, rfl, h4, by omega⟩, h6⟩)
  rw [Nat.zero_add, length_rangeF] at h1
  refine ⟨kvs', h1, runB_rt (μ' := μ) ?_ rfl⟩
  simp only [f_law_heights, List.map_cons, List.map_nil, List.length_cons, List.length_nil, Nat.reduceAdd, Nat.reduceSub, List.replicate_succ, List.replicate_zero, List.cons_append, List.nil_append]
  have hD : eDic [(eC (.str "Int")), (eC (.int 0))] [.v (.d (encT T)), .un, .un, .un, .un, .un, .un, .un, .un] μ = .ok (.dic [(.s "Int", .d (.int 0))]) μ := by
    unfold eDic
    rw [evs_cons, eC_ok, bind_ok, evs_cons, eC_ok, bind_ok, evs_nil, bind_ok, bind_ok, bind_ok]
    rfl
  rw [sq_nx (show sOwn 1 _ _ μ = _ from by unfold sOwn; rw [hD]; rfl)]
  simp only [List.set_cons_succ, List.set_cons_zero]
  rw [sq_nx (sFor_rt (iRange1_nat (n := T.length + 1) (eOp_ok (eBi1_ok (eV_at rfl) (by rw [vw_d, encT, lenR_tup, List.length_map])) eC_ok (by rw [vw_d, vw_d, addR_int]; rfl)) (by omega)) h3)]
  rw [sq_nx (show sFrz 1 _ μ = .ok (.nx (List.set _ 1 (.v (.dic kvs')))) μ from by unfold sFrz; rfl)]
  simp only [List.set_cons_succ, List.set_cons_zero]
  exact sRet_ok (eV_at rfl)
end K09
end

section
set_option maxHeartbeats 0
set_option linter.all false
set_option maxRecDepth 100000
namespace K09
open Ev
/-! ### values drawn -/
theorem Wv.mono {T : Ty} : ∀ {d d2 : Nat} {name : String} {v : Vl}, d ≤ d2 → Wv T d name v → Wv T d2 name v
  | d, d2, name, .int i, _, h => by
    have := h.int
    cases d2 <;> simpa only [Wv] using this
  | d, d2, name, .mk c vs, hd, h => by
    obtain ⟨d', rfl, h1, fs, h2, h3, h4⟩ := h.mk
    obtain ⟨d2', rfl⟩ : ∃ x, d2 = x + 1 := ⟨d2 - 1, by omega⟩
    simp only [Wv]
    exact ⟨h1, fs, h2, h3, fun i f v a b => Wv.mono (by omega) (h4 i f v a b)⟩
termination_by d => d
/-- a list of drawn values -/
theorem draws_comp {α : Type} {Q : α → Vl → Prop} {own : List Nat} {t : Tg} {elt : E} {ρ ρw : Env} {it : It} {digs : List Int} {k : Nat} (items : List α) (encI : α → R) (env1 : α → Env) (hit : it ρ (Bx digs k) = .ok (items.map encI) (Bx digs k)) (hw : wipeE ρ own = ρw) (hlen : items.length ≤ 1000)
    (ht : ∀ x ∈ items, t (encI x) ρw = some (env1 x)) (hel : ∀ (x : α) (k : Nat), x ∈ items → ∃ (v : Vl) (k' : Nat), Q x v ∧ elt (env1 x) (Bx digs k) = .ok (.d (encV v)) (Bx digs k')) :
    ∃ (vs : List Vl) (k' : Nat), vs.length = items.length ∧ (∀ (i : Nat) (x : α) (v : Vl), items[i]? = some x → vs[i]? = some v → Q x v) ∧ eComp own t it tYes elt ρ (Bx digs k) = .ok (.d (.lst (encVs vs))) (Bx digs k') := by
  obtain ⟨ys, μ', ⟨k2, rs, rfl, e2, e3, e4⟩, h3⟩ := compL_invM (t := t) (c := tYes) (e := elt) (ρ := ρw)
    (fun i acc μ => ∃ (k2 : Nat) (rs : List Vl), μ = Bx digs k2 ∧ acc = rs.map (fun r => .d (encV r)) ∧ rs.length = i ∧ ∀ (j : Nat) (g : α) (p : Vl), items[j]? = some g → rs[j]? = some p → Q g p)
    (xs := items.map encI) (k := 0) (acc := []) (μ := Bx digs k) ⟨k, [], rfl, rfl, rfl, by simp⟩ (by
      rintro i x acc μ hx ⟨k2, rs, rfl, rfl, hl, hf⟩
      rw [List.getElem?_map] at hx
      obtain ⟨g, hg, hx⟩ := Option.map_eq_some_iff.mp hx
      subst hx
      have hm := List.mem_of_getElem? hg
      obtain ⟨r, k3, h1, h2⟩ := hel g k2 hm
      refine ⟨env1 g, ht g hm, .inl ⟨Bx digs k2, .d (encV r), Bx digs k3, by simp [tYes], h2, k3, rs ++ [r], rfl, by simp, by simp [hl], ?_⟩⟩
      intro j g' p hj hp
      by_cases hlt : j < rs.length
      · rw [List.getElem?_append_left hlt] at hp; exact hf j g' p hj hp
      · rw [List.getElem?_append_right (by omega)] at hp
        have hj0 : j - rs.length = 0 := by
          by_cases h0 : j - rs.length = 0
          · exact h0
          · rw [List.getElem?_eq_none (by simp; omega)] at hp; cases hp
        rw [hj0] at hp
        cases hp
        have : j = i := by omega
        subst this
        rw [hg] at hj; cases hj
        exact h1)
  rw [List.nil_append] at e2
  subst e2
  rw [Nat.zero_add, List.length_map] at e3
  refine ⟨rs, k2, e3, e4, ?_⟩
  rw [eComp_ok hit (by rw [hw]; exact h3) (by simp; omega), mkL_map, encVs_map]
/-- the heights at hand -/
structure HtOk (T : Ty) (F : Hf) (kvs : List (Ky × R)) : Prop where
  dic : DicF kvs F
  don : Don T T.length F
theorem HtOk.known {T : Ty} {F : Hf} {kvs : List (Ky × R)} (h : HtOk T F kvs) {name : String} (hn : TyNm T name) : ∃ a, F name = some a ∧ a ≤ 3 ∧ (name ≠ "Int" → 1 ≤ a) ∧ (name = "Int" → a = 0) := by
  rcases hn with rfl | ⟨i, hi, e⟩
  · exact ⟨0, h.don.int, by omega, fun z => absurd rfl z, fun _ => rfl⟩
  · obtain ⟨a, e1, e2, e3⟩ := h.don.bd i name hi e
    have := (List.getElem?_eq_some_iff.mp e).1
    refine ⟨a, e1, by simp [nms] at this; omega, fun _ => e2, fun z => absurd z (nms_int _ (List.mem_of_getElem? e))⟩
theorem mk_tupV {ρ : Env} {μ μ' : Mem} {c : String} {rs : List Vl} {a e : E} (h1 : a ρ μ = .ok (.d (.str c)) μ) (h2 : e ρ μ = .ok (.d (.lst (encVs rs))) μ') : eTup [eC (.str "make"), a, eBi tupleR [e]] ρ μ = .ok (.d (encV (.mk c rs))) μ' := by
  unfold eTup
  rw [evs_cons, eC_ok, bind_ok, evs_cons, h1, bind_ok, evs_cons, eBi1_ok h2 (by rw [vw_d, tupleR_lst]), bind_ok, evs_nil, bind_ok, bind_ok, bind_ok, bind_ok]
  simp [encV]
theorem forL_ex {α : Type} {t : Tg} {b : S} {μ : Mem} (enc : α → R) (p : α → Bool) (Q : R → Mem → Prop) (I : Env → Prop) : ∀ {xs : List α} {ρ : Env}, I ρ → (∃ x ∈ xs, p x = true) →
    (∀ x ∈ xs, ∀ ρ, I ρ → ∃ ρ1, t (enc x) ρ = some ρ1 ∧ (p x = true → ∃ r μ', Q r μ' ∧ b ρ1 μ = .ok (.rt r) μ') ∧ (p x = false → ∃ ρ2, I ρ2 ∧ b ρ1 μ = .ok (.nx ρ2) μ)) →
    ∃ r μ', Q r μ' ∧ forL t b (xs.map enc) ρ μ = .ok (.rt r) μ'
  | [], _, _, h, _ => by obtain ⟨x, hx, _⟩ := h; cases hx
  | x :: xs, ρ, hI, h, hb => by
    obtain ⟨ρ1, h1, h2, h3⟩ := hb x List.mem_cons_self ρ hI
    cases hp : p x with
    | true =>
      obtain ⟨r, μ', q, e⟩ := h2 hp
      refine ⟨r, μ', q, ?_⟩
      rw [List.map_cons]; unfold forL; rw [h1]; simp [e]
    | false =>
      obtain ⟨ρ2, hI2, e⟩ := h3 hp
      obtain ⟨y, hy, hpy⟩ := h
      have hy2 : ∃ x ∈ xs, p x = true := by
        rcases List.mem_cons.mp hy with rfl | hy
        · rw [hp] at hpy; cases hpy
        · exact ⟨y, hy, hpy⟩
      obtain ⟨r, μ', q, e2⟩ := forL_ex enc p Q I hI2 hy2 fun y hy => hb y (List.mem_cons_of_mem _ hy)
      refine ⟨r, μ', q, ?_⟩
      rw [List.map_cons]; unfold forL; rw [h1]; simp [e, e2]
abbrev leE (T : Ty) (kvs : List (Ky × R)) (name : String) (x3 x4 x5 : Sl) : Env := [.v (.d (encT T)), .v (.dic kvs), .v (.d (.str name)), x3, x4, x5]
theorem tCmp_eqI {a b : E} {ρ : Env} {μ μ1 μ2 : Mem} {x y : Int} (ha : a ρ μ = .ok (.d (.int x)) μ1) (hb : b ρ μ1 = .ok (.d (.int y)) μ2) : tCmp eqR a b ρ μ = .ok (decide (x = y)) μ2 :=
  tCmp_ok ha hb (by
    rw [vw_d, vw_d, eqR_d, eqD_left (by simp [D.dep]), eqv_int]
    by_cases hz : x = y
    · simp [hz]
    · simp [hz])
theorem least_spec {T : Ty} (g : GoodT T) {F : Hf} {kvs : List (Ky × R)} (H : HtOk T F kvs) (digs : List Int) : ∀ (n : Nat) (name : String) (h k : Nat), TyNm T name → F name = some h → h + 2 ≤ n →
    ∃ (v : Vl) (k' : Nat), Wv T h name v ∧ callN P n "_law_least" [.d (encT T), .dic kvs, .d (.str name)] (Bx digs k) = .ok (.d (encV v)) (Bx digs k')
  | 0, _, _, _, _, _, hn => by omega
  | 1, _, _, _, _, _, hn => by omega
  | n + 2, name, h, k, hty, hh, hn => by
    have ih := least_spec g H digs (n + 1)
    rw [callN_run (d := f_law_least) rfl rfl]
    have hmk := makers_spec n T name
    generalize callN P (n + 1) = C at ih hmk ⊢
    have hi : tCmp eqR (eV 2) (eC (.str "Int")) (leE T kvs name .un .un .un) (Bx digs k) = .ok (decide (name = "Int")) (Bx digs k) := tCmp_eqs (eV_at rfl) eC_ok
    by_cases hint : name = "Int"
    · rw [decide_eq_true hint] at hi
      refine ⟨.int 0, k, by cases h <;> simp [Wv, hint], runB_rt ?_ rfl⟩
      simp only [f_law_least, List.map_cons, List.map_nil, List.length_cons, List.length_nil, Nat.reduceAdd, Nat.reduceSub, List.replicate_succ, List.replicate_zero, List.cons_append, List.nil_append]
      refine sq_rt ?_
      rw [sIf_t hi]
      exact sRet_ok (by simp [eTup, evs_cons, evs_nil, eC, encV])
    · rw [decide_eq_false hint] at hi
      obtain ⟨j, hj, hnm⟩ : ∃ i : Nat, i < T.length ∧ nms[i]? = some name := by
        rcases hty with h | h
        · exact absurd h hint
        · exact h
      -- the row
      obtain ⟨row, hrow, hrn, hmo⟩ : ∃ row, T[j]? = some row ∧ row.1 = name ∧ makersOf T name = row.2 := by
        have hpos := makersOf_pos g hj hnm
        unfold makersOf at hpos ⊢
        cases hf : T.find? (fun r => r.1 == name) with
        | none => rw [hf] at hpos; exact absurd rfl hpos
        | some row =>
          obtain ⟨e1, i, e2, e3, e4⟩ := makers_row g hf
          obtain rfl := nms_inj e3 hnm
          exact ⟨row, e2, e1, rfl⟩
      obtain ⟨m0, hm0, hk0, hF0⟩ := H.don.loc j row hj hrow
      rw [hrn, hh] at hF0
      have hF0 := Option.some.inj hF0
      have hm3 := makersOf_le g name
      -- a maker's own height
      have hcond : ∀ (m : Mk) (s5 : Sl), m ∈ makersOf T name → tCmp eqR (eOp addR (eBi maxR [(eOp addR (eLst [(eC (.int 0))]) (eComp [5] (tgN 5) (iE (eV 4)) tYes (eGet2 (eV 1) (eV 5) (eC (.int 99)))))]) (eC (.int 1))) (eIdx (eV 1) (eV 2)) (leE T kvs name (.v (.d (.str m.1))) (.v (.d (encF m.2))) s5) (Bx digs k) = .ok (decide (mh F m = h)) (Bx digs k) := by
        intro m s5 hm
        obtain ⟨mf1, mf2, mf3, mf4⟩ := maker_fields g hm
        have h2 : compL (tgN 5) tYes (eGet2 (eV 1) (eV 5) (eC (.int 99))) (m.2.map fun k => R.d (.str k)) (leE T kvs name (.v (.d (.str m.1))) (.v (.d (encF m.2))) .un) (Bx digs k) = .ok (m.2.map fun k => R.d (dn ((F k).getD 0))) (Bx digs k) := by
          refine compL_map (by simp) fun i x y hx hy => ?_
          rw [List.getElem?_map] at hx hy
          obtain ⟨q, hq, hx⟩ := Option.map_eq_some_iff.mp hx
          rw [hq] at hy
          obtain rfl := Option.some.inj hy
          subst hx
          refine ⟨leE T kvs name (.v (.d (.str m.1))) (.v (.d (encF m.2))) (.v (.d (.str q))), by simp only [tgN, List.set_cons_succ, List.set_cons_zero], by simp [tYes], ?_⟩
          obtain ⟨a, e1, _⟩ := H.known (mf3 q (List.mem_of_getElem? hq))
          unfold eGet2
          rw [eV_at rfl, bind_ok]
          show (eV 5 _ _).bind _ = _
          rw [eV_at rfl, bind_ok, eC_ok, bind_ok]
          show lift (some ((valK kvs (.s q)).getD (.d (.int 99)))) _ = _
          show _ = Out.ok (R.d (dn ((F q).getD 0))) _
          rw [H.dic q, e1]
          rfl
        have e2 : eComp [5] (tgN 5) (iE (eV 4)) tYes (eGet2 (eV 1) (eV 5) (eC (.int 99))) (leE T kvs name (.v (.d (.str m.1))) (.v (.d (encF m.2))) s5) (Bx digs k) = .ok (.d (.lst ((m.2.map fun k => (F k).getD 0).map dn))) (Bx digs k) := by
          rw [eComp_ok (iE_tup (ds := m.2.map .str) (eV_at rfl)) (by rw [List.map_map]; exact h2) (by rw [List.length_map]; omega), mkL_map, List.map_map]; rfl
        refine (tCmp_eqI (x := ((mh F m : Nat) : Int)) (y := ((h : Nat) : Int)) (μ1 := Bx digs k) (μ2 := Bx digs k) (eOp_ok (eBi1_ok (eOp_ok (x := .d (.lst [.int 0])) (by simp [eLst, evs_cons, evs_nil, eC]) e2 (z := .d (.lst (.int 0 :: (m.2.map fun k => (F k).getD 0).map dn))) ?_) (by rw [vw_d]; exact maxR_nat _)) eC_ok ?_) ?_).trans ?_
        · rw [vw_d, vw_d, addR_lst, if_pos (le_SL (by simp; omega))]; rfl
        · rw [vw_d, vw_d, addR_int]
          unfold mh
          congr 3
        · unfold eIdx
          refine eOp_ok (eV_at rfl) (eV_at rfl) ?_
          rw [vw_dic, vw_d]
          show valK kvs (.s name) = _
          rw [H.dic name, hh]; rfl
        · congr 1
          rw [Bool.eq_iff_iff, decide_eq_true_eq, decide_eq_true_eq]; omega
      obtain ⟨r, μ', ⟨v, k', hv, rfl, rfl⟩, hl⟩ := forL_ex (t := tgT [(tgN 3), (tgN 4)]) (b := sIf (tCmp eqR (eOp addR (eBi maxR [(eOp addR (eLst [(eC (.int 0))]) (eComp [5] (tgN 5) (iE (eV 4)) tYes (eGet2 (eV 1) (eV 5) (eC (.int 99)))))]) (eC (.int 1))) (eIdx (eV 1) (eV 2))) (sRet (eTup [(eC (.str "make")), (eV 3), (eBi tupleR [(eComp [5] (tgN 5) (iE (eV 4)) tYes (eCall C "_law_least" [(eV 0), (eV 1), (eV 5)]))])])) sNil) (μ := Bx digs k)
        (fun m : Mk => R.d (encM m)) (fun m => decide (mh F m = h)) (fun r μ' => ∃ (v : Vl) (k' : Nat), Wv T h name v ∧ r = .d (encV v) ∧ μ' = Bx digs k') (fun ρ => ∃ x3 x4 x5, ρ = leE T kvs name x3 x4 x5)
        (xs := makersOf T name) (ρ := leE T kvs name .un .un .un) ⟨_, _, _, rfl⟩ ⟨m0, by rw [hmo]; exact hm0, by rw [decide_eq_true_eq]; exact hF0.symm⟩ (by
          rintro m hm ρ ⟨x3, x4, x5, rfl⟩
          refine ⟨leE T kvs name (.v (.d (.str m.1))) (.v (.d (encF m.2))) x5, by simp only [encM, tgT, tgs, tgN, List.map_cons, List.map_nil, Option.bind_some, List.set_cons_succ, List.set_cons_zero], fun hp => ?_, fun hp => ?_⟩
          · rw [decide_eq_true_eq] at hp
            obtain ⟨mf1, mf2, mf3, mf4⟩ := maker_fields g hm
            obtain ⟨vs, k2, v1, v2, v3⟩ := draws_comp (Q := fun f v => ∃ a, F f = some a ∧ a + 1 ≤ h ∧ Wv T a f v) (own := [5]) (t := tgN 5) (elt := eCall C "_law_least" [(eV 0), (eV 1), (eV 5)]) (ρ := leE T kvs name (.v (.d (.str m.1))) (.v (.d (encF m.2))) x5) (it := iE (eV 4)) (digs := digs) (k := k) m.2 (fun f => R.d (.str f)) (fun f => leE T kvs name (.v (.d (.str m.1))) (.v (.d (encF m.2))) (.v (.d (.str f))))
              (by rw [iE_tup (ds := m.2.map .str) (eV_at rfl), List.map_map]; rfl) rfl (by omega) (fun x _ => by simp only [tgN, wipeE, List.set_cons_succ, List.set_cons_zero]) (fun f k2 hf => by
                obtain ⟨a, e1, e2, _⟩ := H.known (mf3 f hf)
                have h1 := mh_field hf e1
                obtain ⟨v, k3, w1, w2⟩ := ih f a k2 (mf3 f hf) e1 (by omega)
                refine ⟨v, k3, ⟨a, e1, by omega, w1⟩, ?_⟩
                unfold eCall
                rw [evs_cons, eV_at rfl, bind_ok, evs_cons, eV_at rfl, bind_ok, evs_cons, eV_at rfl, bind_ok, evs_nil, bind_ok, bind_ok, bind_ok, bind_ok]
                exact w2)
            refine ⟨_, _, ⟨.mk m.1 vs, k2, ?_, rfl, rfl⟩, ?_⟩
            · have hpos := mh_pos F m
              obtain ⟨h', rfl⟩ : ∃ x, h = x + 1 := ⟨h - 1, by omega⟩
              simp only [Wv]
              refine ⟨hint, m.2, hm, v1.symm, fun i f v a b => ?_⟩
              obtain ⟨c, _, c2, c3⟩ := v2 i f v a b
              exact c3.mono (by omega)
            · have hc := hcond m x5 hm
              rw [decide_eq_true hp] at hc
              rw [sIf_t hc]
              exact sRet_ok (mk_tupV (eV_at rfl) v3)
          · refine ⟨leE T kvs name (.v (.d (.str m.1))) (.v (.d (encF m.2))) x5, ⟨_, _, _, rfl⟩, ?_⟩
            have hc := hcond m x5 hm
            rw [hp] at hc
            rw [sIf_f hc]
            exact sNil_ok)
      refine ⟨v, k', hv, runB_rt ?_ (by rfl)⟩
      simp only [f_law_least, List.map_cons, List.map_nil, List.length_cons, List.length_nil, Nat.reduceAdd, Nat.reduceSub, List.replicate_succ, List.replicate_zero, List.cons_append, List.nil_append]
      rw [sq_if_f hi]
      refine sq_rt (sFor_rt (iE_tup (ds := (makersOf T name).map encM) ?_) (by rw [List.map_map]; exact hl))
      unfold eCall
      rw [evs_cons, eV_at rfl, bind_ok, evs_cons, eV_at rfl, bind_ok, evs_nil, bind_ok, bind_ok, bind_ok]
      exact hmk _
abbrev vaE (T : Ty) (kvs : List (Ky × R)) (name : String) (d : Nat) (x5 x6 x7 x8 : Sl) : Env := [.v (.p 0), .v (.d (encT T)), .v (.dic kvs), .v (.d (.str name)), .v (.d (.int (d : Int))), x5, x6, x7, x8]
theorem value_spec {T : Ty} (g : GoodT T) {F : Hf} {kvs : List (Ky × R)} (H : HtOk T F kvs) (digs : List Int) : ∀ (d n : Nat) (name : String) (k : Nat), TyNm T name → 1 ≤ d → d + 6 ≤ n →
    ∃ (v : Vl) (k' : Nat), Wv T (d + 3) name v ∧ callN P n "_law_value" [.p 0, .d (encT T), .dic kvs, .d (.str name), .d (.int (d : Int))] (Bx digs k) = .ok (.d (encV v)) (Bx digs k')
  | 0, _, _, _, _, h, _ => by omega
  | d, 0, _, _, _, _, hn => by omega
  | d, 1, _, _, _, _, hn => by omega
  | d + 1, n + 2, name, k, hty, hd, hn => by
    have ih := fun (h : 1 ≤ d) (name : String) (k : Nat) (hty : TyNm T name) => value_spec g H digs d (n + 1) name k hty h (by omega)
    rw [callN_run (d := f_law_value) rfl rfl]
    have hC := draws n
    have hmk := makers_spec n T name
    have hls := least_spec g H digs (n + 1)
    generalize callN P (n + 1) = C at ih hC hmk hls ⊢
    have hi : tCmp eqR (eV 3) (eC (.str "Int")) (vaE T kvs name (d + 1) .un .un .un .un) (Bx digs k) = .ok (decide (name = "Int")) (Bx digs k) := tCmp_eqs (eV_at rfl) eC_ok
    by_cases hint : name = "Int"
    · rw [decide_eq_true hint] at hi
      obtain ⟨v1, hv1, h1⟩ := hC digs k 7 (by omega)
      obtain ⟨v2, hv2, h2⟩ := hC digs (k + 1) 199 (by omega)
      obtain ⟨v3, hv3, h3⟩ := hC digs (k + 1 + 1) 2 (by omega)
      replace h1 : C "_law_draw" [.p 0, .d (.int 7)] (Bx digs k) = .ok (.d (.int v1)) (Bx digs (k + 1)) := h1
      replace h2 : C "_law_draw" [.p 0, .d (.int 199)] (Bx digs (k + 1)) = .ok (.d (.int v2)) (Bx digs (k + 1 + 1)) := h2
      replace h3 : C "_law_draw" [.p 0, .d (.int 2)] (Bx digs (k + 1 + 1)) = .ok (.d (.int v3)) (Bx digs (k + 1 + 1 + 1)) := h3
      have a1 : eOp subR (eCall C "_law_draw" [(eV 0), (eC (.int 7))]) (eC (.int 3)) (vaE T kvs name (d + 1) .un .un .un .un) (Bx digs k) = .ok (.d (.int ((v1 : Int) - 3))) (Bx digs (k + 1)) := eOp_ok (eDraw rfl h1) eC_ok rfl
      have a2 : eOp subR (eCall C "_law_draw" [(eV 0), (eC (.int 199))]) (eC (.int 99)) (vaE T kvs name (d + 1) .un .un .un .un) (Bx digs (k + 1)) = .ok (.d (.int ((v2 : Int) - 99))) (Bx digs (k + 1 + 1)) := eOp_ok (eDraw rfl h2) eC_ok rfl
      have a3 : eLst [(eOp subR (eCall C "_law_draw" [(eV 0), (eC (.int 7))]) (eC (.int 3))), (eOp subR (eCall C "_law_draw" [(eV 0), (eC (.int 199))]) (eC (.int 99)))] (vaE T kvs name (d + 1) .un .un .un .un) (Bx digs k) = .ok (.d (.lst [.int ((v1 : Int) - 3), .int ((v2 : Int) - 99)])) (Bx digs (k + 1 + 1)) := by
        unfold eLst
        rw [evs_cons, a1, bind_ok, evs_cons, a2, bind_ok, evs_nil, bind_ok, bind_ok, bind_ok]
        rfl
      obtain ⟨i, hi1, hi2, hi3⟩ : ∃ i : Int, -99 ≤ i ∧ i ≤ 99 ∧ [D.int ((v1 : Int) - 3), D.int ((v2 : Int) - 99)][v3]? = some (.int i) := by
        obtain rfl | rfl : v3 = 0 ∨ v3 = 1 := by omega
        · exact ⟨(v1 : Int) - 3, by omega, by omega, rfl⟩
        · exact ⟨(v2 : Int) - 99, by omega, by omega, rfl⟩
      refine ⟨.int i, k + 1 + 1 + 1, by simp only [Wv]; exact ⟨hint, hi1, hi2⟩, runB_rt ?_ rfl⟩
      simp only [f_law_value, List.map_cons, List.map_nil, List.length_cons, List.length_nil, Nat.reduceAdd, Nat.reduceSub, List.replicate_succ, List.replicate_zero, List.cons_append, List.nil_append]
      refine sq_rt ?_
      rw [sIf_t hi]
      refine sRet_ok ?_
      unfold eTup
      rw [evs_cons, eC_ok, bind_ok, evs_cons, ixl_ok a3 (eDraw rfl h3) hi3, bind_ok, evs_nil, bind_ok, bind_ok, bind_ok]
      simp [encV]
    · rw [decide_eq_false hint] at hi
      obtain ⟨j, hj, hnm⟩ : ∃ i : Nat, i < T.length ∧ nms[i]? = some name := by
        rcases hty with h | h
        · exact absurd h hint
        · exact h
      have hpos := makersOf_pos g hj hnm
      have hm3 := makersOf_le g name
      obtain ⟨h, hF, h3, hp1, _⟩ := H.known (.inr ⟨j, hj, hnm⟩)
      have hp1 := hp1 hint
      obtain ⟨v, hv, h1⟩ := hC digs k 90 (by omega)
      obtain ⟨w, q, hw, hq, hpick⟩ := ePickT (C := C) (ρ := vaE T kvs name (d + 1) (.v (.d (encMs (makersOf T name)))) .un .un .un) (i := 0) (j := 5) (pool := (makersOf T name).map encM) rfl rfl (by simpa using List.length_pos_iff.mpr hpos) h1
      rw [List.getElem?_map] at hq
      obtain ⟨m, hm, hqm⟩ := Option.map_eq_some_iff.mp hq
      subst hqm
      have hmem := List.mem_of_getElem? hm
      obtain ⟨mf1, mf2, mf3, mf4⟩ := maker_fields g hmem
      have hmk1 : eCall C "_law_makers" [(eV 1), (eV 3)] (vaE T kvs name (d + 1) .un .un .un .un) (Bx digs k) = .ok (.d (encMs (makersOf T name))) (Bx digs k) := by
        unfold eCall
        rw [evs_cons, eV_at rfl, bind_ok, evs_cons, eV_at rfl, bind_ok, evs_nil, bind_ok, bind_ok, bind_ok]
        exact hmk _
      have hle : tCmp leR (eV 4) (eIdx (eV 2) (eV 3)) (vaE T kvs name (d + 1) (.v (.d (encMs (makersOf T name)))) (.v (.d (.str m.1))) (.v (.d (encF m.2))) .un) (Bx digs (k + 1)) = .ok (decide (d + 1 ≤ h)) (Bx digs (k + 1)) := by
        refine tCmp_ok (x := .d (.int ((d + 1 : Nat) : Int))) (y := .d (.int (h : Int))) (μ1 := Bx digs (k + 1)) (eV_at rfl) ?_ ?_
        · unfold eIdx
          refine eOp_ok (eV_at rfl) (eV_at rfl) ?_
          rw [vw_dic, vw_d]
          show valK kvs (.s name) = _
          rw [H.dic name, hF]; rfl
        · rw [vw_d, vw_d]
          show some (decide (((d + 1 : Nat) : Int) ≤ (h : Int))) = _
          congr 1
          rw [Bool.eq_iff_iff, decide_eq_true_eq, decide_eq_true_eq]; omega
      have head : ∀ (b : S) (r : Fl) (μ' : Mem), b (vaE T kvs name (d + 1) (.v (.d (encMs (makersOf T name)))) (.v (.d (.str m.1))) (.v (.d (encF m.2))) .un) (Bx digs (k + 1)) = .ok r μ' →
          sq (sIf (tCmp eqR (eV 3) (eC (.str "Int"))) (sRet (eTup [(eC (.str "int")), (eIdx (eLst [(eOp subR (eCall C "_law_draw" [(eV 0), (eC (.int 7))]) (eC (.int 3))), (eOp subR (eCall C "_law_draw" [(eV 0), (eC (.int 199))]) (eC (.int 99)))]) (eCall C "_law_draw" [(eV 0), (eC (.int 2))]))])) sNil)
            (sq (sAs (tgN 5) (eCall C "_law_makers" [(eV 1), (eV 3)]))
            (sq (sAs (tgT [(tgN 6), (tgN 7)]) (eIdx (eV 5) (eOp modR (eBi intR [(eCall C "_law_draw" [(eV 0), (eC (.int 90))])]) (eBi lenR [(eV 5)])))) b)) (vaE T kvs name (d + 1) .un .un .un .un) (Bx digs k) = .ok r μ' := fun b r μ' hb => by
        rw [sq_if_f hi, sq_as hmk1]
        simp only [List.set_cons_succ, List.set_cons_zero]
        rw [sq_nx (sAs_gen hpick (by simp only [tgT, encM, tgs, tgN, List.map_cons, List.map_nil, Option.bind_some]; rfl))]
        simp only [List.set_cons_succ, List.set_cons_zero]
        exact hb
      by_cases hdh : d + 1 ≤ h
      · rw [decide_eq_true hdh] at hle
        obtain ⟨u, k2, u1, u2⟩ := hls name h (k + 1) (.inr ⟨j, hj, hnm⟩) hF (by omega)
        refine ⟨u, k2, u1.mono (by omega), runB_rt ?_ rfl⟩
        simp only [f_law_value, List.map_cons, List.map_nil, List.length_cons, List.length_nil, Nat.reduceAdd, Nat.reduceSub, List.replicate_succ, List.replicate_zero, List.cons_append, List.nil_append]
        refine head _ _ _ ?_
        refine sq_rt ?_
        rw [sIf_t hle]
        refine sRet_ok ?_
        unfold eCall
        rw [evs_cons, eV_at rfl, bind_ok, evs_cons, eV_at rfl, bind_ok, evs_cons, eV_at rfl, bind_ok, evs_nil, bind_ok, bind_ok, bind_ok, bind_ok]
        exact u2
      · rw [decide_eq_false hdh] at hle
        have hd1 : 1 ≤ d := by omega
        obtain ⟨vs, k2, v1, v2, v3⟩ := draws_comp (Q := fun f v => Wv T (d + 3) f v) (own := [8]) (t := tgN 8) (elt := eCall C "_law_value" [(eV 0), (eV 1), (eV 2), (eV 8), (eOp subR (eV 4) (eC (.int 1)))]) (ρ := vaE T kvs name (d + 1) (.v (.d (encMs (makersOf T name)))) (.v (.d (.str m.1))) (.v (.d (encF m.2))) .un) (it := iE (eV 7)) (digs := digs) (k := k + 1) m.2 (fun f => R.d (.str f))
          (fun f => vaE T kvs name (d + 1) (.v (.d (encMs (makersOf T name)))) (.v (.d (.str m.1))) (.v (.d (encF m.2))) (.v (.d (.str f))))
          (by rw [iE_tup (ds := m.2.map .str) (eV_at rfl), List.map_map]; rfl) rfl (by omega) (fun x _ => by simp only [tgN, wipeE, List.set_cons_succ, List.set_cons_zero]) (fun f k2 hf => by
            obtain ⟨v, k3, w1, w2⟩ := ih hd1 f k2 (mf3 f hf)
            refine ⟨v, k3, w1, ?_⟩
            have hsub : eOp subR (eV 4) (eC (.int 1)) (vaE T kvs name (d + 1) (.v (.d (encMs (makersOf T name)))) (.v (.d (.str m.1))) (.v (.d (encF m.2))) (.v (.d (.str f)))) (Bx digs k2) = .ok (.d (.int (d : Int))) (Bx digs k2) :=
              eOp_ok (x := .d (.int ((d + 1 : Nat) : Int))) (eV_at rfl) eC_ok (by rw [vw_d, vw_d, subR_int]; congr 3; omega)
            unfold eCall
            rw [evs_cons, eV_at rfl, bind_ok, evs_cons, eV_at rfl, bind_ok, evs_cons, eV_at rfl, bind_ok, evs_cons, eV_at rfl, bind_ok, evs_cons, hsub, bind_ok, evs_nil, bind_ok, bind_ok, bind_ok, bind_ok, bind_ok, bind_ok]
            exact w2)
        refine ⟨.mk m.1 vs, k2, ?_, runB_rt ?_ rfl⟩
        · show Wv T (d + 3 + 1) name (.mk m.1 vs)
          simp only [Wv]
          exact ⟨hint, m.2, hmem, v1.symm, v2⟩
        · simp only [f_law_value, List.map_cons, List.map_nil, List.length_cons, List.length_nil, Nat.reduceAdd, Nat.reduceSub, List.replicate_succ, List.replicate_zero, List.cons_append, List.nil_append]
          refine head _ _ _ ?_
          rw [sq_if_f hle]
          exact sRet_ok (mk_tupV (eV_at rfl) v3)
end K09
end

section
set_option maxHeartbeats 0
set_option linter.all false
set_option maxRecDepth 100000
namespace K09
open Ev
/-! ### cuts and rests stay regions of their type; a cut is its own cut; what is left is apart -/
theorem Wr.up {T : Ty} : ∀ {d : Nat} {name : String} {r : Rg}, Wr false T d name r → Wr true T d name r
  | d, name, .any, _ => Wr.any
  | d, name, .rng a b, h => by
    have := h.rng2
    cases d <;> simpa only [Wr] using this
  | d, name, .nt l, h => by have := h.nt.1; simp at this
  | d, name, .mk c ps, h => by
    obtain ⟨d', rfl, h1, fs, h2, h3, h4⟩ := h.mk
    simp only [Wr]
    exact ⟨h1, fs, h2, h3, fun i f p a b => Wr.up (h4 i f p a b)⟩
termination_by d => d
theorem Wr_rng {fl : Bool} {T : Ty} {d : Nat} {a b : Int} (h : -99 ≤ a ∧ a ≤ 99 ∧ -99 ≤ b ∧ b ≤ 99 ∧ a ≤ b) : Wr fl T d "Int" (.rng a b) := by cases d <;> simp only [Wr] <;> exact ⟨trivial, h⟩
theorem cutL_iff : ∀ {ps qs xs : List Rg}, cutL ps qs = some xs ↔ ps.length = qs.length ∧ xs.length = qs.length ∧ ∀ (i : Nat) (p q x : Rg), ps[i]? = some p → qs[i]? = some q → xs[i]? = some x → cutM p q = some x
  | [], [], xs => by
    simp only [cutL]
    constructor
    · intro h
      obtain rfl := Option.some.inj h
      simp
    · rintro ⟨_, h, _⟩
      rw [List.eq_nil_of_length_eq_zero h]
  | [], _ :: _, _ => by simp [cutL]
  | _ :: _, [], _ => by simp [cutL]
  | p :: ps, q :: qs, xs => by
    simp only [cutL]
    constructor
    · intro h
      cases hc : cutM p q with
      | none => rw [hc] at h; cases h
      | some x =>
        rw [hc] at h
        cases hc2 : cutL ps qs with
        | none => rw [hc2] at h; cases h
        | some ys =>
          rw [hc2] at h
          obtain rfl := Option.some.inj h
          obtain ⟨h1, h2, h3⟩ := cutL_iff.mp hc2
          refine ⟨by simp [h1], by simp [h2], fun i p' q' x' a b c => ?_⟩
          cases i with
          | zero =>
            simp at a b c
            subst a b c
            exact hc
          | succ i => exact h3 i p' q' x' (by simpa using a) (by simpa using b) (by simpa using c)
    · rintro ⟨h1, h2, h3⟩
      cases xs with
      | nil => simp at h2
      | cons x xs =>
        rw [h3 0 p q x rfl rfl rfl]
        have := (cutL_iff (ps := ps) (qs := qs) (xs := xs)).mpr ⟨by simpa using h1, by simpa using h2, fun i p q x a b c => h3 (i + 1) p q x (by simpa using a) (by simpa using b) (by simpa using c)⟩
        rw [this]
theorem cut_wr {T : Ty} (g : GoodT T) : ∀ {d : Nat} {name : String} {r s x : Rg}, Wr true T d name r → Wr false T d name s → cutM r s = some x → Wr true T d name x
  | d, name, r, .any, x, h1, h2, h => by
    have e : cutM r .any = some r := by cases r <;> simp [cutM]
    rw [e] at h
    rw [← Option.some.inj h]; exact h1
  | d, name, r, .nt l, x, _, h2, _ => by have := h2.nt.1; simp at this
  | d, name, .any, .rng a b, x, h1, h2, h => by
    simp only [cutM] at h
    rw [← Option.some.inj h]; exact h2.up
  | d, name, .any, .mk c qs, x, h1, h2, h => by
    simp only [cutM] at h
    rw [← Option.some.inj h]; exact h2.up
  | d, name, .rng a b, .rng c e, x, h1, h2, h => by
    obtain ⟨rfl, a1, a2, a3, a4, a5⟩ := h1.rng2
    obtain ⟨_, b1, b2, b3, b4, b5⟩ := h2.rng2
    simp only [cutM] at h
    by_cases hc : (if c > a then c else a) ≤ (if e < b then e else b)
    · rw [if_pos hc] at h
      rw [← Option.some.inj h]
      refine Wr_rng ⟨?_, ?_, ?_, ?_, hc⟩ <;> split <;> omega
    · rw [if_neg hc] at h; cases h
  | d, name, .nt _, .rng _ _, x, h1, h2, _ => absurd h2.rng.1 h1.nt.2.1
  | d, name, .mk _ _, .rng _ _, x, h1, h2, _ => by obtain ⟨_, _, h, _⟩ := h1.mk; exact absurd h2.rng.1 h
  | d, name, .rng _ _, .mk _ _, x, h1, h2, _ => by obtain ⟨_, _, h, _⟩ := h2.mk; exact absurd h1.rng.1 h
  | d, name, .nt l, .mk c qs, x, h1, h2, h => by
    simp only [cutM] at h
    split at h
    · cases h
    · rw [← Option.some.inj h]; exact h2.up
  | d, name, .mk c ps, .mk c' qs, x, h1, h2, h => by
    simp only [cutM] at h
    split at h
    · rename_i hc
      subst hc
      cases hl : cutL ps qs with
      | none => rw [hl] at h; cases h
      | some xs =>
        rw [hl] at h
        rw [← Option.some.inj h]
        obtain ⟨d', rfl, hne, fs, m1, l1, f1⟩ := h1.mk
        obtain ⟨d2', e2, _, gs, m2, l2, f2⟩ := h2.mk
        obtain rfl : d2' = d' := by omega
        obtain rfl := same_fields g m1 m2
        obtain ⟨k1, k2, k3⟩ := cutL_iff.mp hl
        simp only [Wr]
        refine ⟨hne, fs, m1, by omega, fun i f y hf hy => ?_⟩
        have hi : i < xs.length := (List.getElem?_eq_some_iff.mp hy).1
        have hp : ps[i]? = some (ps[i]'(by omega)) := List.getElem?_eq_getElem _
        have hq : qs[i]? = some (qs[i]'(by omega)) := List.getElem?_eq_getElem _
        exact cut_wr g (f1 i f _ hf hp) (f2 i f _ hf hq) (k3 i _ _ y hp hq hy)
    · cases h
termination_by d => d
/-- a simple pattern's cut by itself -/
theorem cut_self {T : Ty} (g : GoodT T) : ∀ {d : Nat} {name : String} {s : Rg}, Wr false T d name s → cutM s s = some s
  | d, name, .any, _ => by simp [cutM]
  | d, name, .rng a b, h => by
    have := h.rng2.2.2.2.2.2
    simp only [cutM]
    rw [if_neg (Int.lt_irrefl a), if_neg (Int.lt_irrefl b), if_pos this]
  | d, name, .nt l, h => by have := h.nt.1; simp at this
  | d, name, .mk c ps, h => by
    obtain ⟨d', rfl, h1, fs, h2, h3, h4⟩ := h.mk
    have : cutL ps ps = some ps := cutL_iff.mpr ⟨rfl, rfl, fun i p q x a b c => by
      rw [a] at b c
      obtain rfl := Option.some.inj b
      obtain rfl := Option.some.inj c
      have hi : i < ps.length := (List.getElem?_eq_some_iff.mp a).1
      exact cut_self g (h4 i (fs[i]'(by omega)) p (by simp) a)⟩
    simp only [cutM]
    rw [if_pos trivial, this]
termination_by d => d
theorem cut_idem {T : Ty} (g : GoodT T) : ∀ {d : Nat} {name : String} {r s x : Rg}, Wr true T d name r → Wr false T d name s → cutM r s = some x → cutM x s = some x
  | d, name, r, .any, x, h1, h2, h => by cases x <;> simp [cutM]
  | d, name, r, .nt l, x, _, h2, _ => by have := h2.nt.1; simp at this
  | d, name, .any, .rng a b, x, h1, h2, h => by
    simp only [cutM] at h
    rw [← Option.some.inj h]; exact cut_self g h2
  | d, name, .any, .mk c qs, x, h1, h2, h => by
    simp only [cutM] at h
    rw [← Option.some.inj h]; exact cut_self g h2
  | d, name, .rng a b, .rng c e, x, h1, h2, h => by
    simp only [cutM] at h
    by_cases hc : (if c > a then c else a) ≤ (if e < b then e else b)
    · rw [if_pos hc] at h
      rw [← Option.some.inj h]
      simp only [cutM]
      have e1 : (if c > (if c > a then c else a) then c else (if c > a then c else a)) = (if c > a then c else a) := by
        by_cases hh : c > a
        · simp only [if_pos hh]; exact if_neg (by omega)
        · simp only [if_neg hh]
      have e2 : (if e < (if e < b then e else b) then e else (if e < b then e else b)) = (if e < b then e else b) := by
        by_cases hh : e < b
        · simp only [if_pos hh]; exact if_neg (by omega)
        · simp only [if_neg hh]
      rw [e1, e2, if_pos hc]
    · rw [if_neg hc] at h; cases h
  | d, name, .nt _, .rng _ _, x, h1, h2, _ => absurd h2.rng.1 h1.nt.2.1
  | d, name, .mk _ _, .rng _ _, x, h1, h2, _ => by obtain ⟨_, _, h, _⟩ := h1.mk; exact absurd h2.rng.1 h
  | d, name, .rng _ _, .mk _ _, x, h1, h2, _ => by obtain ⟨_, _, h, _⟩ := h2.mk; exact absurd h1.rng.1 h
  | d, name, .nt l, .mk c qs, x, h1, h2, h => by
    simp only [cutM] at h
    split at h
    · cases h
    · rw [← Option.some.inj h]; exact cut_self g h2
  | d, name, .mk c ps, .mk c' qs, x, h1, h2, h => by
    simp only [cutM] at h
    split at h
    · rename_i hc
      subst hc
      cases hl : cutL ps qs with
      | none => rw [hl] at h; cases h
      | some xs =>
        rw [hl] at h
        rw [← Option.some.inj h]
        obtain ⟨d', rfl, hne, fs, m1, l1, f1⟩ := h1.mk
        obtain ⟨d2', e2, _, gs, m2, l2, f2⟩ := h2.mk
        obtain rfl : d2' = d' := by omega
        obtain rfl := same_fields g m1 m2
        obtain ⟨k1, k2, k3⟩ := cutL_iff.mp hl
        have : cutL xs qs = some xs := cutL_iff.mpr ⟨k2, k2, fun i p q x a b cc => by
          rw [a] at cc
          obtain rfl := Option.some.inj cc
          have hi : i < xs.length := (List.getElem?_eq_some_iff.mp a).1
          have hp : ps[i]? = some (ps[i]'(by omega)) := List.getElem?_eq_getElem _
          have hf : fs[i]? = some (fs[i]'(by omega)) := List.getElem?_eq_getElem _
          exact cut_idem g (f1 i _ _ hf hp) (f2 i _ q hf b) (k3 i _ q p hp b a)⟩
        simp only [cutM]
        rw [if_pos trivial, this]
    · cases h
termination_by d => d
/-! ### typed lists -/
def WL (fl : Bool) (T : Ty) (d : Nat) : List String → List Rg → Prop
  | [], [] => True
  | n :: ns, p :: ps => Wr fl T d n p ∧ WL fl T d ns ps
  | [], _ :: _ => False
  | _ :: _, [] => False
theorem WL.len {fl : Bool} {T : Ty} {d : Nat} : ∀ {ns : List String} {ps : List Rg}, WL fl T d ns ps → ps.length = ns.length
  | [], [], _ => rfl
  | n :: ns, p :: ps, h => by simp only [WL] at h; simp [WL.len h.2]
  | [], _ :: _, h => by simp [WL] at h
  | _ :: _, [], h => by simp [WL] at h
theorem WL.get {fl : Bool} {T : Ty} {d : Nat} : ∀ {ns : List String} {ps : List Rg} {i : Nat} {n : String} {p : Rg}, WL fl T d ns ps → ns[i]? = some n → ps[i]? = some p → Wr fl T d n p
  | n :: ns, p :: ps, 0, _, _, h, h1, h2 => by simp only [WL] at h; simp at h1 h2; subst h1 h2; exact h.1
  | n :: ns, p :: ps, i + 1, _, _, h, h1, h2 => by simp only [WL] at h; exact WL.get h.2 (by simpa using h1) (by simpa using h2)
  | [], _, _, _, _, _, h1, _ => by simp at h1
  | _ :: _, [], _, _, _, _, _, h2 => by simp at h2
theorem WL_of {fl : Bool} {T : Ty} {d : Nat} : ∀ {ns : List String} {ps : List Rg}, ps.length = ns.length → (∀ (i : Nat) (n : String) (p : Rg), ns[i]? = some n → ps[i]? = some p → Wr fl T d n p) → WL fl T d ns ps
  | [], [], _, _ => by simp only [WL]
  | n :: ns, p :: ps, h, f => by
    simp only [WL]
    exact ⟨f 0 n p rfl rfl, WL_of (by simpa using h) fun i n p a b => f (i + 1) n p (by simpa using a) (by simpa using b)⟩
  | [], _ :: _, h, _ => by simp at h
  | _ :: _, [], h, _ => by simp at h
theorem WL_append {fl : Bool} {T : Ty} {d : Nat} : ∀ {ns : List String} {ps : List Rg} {ms : List String} {qs : List Rg}, WL fl T d ns ps → WL fl T d ms qs → WL fl T d (ns ++ ms) (ps ++ qs)
  | [], [], _, _, _, h => h
  | n :: ns, p :: ps, _, _, h, h2 => by simp only [WL] at h; simp only [List.cons_append, WL]; exact ⟨h.1, WL_append h.2 h2⟩
  | [], _ :: _, _, _, h, _ => by simp [WL] at h
  | _ :: _, [], _, _, h, _ => by simp [WL] at h
theorem cutL_mid : ∀ {pre qpre : List Rg} {x q : Rg} {ps qs : List Rg}, pre.length = qpre.length → cutM x q = none → cutL (pre ++ x :: ps) (qpre ++ q :: qs) = none
  | [], [], x, q, ps, qs, _, h => by simp only [List.nil_append, cutL]; rw [h]
  | p :: pre, q' :: qpre, x, q, ps, qs, hl, h => by
    simp only [List.cons_append, cutL]
    rw [cutL_mid (by simpa using hl) h]
    cases cutM p q' <;> rfl
  | [], _ :: _, _, _, _, _, h, _ => by simp at h
  | _ :: _, [], _, _, _, _, h, _ => by simp at h
/-- a part of the rest -/
def PartP (T : Ty) (d : Nat) (name : String) (s x : Rg) : Prop := Wr true T d name x ∧ cutM x s = none ∧ restM T name x s = [x]
def RowP (T : Ty) (d : Nat) (ns : List String) (qs row : List Rg) : Prop := WL true T d ns row ∧ cutL row qs = none
theorem rr_part {T : Ty} {d : Nat} {a b c e : Int} (h1 : -99 ≤ a ∧ a ≤ 99 ∧ -99 ≤ b ∧ b ≤ 99 ∧ a ≤ b) (h2 : -99 ≤ c ∧ c ≤ 99 ∧ -99 ≤ e ∧ e ≤ 99 ∧ c ≤ e) (hd : e < a ∨ b < c) : PartP T d "Int" (.rng c e) (.rng a b) := by
  refine ⟨Wr_rng h1, ?_, ?_⟩
  · simp only [cutM]
    rw [if_neg]
    intro hh
    split at hh <;> split at hh <;> omega
  · simp only [restM, rr]
    rw [if_pos hd]
theorem rr_parts {T : Ty} {d : Nat} {r : Rg} {a b c e : Int} (hr : r = .rng a b ∨ ¬ (e < a ∨ b < c)) (h1 : -99 ≤ a ∧ a ≤ 99 ∧ -99 ≤ b ∧ b ≤ 99 ∧ a ≤ b) (h2 : -99 ≤ c ∧ c ≤ 99 ∧ -99 ≤ e ∧ e ≤ 99 ∧ c ≤ e) : ∀ x ∈ rr r a b c e, PartP T d "Int" (.rng c e) x := by
  intro x hx
  unfold rr at hx
  split at hx
  · rename_i hd
    rcases hr with hr | hr
    · rw [List.mem_singleton.mp hx, hr]
      exact rr_part h1 h2 hd
    · exact absurd hd hr
  · rcases List.mem_append.mp hx with hx | hx
    · split at hx
      · rw [List.mem_singleton.mp hx]
        exact rr_part (by omega) h2 (by omega)
      · cases hx
    · split at hx
      · rw [List.mem_singleton.mp hx]
        exact rr_part (by omega) h2 (by omega)
      · cases hx
theorem left_part {T : Ty} (g : GoodT T) {d : Nat} {name c : String} {l : List String} {qs : List Rg} (hne : name ≠ "Int") (hc : c ∈ namesOf T name) : ∀ x ∈ leftM T name l c, PartP T d name (.mk c qs) x := by
  intro x hx
  unfold leftM at hx
  split at hx
  · rename_i hlt
    rw [List.mem_singleton.mp hx]
    have hcL : c ∈ (namesOf T name).filter fun x => decide (x ∈ l ∨ x = c) := List.mem_filter.mpr ⟨hc, by simp⟩
    refine ⟨?_, ?_, ?_⟩
    · have : true = true ∧ name ≠ "Int" ∧ ((namesOf T name).filter fun x => decide (x ∈ l ∨ x = c)).Nodup ∧ (∀ x ∈ (namesOf T name).filter fun x => decide (x ∈ l ∨ x = c), x ∈ namesOf T name) ∧ ∃ x ∈ namesOf T name, x ∉ (namesOf T name).filter fun x => decide (x ∈ l ∨ x = c) := by
        refine ⟨rfl, hne, (namesOf_nodup g name).filter _, fun x hx => (List.mem_filter.mp hx).1, Classical.byContradiction fun hn => ?_⟩
        have hall : ((namesOf T name).filter fun x => decide (x ∈ l ∨ x = c)).length = (namesOf T name).length := List.length_filter_eq_length_iff.mpr fun y hy => by
          have : y ∈ (namesOf T name).filter fun x => decide (x ∈ l ∨ x = c) := Classical.byContradiction fun hm => hn ⟨y, hy, hm⟩
          exact (List.mem_filter.mp this).2
        omega
      cases d <;> simpa only [Wr] using this
    · simp only [cutM]
      rw [if_pos hcL]
    · simp only [restM]
      rw [if_pos hcL]
  · cases hx
theorem mk_part {T : Ty} {d : Nat} {name c : String} {fs : List String} {qs : List Rg} {row : List Rg} (hne : name ≠ "Int") (hm : (c, fs) ∈ makersOf T name) (hf : fieldsOf T c = fs) (h : RowP T d fs qs row) : PartP T (d + 1) name (.mk c qs) (.mk c row) := by
  obtain ⟨h1, h2⟩ := h
  refine ⟨?_, ?_, ?_⟩
  · simp only [Wr]
    exact ⟨hne, fs, hm, h1.len.symm, fun i f p a b => h1.get a b⟩
  · simp only [cutM]
    rw [if_pos trivial, h2]
  · simp only [restM]
    rw [if_pos trivial, h2]
    rfl
theorem rest_part_n {T : Ty} (g : GoodT T) : ∀ n : Nat, (∀ (d : Nat) (name : String) (r s : Rg), sizeOf s < n → Wr true T d name r → Wr false T d name s → ∀ x ∈ restM T name r s, PartP T d name s x) ∧
    ∀ (d : Nat) (ns : List String) (ps qs cs pre qpre : List Rg) (npre : List String), sizeOf qs < n → WL true T d ns ps → WL false T d ns qs → cutL ps qs = some cs → WL true T d npre pre → pre.length = qpre.length → ∀ row ∈ rowsL T pre ns ps qs cs, RowP T d (npre ++ ns) (qpre ++ qs) row
  | 0 => ⟨fun _ _ _ _ h => absurd h (Nat.not_lt_zero _), fun _ _ _ _ _ _ _ _ h => absurd h (Nat.not_lt_zero _)⟩
  | n + 1 => by
    obtain ⟨ih1, ih2⟩ := rest_part_n g n
    constructor
    · intro d name r s hn h1 h2
      cases s with
      | any =>
        have e : restM T name r .any = [] := by cases r <;> simp [restM]
        rw [e]
        intro x hx; cases hx
      | nt l => have := h2.nt.1; simp at this
      | rng c e =>
        obtain ⟨hname, hb⟩ := h2.rng2
        subst hname
        cases r with
        | any =>
          simp only [restM]
          exact rr_parts (.inr (by omega)) (by omega) hb
        | rng a b =>
          simp only [restM]
          exact rr_parts (.inl rfl) h1.rng2.2 hb
        | nt l => exact absurd rfl h1.nt.2.1
        | mk _ _ =>
          obtain ⟨_, _, hne, _⟩ := h1.mk
          exact absurd rfl hne
      | mk c qs =>
        obtain ⟨e2, rfl, hne, fs, m2, l2, f2⟩ := h2.mk
        obtain ⟨me1, me2, me3, me4⟩ := maker_fields g m2
        simp only at me1 me2 me3 me4
        have hcn : c ∈ namesOf T name := List.mem_map.mpr ⟨_, m2, rfl⟩
        have hsz : sizeOf qs < n := by simp at hn; omega
        have wq : WL false T e2 fs qs := WL_of l2.symm f2
        have rows : ∀ ps : List Rg, WL true T e2 fs ps → ∀ x ∈ (restL T (fieldsOf T c) ps qs).map (Rg.mk c), PartP T (e2 + 1) name (.mk c qs) x := by
          intro ps hp x hx
          obtain ⟨row, hrow, rfl⟩ := List.mem_map.mp hx
          rw [me1] at hrow
          refine mk_part hne m2 me1 ?_
          unfold restL at hrow
          cases hc : cutL ps qs with
          | none =>
            rw [hc] at hrow
            rw [List.mem_singleton.mp hrow]
            exact ⟨hp, hc⟩
          | some cs =>
            rw [hc] at hrow
            exact ih2 e2 fs ps qs cs [] [] [] hsz hp wq hc (by simp [WL]) rfl row hrow
        have anys : WL true T e2 fs (qs.map fun _ => Rg.any) := WL_of (by simp; omega) fun i n p _ hp => by
          rw [List.getElem?_map] at hp
          obtain ⟨_, _, rfl⟩ := Option.map_eq_some_iff.mp hp
          exact Wr.any
        cases r with
        | any =>
          have e : restM T name .any (.mk c qs) = leftM T name [] c ++ (restL T (fieldsOf T c) (qs.map fun _ => Rg.any) qs).map (.mk c) := by simp only [restM, restL]
          rw [e]
          exact fun x hx => (List.mem_append.mp hx).elim (left_part g hne hcn x) (rows _ anys x)
        | rng a b => exact absurd h1.rng.1 hne
        | nt l =>
          by_cases hl : c ∈ l
          · have e : restM T name (.nt l) (.mk c qs) = [.nt l] := by simp only [restM]; rw [if_pos hl]
            rw [e]
            intro x hx
            rw [List.mem_singleton.mp hx]
            exact ⟨h1, by simp only [cutM]; rw [if_pos hl], e⟩
          · have e : restM T name (.nt l) (.mk c qs) = leftM T name l c ++ (restL T (fieldsOf T c) (qs.map fun _ => Rg.any) qs).map (.mk c) := by simp only [restM, restL]; rw [if_neg hl]
            rw [e]
            exact fun x hx => (List.mem_append.mp hx).elim (left_part g hne hcn x) (rows _ anys x)
        | mk c' ps =>
          obtain ⟨e1, e1', _, fs', m1, l1, f1⟩ := h1.mk
          obtain rfl : e1 = e2 := by omega
          by_cases e : c' = c
          · subst e
            obtain rfl := same_fields g m1 m2
            have e : restM T name (.mk c' ps) (.mk c' qs) = (restL T (fieldsOf T c') ps qs).map (.mk c') := by simp only [restM, restL]; exact if_pos trivial
            rw [e]
            exact rows ps (WL_of l1.symm f1)
          · have e2 : restM T name (.mk c' ps) (.mk c qs) = [.mk c' ps] := by simp only [restM]; rw [if_neg e]
            rw [e2]
            intro x hx
            rw [List.mem_singleton.mp hx]
            exact ⟨h1, by simp only [cutM]; rw [if_neg e], e2⟩
    · intro d ns ps qs cs pre qpre npre hn wp wq hcs hpre hlen
      match ns, ps, qs, hn, wp, wq, hcs with
      | [], [], [], _, _, _, hcs =>
        simp [cutL] at hcs
        subst hcs
        intro row hrow
        simp [rowsL] at hrow
      | n' :: ns, p :: ps, q :: qs, hn, wp, wq, hcs =>
        simp only [WL] at wp wq
        simp at hn
        simp only [cutL] at hcs
        cases hc : cutM p q with
        | none => rw [hc] at hcs; cases hcs
        | some x =>
          rw [hc] at hcs
          cases hc2 : cutL ps qs with
          | none => rw [hc2] at hcs; cases hcs
          | some ys =>
            rw [hc2] at hcs
            obtain rfl := Option.some.inj hcs
            intro row hrow
            simp only [rowsL] at hrow
            rcases List.mem_append.mp hrow with h | h
            · obtain ⟨z, hz, rfl⟩ := List.mem_map.mp h
              obtain ⟨z1, z2, z3⟩ := ih1 d n' p q (by omega) wp.1 wq.1 z hz
              exact ⟨WL_append hpre (by simp only [WL]; exact ⟨z1, wp.2⟩), cutL_mid hlen z2⟩
            · have := ih2 d ns ps qs ys (pre ++ [x]) (qpre ++ [q]) (npre ++ [n']) (by omega) wp.2 wq.2 hc2 (WL_append hpre (by simp only [WL]; exact ⟨cut_wr g wp.1 wq.1 hc, trivial⟩)) (by simp [hlen]) row h
              simpa using this
      | [], _ :: _, _, _, h, _, _ => simp [WL] at h
      | [], [], _ :: _, _, _, h, _ => simp [WL] at h
      | _ :: _, [], _, _, h, _, _ => simp [WL] at h
      | _ :: _, _ :: _, [], _, _, h, _ => simp [WL] at h
theorem rest_part {T : Ty} (g : GoodT T) {d : Nat} {name : String} {r s : Rg} (h1 : Wr true T d name r) (h2 : Wr false T d name s) : ∀ x ∈ restM T name r s, PartP T d name s x := (rest_part_n g (sizeOf s + 1)).1 d name r s (Nat.lt_succ_self _) h1 h2
end K09
end

section
set_option maxHeartbeats 0
set_option linter.all false
set_option maxRecDepth 100000
namespace K09
open Ev
/-! ### covered: nothing is left -/
mutual
def covM (T : Ty) : String → Rg → Rg → Bool
  | _, _, .any => true
  | _, .any, .rng c d => decide (c ≤ -99) && decide (99 ≤ d)
  | _, .rng a b, .rng c d => decide (c ≤ a) && decide (b ≤ d)
  | name, .any, .mk c qs => decide (namesOf T name = [c]) && covL T (fieldsOf T c) (qs.map fun _ => .any) qs
  | name, .nt l, .mk c qs => decide ((namesOf T name).filter (fun x => !decide (x ∈ l)) = [c]) && covL T (fieldsOf T c) (qs.map fun _ => .any) qs
  | _, .mk c' ps, .mk c qs => decide (c' = c) && covL T (fieldsOf T c) ps qs
  | _, _, _ => false
def covL (T : Ty) : List String → List Rg → List Rg → Bool
  | n :: ns, p :: ps, q :: qs => covM T n p q && covL T ns ps qs
  | [], [], [] => true
  | _, _, _ => false
end
theorem filt_single {names : List String} {c : String} {p : String → Bool} (hn : names.Nodup) (hc : c ∈ names) (hp : p c = true) : names.filter p = [c] ↔ ∀ x ∈ names, p x = true → x = c := by
  constructor
  · intro h x hx hpx
    have : x ∈ names.filter p := List.mem_filter.mpr ⟨hx, hpx⟩
    rw [h] at this
    exact List.mem_singleton.mp this
  · intro h
    have hF : (names.filter p).Nodup := hn.filter _
    have hm : c ∈ names.filter p := List.mem_filter.mpr ⟨hc, hp⟩
    have ha : ∀ x ∈ names.filter p, x = c := fun x hx => h x (List.mem_filter.mp hx).1 (List.mem_filter.mp hx).2
    generalize names.filter p = F at hF hm ha
    cases F with
    | nil => cases hm
    | cons y ys =>
      obtain rfl := ha y (by simp)
      cases ys with
      | nil => rfl
      | cons z zs =>
        obtain rfl := ha z (by simp)
        simp at hF
theorem left_nil {T : Ty} {name c : String} {l : List String} : leftM T name l c = [] ↔ ∀ x ∈ namesOf T name, x ∈ l ∨ x = c := by
  unfold leftM
  have hle := List.length_filter_le (fun x => decide (x ∈ l ∨ x = c)) (namesOf T name)
  constructor
  · intro h
    split at h
    · cases h
    · have := List.length_filter_eq_length_iff.mp (show ((namesOf T name).filter fun x => decide (x ∈ l ∨ x = c)).length = (namesOf T name).length by omega)
      intro x hx
      have := this x hx
      rwa [decide_eq_true_eq] at this
  · intro h
    have : ((namesOf T name).filter fun x => decide (x ∈ l ∨ x = c)).length = (namesOf T name).length := List.length_filter_eq_length_iff.mpr fun x hx => by rw [decide_eq_true_eq]; exact h x hx
    rw [if_neg (by omega)]
def CovP (T : Ty) (name : String) (r s : Rg) : Prop := (restM T name r s = [] ↔ covM T name r s = true) ∧ (covM T name r s = true → cutM r s ≠ none)
def CovPL (T : Ty) (ns : List String) (ps qs : List Rg) : Prop := (∀ pre cs, cutL ps qs = some cs → (rowsL T pre ns ps qs cs = [] ↔ covL T ns ps qs = true)) ∧ (covL T ns ps qs = true → cutL ps qs ≠ none)
theorem restL_nil {T : Ty} {ns : List String} {ps qs : List Rg} (h : CovPL T ns ps qs) : restL T ns ps qs = [] ↔ covL T ns ps qs = true := by
  unfold restL
  cases hc : cutL ps qs with
  | none =>
    constructor
    · intro z; cases z
    · intro z; exact absurd hc (h.2 z)
  | some cs => exact h.1 [] cs hc
theorem cov_n {T : Ty} (g : GoodT T) : ∀ n : Nat, (∀ (d : Nat) (name : String) (r s : Rg), sizeOf s < n → Wr true T d name r → Wr false T d name s → CovP T name r s) ∧
    ∀ (d : Nat) (ns : List String) (ps qs : List Rg), sizeOf qs < n → WL true T d ns ps → WL false T d ns qs → CovPL T ns ps qs
  | 0 => ⟨fun _ _ _ _ h => absurd h (Nat.not_lt_zero _), fun _ _ _ _ h => absurd h (Nat.not_lt_zero _)⟩
  | n + 1 => by
    obtain ⟨ih1, ih2⟩ := cov_n g n
    constructor
    · intro d name r s hn h1 h2
      cases s with
      | any =>
        have e : restM T name r .any = [] := by cases r <;> simp [restM]
        have e2 : covM T name r .any = true := by cases r <;> simp [covM]
        have e3 : cutM r .any = some r := by cases r <;> simp [cutM]
        exact ⟨by rw [e, e2]; simp, fun _ => by rw [e3]; simp⟩
      | nt l => have := h2.nt.1; simp at this
      | rng c e =>
        obtain ⟨hname, hb⟩ := h2.rng2
        subst hname
        -- a range's rest
        have key : ∀ (r : Rg) (a b : Int), a ≤ b → (rr r a b c e = [] ↔ (decide (c ≤ a) && decide (b ≤ e)) = true) := by
          intro r a b hab
          rw [Bool.and_eq_true, decide_eq_true_eq, decide_eq_true_eq]
          unfold rr
          by_cases hd : e < a ∨ b < c
          · rw [if_pos hd]
            constructor
            · intro z; cases z
            · intro z; omega
          · rw [if_neg hd, List.append_eq_nil_iff]
            constructor
            · rintro ⟨z1, z2⟩
              split at z1
              · cases z1
              · split at z2
                · cases z2
                · omega
            · intro z
              rw [if_neg (by omega), if_neg (by omega)]
              exact ⟨rfl, rfl⟩
        cases r with
        | any =>
          refine ⟨?_, fun _ => by simp [cutM]⟩
          simp only [restM, covM]
          exact key .any (-99) 99 (by omega)
        | rng a b =>
          have ha := h1.rng2.2
          refine ⟨?_, fun hh => ?_⟩
          · simp only [restM, covM]
            exact key (.rng a b) a b (by omega)
          · simp only [covM, Bool.and_eq_true, decide_eq_true_eq] at hh
            simp only [cutM]
            rw [if_pos]
            · simp
            · split <;> split <;> omega
        | nt l => exact absurd rfl h1.nt.2.1
        | mk _ _ =>
          obtain ⟨_, _, hne, _⟩ := h1.mk
          exact absurd rfl hne
      | mk c qs =>
        obtain ⟨e2, rfl, hne, fs, m2, l2, f2⟩ := h2.mk
        obtain ⟨me1, me2, me3, me4⟩ := maker_fields g m2
        simp only at me1 me2 me3 me4
        have hcn : c ∈ namesOf T name := List.mem_map.mpr ⟨_, m2, rfl⟩
        have hnd := namesOf_nodup g name
        have hsz : sizeOf qs < n := by simp at hn; omega
        have wq : WL false T e2 fs qs := WL_of l2.symm f2
        have anys : WL true T e2 fs (qs.map fun _ => Rg.any) := WL_of (by simp; omega) fun i n p _ hp => by
          rw [List.getElem?_map] at hp
          obtain ⟨_, _, rfl⟩ := Option.map_eq_some_iff.mp hp
          exact Wr.any
        have cA : CovPL T (fieldsOf T c) (qs.map fun _ => Rg.any) qs := by rw [me1]; exact ih2 e2 fs _ qs hsz anys wq
        cases r with
        | any =>
          have e : restM T name .any (.mk c qs) = leftM T name [] c ++ (restL T (fieldsOf T c) (qs.map fun _ => Rg.any) qs).map (.mk c) := by simp only [restM, restL]
          refine ⟨?_, fun _ => by simp [cutM]⟩
          rw [e, List.append_eq_nil_iff, List.map_eq_nil_iff, restL_nil cA, left_nil]
          simp only [covM, Bool.and_eq_true, decide_eq_true_eq]
          have hs := filt_single (p := fun _ => true) hnd hcn rfl
          rw [List.filter_eq_self.mpr (fun _ _ => rfl)] at hs
          rw [hs]
          simp
        | rng a b => exact absurd h1.rng.1 hne
        | nt l =>
          by_cases hl : c ∈ l
          · have e : restM T name (.nt l) (.mk c qs) = [.nt l] := by simp only [restM]; rw [if_pos hl]
            have e2 : covM T name (.nt l) (.mk c qs) = false := by
              simp only [covM]
              have : ¬ (namesOf T name).filter (fun x => !decide (x ∈ l)) = [c] := fun z => by
                have : c ∈ (namesOf T name).filter (fun x => !decide (x ∈ l)) := by rw [z]; simp
                have := (List.mem_filter.mp this).2
                simp [hl] at this
              rw [decide_eq_false this, Bool.false_and]
            refine ⟨by rw [e, e2]; simp, fun z => by rw [e2] at z; cases z⟩
          · have e : restM T name (.nt l) (.mk c qs) = leftM T name l c ++ (restL T (fieldsOf T c) (qs.map fun _ => Rg.any) qs).map (.mk c) := by simp only [restM, restL]; rw [if_neg hl]
            refine ⟨?_, fun _ => by simp only [cutM]; rw [if_neg hl]; simp⟩
            rw [e, List.append_eq_nil_iff, List.map_eq_nil_iff, restL_nil cA, left_nil]
            simp only [covM, Bool.and_eq_true, decide_eq_true_eq]
            rw [filt_single hnd hcn (by simp [hl])]
            constructor
            · rintro ⟨z1, z2⟩
              exact ⟨fun x hx hp => (z1 x hx).resolve_left (by simpa using hp), z2⟩
            · rintro ⟨z1, z2⟩
              refine ⟨fun x hx => ?_, z2⟩
              by_cases hxl : x ∈ l
              · exact .inl hxl
              · exact .inr (z1 x hx (by simp [hxl]))
        | mk c' ps =>
          obtain ⟨e1, e1', _, fs', m1, l1, f1⟩ := h1.mk
          obtain rfl : e1 = e2 := by omega
          by_cases e : c' = c
          · subst e
            obtain rfl := same_fields g m1 m2
            have e : restM T name (.mk c' ps) (.mk c' qs) = (restL T (fieldsOf T c') ps qs).map (.mk c') := by simp only [restM, restL]; exact if_pos trivial
            have cP : CovPL T (fieldsOf T c') ps qs := by rw [me1]; exact ih2 e1 fs' ps qs hsz (WL_of l1.symm f1) wq
            refine ⟨?_, fun hh => ?_⟩
            · rw [e, List.map_eq_nil_iff, restL_nil cP]
              simp only [covM, decide_true, Bool.true_and]
            · simp only [covM, decide_true, Bool.true_and] at hh
              have := cP.2 hh
              simp only [cutM]
              rw [if_pos trivial]
              cases hc : cutL ps qs with
              | none => exact absurd hc this
              | some xs => simp
          · have e2 : restM T name (.mk c' ps) (.mk c qs) = [.mk c' ps] := by simp only [restM]; rw [if_neg e]
            have e3 : covM T name (.mk c' ps) (.mk c qs) = false := by simp only [covM]; rw [decide_eq_false e, Bool.false_and]
            exact ⟨by rw [e2, e3]; simp, fun z => by rw [e3] at z; cases z⟩
    · intro d ns ps qs hn wp wq
      match ns, ps, qs, hn, wp, wq with
      | [], [], [], _, _, _ => exact ⟨fun pre cs _ => by simp [rowsL, covL], fun _ => by simp [cutL]⟩
      | n' :: ns, p :: ps, q :: qs, hn, wp, wq =>
        simp only [WL] at wp wq
        simp at hn
        obtain ⟨a1, a2⟩ := ih1 d n' p q (by omega) wp.1 wq.1
        obtain ⟨b1, b2⟩ := ih2 d ns ps qs (by omega) wp.2 wq.2
        constructor
        · intro pre cs hcs
          simp only [cutL] at hcs
          cases hc : cutM p q with
          | none => rw [hc] at hcs; cases hcs
          | some x =>
            rw [hc] at hcs
            cases hc2 : cutL ps qs with
            | none => rw [hc2] at hcs; cases hcs
            | some ys =>
              rw [hc2] at hcs
              obtain rfl := Option.some.inj hcs
              simp only [rowsL, covL]
              rw [List.append_eq_nil_iff, List.map_eq_nil_iff, a1, b1 _ ys hc2, Bool.and_eq_true]
        · intro hh
          simp only [covL, Bool.and_eq_true] at hh
          have h1 := a2 hh.1
          have h2 := b2 hh.2
          simp only [cutL]
          cases hc : cutM p q with
          | none => exact absurd hc h1
          | some x =>
            cases hc2 : cutL ps qs with
            | none => exact absurd hc2 h2
            | some ys => simp
      | [], _ :: _, _, _, h, _ => simp [WL] at h
      | [], [], _ :: _, _, _, h => simp [WL] at h
      | _ :: _, [], _, _, h, _ => simp [WL] at h
      | _ :: _, _ :: _, [], _, _, h => simp [WL] at h
theorem cov_ok {T : Ty} (g : GoodT T) {d : Nat} {name : String} {r s : Rg} (h1 : Wr true T d name r) (h2 : Wr false T d name s) : restM T name r s = [] ↔ covM T name r s = true := ((cov_n g (sizeOf s + 1)).1 d name r s (Nat.lt_succ_self _) h1 h2).1
/-! ### each region has a value -/
theorem list_choose {α β : Type} {Q : α → β → Prop} : ∀ (l : List α), (∀ x ∈ l, ∃ y, Q x y) → ∃ ys : List β, ys.length = l.length ∧ ∀ (i : Nat) (x : α) (y : β), l[i]? = some x → ys[i]? = some y → Q x y
  | [], _ => ⟨[], rfl, fun i x y h => by simp at h⟩
  | x :: l, h => by
    obtain ⟨y, hy⟩ := h x (by simp)
    obtain ⟨ys, h1, h2⟩ := list_choose l fun z hz => h z (by simp [hz])
    refine ⟨y :: ys, by simp [h1], fun i a b ha hb => ?_⟩
    cases i with
    | zero => simp at ha hb; subst ha hb; exact hy
    | succ i => exact h2 i a b (by simpa using ha) (by simpa using hb)
theorem inh {T : Ty} (g : GoodT T) {F : Hf} (D : Don T T.length F) : ∀ (h : Nat) (name : String), TyNm T name → F name = some h → ∃ v, Wv T h name v := by
  intro h
  induction h using Nat.strongRecOn with
  | ind h ih =>
    intro name hty hh
    by_cases hint : name = "Int"
    · exact ⟨.int 0, by cases h <;> simp [Wv, hint]⟩
    · obtain ⟨j, hj, hnm⟩ : ∃ i : Nat, i < T.length ∧ nms[i]? = some name := by
        rcases hty with h | h
        · exact absurd h hint
        · exact h
      obtain ⟨row, hrow, hrn, hmo⟩ : ∃ row, T[j]? = some row ∧ row.1 = name ∧ makersOf T name = row.2 := by
        have hpos := makersOf_pos g hj hnm
        unfold makersOf at hpos ⊢
        cases hf : T.find? (fun r => r.1 == name) with
        | none => rw [hf] at hpos; exact absurd rfl hpos
        | some row =>
          obtain ⟨e1, i, e2, e3, e4⟩ := makers_row g hf
          obtain rfl := nms_inj e3 hnm
          exact ⟨row, e2, e1, rfl⟩
      obtain ⟨m, hm, hk, hF⟩ := D.loc j row hj hrow
      rw [hrn, hh] at hF
      have hF := Option.some.inj hF
      have hm' : m ∈ makersOf T name := by rw [hmo]; exact hm
      obtain ⟨mf1, mf2, mf3, mf4⟩ := maker_fields g hm'
      have hpos := mh_pos F m
      obtain ⟨h', rfl⟩ : ∃ x, h = x + 1 := ⟨h - 1, by omega⟩
      obtain ⟨vs, v1, v2⟩ := list_choose (Q := fun f v => Wv T h' f v) m.2 fun f hf => by
        have hs := (known_iff.mp hk) f hf
        cases hff : F f with
        | none => rw [hff] at hs; cases hs
        | some a =>
          have := mh_field hf hff
          obtain ⟨v, hv⟩ := ih a (by omega) f (mf3 f hf) hff
          exact ⟨v, hv.mono (by omega)⟩
      exact ⟨.mk m.1 vs, by simp only [Wv]; exact ⟨hint, m.2, hm', v1.symm, v2⟩⟩
theorem inh3 {T : Ty} (g : GoodT T) {F : Hf} {kvs : List (Ky × R)} (H : HtOk T F kvs) (name : String) (hty : TyNm T name) : ∃ v, Wv T 3 name v := by
  obtain ⟨a, e, h3, _⟩ := H.known hty
  obtain ⟨v, hv⟩ := inh g H.don a name hty e
  exact ⟨v, hv.mono h3⟩
theorem inh_reg {T : Ty} (g : GoodT T) {F : Hf} {kvs : List (Ky × R)} (H : HtOk T F kvs) : ∀ {d : Nat} {name : String} {x : Rg}, Wr true T d name x → TyNm T name → ∃ v, Wv T (d + 4) name v ∧ hd x v = true
  | d, name, .any, _, hty => by
    obtain ⟨v, hv⟩ := inh3 g H name hty
    exact ⟨v, hv.mono (by omega), by simp [hd]⟩
  | d, name, .rng a b, h, hty => by
    obtain ⟨rfl, hb⟩ := h.rng2
    refine ⟨.int a, ?_, by simp [hd]; omega⟩
    simp only [Wv]
    exact ⟨trivial, by omega⟩
  | d, name, .nt l, h, hty => by
    obtain ⟨_, hne, _, _, c, hc, hcl⟩ := h.nt2
    obtain ⟨m, hm, rfl⟩ := List.mem_map.mp hc
    obtain ⟨mf1, mf2, mf3, mf4⟩ := maker_fields g hm
    obtain ⟨vs, v1, v2⟩ := list_choose (Q := fun f v => Wv T 3 f v) m.2 fun f hf => inh3 g H f (mf3 f hf)
    refine ⟨.mk m.1 vs, ?_, by simp only [hd]; rw [decide_eq_false hcl]; rfl⟩
    show Wv T (d + 3 + 1) name _
    simp only [Wv]
    exact ⟨hne, m.2, hm, v1.symm, fun i f v a b => (v2 i f v a b).mono (by omega)⟩
  | d, name, .mk c ps, h, hty => by
    obtain ⟨d', rfl, hne, fs, m1, l1, f1⟩ := h.mk
    obtain ⟨mf1, mf2, mf3, mf4⟩ := maker_fields g m1
    simp only at mf1 mf2 mf3 mf4
    obtain ⟨vs, v1, v2⟩ := list_choose (Q := fun (p : String × Rg) v => Wv T (d' + 4) p.1 v ∧ hd p.2 v = true) (fs.zip ps) fun p hp => by
      obtain ⟨i, hi⟩ := List.getElem?_of_mem hp
      obtain ⟨z1, z2⟩ := List.getElem?_zip_eq_some.mp hi
      exact inh_reg g H (f1 i p.1 p.2 z1 z2) (mf3 p.1 (List.mem_of_getElem? z1))
    have hvs : vs.length = fs.length := by rw [v1]; simp; omega
    have key : ∀ (i : Nat) (f : String) (p : Rg) (v : Vl), fs[i]? = some f → ps[i]? = some p → vs[i]? = some v → Wv T (d' + 4) f v ∧ hd p v = true := fun i f p v a b c => v2 i (f, p) v (List.getElem?_zip_eq_some.mpr ⟨a, b⟩) c
    refine ⟨.mk c vs, ?_, ?_⟩
    · show Wv T (d' + 4 + 1) name _
      simp only [Wv]
      refine ⟨hne, fs, m1, hvs.symm, fun i f v a b => ?_⟩
      obtain ⟨p, hp⟩ : ∃ p, ps[i]? = some p := ⟨_, List.getElem?_eq_getElem (by have := (List.getElem?_eq_some_iff.mp a).1; omega)⟩
      exact (key i f p v a hp b).1
    · simp only [hd, decide_true, Bool.true_and]
      rw [hdL_zip (by omega), List.all_eq_true]
      intro x hx
      obtain ⟨pv, hpv, rfl⟩ := List.mem_map.mp hx
      obtain ⟨i, hi⟩ := List.getElem?_of_mem hpv
      obtain ⟨z1, z2⟩ := List.getElem?_zip_eq_some.mp hi
      obtain ⟨f, hf⟩ : ∃ f, fs[i]? = some f := ⟨_, List.getElem?_eq_getElem (by have := (List.getElem?_eq_some_iff.mp z1).1; omega)⟩
      exact (key i f pv.1 pv.2 hf z1 z2).2
termination_by d => d
/-! ### cut twice -/
def cut2 (r s o : Rg) : Option Rg := (cutM r s).bind fun x => cutM x o
/-- a cut's look, a region that there may be -/
def hdO (o : Option Rg) (v : Vl) : Bool := match o with
  | none => false
  | some x => hd x v
theorem cut_look {T : Ty} (g : GoodT T) {d d3 : Nat} {name : String} {r s : Rg} {v : Vl} (h1 : Wr true T d name r) (h2 : Wr false T d name s) (h3 : Wv T d3 name v) : hdO (cutM r s) v = (hd r v && hd s v) := by
  obtain ⟨k1, k2⟩ := cut_hd r s v (Wr.al g h1 h2) (h1.hv g h3) (h2.hv g h3)
  cases hc : cutM r s with
  | none => exact (k1 hc).symm
  | some x => exact (k2 x hc).2
theorem cut2_look {T : Ty} (g : GoodT T) {d d3 : Nat} {name : String} {r s o : Rg} {v : Vl} (h1 : Wr true T d name r) (h2 : Wr false T d name s) (h2' : Wr false T d name o) (h3 : Wv T d3 name v) : hdO (cut2 r s o) v = (hd r v && hd s v && hd o v) := by
  have a := cut_look g h1 h2 h3
  unfold cut2
  cases hc : cutM r s with
  | none =>
    rw [hc] at a
    have a : false = (hd r v && hd s v) := a
    rw [← a]; rfl
  | some x =>
    rw [hc] at a
    have a : hd x v = (hd r v && hd s v) := a
    rw [← a]
    exact cut_look g (cut_wr g h1 h2 hc) h2' h3
theorem cut2_some {T : Ty} (g : GoodT T) {F : Hf} {kvs : List (Ky × R)} (H : HtOk T F kvs) {d : Nat} {name : String} {r s o : Rg} (hty : TyNm T name) (h1 : Wr true T d name r) (h2 : Wr false T d name s) (h2' : Wr false T d name o) (h : (cut2 r s o).isSome = true) : (cut2 r o s).isSome = true := by
  obtain ⟨y, hy⟩ := Option.isSome_iff_exists.mp h
  have hwy : Wr true T d name y := by
    unfold cut2 at hy
    obtain ⟨x, hx, hxy⟩ := Option.bind_eq_some_iff.mp hy
    exact cut_wr g (cut_wr g h1 h2 hx) h2' hxy
  obtain ⟨v, v1, v2⟩ := inh_reg g H hwy hty
  have a := cut2_look g h1 h2 h2' v1
  rw [hy] at a
  have a : hd y v = _ := a
  rw [v2] at a
  have b := cut2_look g h1 h2' h2 v1
  have e : (hd r v && hd o v && hd s v) = true := by
    revert a
    cases hd r v <;> cases hd s v <;> cases hd o v <;> simp
  rw [e] at b
  cases hc : cut2 r o s with
  | none => rw [hc] at b; cases b
  | some z => rfl
theorem cut2_comm {T : Ty} (g : GoodT T) {F : Hf} {kvs : List (Ky × R)} (H : HtOk T F kvs) {d : Nat} {name : String} {r s o : Rg} (hty : TyNm T name) (h1 : Wr true T d name r) (h2 : Wr false T d name s) (h2' : Wr false T d name o) : (cut2 r s o).isSome = (cut2 r o s).isSome := by
  rw [Bool.eq_iff_iff]
  exact ⟨cut2_some g H hty h1 h2 h2', cut2_some g H hty h1 h2' h2⟩
end K09
end

section
set_option maxHeartbeats 0
set_option linter.all false
set_option maxRecDepth 100000
namespace K09
open Ev
/-! ### the law's own cut -/
theorem encO_isNon (o : Option Rg) : isNonR (.d (encO o)) = o.isNone := by
  cases o with
  | none => rfl
  | some r => cases r <;> rfl
theorem lcuts_loop {C : Fn} {ps qs : List Rg} {μ : Mem} (hC : ∀ (i : Nat) (p q : Rg), ps[i]? = some p → qs[i]? = some q → C "_law_cut" [.d (enc p), .d (enc q)] μ = .ok (.d (encO (cutM p q))) μ) (hl : ps.length = qs.length) (hsz : ps.length ≤ 1000) : ∀ (k i : Nat) (acc : List Rg) (x3 x4 : Sl), i + k = ps.length → acc.length = i →
    ∃ y3 y4, forL (tgN 3) (sq (sAs (tgN 4) (eCall C "_law_cut" [(eIdx (eV 0) (eV 3)), (eIdx (eV 1) (eV 3))])) (sq (sIf (tIsN (eV 4)) (sRet (eC (.non))) sNil) (sAs (tgN 2) (eOp addR (eV 2) (eTup [(eV 4)]))))) (rangeF (i : Int) k)
      [.v (.d (.tup (encL ps))), .v (.d (.tup (encL qs))), .v (.d (.tup (encL acc))), x3, x4] μ = (match cutL (ps.drop i) (qs.drop i) with
        | none => .ok (.rt (.d .non)) μ
        | some xs => .ok (.nx [.v (.d (.tup (encL ps))), .v (.d (.tup (encL qs))), .v (.d (.tup (encL (acc ++ xs)))), y3, y4]) μ)
  | 0, i, acc, x3, x4, h, ha => by
    rw [List.drop_of_length_le (by omega), List.drop_of_length_le (by omega)]
    exact ⟨x3, x4, by simp [rangeF, forL, cutL]⟩
  | k + 1, i, acc, x3, x4, h, ha => by
    have hi : i < ps.length := by omega
    have hp : ps[i]? = some ps[i] := by simp
    have hq : qs[i]? = some (qs[i]'(by omega)) := List.getElem?_eq_getElem _
    have e4 : eCall C "_law_cut" [(eIdx (eV 0) (eV 3)), (eIdx (eV 1) (eV 3))] [.v (.d (.tup (encL ps))), .v (.d (.tup (encL qs))), .v (.d (.tup (encL acc))), .v (.d (.int (i : Int))), x4] μ = .ok (.d (encO (cutM ps[i] (qs[i]'(by omega))))) μ :=
      call2' (ix_ok (ds := encL ps) (eV_at rfl) (eV_at rfl) (encL_get' hp)) (ix_ok (ds := encL qs) (eV_at rfl) (eV_at rfl) (encL_get' hq)) (hC i _ _ hp hq)
    rw [List.drop_eq_getElem_cons hi, List.drop_eq_getElem_cons (show i < qs.length by omega)]
    simp only [cutL]
    cases hc : cutM ps[i] (qs[i]'(by omega)) with
    | none =>
      rw [hc] at e4
      refine ⟨x3, x4, ?_⟩
      simp only [rangeF, forL, tgN, List.set_cons_succ, List.set_cons_zero]
      rw [sq_as e4]
      simp only [List.set_cons_succ, List.set_cons_zero]
      rw [sq_rt (show sIf (tIsN (eV 4)) (sRet (eC (.non))) sNil _ μ = .ok (.rt (.d .non)) μ from by
        rw [sIf_t (show tIsN (eV 4) _ μ = .ok true μ from by unfold tIsN; rw [eV_at rfl]; rfl)]
        exact sRet_ok eC_ok), bind_ok]
    | some x =>
      rw [hc] at e4
      obtain ⟨y3, y4, ih⟩ := lcuts_loop hC hl hsz k (i + 1) (acc ++ [x]) (.v (.d (.int (i : Int)))) (.v (.d (encO (some x)))) (by omega) (by simp [ha])
      have hstep : forL (tgN 3) (sq (sAs (tgN 4) (eCall C "_law_cut" [(eIdx (eV 0) (eV 3)), (eIdx (eV 1) (eV 3))])) (sq (sIf (tIsN (eV 4)) (sRet (eC (.non))) sNil) (sAs (tgN 2) (eOp addR (eV 2) (eTup [(eV 4)]))))) (rangeF (i : Int) (k + 1))
          [.v (.d (.tup (encL ps))), .v (.d (.tup (encL qs))), .v (.d (.tup (encL acc))), x3, x4] μ = forL (tgN 3) (sq (sAs (tgN 4) (eCall C "_law_cut" [(eIdx (eV 0) (eV 3)), (eIdx (eV 1) (eV 3))])) (sq (sIf (tIsN (eV 4)) (sRet (eC (.non))) sNil) (sAs (tgN 2) (eOp addR (eV 2) (eTup [(eV 4)]))))) (rangeF ((i + 1 : Nat) : Int) k)
          [.v (.d (.tup (encL ps))), .v (.d (.tup (encL qs))), .v (.d (.tup (encL (acc ++ [x])))), .v (.d (.int (i : Int))), .v (.d (encO (some x)))] μ := by
        rw [show ((i + 1 : Nat) : Int) = (i : Int) + 1 by omega]
        conv => lhs; simp only [rangeF, forL, tgN, List.set_cons_succ, List.set_cons_zero]
        rw [sq_as e4]
        simp only [List.set_cons_succ, List.set_cons_zero]
        have hN : tIsN (eV 4) [.v (.d (.tup (encL ps))), .v (.d (.tup (encL qs))), .v (.d (.tup (encL acc))), .v (.d (.int (i : Int))), .v (.d (encO (some x)))] μ = .ok false μ := by
          unfold tIsN
          rw [eV_at rfl, bind_ok, encO_isNon]; rfl
        rw [sq_if_f hN]
        have hadd : eOp addR (eV 2) (eTup [(eV 4)]) [.v (.d (.tup (encL ps))), .v (.d (.tup (encL qs))), .v (.d (.tup (encL acc))), .v (.d (.int (i : Int))), .v (.d (encO (some x)))] μ = .ok (.d (.tup (encL (acc ++ [x])))) μ := by
          refine eOp_ok (y := .d (.tup [enc x])) (eV_at rfl) (by simp [eTup, evs_cons, evs_nil, eV, encO]) ?_
          rw [vw_d, vw_d]
          show (if (encL acc).length + [enc x].length ≤ SL then some (R.d (.tup (encL acc ++ [enc x]))) else none) = _
          rw [if_pos (le_SL (by rw [encL_map, List.length_map]; simp; omega)), encL_map, encL_map]
          simp
        rw [sAs_ok hadd, bind_ok]
        simp only [List.set_cons_succ, List.set_cons_zero]
      refine ⟨y3, y4, ?_⟩
      rw [hstep, ih]
      cases cutL (ps.drop (i + 1)) (qs.drop (i + 1)) with
      | none => rfl
      | some xs => simp
theorem lcut_both : ∀ (n : Nat), (∀ (r s : Rg) (μ : Mem), Al r s → 2 * hgt r < n → callN P n "_law_cut" [.d (enc r), .d (enc s)] μ = .ok (.d (encO (cutM r s))) μ) ∧
    ∀ (ps qs : List Rg) (μ : Mem), AlL ps qs → 2 * hgtL ps + 1 < n → ps.length ≤ 100 → callN P n "_law_cuts" [.d (.tup (encL ps)), .d (.tup (encL qs))] μ = .ok (.d (encOL (cutL ps qs))) μ
  | 0 => ⟨fun _ _ _ _ h => by omega, fun _ _ _ _ h => by omega⟩
  | n + 1 => by
    obtain ⟨ih1, ih2⟩ := lcut_both n
    constructor
    · intro r s μ al hn
      rw [callN_run (d := f_law_cut_2) rfl rfl]
      generalize callN P n = C at ih1 ih2 ⊢
      cases s with
      | any =>
        refine runB_rt (μ' := μ) ?_ rfl
        simp only [f_law_cut_2, List.map_cons, List.map_nil, List.length_cons, List.length_nil, Nat.reduceAdd, Nat.reduceSub, List.replicate_succ, List.replicate_zero, List.cons_append, List.nil_append]
        refine sq_rt ?_
        rw [sIf_t (is_hd (r := .any) rfl rfl)]
        refine sRet_ok ?_
        rw [eV_at rfl]
        cases r <;> simp [cutM, encO]
      | rng c d =>
        cases r with
        | any =>
          refine runB_rt (μ' := μ) ?_ rfl
          simp only [f_law_cut_2, List.map_cons, List.map_nil, List.length_cons, List.length_nil, Nat.reduceAdd, Nat.reduceSub, List.replicate_succ, List.replicate_zero, List.cons_append, List.nil_append]
          rw [sq_if_f (is_hd (r := .rng c d) rfl rfl)]
          refine sq_rt ?_
          rw [sIf_t (is_hd (r := .any) rfl rfl)]
          refine sRet_ok ?_
          rw [eV_at rfl]
          simp [cutM, encO]
        | rng a b =>
          simp only [cutM]
          by_cases hle : (if c > a then c else a) ≤ (if d < b then d else b)
          · have h2 : ¬ (if d < b then d else b) < (if c > a then c else a) := by omega
            simp [eV, eB, vw_d, vw_scr, vw_ls, vw_dic, eBi, evs_nil, evs_cons, lift, eIdx, eOp, eC, tCmp, eTup, eLst, valsR_nil, valsR_cons, tAnd, tOr, tNot, tE, eT, eIf, eCall, tIsN, tNotN, eNeg, eSlc, oN, oE, EqDep, eqD, D.dep, D.depL, runB, sq, sIf, sRet, sRetN, fin, sNil, sAs, tgN, tgT, tgs, iE, iEnum, sX, f_law_cut_2, enc, eqD, D.dep, D.depL, EqDep, hle, h2]
          · have h2 : (if d < b then d else b) < (if c > a then c else a) := by omega
            simp [eV, eB, vw_d, vw_scr, vw_ls, vw_dic, eBi, evs_nil, evs_cons, lift, eIdx, eOp, eC, tCmp, eTup, eLst, valsR_nil, valsR_cons, tAnd, tOr, tNot, tE, eT, eIf, eCall, tIsN, tNotN, eNeg, eSlc, oN, oE, EqDep, eqD, D.dep, D.depL, runB, sq, sIf, sRet, sRetN, fin, sNil, sAs, tgN, tgT, tgs, iE, iEnum, sX, f_law_cut_2, enc, eqD, D.dep, D.depL, EqDep, hle, h2]
        | nt l => simp [Al] at al
        | mk c ps => simp [Al] at al
      | nt l => cases r <;> simp [Al] at al
      | mk c qs =>
        cases r with
        | any =>
          refine runB_rt (μ' := μ) ?_ rfl
          simp only [f_law_cut_2, List.map_cons, List.map_nil, List.length_cons, List.length_nil, Nat.reduceAdd, Nat.reduceSub, List.replicate_succ, List.replicate_zero, List.cons_append, List.nil_append]
          rw [sq_if_f (is_hd (r := .mk c qs) rfl rfl)]
          refine sq_rt ?_
          rw [sIf_t (is_hd (r := .any) rfl rfl)]
          refine sRet_ok ?_
          rw [eV_at rfl]
          simp [cutM, encO]
        | rng a b => simp [Al] at al
        | nt l =>
          refine runB_rt (μ' := μ) ?_ rfl
          simp only [f_law_cut_2, List.map_cons, List.map_nil, List.length_cons, List.length_nil, Nat.reduceAdd, Nat.reduceSub, List.replicate_succ, List.replicate_zero, List.cons_append, List.nil_append]
          rw [sq_if_f (is_hd (r := .mk c qs) rfl rfl), sq_if_f (is_hd (r := .nt l) rfl rfl), sq_if_f (is_hd (r := .nt l) rfl rfl)]
          refine sq_rt ?_
          rw [sIf_t (is_hd (r := .nt l) rfl rfl)]
          have e0 : eV 0 [.v (.d (enc (.nt l))), .v (.d (enc (.mk c qs))), .un, .un, .un] μ = .ok (.d (.tup [.str "not", .tup (l.map .str)])) μ := by rw [eV_at rfl]; simp [enc]
          have e1 : eV 1 [.v (.d (enc (.nt l))), .v (.d (enc (.mk c qs))), .un, .un, .un] μ = .ok (.d (.tup [.str "make", .str c, .tup (encL qs)])) μ := by rw [eV_at rfl]; simp [enc]
          have hin : tCmp inR (eIdx (eV 1) (eC (.int 1))) (eIdx (eV 0) (eC (.int 1))) [.v (.d (enc (.nt l))), .v (.d (enc (.mk c qs))), .un, .un, .un] μ = .ok (decide (c ∈ l)) μ := tCmp_ok (ixc_ok e1 rfl) (ixc_ok e0 rfl) (by
            rw [vw_d, vw_d]
            show (if min (D.dep (.str c)) (D.depL (l.map .str)) ≤ EqDep then some ((l.map D.str).any fun y => y.eqv (.str c)) else none) = _
            rw [if_pos (by rw [depL_str]; simp), any_str])
          simp only [cutM]
          by_cases hm : c ∈ l
          · rw [decide_eq_true hm] at hin
            rw [sq_rt (by rw [sIf_t hin]; exact sRet_ok eC_ok), if_pos hm]; rfl
          · rw [decide_eq_false hm] at hin
            rw [sq_if_f hin, if_neg hm]
            exact sRet_ok (eV_at rfl)
        | mk c' ps =>
          refine runB_rt (μ' := μ) ?_ rfl
          simp only [f_law_cut_2, List.map_cons, List.map_nil, List.length_cons, List.length_nil, Nat.reduceAdd, Nat.reduceSub, List.replicate_succ, List.replicate_zero, List.cons_append, List.nil_append]
          rw [sq_if_f (is_hd (r := .mk c qs) rfl rfl), sq_if_f (is_hd (r := .mk c' ps) rfl rfl), sq_if_f (is_hd (r := .mk c' ps) rfl rfl), sq_if_f (is_hd (r := .mk c' ps) rfl rfl)]
          have e0 : ∀ x4 : Sl, eV 0 [.v (.d (enc (.mk c' ps))), .v (.d (enc (.mk c qs))), .un, .un, x4] μ = .ok (.d (.tup [.str "make", .str c', .tup (encL ps)])) μ := fun _ => by rw [eV_at rfl]; simp [enc]
          have e1 : ∀ x4 : Sl, eV 1 [.v (.d (enc (.mk c' ps))), .v (.d (enc (.mk c qs))), .un, .un, x4] μ = .ok (.d (.tup [.str "make", .str c, .tup (encL qs)])) μ := fun _ => by rw [eV_at rfl]; simp [enc]
          have hne := tCmp_ok (f := neR) (ixc_ok (i := 1) (e0 .un) rfl) (ixc_ok (i := 1) (e1 .un) rfl) (by rw [vw_d, vw_d, str_ne])
          simp only [cutM]
          by_cases hc : c' = c
          · subst hc
            rw [decide_eq_true rfl] at hne
            obtain ⟨al1, al2⟩ : ps.length ≤ 100 ∧ AlL ps qs := by simpa [Al] using al
            have hh : 2 * hgtL ps + 1 < n := by simp only [hgt] at hn; omega
            have e := ih2 ps qs μ al2 hh al1
            rw [sq_if_f hne, sq_as (call2' (ixc_ok (e0 .un) rfl) (ixc_ok (e1 .un) rfl) e)]
            simp only [List.set_cons_succ, List.set_cons_zero]
            rw [if_pos trivial]
            cases hcut : cutL ps qs with
            | none =>
              rw [sq_rt (by rw [sIf_t (show tIsN (eV 4) _ μ = .ok true μ from by unfold tIsN; rw [eV_at rfl]; rfl)]; exact sRet_ok eC_ok)]; rfl
            | some xs =>
              have hN : tIsN (eV 4) [.v (.d (enc (.mk c' ps))), .v (.d (enc (.mk c' qs))), .un, .un, .v (.d (encOL (some xs)))] μ = .ok false μ := by
                unfold tIsN
                rw [eV_at rfl]; rfl
              rw [sq_if_f hN]
              refine sRet_ok ?_
              unfold eTup
              rw [evs_cons, eC_ok, bind_ok, evs_cons, ixc_ok (e0 _) (x := .str c') rfl, bind_ok, evs_cons, eV_at rfl, bind_ok, evs_nil, bind_ok, bind_ok, bind_ok, bind_ok]
              simp [encOL, encO, enc, encL_map]
          · rw [decide_eq_false hc] at hne
            rw [sq_rt (by rw [sIf_t hne]; exact sRet_ok eC_ok), if_neg hc]; rfl
    · intro ps qs μ al hn hl
      have hlen := al.len
      obtain ⟨y3, y4, h⟩ := lcuts_loop (C := callN P n) (μ := μ) (fun i p q hp hq => ih1 p q μ (al.get hp hq) (by have := hgt_get hp; omega)) hlen (by omega) ps.length 0 [] .un .un (by omega) rfl
      rw [callN_run (d := f_law_cuts) rfl rfl]
      generalize callN P n = C at ih1 ih2 h ⊢
      refine runB_rt (μ' := μ) ?_ rfl
      simp only [f_law_cuts, List.map_cons, List.map_nil, List.length_cons, List.length_nil, Nat.reduceAdd, Nat.reduceSub, List.replicate_succ, List.replicate_zero, List.cons_append, List.nil_append]
      rw [sq_as (μ' := μ) (r := .d (.tup [])) (by simp [eTup, evs_nil])]
      simp only [List.set_cons_succ, List.set_cons_zero]
      simp only [List.drop_zero, List.nil_append] at h
      have hit : iRange1 (eBi lenR [(eV 0)]) [.v (.d (.tup (encL ps))), .v (.d (.tup (encL qs))), .v (.d (.tup [])), .un, .un] μ = .ok (rangeF 0 ps.length) μ := iRange1_nat (eBi1_ok (eV_at rfl) (by rw [vw_d, lenR_tup, encL_map, List.length_map])) (by omega)
      cases hc : cutL ps qs with
      | none =>
        rw [hc] at h
        exact sq_rt (sFor_rt hit h)
      | some xs =>
        rw [hc] at h
        rw [sq_nx (sFor_rt hit h)]
        refine sRet_ok ?_
        rw [eV_at rfl]
        simp [encOL, encL_map]
end K09
end

section
set_option maxHeartbeats 0
set_option linter.all false
set_option maxRecDepth 100000
namespace K09
open Ev
/-! ### the law's covering -/
theorem ixlc_ok {a : E} {ρ : Env} {μ μ1 : Mem} {ds : List D} {i : Int} {x : D} (ha : a ρ μ = .ok (.d (.lst ds)) μ1) (hx : atI ds i = some x) : eIdx a (eC (.int i)) ρ μ = .ok (.d x) μ1 := by
  unfold eIdx
  refine eOp_ok ha eC_ok ?_
  rw [vw_d, vw_d]
  show (atI ds i).map R.d = _
  rw [hx]; rfl
theorem rangeF_map : ∀ (n : Nat) (lo : Int), rangeF lo n = (List.range n).map fun (i : Nat) => R.d (.int (lo + (i : Int)))
  | 0, _ => rfl
  | n + 1, lo => by
    rw [rangeF, rangeF_map n (lo + 1), List.range_succ_eq_map, List.map_cons, List.map_map]
    simp
    intro a _
    omega
theorem range0 (n : Nat) : rangeF 0 n = (List.range n).map fun (i : Nat) => R.d (.int (i : Int)) := by rw [rangeF_map]; simp
theorem eAnd_bl {a b : E} {ρ : Env} {μ : Mem} {x y : Bool} (ha : a ρ μ = .ok (.d (.bl x)) μ) (hb : x = true → b ρ μ = .ok (.d (.bl y)) μ) : eAnd a b ρ μ = .ok (.d (.bl (x && y))) μ := by
  unfold eAnd
  rw [ha, bind_ok]
  cases x with
  | true => exact hb rfl
  | false => rfl
theorem eqvL_str : ∀ L M : List String, D.eqvL (L.map .str) (M.map .str) = decide (L = M)
  | [], [] => by simp [D.eqvL]
  | [], _ :: _ => by simp [D.eqvL]
  | _ :: _, [] => by simp [D.eqvL]
  | x :: L, y :: M => by
    rw [List.map_cons, List.map_cons, D.eqvL, eqvL_str L M, D.eqv]
    rw [Bool.eq_iff_iff]
    simp
theorem ne_strs {a b : E} {ρ : Env} {μ : Mem} {L : List String} {c : String} (ha : a ρ μ = .ok (.d (.lst (L.map .str))) μ) (hb : b ρ μ = .ok (.d (.lst [.str c])) μ) : tCmp neR a b ρ μ = .ok (!decide (L = [c])) μ :=
  tCmp_ok ha hb (by
    show (eqD _ _).map not = _
    rw [eqD_right (by simp [D.dep, D.depL])]
    have : D.eqv (.lst (L.map .str)) (.lst [.str c]) = decide (L = [c]) := by
      rw [D.eqv]
      exact eqvL_str L [c]
    rw [this]; rfl)
abbrev cvE (T : Ty) (name : String) (r s : Rg) (x4 x5 x6 x7 x8 x9 x10 : Sl) : Env := [.v (.d (encT T)), .v (.d (.str name)), .v (.d (enc r)), .v (.d (enc s)), x4, x5, x6, x7, x8, x9, x10]
theorem ends_any (n : Nat) (μ : Mem) : callN P (n + 1) "_law_ends" [.d (enc .any)] μ = .ok (.d (.lst [.int (-99), .int 99])) μ := by
  rw [callN_run (d := f_law_ends) rfl rfl]
  generalize callN P n = C
  refine runB_rt (μ' := μ) ?_ rfl
  simp only [f_law_ends, List.map_cons, List.map_nil, List.length_cons, List.length_nil, Nat.reduceAdd, Nat.reduceSub, List.replicate_succ, List.replicate_zero, List.cons_append, List.nil_append]
  refine sq_rt ?_
  rw [sIf_t (is_hd (r := .any) rfl rfl)]
  exact sRet_ok (by simp [eLst, evs_cons, evs_nil, eC, eNeg])
theorem ends_rng (n : Nat) (a b : Int) (μ : Mem) : callN P (n + 1) "_law_ends" [.d (enc (.rng a b))] μ = .ok (.d (.lst [.int a, .int b])) μ := by
  rw [callN_run (d := f_law_ends) rfl rfl]
  generalize callN P n = C
  refine runB_rt (μ' := μ) ?_ rfl
  simp only [f_law_ends, List.map_cons, List.map_nil, List.length_cons, List.length_nil, Nat.reduceAdd, Nat.reduceSub, List.replicate_succ, List.replicate_zero, List.cons_append, List.nil_append]
  rw [sq_if_f (is_hd (r := .rng a b) rfl rfl)]
  have e0 : eV 0 [.v (.d (enc (.rng a b)))] μ = .ok (.d (.tup [.str "range", .int a, .int b])) μ := by rw [eV_at rfl]; simp [enc]
  refine sRet_ok ?_
  unfold eLst
  rw [evs_cons, ixc_ok e0 (x := .int a) rfl, bind_ok, evs_cons, ixc_ok e0 (x := .int b) rfl, bind_ok, evs_nil, bind_ok, bind_ok, bind_ok]
  rfl
def pickC (T : Ty) (fs : List String) (is qs : List Rg) (i : Nat) : Bool := match fs[i]?, is[i]?, qs[i]? with
  | some f, some p, some q => covM T f p q
  | _, _, _ => false
theorem covL_iff {T : Ty} : ∀ {fs : List String} {is qs : List Rg}, is.length = fs.length → qs.length = fs.length → (covL T fs is qs = true ↔ ∀ i, i < fs.length → pickC T fs is qs i = true)
  | [], [], [], _, _ => by simp [covL]
  | f :: fs, p :: is, q :: qs, h1, h2 => by
    simp only [covL, Bool.and_eq_true]
    rw [covL_iff (by simpa using h1) (by simpa using h2)]
    constructor
    · rintro ⟨a, b⟩ i hi
      cases i with
      | zero => exact a
      | succ i => exact b i (by simpa using hi)
    · intro h
      exact ⟨h 0 (by simp), fun i hi => h (i + 1) (by simpa using hi)⟩
  | [], _ :: _, _, h, _ => by simp at h
  | [], [], _ :: _, _, h => by simp at h
  | _ :: _, [], _, h, _ => by simp at h
  | _ :: _, _ :: _, [], _, h => by simp at h
/-- the fields of a constructor, as the law looks them up -/
theorem fields_look {C : Fn} {T : Ty} (g : GoodT T) {name c : String} {fs : List String} {μ : Mem} (hm : (c, fs) ∈ makersOf T name) (hmk : C "_law_makers" [.d (encT T), .d (.str name)] μ = .ok (.d (encMs (makersOf T name))) μ) {r : Rg} {qs : List Rg} {x4 x5 x6 x7 x8 x9 x10 : Sl} :
    eIdx (eComp [7] (tgN 7) (iE (eCall C "_law_makers" [(eV 0), (eV 1)])) (tCmp eqR (eIdx (eV 7) (eC (.int 0))) (eIdx (eV 3) (eC (.int 1)))) (eIdx (eV 7) (eC (.int 1)))) (eC (.int 0)) (cvE T name r (.mk c qs) x4 x5 x6 x7 x8 x9 x10) μ = .ok (.d (encF fs)) μ := by
  have hm3 := makersOf_le g name
  have e3 : ∀ x7 : Sl, eV 3 (cvE T name r (.mk c qs) x4 x5 x6 x7 x8 x9 x10) μ = .ok (.d (.tup [.str "make", .str c, .tup (encL qs)])) μ := fun _ => by rw [eV_at rfl]; simp [enc]
  have hcomp := compL_filter (t := tgN 7) (c := tCmp eqR (eIdx (eV 7) (eC (.int 0))) (eIdx (eV 3) (eC (.int 1)))) (e := eIdx (eV 7) (eC (.int 1))) (ρ := cvE T name r (.mk c qs) x4 x5 x6 .un x8 x9 x10) (μ := μ) (fun m : Mk => R.d (encM m)) (fun m => R.d (encF m.2)) (fun m => decide (m.1 = c)) (xs := makersOf T name) (by
    intro m hmem
    refine ⟨cvE T name r (.mk c qs) x4 x5 x6 (.v (.d (encM m))) x8 x9 x10, by simp only [tgN, List.set_cons_succ, List.set_cons_zero], ?_, fun _ => ?_⟩
    · exact tCmp_ok (ixc_ok (ds := [.str m.1, encF m.2]) (eV_at rfl) (x := .str m.1) rfl) (ixc_ok (e3 _) (x := .str c) rfl) (by rw [vw_d, vw_d, str_eq])
    · exact ixc_ok (ds := [.str m.1, encF m.2]) (eV_at rfl) rfl)
  have e1 : eComp [7] (tgN 7) (iE (eCall C "_law_makers" [(eV 0), (eV 1)])) (tCmp eqR (eIdx (eV 7) (eC (.int 0))) (eIdx (eV 3) (eC (.int 1)))) (eIdx (eV 7) (eC (.int 1))) (cvE T name r (.mk c qs) x4 x5 x6 x7 x8 x9 x10) μ = .ok (.d (.lst (((makersOf T name).filter fun m => decide (m.1 = c)).map fun m => encF m.2))) μ := by
    rw [eComp_ok (iE_tup (ds := (makersOf T name).map encM) (call2' (eV_at rfl) (eV_at rfl) hmk)) (by rw [List.map_map]; exact hcomp) (by rw [List.length_map]; exact Nat.le_trans (List.length_filter_le _ _) (by omega)), mkL_map]
  have hin : (c, fs) ∈ (makersOf T name).filter fun m => decide (m.1 = c) := List.mem_filter.mpr ⟨hm, by simp⟩
  have hall : ∀ m ∈ (makersOf T name).filter fun m => decide (m.1 = c), m.2 = fs := fun m hmm => by
    obtain ⟨h1, h2⟩ := List.mem_filter.mp hmm
    rw [decide_eq_true_eq] at h2
    obtain ⟨a, b⟩ := m
    simp only at h2
    subst h2
    exact same_fields g h1 hm
  generalize (makersOf T name).filter (fun m => decide (m.1 = c)) = L at e1 hin hall
  cases L with
  | nil => cases hin
  | cons m L =>
    have e2 : eIdx _ (eC (.int 0)) _ μ = .ok (.d (encF m.2)) μ := ixlc_ok e1 (by show atI _ ((0 : Nat) : Int) = _; rw [atI_nat]; rfl)
    rw [hall m (by simp)] at e2
    exact e2
theorem covered_spec {T : Ty} (g : GoodT T) : ∀ (n d : Nat) (name : String) (r s : Rg) (μ : Mem), Wr true T d name r → Wr false T d name s → hgt s + 3 ≤ n →
    callN P n "_law_covered" [.d (encT T), .d (.str name), .d (enc r), .d (enc s)] μ = .ok (.d (.bl (covM T name r s))) μ
  | 0, _, _, _, _, _, _, _, h => by omega
  | 1, _, _, _, _, _, _, _, h => by omega
  | n + 2, d, name, r, s, μ, h1, h2, hn => by
    rw [callN_run (d := f_law_covered) rfl rfl]
    have ih := covered_spec g (n + 1)
    have hmk := makers_spec n T name μ
    have hen := ends_any n μ
    have her := fun a b => ends_rng n a b μ
    generalize callN P (n + 1) = C at ih hmk hen her ⊢
    refine runB_rt (μ' := μ) ?_ rfl
    simp only [f_law_covered, List.map_cons, List.map_nil, List.length_cons, List.length_nil, Nat.reduceAdd, Nat.reduceSub, List.replicate_succ, List.replicate_zero, List.cons_append, List.nil_append]
    cases s with
    | any =>
      refine sq_rt ?_
      rw [sIf_t (is_hd (r := .any) rfl rfl)]
      refine sRet_ok ?_
      rw [eC_ok]
      cases r <;> simp [covM]
    | nt l => have := h2.nt.1; simp at this
    | rng c e =>
      rw [sq_if_f (is_hd (r := .rng c e) rfl rfl)]
      refine sq_rt ?_
      rw [sIf_t (is_hd (r := .rng c e) rfl rfl)]
      -- the ends
      obtain ⟨lo, hi, hends, hcov⟩ : ∃ lo hi : Int, C "_law_ends" [.d (enc r)] μ = .ok (.d (.lst [.int lo, .int hi])) μ ∧ covM T name r (.rng c e) = (decide (c ≤ lo) && decide (hi ≤ e)) := by
        cases r with
        | any => exact ⟨-99, 99, hen, by simp [covM]⟩
        | rng a b => exact ⟨a, b, her a b, by simp [covM]⟩
        | nt l => exact absurd h2.rng.1 h1.nt.2.1
        | mk _ _ =>
          obtain ⟨_, _, hne, _⟩ := h1.mk
          exact absurd h2.rng.1 hne
      have hcall : eCall C "_law_ends" [(eV 2)] (cvE T name r (.rng c e) .un .un .un .un .un .un .un) μ = .ok (.d (.lst [.int lo, .int hi])) μ := by
        unfold eCall
        rw [evs_cons, eV_at rfl, bind_ok, evs_nil, bind_ok, bind_ok]
        exact hends
      rw [sq_nx (sAs_gen hcall (ρ' := cvE T name r (.rng c e) (.v (.d (.int lo))) (.v (.d (.int hi))) .un .un .un .un .un) (by simp only [tgT, tgs, tgN, List.map_cons, List.map_nil, Option.bind_some, List.set_cons_succ, List.set_cons_zero]))]
      have e3 : eV 3 (cvE T name r (.rng c e) (.v (.d (.int lo))) (.v (.d (.int hi))) .un .un .un .un .un) μ = .ok (.d (.tup [.str "range", .int c, .int e])) μ := by rw [eV_at rfl]; simp [enc]
      refine sRet_ok ?_
      rw [hcov]
      exact eAnd_bl (eT_ok (tCmp_ok (ixc_ok e3 (x := .int c) rfl) (eV_at rfl) rfl)) fun _ => eT_ok (tCmp_ok (eV_at rfl) (ixc_ok e3 (x := .int e) rfl) rfl)
    | mk c qs =>
      obtain ⟨d', rfl, hne, fs, m2, l2, f2⟩ := h2.mk
      obtain ⟨mf1, mf2, mf3, mf4⟩ := maker_fields g m2
      simp only at mf1 mf2 mf3 mf4
      have hm3 := makersOf_le g name
      have e3 : ∀ (x4 x5 x6 x7 x8 x9 x10 : Sl), eV 3 (cvE T name r (.mk c qs) x4 x5 x6 x7 x8 x9 x10) μ = .ok (.d (.tup [.str "make", .str c, .tup (encL qs)])) μ := fun _ _ _ _ _ _ _ => by rw [eV_at rfl]; simp [enc]
      rw [sq_if_f (is_hd (r := .mk c qs) rfl rfl), sq_if_f (is_hd (r := .mk c qs) rfl rfl), sq_as (fields_look (C := C) g m2 hmk)]
      simp only [List.set_cons_succ, List.set_cons_zero]
      have hany : eComp [9] (tgN 9) (iE (eV 6)) tYes (eTup [(eC (.str "any"))]) (cvE T name r (.mk c qs) .un .un (.v (.d (encF fs))) .un .un .un .un) μ = .ok (.d (.lst (encL (qs.map fun _ => Rg.any)))) μ := by
        rw [any_comp fs (by rw [iE_tup (ds := fs.map .str) (eV_at rfl), List.map_map]; rfl) (fun _ _ => by simp [eTup, evs_cons, evs_nil, eC]) (by omega), any_fields fs qs l2]
      rw [sq_as hany]
      simp only [List.set_cons_succ, List.set_cons_zero]
      -- the last look
      have last : ∀ (is : List Rg) (x8 : R), WL true T d' fs is → (x8 = .d (.tup (encL is)) ∨ x8 = .d (.lst (encL is))) →
          sRet (eT (tCmp eqR (eBi lenR [(eComp [10] (tgN 10) (iRange1 (eBi lenR [(eV 6)])) (tNot (tE (eCall C "_law_covered" [(eV 0), (eIdx (eV 6) (eV 10)), (eIdx (eV 8) (eV 10)), (eIdx (eIdx (eV 3) (eC (.int 2))) (eV 10))]))) (eV 10))]) (eC (.int 0)))) (cvE T name r (.mk c qs) .un .un (.v (.d (encF fs))) .un (.v x8) .un .un) μ = .ok (.rt (.d (.bl (covL T fs is qs)))) μ := by
        intro is x8 his hx8
        have hlen := his.len
        have hcomp := compL_filter (t := tgN 10) (c := tNot (tE (eCall C "_law_covered" [(eV 0), (eIdx (eV 6) (eV 10)), (eIdx (eV 8) (eV 10)), (eIdx (eIdx (eV 3) (eC (.int 2))) (eV 10))]))) (e := eV 10) (ρ := cvE T name r (.mk c qs) .un .un (.v (.d (encF fs))) .un (.v x8) .un .un) (μ := μ) (fun (i : Nat) => R.d (.int (i : Int))) (fun i => R.d (.int (i : Int))) (fun i => !pickC T fs is qs i) (xs := List.range fs.length) (by
          intro i hi
          have hi := List.mem_range.mp hi
          have hf : fs[i]? = some fs[i] := by simp
          have hp : is[i]? = some (is[i]'(by omega)) := List.getElem?_eq_getElem _
          have hq : qs[i]? = some (qs[i]'(by omega)) := List.getElem?_eq_getElem _
          refine ⟨cvE T name r (.mk c qs) .un .un (.v (.d (encF fs))) .un (.v x8) .un (.v (.d (.int (i : Int)))), by simp only [tgN, List.set_cons_succ, List.set_cons_zero], ?_, fun _ => eV_at rfl⟩
          have hpk : pickC T fs is qs i = covM T fs[i] (is[i]'(by omega)) (qs[i]'(by omega)) := by unfold pickC; rw [hf, hp, hq]
          rw [hpk]
          refine tNot_ok (tE_bl ?_)
          have e8 : eIdx (eV 8) (eV 10) (cvE T name r (.mk c qs) .un .un (.v (.d (encF fs))) .un (.v x8) .un (.v (.d (.int (i : Int))))) μ = .ok (.d (enc (is[i]'(by omega)))) μ := by
            rcases hx8 with rfl | rfl
            · exact ix_ok (ds := encL is) (eV_at rfl) (eV_at rfl) (encL_get' hp)
            · exact ixl_ok (ds := encL is) (eV_at rfl) (eV_at rfl) (encL_get' hp)
          have e6 : eIdx (eV 6) (eV 10) (cvE T name r (.mk c qs) .un .un (.v (.d (encF fs))) .un (.v x8) .un (.v (.d (.int (i : Int))))) μ = .ok (.d (.str fs[i])) μ := ix_ok (ds := fs.map .str) (eV_at rfl) (eV_at rfl) (by rw [List.getElem?_map, hf]; rfl)
          have e33 := ix_ok (ixc_ok (i := 2) (e3 .un .un (.v (.d (encF fs))) .un (.v x8) .un (.v (.d (.int (i : Int))))) (x := .tup (encL qs)) rfl) (eV_at (i := 10) (r := .d (.int (i : Int))) rfl) (encL_get' hq)
          unfold eCall
          rw [evs_cons, eV_at rfl, bind_ok, evs_cons, e6, bind_ok, evs_cons, e8, bind_ok, evs_cons, e33, bind_ok, evs_nil, bind_ok, bind_ok, bind_ok, bind_ok, bind_ok]
          have hg := hgt_get hq
          exact ih d' fs[i] _ _ μ (his.get hf hp) (f2 i _ _ hf hq) (by simp only [hgt] at hn; omega))
        have e1 : eComp [10] (tgN 10) (iRange1 (eBi lenR [(eV 6)])) (tNot (tE (eCall C "_law_covered" [(eV 0), (eIdx (eV 6) (eV 10)), (eIdx (eV 8) (eV 10)), (eIdx (eIdx (eV 3) (eC (.int 2))) (eV 10))]))) (eV 10) (cvE T name r (.mk c qs) .un .un (.v (.d (encF fs))) .un (.v x8) .un .un) μ = .ok (.d (.lst (((List.range fs.length).filter fun i => !pickC T fs is qs i).map fun (i : Nat) => .int (i : Int)))) μ := by
          rw [eComp_ok (xs := (List.range fs.length).map fun (i : Nat) => R.d (.int (i : Int))) (μ1 := μ) (by rw [iRange1_nat (n := fs.length) (eBi1_ok (eV_at rfl) (by rw [vw_d, encF, lenR_tup, List.length_map])) (by omega), range0]) hcomp (by rw [List.length_map]; exact Nat.le_trans (List.length_filter_le _ _) (by simp; omega)), mkL_map]
        refine sRet_ok (eT_ok ((tCmp_eqi (x := ((List.range fs.length).filter fun i => !pickC T fs is qs i).length) (y := 0) (μ1 := μ) (μ2 := μ) (eBi1_ok e1 (by rw [vw_d, lenR_lst, List.length_map])) eC_ok).trans ?_))
        congr 1
        rw [Bool.eq_iff_iff, decide_eq_true_eq, covL_iff hlen (by omega)]
        constructor
        · intro h i hi
          have h := List.eq_nil_of_length_eq_zero h
          have := List.filter_eq_nil_iff.mp h i (List.mem_range.mpr hi)
          simpa using this
        · intro h
          have : ((List.range fs.length).filter fun i => !pickC T fs is qs i) = [] := List.filter_eq_nil_iff.mpr fun i hi => by rw [h i (List.mem_range.mp hi)]; decide
          rw [this]; rfl
      have anys : WL true T d' fs (qs.map fun _ => Rg.any) := WL_of (by simp; omega) fun i n p _ hp => by
        rw [List.getElem?_map] at hp
        obtain ⟨_, _, rfl⟩ := Option.map_eq_some_iff.mp hp
        exact Wr.any
      -- which constructors are left
      have names : ∀ (p : String → Bool), (∀ m ∈ makersOf T name, tOr (tCmp eqR (eIdx (eV 2) (eC (.int 0))) (eC (.str "any"))) (tCmp ninR (eIdx (eV 7) (eC (.int 0))) (eIdx (eV 2) (eC (.int 1)))) (cvE T name r (.mk c qs) .un .un (.v (.d (encF fs))) (.v (.d (encM m))) (.v (.d (.lst (encL (qs.map fun _ => Rg.any))))) .un .un) μ = .ok (p m.1) μ) →
          tCmp neR (eComp [7] (tgN 7) (iE (eCall C "_law_makers" [(eV 0), (eV 1)])) (tOr (tCmp eqR (eIdx (eV 2) (eC (.int 0))) (eC (.str "any"))) (tCmp ninR (eIdx (eV 7) (eC (.int 0))) (eIdx (eV 2) (eC (.int 1))))) (eIdx (eV 7) (eC (.int 0)))) (eLst [(eIdx (eV 3) (eC (.int 1)))]) (cvE T name r (.mk c qs) .un .un (.v (.d (encF fs))) .un (.v (.d (.lst (encL (qs.map fun _ => Rg.any))))) .un .un) μ = .ok (!decide ((namesOf T name).filter p = [c])) μ := by
        intro p hp
        have hcomp := compL_filter (t := tgN 7) (c := tOr (tCmp eqR (eIdx (eV 2) (eC (.int 0))) (eC (.str "any"))) (tCmp ninR (eIdx (eV 7) (eC (.int 0))) (eIdx (eV 2) (eC (.int 1))))) (e := eIdx (eV 7) (eC (.int 0))) (ρ := cvE T name r (.mk c qs) .un .un (.v (.d (encF fs))) .un (.v (.d (.lst (encL (qs.map fun _ => Rg.any))))) .un .un) (μ := μ) (fun m : Mk => R.d (encM m)) (fun m => R.d (.str m.1)) (fun m => p m.1) (xs := makersOf T name) (by
          intro m hm
          exact ⟨cvE T name r (.mk c qs) .un .un (.v (.d (encF fs))) (.v (.d (encM m))) (.v (.d (.lst (encL (qs.map fun _ => Rg.any))))) .un .un, by simp only [tgN, List.set_cons_succ, List.set_cons_zero], hp m hm, fun _ => ixc_ok (ds := [.str m.1, encF m.2]) (eV_at rfl) rfl⟩)
        have hnm : ((makersOf T name).filter fun m => p m.1).map (fun m => D.str m.1) = ((namesOf T name).filter p).map .str := by
          unfold namesOf
          rw [List.filter_map, List.map_map]; rfl
        refine ne_strs (L := (namesOf T name).filter p) ?_ ?_
        · rw [eComp_ok (iE_tup (ds := (makersOf T name).map encM) (call2' (eV_at rfl) (eV_at rfl) hmk)) (by rw [List.map_map]; exact hcomp) (by rw [List.length_map]; exact Nat.le_trans (List.length_filter_le _ _) (by omega)), mkL_map (fun m : Mk => D.str m.1), hnm]
        · unfold eLst
          rw [evs_cons, ixc_ok (e3 _ _ _ _ _ _ _) (x := .str c) rfl, bind_ok, evs_nil, bind_ok, bind_ok]
          rfl
      cases r with
      | rng a b => exact absurd h1.rng.1 hne
      | any =>
        have hnm := names (fun _ => true) (fun m hm => by
          refine tOr_ok (y := true) (is_hd (r := .any) rfl rfl) (fun z => by cases z) (fun _ => ⟨rfl, rfl⟩))
        rw [List.filter_eq_self.mpr (fun _ _ => rfl)] at hnm
        have hb : sIf (tCmp eqR (eIdx (eV 2) (eC (.int 0))) (eC (.str "make"))) (sq (sIf (tCmp neR (eIdx (eV 2) (eC (.int 1))) (eIdx (eV 3) (eC (.int 1)))) (sRet (eC (.bl false))) sNil) (sAs (tgN 8) (eIdx (eV 2) (eC (.int 2))))) (sIf (tCmp neR (eComp [7] (tgN 7) (iE (eCall C "_law_makers" [(eV 0), (eV 1)])) (tOr (tCmp eqR (eIdx (eV 2) (eC (.int 0))) (eC (.str "any"))) (tCmp ninR (eIdx (eV 7) (eC (.int 0))) (eIdx (eV 2) (eC (.int 1))))) (eIdx (eV 7) (eC (.int 0)))) (eLst [(eIdx (eV 3) (eC (.int 1)))])) (sRet (eC (.bl false))) sNil)
            (cvE T name .any (.mk c qs) .un .un (.v (.d (encF fs))) .un (.v (.d (.lst (encL (qs.map fun _ => Rg.any))))) .un .un) μ = (if decide (namesOf T name = [c]) = true then .ok (.nx (cvE T name .any (.mk c qs) .un .un (.v (.d (encF fs))) .un (.v (.d (.lst (encL (qs.map fun _ => Rg.any))))) .un .un)) μ else .ok (.rt (.d (.bl false))) μ) := by
          rw [sIf_f (is_hd (r := .any) rfl rfl)]
          cases hd' : decide (namesOf T name = [c]) with
          | true =>
            rw [hd'] at hnm
            rw [sIf_f hnm, if_pos rfl]; exact sNil_ok
          | false =>
            rw [hd'] at hnm
            rw [sIf_t hnm, if_neg (by decide)]; exact sRet_ok eC_ok
        simp only [covM]
        cases hd' : decide (namesOf T name = [c]) with
        | true =>
          rw [hd', if_pos rfl] at hb
          rw [sq_nx hb, Bool.true_and, mf1]
          exact last _ _ anys (.inr rfl)
        | false =>
          rw [hd', if_neg (by decide)] at hb
          rw [sq_rt hb]; rfl
      | nt l =>
        have e2 : ∀ (x7 : Sl), eV 2 (cvE T name (.nt l) (.mk c qs) .un .un (.v (.d (encF fs))) x7 (.v (.d (.lst (encL (qs.map fun _ => Rg.any))))) .un .un) μ = .ok (.d (.tup [.str "not", .tup (l.map .str)])) μ := fun _ => by rw [eV_at rfl]; simp [enc]
        have hnm := names (fun x => !decide (x ∈ l)) (fun m hm => by
          refine tOr_ok (x := false) (y := !decide (m.1 ∈ l)) (is_hd (r := .nt l) rfl rfl) (fun _ => ?_) (fun z => by cases z)
          exact tCmp_ok (ixc_ok (ds := [.str m.1, encF m.2]) (eV_at rfl) (x := .str m.1) rfl) (ixc_ok (e2 _) (x := .tup (l.map .str)) rfl) (by rw [vw_d, vw_d, nin_str]))
        have hb : sIf (tCmp eqR (eIdx (eV 2) (eC (.int 0))) (eC (.str "make"))) (sq (sIf (tCmp neR (eIdx (eV 2) (eC (.int 1))) (eIdx (eV 3) (eC (.int 1)))) (sRet (eC (.bl false))) sNil) (sAs (tgN 8) (eIdx (eV 2) (eC (.int 2))))) (sIf (tCmp neR (eComp [7] (tgN 7) (iE (eCall C "_law_makers" [(eV 0), (eV 1)])) (tOr (tCmp eqR (eIdx (eV 2) (eC (.int 0))) (eC (.str "any"))) (tCmp ninR (eIdx (eV 7) (eC (.int 0))) (eIdx (eV 2) (eC (.int 1))))) (eIdx (eV 7) (eC (.int 0)))) (eLst [(eIdx (eV 3) (eC (.int 1)))])) (sRet (eC (.bl false))) sNil)
            (cvE T name (.nt l) (.mk c qs) .un .un (.v (.d (encF fs))) .un (.v (.d (.lst (encL (qs.map fun _ => Rg.any))))) .un .un) μ = (if decide ((namesOf T name).filter (fun x => !decide (x ∈ l)) = [c]) = true then .ok (.nx (cvE T name (.nt l) (.mk c qs) .un .un (.v (.d (encF fs))) .un (.v (.d (.lst (encL (qs.map fun _ => Rg.any))))) .un .un)) μ else .ok (.rt (.d (.bl false))) μ) := by
          rw [sIf_f (is_hd (r := .nt l) rfl rfl)]
          cases hd' : decide ((namesOf T name).filter (fun x => !decide (x ∈ l)) = [c]) with
          | true =>
            rw [hd'] at hnm
            rw [sIf_f hnm, if_pos rfl]; exact sNil_ok
          | false =>
            rw [hd'] at hnm
            rw [sIf_t hnm, if_neg (by decide)]; exact sRet_ok eC_ok
        simp only [covM]
        cases hd' : decide ((namesOf T name).filter (fun x => !decide (x ∈ l)) = [c]) with
        | true =>
          rw [hd', if_pos rfl] at hb
          rw [sq_nx hb, Bool.true_and, mf1]
          exact last _ _ anys (.inr rfl)
        | false =>
          rw [hd', if_neg (by decide)] at hb
          rw [sq_rt hb]; rfl
      | mk c' ps =>
        obtain ⟨d'', e'', _, gs, m1, l1, f1⟩ := h1.mk
        obtain rfl : d'' = d' := by omega
        have e2 : ∀ (x8 : Sl), eV 2 (cvE T name (.mk c' ps) (.mk c qs) .un .un (.v (.d (encF fs))) .un x8 .un .un) μ = .ok (.d (.tup [.str "make", .str c', .tup (encL ps)])) μ := fun _ => by rw [eV_at rfl]; simp [enc]
        have hneq := tCmp_ok (f := neR) (ixc_ok (i := 1) (e2 (.v (.d (.lst (encL (qs.map fun _ => Rg.any)))))) (x := .str c') rfl) (ixc_ok (i := 1) (e3 .un .un (.v (.d (encF fs))) .un (.v (.d (.lst (encL (qs.map fun _ => Rg.any))))) .un .un) (x := .str c) rfl) (by rw [vw_d, vw_d, str_ne])
        simp only [covM]
        by_cases e : c' = c
        · subst e
          obtain rfl := same_fields g m1 m2
          rw [decide_eq_true rfl] at hneq
          have hb : sIf (tCmp eqR (eIdx (eV 2) (eC (.int 0))) (eC (.str "make"))) (sq (sIf (tCmp neR (eIdx (eV 2) (eC (.int 1))) (eIdx (eV 3) (eC (.int 1)))) (sRet (eC (.bl false))) sNil) (sAs (tgN 8) (eIdx (eV 2) (eC (.int 2))))) (sIf (tCmp neR (eComp [7] (tgN 7) (iE (eCall C "_law_makers" [(eV 0), (eV 1)])) (tOr (tCmp eqR (eIdx (eV 2) (eC (.int 0))) (eC (.str "any"))) (tCmp ninR (eIdx (eV 7) (eC (.int 0))) (eIdx (eV 2) (eC (.int 1))))) (eIdx (eV 7) (eC (.int 0)))) (eLst [(eIdx (eV 3) (eC (.int 1)))])) (sRet (eC (.bl false))) sNil)
              (cvE T name (.mk c' ps) (.mk c' qs) .un .un (.v (.d (encF gs))) .un (.v (.d (.lst (encL (qs.map fun _ => Rg.any))))) .un .un) μ = .ok (.nx (cvE T name (.mk c' ps) (.mk c' qs) .un .un (.v (.d (encF gs))) .un (.v (.d (.tup (encL ps)))) .un .un)) μ := by
            rw [sIf_t (is_hd (r := .mk c' ps) rfl rfl), sq_if_f hneq, sAs_ok (ixc_ok (e2 _) (x := .tup (encL ps)) rfl)]
            simp only [List.set_cons_succ, List.set_cons_zero]
          rw [sq_nx hb, decide_eq_true rfl, Bool.true_and, mf1]
          exact last ps _ (WL_of l1.symm f1) (.inl rfl)
        · rw [decide_eq_false e] at hneq
          have hb : sIf (tCmp eqR (eIdx (eV 2) (eC (.int 0))) (eC (.str "make"))) (sq (sIf (tCmp neR (eIdx (eV 2) (eC (.int 1))) (eIdx (eV 3) (eC (.int 1)))) (sRet (eC (.bl false))) sNil) (sAs (tgN 8) (eIdx (eV 2) (eC (.int 2))))) (sIf (tCmp neR (eComp [7] (tgN 7) (iE (eCall C "_law_makers" [(eV 0), (eV 1)])) (tOr (tCmp eqR (eIdx (eV 2) (eC (.int 0))) (eC (.str "any"))) (tCmp ninR (eIdx (eV 7) (eC (.int 0))) (eIdx (eV 2) (eC (.int 1))))) (eIdx (eV 7) (eC (.int 0)))) (eLst [(eIdx (eV 3) (eC (.int 1)))])) (sRet (eC (.bl false))) sNil)
              (cvE T name (.mk c' ps) (.mk c qs) .un .un (.v (.d (encF fs))) .un (.v (.d (.lst (encL (qs.map fun _ => Rg.any))))) .un .un) μ = .ok (.rt (.d (.bl false))) μ := by
            rw [sIf_t (is_hd (r := .mk c' ps) rfl rfl)]
            refine sq_rt ?_
            rw [sIf_t hneq]
            exact sRet_ok eC_ok
          rw [sq_rt hb, decide_eq_false e]; rfl
end K09
end

section
set_option maxHeartbeats 0
set_option linter.all false
set_option maxRecDepth 100000
namespace K09
open Ev
/-! ### values within -/
mutual
def wh : Rg → Nat
  | .any => 0
  | .rng _ _ => 0
  | .nt _ => 1
  | .mk _ ps => whL ps + 1
def whL : List Rg → Nat
  | [] => 0
  | p :: ps => max (wh p) (whL ps)
end
theorem wh_get : ∀ {ps : List Rg} {i : Nat} {p : Rg}, ps[i]? = some p → wh p ≤ whL ps
  | p :: ps, 0, _, h => by simp at h; subst h; simp [whL]; omega
  | p :: ps, i + 1, _, h => by
    have := wh_get (ps := ps) (i := i) (by simpa using h)
    simp [whL]; omega
  | [], _, _, h => by simp at h
theorem call5 {C : Fn} {f : String} {a b c d e : E} {ρ : Env} {μ : Mem} {x y z w u r : R} {μ' : Mem} (h1 : a ρ μ = .ok x μ) (h2 : b ρ μ = .ok y μ) (h3 : c ρ μ = .ok z μ) (h4 : d ρ μ = .ok w μ) (h5 : e ρ μ = .ok u μ) (h : C f [x, y, z, w, u] μ = .ok r μ') : eCall C f [a, b, c, d, e] ρ μ = .ok r μ' := by
  unfold eCall
  rw [evs_cons, h1, bind_ok, evs_cons, h2, bind_ok, evs_cons, h3, bind_ok, evs_cons, h4, bind_ok, evs_cons, h5, bind_ok, evs_nil, bind_ok, bind_ok, bind_ok, bind_ok, bind_ok, bind_ok]
  exact h
abbrev wiE (T : Ty) (kvs : List (Ky × R)) (name : String) (r : Rg) (x5 x6 x7 x8 x9 x10 x11 : Sl) : Env := [.v (.p 0), .v (.d (encT T)), .v (.dic kvs), .v (.d (.str name)), .v (.d (enc r)), x5, x6, x7, x8, x9, x10, x11]
theorem within_spec {T : Ty} (g : GoodT T) {F : Hf} {kvs : List (Ky × R)} (H : HtOk T F kvs) (digs : List Int) : ∀ (n d : Nat) (r : Rg) (name : String) (k : Nat), Wr true T d name r → TyNm T name → wh r + 12 ≤ n →
    ∃ (v : Vl) (k' : Nat), Wv T (wh r + 6) name v ∧ callN P n "_law_within" [.p 0, .d (encT T), .dic kvs, .d (.str name), .d (enc r)] (Bx digs k) = .ok (.d (encV v)) (Bx digs k')
  | 0, _, _, _, _, _, _, hn => by omega
  | 1, _, _, _, _, _, _, hn => by omega
  | n + 2, d, r, name, k, hw, hty, hn => by
    have ih := within_spec g H digs (n + 1)
    rw [callN_run (d := f_law_within) rfl rfl]
    have hv3 := value_spec g H digs 3 (n + 1)
    have hC := draws n
    have hmk := makers_spec n T name
    generalize callN P (n + 1) = C at ih hv3 hC hmk ⊢
    -- the last step, for a constructor
    have last : ∀ (m : Mk) (is : List Rg) (x5 x6 x10 x11 : Sl) (x9 : R) (k1 : Nat) (d' : Nat), m ∈ makersOf T name → WL true T d' m.2 is → (x9 = .d (.tup (encL is)) ∨ x9 = .d (.lst (encL is))) → whL is + 1 ≤ wh r → name ≠ "Int" →
        ∃ (v : Vl) (k' : Nat), Wv T (wh r + 6) name v ∧ sRet (eTup [(eC (.str "make")), (eV 7), (eBi tupleR [(eComp [11] (tgN 11) (iRange1 (eBi lenR [(eV 8)])) tYes (eCall C "_law_within" [(eV 0), (eV 1), (eV 2), (eIdx (eV 8) (eV 11)), (eIdx (eV 9) (eV 11))]))])]) (wiE T kvs name r x5 x6 (.v (.d (.str m.1))) (.v (.d (encF m.2))) (.v x9) x10 x11) (Bx digs k1) = .ok (.rt (.d (encV v))) (Bx digs k') := by
      intro m is x5 x6 x10 x11 x9 k1 d' hm his hx9 hwh hne
      obtain ⟨mf1, mf2, mf3, mf4⟩ := maker_fields g hm
      have hlen := his.len
      obtain ⟨vs, k2, v1, v2, v3⟩ := draws_comp (Q := fun (i : Nat) v => ∀ f, m.2[i]? = some f → Wv T (wh r + 5) f v) (own := [11]) (t := tgN 11) (elt := eCall C "_law_within" [(eV 0), (eV 1), (eV 2), (eIdx (eV 8) (eV 11)), (eIdx (eV 9) (eV 11))]) (ρ := wiE T kvs name r x5 x6 (.v (.d (.str m.1))) (.v (.d (encF m.2))) (.v x9) x10 x11) (it := iRange1 (eBi lenR [(eV 8)])) (digs := digs) (k := k1)
        (List.range m.2.length) (fun (i : Nat) => R.d (.int (i : Int))) (fun i => wiE T kvs name r x5 x6 (.v (.d (.str m.1))) (.v (.d (encF m.2))) (.v x9) x10 (.v (.d (.int (i : Int)))))
        (by rw [iRange1_nat (n := m.2.length) (eBi1_ok (eV_at rfl) (by rw [vw_d, encF, lenR_tup, List.length_map])) (by omega), range0]) rfl (by simp; omega) (fun i _ => by simp only [tgN, wipeE, List.set_cons_succ, List.set_cons_zero]) (fun i k hi => by
          have hi := List.mem_range.mp hi
          have hf : m.2[i]? = some m.2[i] := by simp
          have hp : is[i]? = some (is[i]'(by omega)) := List.getElem?_eq_getElem _
          have hg := wh_get hp
          obtain ⟨v, k', w1, w2⟩ := ih d' _ m.2[i] k (his.get hf hp) (mf3 _ (List.mem_of_getElem? hf)) (by omega)
          refine ⟨v, k', fun f hf' => ?_, ?_⟩
          · rw [hf] at hf'
            obtain rfl := Option.some.inj hf'
            exact w1.mono (by omega)
          · have e9 : eIdx (eV 9) (eV 11) (wiE T kvs name r x5 x6 (.v (.d (.str m.1))) (.v (.d (encF m.2))) (.v x9) x10 (.v (.d (.int (i : Int))))) (Bx digs k) = .ok (.d (enc (is[i]'(by omega)))) (Bx digs k) := by
              rcases hx9 with rfl | rfl
              · exact ix_ok (ds := encL is) (eV_at rfl) (eV_at rfl) (encL_get' hp)
              · exact ixl_ok (ds := encL is) (eV_at rfl) (eV_at rfl) (encL_get' hp)
            exact call5 (eV_at rfl) (eV_at rfl) (eV_at rfl) (ix_ok (ds := m.2.map .str) (eV_at rfl) (eV_at rfl) (by rw [List.getElem?_map, hf]; rfl)) e9 w2)
      rw [List.length_range] at v1
      refine ⟨.mk m.1 vs, k2, ?_, sRet_ok (mk_tupV (eV_at rfl) v3)⟩
      show Wv T (wh r + 5 + 1) name _
      simp only [Wv]
      refine ⟨hne, m.2, hm, v1.symm, fun i f v hf hv => ?_⟩
      have hi : i < m.2.length := (List.getElem?_eq_some_iff.mp hf).1
      exact v2 i i v (by simp [hi]) hv f hf
    have tail : ∀ (p : Mk → Bool), (∀ m ∈ makersOf T name, tOr (tAnd (tCmp eqR (eIdx (eV 4) (eC (.int 0))) (eC (.str "not"))) (tCmp ninR (eIdx (eV 6) (eC (.int 0))) (eIdx (eV 4) (eC (.int 1))))) (tCmp eqR (eIdx (eV 6) (eC (.int 0))) (eIdx (eV 4) (eC (.int 1)))) (wiE T kvs name r .un (.v (.d (encM m))) .un .un .un .un .un) (Bx digs k) = .ok (p m) (Bx digs k)) → (∃ m ∈ makersOf T name, p m = true) → name ≠ "Int" →
        (∀ m ∈ makersOf T name, p m = true → ∀ (x5 x6 x10 x11 : Sl) (k1 : Nat), ∃ (x9' : R) (is : List Rg) (d' : Nat), WL true T d' m.2 is ∧ (x9' = .d (.tup (encL is)) ∨ x9' = .d (.lst (encL is))) ∧ whL is + 1 ≤ wh r ∧
          sIf (tCmp eqR (eIdx (eV 4) (eC (.int 0))) (eC (.str "make"))) (sAs (tgN 9) (eIdx (eV 4) (eC (.int 2)))) sNil (wiE T kvs name r x5 x6 (.v (.d (.str m.1))) (.v (.d (encF m.2))) (.v (.d (.lst (encL (m.2.map fun _ => Rg.any))))) x10 x11) (Bx digs k1) = .ok (.nx (wiE T kvs name r x5 x6 (.v (.d (.str m.1))) (.v (.d (encF m.2))) (.v x9') x10 x11)) (Bx digs k1)) →
        ∃ (v : Vl) (k' : Nat), Wv T (wh r + 6) name v ∧
          (sq (sAs (tgN 5) (eComp [6] (tgN 6) (iE (eCall C "_law_makers" [(eV 1), (eV 3)])) (tOr (tAnd (tCmp eqR (eIdx (eV 4) (eC (.int 0))) (eC (.str "not"))) (tCmp ninR (eIdx (eV 6) (eC (.int 0))) (eIdx (eV 4) (eC (.int 1))))) (tCmp eqR (eIdx (eV 6) (eC (.int 0))) (eIdx (eV 4) (eC (.int 1))))) (eV 6)))
          (sq (sAs (tgT [(tgN 7), (tgN 8)]) (eIdx (eV 5) (eOp modR (eBi intR [(eCall C "_law_draw" [(eV 0), (eC (.int 90))])]) (eBi lenR [(eV 5)]))))
          (sq (sAs (tgN 9) (eComp [10] (tgN 10) (iE (eV 8)) tYes (eTup [(eC (.str "any"))])))
          (sq (sIf (tCmp eqR (eIdx (eV 4) (eC (.int 0))) (eC (.str "make"))) (sAs (tgN 9) (eIdx (eV 4) (eC (.int 2)))) sNil)
          (sRet (eTup [(eC (.str "make")), (eV 7), (eBi tupleR [(eComp [11] (tgN 11) (iRange1 (eBi lenR [(eV 8)])) tYes (eCall C "_law_within" [(eV 0), (eV 1), (eV 2), (eIdx (eV 8) (eV 11)), (eIdx (eV 9) (eV 11))]))])])))))) (wiE T kvs name r .un .un .un .un .un .un .un) (Bx digs k) = .ok (.rt (.d (encV v))) (Bx digs k') := by
      intro p hp hex hne hin
      have hm3 := makersOf_le g name
      have hcomp := compL_filter (t := tgN 6) (c := tOr (tAnd (tCmp eqR (eIdx (eV 4) (eC (.int 0))) (eC (.str "not"))) (tCmp ninR (eIdx (eV 6) (eC (.int 0))) (eIdx (eV 4) (eC (.int 1))))) (tCmp eqR (eIdx (eV 6) (eC (.int 0))) (eIdx (eV 4) (eC (.int 1))))) (e := eV 6) (ρ := wiE T kvs name r .un .un .un .un .un .un .un) (μ := Bx digs k) (fun m : Mk => R.d (encM m)) (fun m => R.d (encM m)) p (xs := makersOf T name) (by
        intro m hm
        exact ⟨wiE T kvs name r .un (.v (.d (encM m))) .un .un .un .un .un, by simp only [tgN, List.set_cons_succ, List.set_cons_zero], hp m hm, fun _ => eV_at rfl⟩)
      have e1 : eComp [6] (tgN 6) (iE (eCall C "_law_makers" [(eV 1), (eV 3)])) (tOr (tAnd (tCmp eqR (eIdx (eV 4) (eC (.int 0))) (eC (.str "not"))) (tCmp ninR (eIdx (eV 6) (eC (.int 0))) (eIdx (eV 4) (eC (.int 1))))) (tCmp eqR (eIdx (eV 6) (eC (.int 0))) (eIdx (eV 4) (eC (.int 1))))) (eV 6) (wiE T kvs name r .un .un .un .un .un .un .un) (Bx digs k) = .ok (.d (.lst (((makersOf T name).filter p).map encM))) (Bx digs k) := by
        rw [eComp_ok (iE_tup (ds := (makersOf T name).map encM) (call2' (eV_at rfl) (eV_at rfl) (hmk _))) (by rw [List.map_map]; exact hcomp) (by rw [List.length_map]; exact Nat.le_trans (List.length_filter_le _ _) (by omega)), mkL_map]
      obtain ⟨m0, hm0, hp0⟩ := hex
      have hin0 : m0 ∈ (makersOf T name).filter p := List.mem_filter.mpr ⟨hm0, hp0⟩
      obtain ⟨v, hv, h1⟩ := hC digs k 90 (by omega)
      obtain ⟨w, q, hw', hq, hpick⟩ := ePick (C := C) (ρ := wiE T kvs name r (.v (.d (.lst (((makersOf T name).filter p).map encM)))) .un .un .un .un .un .un) (i := 0) (j := 5) (pool := ((makersOf T name).filter p).map encM) rfl rfl (by rw [List.length_map]; exact List.length_pos_of_mem hin0) h1
      rw [List.getElem?_map] at hq
      obtain ⟨m, hm, hqm⟩ := Option.map_eq_some_iff.mp hq
      subst hqm
      obtain ⟨hmem, hpm⟩ := List.mem_filter.mp (List.mem_of_getElem? hm)
      obtain ⟨mf1, mf2, mf3, mf4⟩ := maker_fields g hmem
      obtain ⟨x9', is, d', i1, i2, i3, i4⟩ := hin m hmem hpm (.v (.d (.lst (((makersOf T name).filter p).map encM)))) .un .un .un (k + 1)
      obtain ⟨u, k', u1, u2⟩ := last m is (.v (.d (.lst (((makersOf T name).filter p).map encM)))) .un .un .un x9' (k + 1) d' hmem i1 i2 i3 hne
      refine ⟨u, k', u1, ?_⟩
      rw [sq_as e1]
      simp only [List.set_cons_succ, List.set_cons_zero]
      rw [sq_nx (sAs_gen hpick (by simp only [tgT, encM, tgs, tgN, List.map_cons, List.map_nil, Option.bind_some]; rfl))]
      simp only [List.set_cons_succ, List.set_cons_zero]
      have hany : eComp [10] (tgN 10) (iE (eV 8)) tYes (eTup [(eC (.str "any"))]) (wiE T kvs name r (.v (.d (.lst (((makersOf T name).filter p).map encM)))) .un (.v (.d (.str m.1))) (.v (.d (encF m.2))) .un .un .un) (Bx digs (k + 1)) = .ok (.d (.lst (encL (m.2.map fun _ => Rg.any)))) (Bx digs (k + 1)) := by
        rw [any_comp m.2 (by rw [iE_tup (ds := m.2.map .str) (eV_at rfl), List.map_map]; rfl) (fun _ _ => by simp [eTup, evs_cons, evs_nil, eC]) (by omega)]
        have : m.2.map (fun _ => D.tup [.str "any"]) = encL (m.2.map fun _ => Rg.any) := by
          rw [encL_map, List.map_map]
          exact List.map_congr_left fun _ _ => by simp [enc]
        rw [this]
      rw [sq_as hany]
      simp only [List.set_cons_succ, List.set_cons_zero]
      rw [sq_nx i4]
      exact u2
    cases r with
    | any =>
      obtain ⟨v, k', w1, w2⟩ := hv3 name k hty (by omega) (by omega)
      refine ⟨v, k', w1.mono (by omega), runB_rt ?_ rfl⟩
      simp only [f_law_within, List.map_cons, List.map_nil, List.length_cons, List.length_nil, Nat.reduceAdd, Nat.reduceSub, List.replicate_succ, List.replicate_zero, List.cons_append, List.nil_append]
      refine sq_rt ?_
      rw [sIf_t (is_hd (r := .any) rfl rfl)]
      exact sRet_ok (call5 (eV_at rfl) (eV_at rfl) (eV_at rfl) (eV_at rfl) (eC_ok (x := .int 3)) w2)
    | rng a b =>
      obtain ⟨rfl, hb⟩ := hw.rng2
      obtain ⟨v, hv, h1⟩ := hC digs k 200 (by omega)
      replace h1 : C "_law_draw" [.p 0, .d (.int 200)] (Bx digs k) = .ok (.d (.int v)) (Bx digs (k + 1)) := h1
      have hm := Int.emod_nonneg (v : Int) (show b - a + 1 ≠ 0 by omega)
      have hm2 := Int.emod_lt_of_pos (v : Int) (show 0 < b - a + 1 by omega)
      refine ⟨.int (a + (v : Int) % (b - a + 1)), k + 1, by simp only [Wv]; exact ⟨trivial, by omega, by omega⟩, runB_rt ?_ rfl⟩
      simp only [f_law_within, List.map_cons, List.map_nil, List.length_cons, List.length_nil, Nat.reduceAdd, Nat.reduceSub, List.replicate_succ, List.replicate_zero, List.cons_append, List.nil_append]
      rw [sq_if_f (is_hd (r := .rng a b) rfl rfl)]
      refine sq_rt ?_
      rw [sIf_t (is_hd (r := .rng a b) rfl rfl)]
      have e4 : ∀ k, eV 4 (wiE T kvs "Int" (.rng a b) .un .un .un .un .un .un .un) (Bx digs k) = .ok (.d (.tup [.str "range", .int a, .int b])) (Bx digs k) := fun _ => by rw [eV_at rfl]; simp [enc]
      refine sRet_ok ?_
      have e5 : eOp addR (eIdx (eV 4) (eC (.int 1))) (eOp modR (eBi intR [(eCall C "_law_draw" [(eV 0), (eC (.int 200))])]) (eOp addR (eOp subR (eIdx (eV 4) (eC (.int 2))) (eIdx (eV 4) (eC (.int 1)))) (eC (.int 1)))) (wiE T kvs "Int" (.rng a b) .un .un .un .un .un .un .un) (Bx digs k) = .ok (.d (.int (a + (v : Int) % (b - a + 1)))) (Bx digs (k + 1)) :=
        eOp_ok (ixc_ok (e4 k) (x := .int a) rfl) (eOp_ok (eBi1_ok (eDraw rfl h1) rfl) (eOp_ok (eOp_ok (ixc_ok (e4 _) (x := .int b) rfl) (ixc_ok (e4 _) (x := .int a) rfl) rfl) eC_ok rfl) (modR_ok (by omega))) rfl
      unfold eTup
      rw [evs_cons, eC_ok, bind_ok, evs_cons, e5, bind_ok, evs_nil, bind_ok, bind_ok, bind_ok]
      simp [encV]
    | nt l =>
      obtain ⟨_, hne, _, _, c, hc, hcl⟩ := hw.nt2
      obtain ⟨m0, hm0, rfl⟩ := List.mem_map.mp hc
      have e4 : ∀ (x6 : Sl), eV 4 (wiE T kvs name (.nt l) .un x6 .un .un .un .un .un) (Bx digs k) = .ok (.d (.tup [.str "not", .tup (l.map .str)])) (Bx digs k) := fun _ => by rw [eV_at rfl]; simp [enc]
      obtain ⟨v, k', v1, v2⟩ := tail (fun m => !decide (m.1 ∈ l)) (fun m hm => by
        have ha : tAnd (tCmp eqR (eIdx (eV 4) (eC (.int 0))) (eC (.str "not"))) (tCmp ninR (eIdx (eV 6) (eC (.int 0))) (eIdx (eV 4) (eC (.int 1)))) (wiE T kvs name (.nt l) .un (.v (.d (encM m))) .un .un .un .un .un) (Bx digs k) = .ok (!decide (m.1 ∈ l)) (Bx digs k) := by
          have := tAnd_ok (x := true) (y := !decide (m.1 ∈ l)) (is_hd (r := .nt l) (i := 4) (s := "not") (b := true) (ρ := wiE T kvs name (.nt l) .un (.v (.d (encM m))) .un .un .un .un .un) (μ := Bx digs k) rfl rfl) (tCmp_ok (f := ninR) (ixc_ok (i := 0) (a := eV 6) (ds := [.str m.1, encF m.2]) (eV_at rfl) (x := .str m.1) rfl) (ixc_ok (i := 1) (e4 _) (x := .tup (l.map .str)) rfl) (by rw [vw_d, vw_d, nin_str]))
          exact this
        have hb : tCmp eqR (eIdx (eV 6) (eC (.int 0))) (eIdx (eV 4) (eC (.int 1))) (wiE T kvs name (.nt l) .un (.v (.d (encM m))) .un .un .un .un .un) (Bx digs k) = .ok false (Bx digs k) := tCmp_ok (ixc_ok (ds := [.str m.1, encF m.2]) (eV_at rfl) (x := .str m.1) rfl) (ixc_ok (e4 _) (x := .tup (l.map .str)) rfl) (by
          rw [vw_d, vw_d]
          show eqD _ _ = _
          rw [eqD_left (by simp [D.dep])]
          simp [D.eqv])
        have := tOr_pure ha hb
        rw [Bool.or_false] at this
        exact this) ⟨m0, hm0, by rw [decide_eq_false hcl]; rfl⟩ hne (fun m hm hp x5 x6 x10 x11 k1 => by
          refine ⟨_, m.2.map fun _ => Rg.any, 0, WL_of (by simp) fun i n p _ hp => ?_, .inr rfl, ?_, ?_⟩
          · rw [List.getElem?_map] at hp
            obtain ⟨_, _, rfl⟩ := Option.map_eq_some_iff.mp hp
            exact Wr.any
          · have : whL (m.2.map fun _ => Rg.any) = 0 := by
              generalize m.2 = L
              induction L with
              | nil => rfl
              | cons x L ih => simp [whL, wh, ih]
            rw [this, wh]; exact Nat.le_refl _
          · rw [sIf_f (is_hd (r := .nt l) rfl rfl)]
            exact sNil_ok)
      refine ⟨v, k', v1, runB_rt ?_ rfl⟩
      simp only [f_law_within, List.map_cons, List.map_nil, List.length_cons, List.length_nil, Nat.reduceAdd, Nat.reduceSub, List.replicate_succ, List.replicate_zero, List.cons_append, List.nil_append]
      rw [sq_if_f (is_hd (r := .nt l) rfl rfl), sq_if_f (is_hd (r := .nt l) rfl rfl)]
      exact v2
    | mk c ps =>
      obtain ⟨d', rfl, hne, fs, m1, l1, f1⟩ := hw.mk
      have e4 : ∀ (x5 x6 x7 x8 x9 x10 x11 : Sl) (k : Nat), eV 4 (wiE T kvs name (.mk c ps) x5 x6 x7 x8 x9 x10 x11) (Bx digs k) = .ok (.d (.tup [.str "make", .str c, .tup (encL ps)])) (Bx digs k) := fun _ _ _ _ _ _ _ _ => by rw [eV_at rfl]; simp [enc]
      obtain ⟨v, k', v1, v2⟩ := tail (fun m => decide (m.1 = c)) (fun m hm => by
        have ha : tAnd (tCmp eqR (eIdx (eV 4) (eC (.int 0))) (eC (.str "not"))) (tCmp ninR (eIdx (eV 6) (eC (.int 0))) (eIdx (eV 4) (eC (.int 1)))) (wiE T kvs name (.mk c ps) .un (.v (.d (encM m))) .un .un .un .un .un) (Bx digs k) = .ok false (Bx digs k) := by
          have hf := is_hd (r := .mk c ps) (i := 4) (s := "not") (b := false) (ρ := wiE T kvs name (.mk c ps) .un (.v (.d (encM m))) .un .un .un .un .un) (μ := Bx digs k) rfl rfl
          unfold tAnd
          rw [hf]; rfl
        have hb : tCmp eqR (eIdx (eV 6) (eC (.int 0))) (eIdx (eV 4) (eC (.int 1))) (wiE T kvs name (.mk c ps) .un (.v (.d (encM m))) .un .un .un .un .un) (Bx digs k) = .ok (decide (m.1 = c)) (Bx digs k) := tCmp_ok (ixc_ok (ds := [.str m.1, encF m.2]) (eV_at rfl) (x := .str m.1) rfl) (ixc_ok (e4 _ _ _ _ _ _ _ _) (x := .str c) rfl) (by rw [vw_d, vw_d, str_eq])
        have := tOr_pure ha hb
        rw [Bool.false_or] at this
        exact this) ⟨_, m1, by simp⟩ hne (fun m hm hp x5 x6 x10 x11 k1 => by
          rw [decide_eq_true_eq] at hp
          obtain ⟨mc, mfs⟩ := m
          simp only at hp
          subst hp
          obtain rfl := same_fields g hm m1
          refine ⟨.d (.tup (encL ps)), ps, d', WL_of l1.symm f1, .inl rfl, by rw [wh]; exact Nat.le_refl _, ?_⟩
          rw [sIf_t (is_hd (r := .mk mc ps) rfl rfl), sAs_ok (ixc_ok (e4 _ _ _ _ _ _ _ _) (x := .tup (encL ps)) rfl)]
          simp only [List.set_cons_succ, List.set_cons_zero])
      refine ⟨v, k', v1, runB_rt ?_ rfl⟩
      simp only [f_law_within, List.map_cons, List.map_nil, List.length_cons, List.length_nil, Nat.reduceAdd, Nat.reduceSub, List.replicate_succ, List.replicate_zero, List.cons_append, List.nil_append]
      rw [sq_if_f (is_hd (r := .mk c ps) rfl rfl), sq_if_f (is_hd (r := .mk c ps) rfl rfl)]
      exact v2
end K09
end

section
set_option maxHeartbeats 0
set_option linter.all false
set_option maxRecDepth 100000
namespace K09
open Ev
/-! ### cut twice, held, the forms -/
theorem tIsN_ok {e : E} {ρ : Env} {μ μ1 : Mem} {r : R} (h : e ρ μ = .ok r μ1) : tIsN e ρ μ = .ok (isNonR r) μ1 := by unfold tIsN; rw [h]; rfl
theorem tNotN_ok {e : E} {ρ : Env} {μ μ1 : Mem} {r : R} (h : e ρ μ = .ok r μ1) : tNotN e ρ μ = .ok (!isNonR r) μ1 := by unfold tNotN; rw [h]; rfl
theorem call3 {C : Fn} {f : String} {a b c : E} {ρ : Env} {μ : Mem} {x y z : R} {o : Out R} (h1 : a ρ μ = .ok x μ) (h2 : b ρ μ = .ok y μ) (h3 : c ρ μ = .ok z μ) (h : C f [x, y, z] μ = o) : eCall C f [a, b, c] ρ μ = o := by
  unfold eCall
  rw [evs_cons, h1, bind_ok, evs_cons, h2, bind_ok, evs_cons, h3, bind_ok, evs_nil, bind_ok, bind_ok, bind_ok, bind_ok]
  exact h
theorem call4 {C : Fn} {f : String} {a b c d : E} {ρ : Env} {μ : Mem} {x y z w : R} {o : Out R} (h1 : a ρ μ = .ok x μ) (h2 : b ρ μ = .ok y μ) (h3 : c ρ μ = .ok z μ) (h4 : d ρ μ = .ok w μ) (h : C f [x, y, z, w] μ = o) : eCall C f [a, b, c, d] ρ μ = o := by
  unfold eCall
  rw [evs_cons, h1, bind_ok, evs_cons, h2, bind_ok, evs_cons, h3, bind_ok, evs_cons, h4, bind_ok, evs_nil, bind_ok, bind_ok, bind_ok, bind_ok, bind_ok]
  exact h
theorem call6 {C : Fn} {f : String} {a b c d e g : E} {ρ : Env} {μ : Mem} {x y z w u t : R} {o : Out R} (h1 : a ρ μ = .ok x μ) (h2 : b ρ μ = .ok y μ) (h3 : c ρ μ = .ok z μ) (h4 : d ρ μ = .ok w μ) (h5 : e ρ μ = .ok u μ) (h6 : g ρ μ = .ok t μ) (h : C f [x, y, z, w, u, t] μ = o) : eCall C f [a, b, c, d, e, g] ρ μ = o := by
  unfold eCall
  rw [evs_cons, h1, bind_ok, evs_cons, h2, bind_ok, evs_cons, h3, bind_ok, evs_cons, h4, bind_ok, evs_cons, h5, bind_ok, evs_cons, h6, bind_ok, evs_nil, bind_ok, bind_ok, bind_ok, bind_ok, bind_ok, bind_ok, bind_ok]
  exact h
theorem eNot_bl {a : E} {ρ : Env} {μ : Mem} {x : Bool} (h : a ρ μ = .ok (.d (.bl x)) μ) : eNot a ρ μ = .ok (.d (.bl (!x))) μ := by unfold eNot; rw [h]; rfl
theorem ne_bl {a b : E} {ρ : Env} {μ : Mem} {x y : Bool} (ha : a ρ μ = .ok (.d (.bl x)) μ) (hb : b ρ μ = .ok (.d (.bl y)) μ) : tCmp neR a b ρ μ = .ok (!(x == y)) μ :=
  tCmp_ok ha hb (by
    rw [vw_d, vw_d, neR_d, eqD_left (Nat.zero_le _)]
    simp [D.eqv])
section
variable {T : Ty} (g : GoodT T) {d : Nat} {name : String} {r s o : Rg} (h1 : Wr true T d name r) (h2 : Wr false T d name s) (h3 : Wr false T d name o) (hd : d ≤ 3)
include g h1 h2 h3 hd
theorem twice_spec (n : Nat) (μ : Mem) (hn : 8 ≤ n) : callN P (n + 1) "_law_twice" [.d (enc r), .d (enc s), .d (enc o)] μ = .ok (.d (encO (cut2 r s o))) μ := by
  rw [callN_run (d := f_law_twice) rfl rfl]
  have hc := (cut_both n).1
  generalize callN P n = C at hc ⊢
  refine runB_rt (μ' := μ) ?_ rfl
  simp only [f_law_twice, List.map_cons, List.map_nil, List.length_cons, List.length_nil, Nat.reduceAdd, Nat.reduceSub, List.replicate_succ, List.replicate_zero, List.cons_append, List.nil_append]
  have a1 := (h1.bd g).hgt
  rw [sq_as (call2' (eV_at rfl) (eV_at rfl) (hc r s μ (Wr.al g h1 h2) (by omega)))]
  simp only [List.set_cons_succ, List.set_cons_zero]
  cases hx : cutM r s with
  | none =>
    refine sq_rt ?_
    rw [sIf_t ((tIsN_ok (eV_at rfl)).trans (by rw [encO_isNon]; rfl)), sRet_ok eC_ok]
    unfold cut2
    rw [hx]; rfl
  | some x =>
    have h4 := cut_wr g h1 h2 hx
    have a2 := (h4.bd g).hgt
    rw [sq_if_f (tIsN_ok (eV_at rfl) |>.trans (by rw [encO_isNon]; rfl))]
    unfold cut2
    rw [hx]
    exact sRet_ok (call2' (eV_at rfl) (eV_at rfl) (hc x o μ (Wr.al g h4 h3) (by omega)))
theorem due_spec (n : Nat) (μ : Mem) (hn : 8 ≤ n) : callN P (n + 1) "_law_due_twice" [.d (enc r), .d (enc s), .d (enc o)] μ = .ok (.d (.bl (cut2 r s o).isSome)) μ := by
  rw [callN_run (d := f_law_due_twice) rfl rfl]
  have hc := (lcut_both n).1
  generalize callN P n = C at hc ⊢
  refine runB_rt (μ' := μ) ?_ rfl
  simp only [f_law_due_twice, List.map_cons, List.map_nil, List.length_cons, List.length_nil, Nat.reduceAdd, Nat.reduceSub, List.replicate_succ, List.replicate_zero, List.cons_append, List.nil_append]
  have a1 := (h1.bd g).hgt
  rw [sq_as (call2' (eV_at rfl) (eV_at rfl) (hc r s μ (Wr.al g h1 h2) (by omega)))]
  simp only [List.set_cons_succ, List.set_cons_zero]
  have e1 : ∀ (ρ : Env), ρ[3]? = some (.v (.d (encO (cutM r s)))) → eT (tNotN (eV 3)) ρ μ = .ok (.d (.bl (cutM r s).isSome)) μ := fun ρ h => by
    refine eT_ok ?_
    rw [tNotN_ok (eV_at h), encO_isNon]
    cases cutM r s <;> rfl
  refine sRet_ok ?_
  cases hx : cutM r s with
  | none =>
    have := eAnd_bl (b := eT (tNotN (eCall C "_law_cut" [(eV 3), (eV 2)]))) (y := false) (e1 [.v (.d (enc r)), .v (.d (enc s)), .v (.d (enc o)), .v (.d (encO (cutM r s)))] rfl) (fun z => by rw [hx] at z; cases z)
    rw [hx] at this
    rw [this]
    unfold cut2
    rw [hx]; rfl
  | some x =>
    have h4 := cut_wr g h1 h2 hx
    have a2 := (h4.bd g).hgt
    have := eAnd_bl (b := eT (tNotN (eCall C "_law_cut" [(eV 3), (eV 2)]))) (y := (cutM x o).isSome) (e1 [.v (.d (enc r)), .v (.d (enc s)), .v (.d (enc o)), .v (.d (encO (cutM r s)))] rfl) (fun _ => by
      refine eT_ok ?_
      rw [hx, tNotN_ok (call2' (C := C) (f := "_law_cut") (x := .d (enc x)) (y := .d (enc o)) (eV_at rfl) (eV_at rfl) (hc x o μ (Wr.al g h4 h3) (by omega))), encO_isNon]
      cases cutM x o <;> rfl)
    rw [hx] at this
    rw [this]
    unfold cut2
    rw [hx]; rfl
end
/-! #### held -/
theorem tb_count {l : List Bool} : (l.filter fun b => !b).length + (l.filter fun b => b).length = l.length := by
  induction l with
  | nil => rfl
  | cons b l ih => cases b <;> simp <;> omega
theorem isR_bl (a b : Bool) : isR (.d (.bl a)) (.d (.bl b)) = some (a == b) := rfl
theorem tb_comp {t : List Bool} {b : Bool} {x0 x1 x2 x4 x5 x6 : Sl} {μ : Mem} (h : t.length ≤ 1000) : eBi lenR [(eComp [6] (tgN 6) (iE (eV 3)) (tCmp isR (eV 6) (eC (.bl b))) (eV 6))] [x0, x1, x2, .v (.d (.lst (t.map .bl))), x4, x5, x6] μ = .ok (.d (.int ((t.filter fun a => a == b).length : Int))) μ := by
  have hcomp := compL_filter (t := tgN 6) (c := tCmp isR (eV 6) (eC (.bl b))) (e := eV 6) (ρ := [x0, x1, x2, .v (.d (.lst (t.map .bl))), x4, x5, .un]) (μ := μ) (fun a : Bool => R.d (.bl a)) (fun a => R.d (.bl a)) (fun a => a == b) (xs := t) (by
    intro a _
    exact ⟨[x0, x1, x2, .v (.d (.lst (t.map .bl))), x4, x5, .v (.d (.bl a))], by simp only [tgN, List.set_cons_succ, List.set_cons_zero], tCmp_ok (eV_at rfl) eC_ok (isR_bl a b), fun _ => eV_at rfl⟩)
  refine eBi1_ok (x := .d (.lst ((t.filter fun a => a == b).map .bl))) ?_ (by rw [vw_d, lenR_lst, List.length_map])
  rw [eComp_ok (iE_lst (ds := t.map .bl) (eV_at rfl)) (by rw [List.map_map]; exact hcomp) (by rw [List.length_map]; exact Nat.le_trans (List.length_filter_le _ _) (by omega)), mkL_map]
theorem held_spec {n : Nat} {os : List (Option Rg)} {v : Vl} {due : Nat} (μ : Mem) (hl : os.length ≤ 1000) (ho : ∀ x, some x ∈ os → Hv x v ∧ hgt x < n) (hc : os.countP (fun o => hdO o v) = due) :
    callN P (n + 1) "_law_held" [.d (.lst (os.map encO)), .d (encV v), .d (.int (due : Int))] μ = .ok (.d (.bl true)) μ := by
  rw [callN_run (d := f_law_held) rfl rfl]
  have hh := holds_spec n
  generalize callN P n = C at hh ⊢
  refine runB_rt (μ' := μ) ?_ rfl
  simp only [f_law_held, List.map_cons, List.map_nil, List.length_cons, List.length_nil, Nat.reduceAdd, Nat.reduceSub, List.replicate_succ, List.replicate_zero, List.cons_append, List.nil_append]
  have hcomp := compL_filter (t := tgN 4) (c := tNotN (eV 4)) (e := eCall C "holds" [(eV 4), (eV 1)]) (ρ := [.v (.d (.lst (os.map encO))), .v (.d (encV v)), .v (.d (.int (due : Int))), .un, .un, .un, .un]) (μ := μ) (fun o : Option Rg => R.d (encO o)) (fun o => R.d (.bl (hdO o v))) (fun o => o.isSome) (xs := os) (by
    intro o hmem
    refine ⟨[.v (.d (.lst (os.map encO))), .v (.d (encV v)), .v (.d (.int (due : Int))), .un, .v (.d (encO o)), .un, .un], by simp only [tgN, List.set_cons_succ, List.set_cons_zero], ?_, fun hs => ?_⟩
    · rw [tNotN_ok (eV_at rfl), encO_isNon]
      cases o <;> rfl
    · cases o with
      | none => cases hs
      | some x =>
        obtain ⟨b1, b2⟩ := ho x hmem
        exact call2' (eV_at rfl) (eV_at rfl) (hh x v μ b1 b2))
  have e1 : eComp [4] (tgN 4) (iE (eV 0)) (tNotN (eV 4)) (eCall C "holds" [(eV 4), (eV 1)]) [.v (.d (.lst (os.map encO))), .v (.d (encV v)), .v (.d (.int (due : Int))), .un, .un, .un, .un] μ = .ok (.d (.lst (((os.filter fun o => o.isSome).map fun o => hdO o v).map .bl))) μ := by
    rw [eComp_ok (iE_lst (ds := os.map encO) (eV_at rfl)) (by rw [List.map_map]; exact hcomp) (by rw [List.length_map]; exact Nat.le_trans (List.length_filter_le _ _) (by omega)), mkL_map fun o => D.bl (hdO o v), List.map_map]
    rfl
  rw [sq_as e1]
  simp only [List.set_cons_succ, List.set_cons_zero]
  generalize ht : (os.filter fun o => o.isSome).map (fun o => hdO o v) = t
  have hlt : t.length ≤ 1000 := by
    rw [← ht, List.length_map]; exact Nat.le_trans (List.length_filter_le _ _) hl
  have hy : (t.filter fun a => a == true).length = due := by
    rw [← hc, ← ht]
    clear ht hc ho hl hcomp e1
    induction os with
    | nil => rfl
    | cons o os ih =>
      cases o with
      | none => simpa [hdO] using ih
      | some x =>
        cases hx : hd x v <;> simp_all [hdO]
  have hn : (t.filter fun a => a == false).length + (t.filter fun a => a == true).length = t.length := by
    clear hy ht hlt
    induction t with
    | nil => rfl
    | cons b l ih => cases b <;> simp at ih ⊢ <;> omega
  rw [sq_as (tb_comp hlt), hy]
  simp only [List.set_cons_succ, List.set_cons_zero]
  refine sRet_ok ?_
  have c1 : eT (tCmp eqR (eV 5) (eV 2)) [.v (.d (.lst (os.map encO))), .v (.d (encV v)), .v (.d (.int (due : Int))), .v (.d (.lst (t.map .bl))), .un, .v (.d (.int (due : Int))), .un] μ = .ok (.d (.bl true)) μ := eT_ok ((tCmp_eqi (eV_at rfl) (eV_at rfl)).trans (by rw [decide_eq_true rfl]))
  have c2 : eT (tCmp eqR (eBi lenR [(eComp [6] (tgN 6) (iE (eV 3)) (tCmp isR (eV 6) (eC (.bl false))) (eV 6))]) (eOp subR (eBi lenR [(eV 3)]) (eV 5))) [.v (.d (.lst (os.map encO))), .v (.d (encV v)), .v (.d (.int (due : Int))), .v (.d (.lst (t.map .bl))), .un, .v (.d (.int (due : Int))), .un] μ = .ok (.d (.bl true)) μ := by
    refine eT_ok ((tCmp_eqI (tb_comp hlt) (eOp_ok (x := .d (.int (t.length : Int))) (eBi1_ok (eV_at rfl) (by rw [vw_d, lenR_lst, List.length_map])) (eV_at rfl) rfl)).trans ?_)
    rw [decide_eq_true (by omega)]
  have := eAnd_bl c1 (fun _ => c2)
  exact this
/-! #### forms -/
theorem part_same {x : Rg} (h : Bd 101 3 x) : (D.lst [enc x]).dep ≤ EqDep ∧ (D.lst [enc x]).cost ≤ SL := by
  obtain ⟨a, b⟩ := Bd.list_ok (xs := [x]) (k := 1) (Nat.le_refl _) (by intro y hy; rw [List.mem_singleton.mp hy]; exact h)
  rw [List.map_cons, List.map_nil] at a b
  constructor
  · show D.depL [enc x] + 1 ≤ 64
    omega
  · show D.costL [enc x] + 3 ≤ SL
    exact le_SL (by omega)
abbrev foE (T : Ty) (name : String) (r s : Rg) (x6 : Sl) : Env := [.v (.d (encT T)), .v (.d (.str name)), .v (.d (enc r)), .v (.d (enc s)), .v (.d (encO (cutM r s))), .v (.d (.lst ((restM T name r s).map enc))), x6]
theorem forms_spec {T : Ty} (g : GoodT T) {name : String} {r s : Rg} (h1 : Wr true T 3 name r) (h2 : Wr false T 3 name s) (n : Nat) (μ : Mem) (hn : 40 ≤ n) :
    callN P (n + 1) "_law_forms" [.d (encT T), .d (.str name), .d (enc r), .d (enc s), .d (encO (cutM r s)), .d (.lst ((restM T name r s).map enc))] μ = .ok (.d (.bl true)) μ := by
  rw [callN_run (d := f_law_forms) rfl rfl]
  have hc := (cut_both n).1
  have hlc := (lcut_both n).1
  have hcv := covered_spec g n
  have hT : ∀ name, (makersOf T name).length ≤ 1000 := fun name => by have := makersOf_le g name; omega
  have hr := (rest_both T hT n).1
  have hsm : ∀ (x : D) (μ : Mem), x.dep ≤ EqDep → x.cost ≤ SL → callN P n "_law_same" [.d x, .d x] μ = .ok (.d (.bl true)) μ := fun x μ a b => by
    obtain ⟨m, rfl⟩ : ∃ m, n = m + 1 := ⟨n - 1, by omega⟩
    exact same_spec m x μ a b
  generalize callN P n = C at hc hlc hcv hr hsm ⊢
  refine runB_rt (μ' := μ) ?_ rfl
  simp only [f_law_forms, List.map_cons, List.map_nil, List.length_cons, List.length_nil, Nat.reduceAdd, Nat.reduceSub, List.replicate_succ, List.replicate_zero, List.cons_append, List.nil_append]
  have a1 := (h1.bd g).hgt
  have a2 := (h2.bd g).hgt
  have b1 := h1.bd g
  have b2 := h2.bd g
  have c1 : tOr (tCmp neR (eT (tIsN (eV 4))) (eT (tIsN (eCall C "_law_cut" [(eV 2), (eV 3)])))) (tNot (tE (eBi (isinR "list") [(eV 5)]))) (foE T name r s .un) μ = .ok false μ := by
    have x1 := ne_bl (eT_ok (tIsN_ok (eV_at (i := 4) (ρ := foE T name r s .un) (μ := μ) rfl))) (eT_ok (tIsN_ok (call2' (C := C) (f := "_law_cut") (eV_at (i := 2) (ρ := foE T name r s .un) (μ := μ) rfl) (eV_at (i := 3) rfl) (hlc r s μ (Wr.al g h1 h2) (by omega)))))
    have x2 : tNot (tE (eBi (isinR "list") [(eV 5)])) (foE T name r s .un) μ = .ok false μ := tNot_ok (b := true) (tE_bl (eBi1_ok (eV_at rfl) rfl))
    have := tOr_pure x1 x2
    rw [beq_self_eq_true] at this
    exact this
  have c2 : tCmp neR (eT (tCmp eqR (eBi lenR [(eV 5)]) (eC (.int 0)))) (eCall C "_law_covered" [(eV 0), (eV 1), (eV 2), (eV 3)]) (foE T name r s .un) μ = .ok false μ := by
    have x1 := ne_bl (eT_ok (tCmp_eqi (y := 0) (eBi1_ok (f := lenR) (eV_at (i := 5) (ρ := foE T name r s .un) (μ := μ) rfl) (by rw [vw_d, lenR_lst, List.length_map])) eC_ok)) (call4 (C := C) (f := "_law_covered") (eV_at (i := 0) rfl) (eV_at (i := 1) rfl) (eV_at (i := 2) rfl) (eV_at (i := 3) rfl) (hcv 3 name r s μ h1 h2 (by omega)))
    have : (decide ((restM T name r s).length = 0) == covM T name r s) = true := by
      have := cov_ok g h1 h2
      rw [← List.length_eq_zero_iff] at this
      rw [beq_iff_eq, Bool.eq_iff_iff, decide_eq_true_eq]
      exact this
    rw [this] at x1
    exact x1
  have c3 : tAnd (tNotN (eV 4)) (tNot (tE (eCall C "_law_same" [(eCall C "cut" [(eV 4), (eV 3)]), (eV 4)]))) (foE T name r s .un) μ = .ok false μ := by
    have x1 := tNotN_ok (eV_at (i := 4) (ρ := foE T name r s .un) (μ := μ) (r := .d (encO (cutM r s))) rfl)
    rw [encO_isNon] at x1
    cases hx : cutM r s with
    | none =>
      rw [hx] at x1
      unfold tAnd
      rw [show tNotN (eV 4) (foE T name r s .un) μ = .ok false μ from x1]
      rfl
    | some x =>
      have h4 := cut_wr g h1 h2 hx
      have a3 := (h4.bd g).hgt
      have e4 : eV 4 (foE T name r s .un) μ = .ok (.d (enc x)) μ := by rw [eV_at rfl, hx]; rfl
      obtain ⟨q1, q2⟩ := Bd.encO_ok (d := 3) (o := some x) (by omega) (fun y hy => by obtain rfl := Option.some.inj hy; exact (h4.bd g).mono (by omega))
      have e5 : eCall C "cut" [(eV 4), (eV 3)] (foE T name r s .un) μ = .ok (.d (enc x)) μ := call2' e4 (eV_at rfl) (by rw [hc x s μ (Wr.al g h4 h2) (by omega), cut_idem g h1 h2 hx]; rfl)
      have x2 : tNot (tE (eCall C "_law_same" [(eCall C "cut" [(eV 4), (eV 3)]), (eV 4)])) (foE T name r s .un) μ = .ok false μ := tNot_ok (b := true) (tE_bl (call2' e5 e4 (hsm _ μ q1 q2)))
      have := tAnd_ok x1 x2
      rw [Bool.and_false] at this
      exact this
  rw [sq_if_f c1, sq_if_f c2, sq_if_f c3]
  obtain ⟨ρ', ⟨x6, rfl⟩, hl⟩ := forL_inv (t := tgN 6) (b := (sIf (tOr (tNotN (eCall C "cut" [(eV 6), (eV 3)])) (tNot (tE (eCall C "_law_same" [(eCall C "rest" [(eV 0), (eV 1), (eV 6), (eV 3)]), (eLst [(eV 6)])])))) (sRet (eC (.bl false))) sNil)) (μ := μ)
    (fun _ ρ => ∃ x6, ρ = foE T name r s x6) (xs := ((restM T name r s).map enc).map .d) (k := 0) (ρ := foE T name r s .un) ⟨_, rfl⟩ (by
      rintro i y ρ hy ⟨x6, rfl⟩
      rw [List.getElem?_map, List.getElem?_map] at hy
      obtain ⟨z, hz, rfl⟩ := Option.map_eq_some_iff.mp hy
      obtain ⟨x, hx, rfl⟩ := Option.map_eq_some_iff.mp hz
      have hmem := List.mem_of_getElem? hx
      obtain ⟨p1, p2, p3⟩ := rest_part g h1 h2 x hmem
      have a3 := (p1.bd g).hgt
      have hb : Bd 101 3 x := (p1.bd g).mono (by omega)
      obtain ⟨q1, q2⟩ := part_same hb
      have hw := (h2.bd g).wt
      have hw2 : wt s ≤ 1000 := by omega
      refine ⟨foE T name r s (.v (.d (enc x))), by simp only [tgN, List.set_cons_succ, List.set_cons_zero], foE T name r s (.v (.d (enc x))), ⟨_, rfl⟩, ?_⟩
      have e6 : eCall C "cut" [(eV 6), (eV 3)] (foE T name r s (.v (.d (enc x)))) μ = .ok (.d .non) μ := call2' (eV_at rfl) (eV_at rfl) (by rw [hc x s μ (Wr.al g p1 h2) (by omega), p2]; rfl)
      have e7 : eCall C "rest" [(eV 0), (eV 1), (eV 6), (eV 3)] (foE T name r s (.v (.d (enc x)))) μ = .ok (.d (.lst [enc x])) μ := call4 (eV_at rfl) (eV_at rfl) (eV_at rfl) (eV_at rfl) (by rw [hr name x s μ (Wr.rt g p1 h2) hw2 (by omega), p3]; rfl)
      have e8 : eLst [(eV 6)] (foE T name r s (.v (.d (enc x)))) μ = .ok (.d (.lst [enc x])) μ := by
        unfold eLst
        rw [evs_cons, eV_at rfl, bind_ok, evs_nil, bind_ok, bind_ok]
        rfl
      have x2 : tNot (tE (eCall C "_law_same" [(eCall C "rest" [(eV 0), (eV 1), (eV 6), (eV 3)]), (eLst [(eV 6)])])) (foE T name r s (.v (.d (enc x)))) μ = .ok false μ := tNot_ok (b := true) (tE_bl (call2' e7 e8 (hsm _ μ q1 q2)))
      rw [sIf_f (tOr_pure (tNotN_ok e6) x2)]
      exact sNil_ok)
  rw [sq_nx (sFor_rt (iE_lst (ds := (restM T name r s).map enc) (eV_at rfl)) hl)]
  exact sRet_ok eC_ok
end K09
end

section
set_option maxHeartbeats 0
set_option linter.all false
set_option maxRecDepth 100000
namespace K09
open Ev
/-! ### the law -/
def inner (C : Fn) : S := (sq (sAs (tgN 15) (eCall C "_law_within" [(eV 1), (eV 2), (eV 3), (eV 5), (eIdx (eLst [(eTup [(eC (.str "any"))]), (eV 7), (eV 8)]) (eOp modR (eV 14) (eC (.int 3))))]))
  (sq (sAs (tgN 16) (eCall C "_law_holds" [(eV 7), (eV 15)]))
  (sq (sAs (tgN 17) (eCall C "_law_holds" [(eV 8), (eV 15)]))
  (sq (sIf (tOr (tNot (tE (eCall C "_law_held" [(eLst [(eV 7)]), (eV 15), (eBi intR [(eV 16)])]))) (tNot (tE (eCall C "_law_held" [(eLst [(eV 10)]), (eV 15), (eBi intR [(eAnd (eV 16) (eV 17))])])))) (sRet (eC (.bl false))) sNil)
  (sq (sIf (tNot (tE (eCall C "_law_held" [(eV 11), (eV 15), (eBi intR [(eAnd (eV 16) (eNot (eV 17)))])]))) (sRet (eC (.bl false))) sNil)
  (sIf (tNot (tE (eCall C "_law_held" [(eV 12), (eV 15), (eOp mulR (eC (.int 2)) (eBi intR [(eAnd (eV 16) (eAnd (eV 17) (eCall C "_law_holds" [(eV 9), (eV 15)])))]))]))) (sRet (eC (.bl false))) sNil))))))
def tbody (C : Fn) : S := (sq (sAs (tgN 5) (eIdx (eOp addR (eLst [(eC (.str "Int"))]) (eOp mulR (eComp [6] (tgN 6) (iE (eV 2)) tYes (eIdx (eV 6) (eC (.int 0)))) (eC (.int 3)))) (eOp modR (eBi intR [(eCall C "_law_draw" [(eV 1), (eC (.int 90))])]) (eOp addR (eC (.int 1)) (eOp mulR (eC (.int 3)) (eBi lenR [(eV 2)]))))))
  (sq (sAs (tgN 7) (eCall C "_law_region" [(eV 1), (eV 2), (eV 5), (eC (.int 3))]))
  (sq (sAs (tgN 8) (eCall C "_law_plain_simple" [(eV 1), (eV 2), (eV 5), (eC (.int 3))]))
  (sq (sAs (tgN 9) (eCall C "_law_plain_simple" [(eV 1), (eV 2), (eV 5), (eC (.int 3))]))
  (sq (sAs (tgN 10) (eCall C "cut" [(eV 7), (eV 8)]))
  (sq (sAs (tgN 11) (eCall C "rest" [(eV 2), (eV 5), (eV 7), (eV 8)]))
  (sq (sAs (tgN 12) (eLst [(eCall C "_law_twice" [(eV 7), (eV 8), (eV 9)]), (eCall C "_law_twice" [(eV 7), (eV 9), (eV 8)])]))
  (sq (sIf (tNot (tE (eCall C "_law_forms" [(eV 2), (eV 5), (eV 7), (eV 8), (eV 10), (eV 11)]))) (sRet (eC (.bl false))) sNil)
  (sq (sIf (tCmp neR (eComp [13] (tgN 13) (iE (eV 12)) tYes (eT (tNotN (eV 13)))) (eOp mulR (eLst [(eCall C "_law_due_twice" [(eV 7), (eV 8), (eV 9)])]) (eC (.int 2)))) (sRet (eC (.bl false))) sNil)
  (sFor (tgN 14) (iRange1 (eC (.int 9)))
  (inner C)))))))))))
theorem body_eq (C : Fn) : f_law_10.body C = 
  (sq (sCell 1 (eLst [(eCall C "_law_digits" [(eV 0), (eC (.int 0)), (eC (.int 50))]), (eC (.int 0))]))
  (sq (sAs (tgN 2) (eCall C "_law_types" [(eV 1)]))
  (sq (sAs (tgN 3) (eCall C "_law_heights" [(eV 2)]))
  (sq (sFor (tgN 4) (iRange1 (eC (.int 4)))
  (tbody C))
  (sRet (eC (.bl true))))))) := rfl
theorem Wr_wh {fl : Bool} {T : Ty} : ∀ {d : Nat} {name : String} {r : Rg}, Wr fl T d name r → wh r ≤ d + 1
  | d, _, .any, _ => by simp [wh]
  | d, _, .rng _ _, _ => by simp [wh]
  | d, _, .nt _, _ => by simp [wh]
  | d, name, .mk c ps, h => by
    obtain ⟨d', rfl, _, fs, _, l1, f1⟩ := h.mk
    have : ∀ (qs : List Rg), (∀ q ∈ qs, wh q ≤ d' + 1) → whL qs ≤ d' + 1 := fun qs => by
      induction qs with
      | nil => intro _; simp [whL]
      | cons q qs ih =>
        intro hq
        have a := hq q (by simp)
        have b := ih fun x hx => hq x (List.mem_cons_of_mem _ hx)
        simp only [whL]; omega
    have := this ps fun q hq => by
      obtain ⟨i, hi⟩ := List.getElem?_of_mem hq
      have hl := (List.getElem?_eq_some_iff.mp hi).1
      exact Wr_wh (f1 i (fs[i]'(by omega)) q (by simp) hi)
    simp only [wh]; omega
abbrev lE (x0 : Sl) (T : Ty) (kvs : List (Ky × R)) (x4 x5 x6 x7 x8 x9 x10 x11 x12 x13 x14 x15 x16 x17 : Sl) : Env := [x0, .v (.p 0), .v (.d (encT T)), .v (.dic kvs), x4, x5, x6, x7, x8, x9, x10, x11, x12, x13, x14, x15, x16, x17]
abbrev iE' (x0 : Sl) (T : Ty) (kvs : List (Ky × R)) (x4 : Sl) (name : String) (x6 : Sl) (r s o : Rg) (x13 x14 x15 x16 x17 : Sl) : Env :=
  lE x0 T kvs x4 (.v (.d (.str name))) x6 (.v (.d (enc r))) (.v (.d (enc s))) (.v (.d (enc o))) (.v (.d (encO (cutM r s)))) (.v (.d (.lst ((restM T name r s).map enc)))) (.v (.d (.lst ([cut2 r s o, cut2 r o s].map encO)))) x13 x14 x15 x16 x17
structure Tn (C : Fn) (T : Ty) (kvs : List (Ky × R)) (digs : List Int) (name : String) (r s o : Rg) : Prop where
  wr : Wr true T 3 name r
  ws : Wr false T 3 name s
  wo : Wr false T 3 name o
  within : ∀ (f : Rg) (k : Nat), Wr true T 3 name f → ∃ (v : Vl) (k' : Nat), Wv T 10 name v ∧ C "_law_within" [.p 0, .d (encT T), .dic kvs, .d (.str name), .d (enc f)] (Bx digs k) = .ok (.d (encV v)) (Bx digs k')
  holds : ∀ (q : Rg) (v : Vl) (μ : Mem), Wr true T 3 name q → Wv T 10 name v → C "_law_holds" [.d (enc q), .d (encV v)] μ = .ok (.d (.bl (hd q v))) μ
  held : ∀ (os : List (Option Rg)) (v : Vl) (due : Nat) (μ : Mem), os.length ≤ 1000 → (∀ x, some x ∈ os → Wr true T 3 name x) → Wv T 10 name v → os.countP (fun o => hdO o v) = due → C "_law_held" [.d (.lst (os.map encO)), .d (encV v), .d (.int (due : Int))] μ = .ok (.d (.bl true)) μ
  cut : ∀ μ, C "cut" [.d (enc r), .d (enc s)] μ = .ok (.d (encO (cutM r s))) μ
  rest : ∀ μ, C "rest" [.d (encT T), .d (.str name), .d (enc r), .d (enc s)] μ = .ok (.d (.lst ((restM T name r s).map enc))) μ
  twice : ∀ μ, C "_law_twice" [.d (enc r), .d (enc s), .d (enc o)] μ = .ok (.d (encO (cut2 r s o))) μ
  twice2 : ∀ μ, C "_law_twice" [.d (enc r), .d (enc o), .d (enc s)] μ = .ok (.d (encO (cut2 r o s))) μ
  due : ∀ μ, C "_law_due_twice" [.d (enc r), .d (enc s), .d (enc o)] μ = .ok (.d (.bl (cut2 r s o).isSome)) μ
  comm : (cut2 r s o).isSome = (cut2 r o s).isSome
  forms : ∀ μ, C "_law_forms" [.d (encT T), .d (.str name), .d (enc r), .d (enc s), .d (encO (cutM r s)), .d (.lst ((restM T name r s).map enc))] μ = .ok (.d (.bl true)) μ
  short : (restM T name r s).length ≤ 1000
theorem int_bl {b : Bool} {e : E} {ρ : Env} {μ : Mem} (h : e ρ μ = .ok (.d (.bl b)) μ) : eBi intR [e] ρ μ = .ok (.d (.int ((b.toNat : Nat) : Int))) μ :=
  eBi1_ok h (by rw [vw_d, intR_bl]; cases b <;> rfl)
theorem int_bl2 {b : Bool} {e : E} {ρ : Env} {μ : Mem} (h : e ρ μ = .ok (.d (.bl b)) μ) : eOp mulR (eC (.int 2)) (eBi intR [e]) ρ μ = .ok (.d (.int ((b.toNat + b.toNat : Nat) : Int))) μ :=
  eOp_ok eC_ok (int_bl h) (by rw [vw_d, vw_d, mulR_l (by decide)]; cases b <;> rfl)
theorem cut2_wr {T : Ty} (g : GoodT T) {d : Nat} {name : String} {r s o x : Rg} (h1 : Wr true T d name r) (h2 : Wr false T d name s) (h3 : Wr false T d name o) (h : cut2 r s o = some x) : Wr true T d name x := by
  unfold cut2 at h
  obtain ⟨y, h4, h5⟩ := Option.bind_eq_some_iff.mp h
  exact cut_wr g (cut_wr g h1 h2 h4) h3 h5
theorem inner_ok {C : Fn} {T : Ty} {kvs : List (Ky × R)} {digs : List Int} {name : String} {r s o : Rg} (g : GoodT T) (t : Tn C T kvs digs name r s o) {x0 x4 x6 x13 x15 x16 x17 : Sl} {k i : Nat} :
    ∃ (y15 y16 y17 : Sl) (k' : Nat), inner C (iE' x0 T kvs x4 name x6 r s o x13 (.v (.d (.int (i : Int)))) x15 x16 x17) (Bx digs k) = .ok (.nx (iE' x0 T kvs x4 name x6 r s o x13 (.v (.d (.int (i : Int)))) y15 y16 y17)) (Bx digs k') := by
  obtain ⟨f, hf, ef⟩ : ∃ f, Wr true T 3 name f ∧ eIdx (eLst [(eTup [(eC (.str "any"))]), (eV 7), (eV 8)]) (eOp modR (eV 14) (eC (.int 3))) (iE' x0 T kvs x4 name x6 r s o x13 (.v (.d (.int (i : Int)))) x15 x16 x17) (Bx digs k) = .ok (.d (enc f)) (Bx digs k) := by
    have e1 : eLst [(eTup [(eC (.str "any"))]), (eV 7), (eV 8)] (iE' x0 T kvs x4 name x6 r s o x13 (.v (.d (.int (i : Int)))) x15 x16 x17) (Bx digs k) = .ok (.d (.lst [enc .any, enc r, enc s])) (Bx digs k) := by
      have et : ∀ ρ : Env, eTup [(eC (.str "any"))] ρ (Bx digs k) = .ok (.d (enc .any)) (Bx digs k) := fun ρ => by
        unfold eTup
        rw [evs_cons, eC_ok, bind_ok, evs_nil, bind_ok, bind_ok]
        simp [enc]
      unfold eLst
      rw [evs_cons, et, bind_ok, evs_cons, eV_at rfl, bind_ok, evs_cons, eV_at rfl, bind_ok, evs_nil, bind_ok, bind_ok, bind_ok, bind_ok]
      simp
    have e2 : eOp modR (eV 14) (eC (.int 3)) (iE' x0 T kvs x4 name x6 r s o x13 (.v (.d (.int (i : Int)))) x15 x16 x17) (Bx digs k) = .ok (.d (.int ((i % 3 : Nat) : Int))) (Bx digs k) := eOp_ok (eV_at rfl) eC_ok (modR_ok (by omega))
    have h3 : i % 3 < 3 := Nat.mod_lt _ (by omega)
    rcases hm : i % 3 with _ | _ | _ | m
    · exact ⟨.any, Wr.any, ixl_ok e1 e2 (by rw [hm]; rfl)⟩
    · exact ⟨r, t.wr, ixl_ok e1 e2 (by rw [hm]; rfl)⟩
    · exact ⟨s, t.ws.up, ixl_ok e1 e2 (by rw [hm]; rfl)⟩
    · omega
  obtain ⟨v, k1, v1, v2⟩ := t.within f k hf
  refine ⟨.v (.d (encV v)), .v (.d (.bl (hd r v))), .v (.d (.bl (hd s v))), k1, ?_⟩
  unfold inner
  rw [sq_as (call5 (eV_at rfl) (eV_at rfl) (eV_at rfl) (eV_at rfl) ef v2)]
  simp only [lE, List.set_cons_succ, List.set_cons_zero]
  rw [sq_as (call2' (eV_at rfl) (eV_at rfl) (t.holds r v _ t.wr v1))]
  simp only [lE, List.set_cons_succ, List.set_cons_zero]
  rw [sq_as (call2' (eV_at rfl) (eV_at rfl) (t.holds s v _ t.ws.up v1))]
  simp only [lE, List.set_cons_succ, List.set_cons_zero]
  generalize hρ : ([x0, .v (.p 0), .v (.d (encT T)), .v (.dic kvs), x4, .v (.d (.str name)), x6, .v (.d (enc r)), .v (.d (enc s)), .v (.d (enc o)), .v (.d (encO (cutM r s))), .v (.d (.lst ((restM T name r s).map enc))), .v (.d (.lst ([cut2 r s o, cut2 r o s].map encO))), x13, .v (.d (.int (i : Int))), .v (.d (encV v)), .v (.d (.bl (hd r v))), .v (.d (.bl (hd s v)))] : Env) = ρ
  have q7 : eV 7 ρ (Bx digs k1) = .ok (.d (enc r)) (Bx digs k1) := by rw [← hρ]; exact eV_at rfl
  have q9 : eV 9 ρ (Bx digs k1) = .ok (.d (enc o)) (Bx digs k1) := by rw [← hρ]; exact eV_at rfl
  have q10 : eV 10 ρ (Bx digs k1) = .ok (.d (encO (cutM r s))) (Bx digs k1) := by rw [← hρ]; exact eV_at rfl
  have q11 : eV 11 ρ (Bx digs k1) = .ok (.d (.lst ((restM T name r s).map enc))) (Bx digs k1) := by rw [← hρ]; exact eV_at rfl
  have q12 : eV 12 ρ (Bx digs k1) = .ok (.d (.lst ([cut2 r s o, cut2 r o s].map encO))) (Bx digs k1) := by rw [← hρ]; exact eV_at rfl
  have q15 : eV 15 ρ (Bx digs k1) = .ok (.d (encV v)) (Bx digs k1) := by rw [← hρ]; exact eV_at rfl
  have q16 : eV 16 ρ (Bx digs k1) = .ok (.d (.bl (hd r v))) (Bx digs k1) := by rw [← hρ]; exact eV_at rfl
  have q17 : eV 17 ρ (Bx digs k1) = .ok (.d (.bl (hd s v))) (Bx digs k1) := by rw [← hρ]; exact eV_at rfl
  have one : ∀ {e : E} {x : D}, e ρ (Bx digs k1) = .ok (.d x) (Bx digs k1) → eLst [e] ρ (Bx digs k1) = .ok (.d (.lst [x])) (Bx digs k1) := fun {e x} h => by
    unfold eLst
    rw [evs_cons, h, bind_ok, evs_nil, bind_ok, bind_ok]
    simp
  have h1 : tOr (tNot (tE (eCall C "_law_held" [(eLst [(eV 7)]), (eV 15), (eBi intR [(eV 16)])]))) (tNot (tE (eCall C "_law_held" [(eLst [(eV 10)]), (eV 15), (eBi intR [(eAnd (eV 16) (eV 17))])]))) ρ (Bx digs k1) = .ok false (Bx digs k1) := by
    have a := tNot_ok (tE_bl (call3 (one q7) q15 (int_bl q16) (t.held [some r] v _ (Bx digs k1) (by simp) (by simp; exact t.wr) v1 (countP_one (some r) fun o => hdO o v))))
    have b := tNot_ok (tE_bl (call3 (one q10) q15 (int_bl (eAnd_bl q16 fun _ => q17)) (t.held [cutM r s] v _ (Bx digs k1) (by simp) (fun x hx => cut_wr g t.wr t.ws (List.mem_singleton.mp hx).symm) v1 ((countP_one (cutM r s) fun o => hdO o v).trans (by rw [cut_look g t.wr t.ws v1])))))
    exact tOr_pure a b
  have h2 : tNot (tE (eCall C "_law_held" [(eV 11), (eV 15), (eBi intR [(eAnd (eV 16) (eNot (eV 17)))])])) ρ (Bx digs k1) = .ok false (Bx digs k1) := by
    have hm : (restM T name r s).map enc = ((restM T name r s).map some).map encO := by rw [List.map_map]; rfl
    rw [hm] at q11
    refine tNot_ok (b := true) (tE_bl (call3 q11 q15 (int_bl (eAnd_bl q16 fun _ => eNot_bl q17)) (t.held ((restM T name r s).map some) v _ (Bx digs k1) (by rw [List.length_map]; exact t.short) (fun x hx => ?_) v1 ?_)))
    · obtain ⟨y, hy, hxy⟩ := List.mem_map.mp hx
      obtain rfl := Option.some.inj hxy
      exact (rest_part g t.wr t.ws y hy).1
    · rw [List.countP_map]
      exact (rest_hd g t.wr t.ws v1).2
  have h3 : tNot (tE (eCall C "_law_held" [(eV 12), (eV 15), (eOp mulR (eC (.int 2)) (eBi intR [(eAnd (eV 16) (eAnd (eV 17) (eCall C "_law_holds" [(eV 9), (eV 15)])))]))])) ρ (Bx digs k1) = .ok false (Bx digs k1) := by
    refine tNot_ok (b := true) (tE_bl (call3 q12 q15 (int_bl2 (eAnd_bl q16 fun _ => eAnd_bl q17 fun _ => call2' q9 q15 (t.holds o v _ t.wo.up v1))) (t.held [cut2 r s o, cut2 r o s] v _ (Bx digs k1) (by simp) (fun x hx => ?_) v1 ?_)))
    · rcases List.mem_cons.mp hx with hx | hx
      · exact cut2_wr g t.wr t.ws t.wo hx.symm
      · exact cut2_wr g t.wr t.wo t.ws (List.mem_singleton.mp hx).symm
    · have a := cut2_look g t.wr t.ws t.wo v1
      have b := cut2_look g t.wr t.wo t.ws v1
      rw [List.countP_cons, countP_one, a, b]
      cases hd r v <;> cases hd s v <;> cases hd o v <;> rfl
  rw [sq_if_f h1, sq_if_f h2, sIf_f h3, ← hρ]
  exact sNil_ok
theorem rows_ok {T : Ty} {x0 x3 x4 x5 x6 x7 x8 x9 x10 x11 x12 x13 x14 x15 x16 x17 : Sl} {μ : Mem} (hT : T.length ≤ 1000) :
    eComp [6] (tgN 6) (iE (eV 2)) tYes (eIdx (eV 6) (eC (.int 0))) [x0, .v (.p 0), .v (.d (encT T)), x3, x4, x5, x6, x7, x8, x9, x10, x11, x12, x13, x14, x15, x16, x17] μ = .ok (.d (.lst (T.map fun r => .str r.1))) μ := by
  have hcomp : compL (tgN 6) tYes (eIdx (eV 6) (eC (.int 0))) ((T.map encRow).map .d) [x0, .v (.p 0), .v (.d (encT T)), x3, x4, x5, .un, x7, x8, x9, x10, x11, x12, x13, x14, x15, x16, x17] μ = .ok (T.map fun r => .d (.str r.1)) μ := by
    refine compL_map (by simp) fun i x y hx hy => ?_
    rw [List.getElem?_map, List.getElem?_map] at hx
    rw [List.getElem?_map] at hy
    obtain ⟨g, hg, hx⟩ := Option.map_eq_some_iff.mp hx
    obtain ⟨row, hr, hg⟩ := Option.map_eq_some_iff.mp hg
    rw [hr] at hy
    cases hy
    subst hx hg
    refine ⟨_, by simp only [tgN, List.set_cons_succ, List.set_cons_zero]; rfl, by simp [tYes], ?_⟩
    simp [eV, eB, vw_d, vw_scr, vw_ls, vw_dic, eBi, evs_nil, evs_cons, lift, eIdx, eOp, eC, tCmp, eTup, eLst, valsR_nil, valsR_cons, tAnd, tOr, tNot, tE, eT, eIf, eCall, tIsN, tNotN, eNeg, eSlc, oN, oE, EqDep, eqD, D.dep, D.depL, encRow]
  rw [eComp_ok (iE_tup (ds := T.map encRow) (eV_at rfl)) hcomp (by rw [List.length_map]; omega)]
  rw [mkL_map (fun r : String × List Mk => D.str r.1)]
/-- the name of a turn -/
theorem name_draw {C : Fn} (hC : Draws C) {T : Ty} (g : GoodT T) {kvs : List (Ky × R)} {digs : List Int} {k : Nat} {x0 x4 x5 x6 x7 x8 x9 x10 x11 x12 x13 x14 x15 x16 x17 : Sl} :
    ∃ (name : String) (k' : Nat), TyNm T name ∧ eIdx (eOp addR (eLst [(eC (.str "Int"))]) (eOp mulR (eComp [6] (tgN 6) (iE (eV 2)) tYes (eIdx (eV 6) (eC (.int 0)))) (eC (.int 3)))) (eOp modR (eBi intR [(eCall C "_law_draw" [(eV 1), (eC (.int 90))])]) (eOp addR (eC (.int 1)) (eOp mulR (eC (.int 3)) (eBi lenR [(eV 2)])))) (lE x0 T kvs x4 x5 x6 x7 x8 x9 x10 x11 x12 x13 x14 x15 x16 x17) (Bx digs k) = .ok (.d (.str name)) (Bx digs k') := by
  have hTl : T.length ≤ 3 := by obtain ⟨kk, a, b, c, d⟩ := g; omega
  have hTy : ∀ x ∈ "Int" :: (T.map (·.1) ++ T.map (·.1) ++ T.map (·.1)), TyNm T x := by
    intro x hx
    rcases List.mem_cons.mp hx with rfl | hx
    · exact .inl rfl
    · have hx : x ∈ T.map (·.1) := by simpa using hx
      obtain ⟨row, hrow, rfl⟩ := List.mem_map.mp hx
      obtain ⟨i, hi, hr⟩ := List.mem_iff_getElem.mp hrow
      obtain ⟨kk, a, b, c, d⟩ := g
      obtain ⟨nm, n1, n2⟩ := d i row (by rw [List.getElem?_eq_getElem hi, hr])
      exact .inr ⟨i, hi, by rw [n2.1]; exact n1⟩
  have e3 : eOp addR (eLst [(eC (.str "Int"))]) (eOp mulR (eComp [6] (tgN 6) (iE (eV 2)) tYes (eIdx (eV 6) (eC (.int 0)))) (eC (.int 3))) (lE x0 T kvs x4 x5 x6 x7 x8 x9 x10 x11 x12 x13 x14 x15 x16 x17) (Bx digs k) = .ok (.d (.lst (("Int" :: (T.map (·.1) ++ T.map (·.1) ++ T.map (·.1))).map .str))) (Bx digs k) := by
    refine eOp_ok (x := .d (.lst [.str "Int"])) (by simp [eLst, evs_cons, evs_nil, eC]) (eOp_ok (z := .d (.lst ((T.map (·.1) ++ T.map (·.1) ++ T.map (·.1)).map .str))) (rows_ok (by omega)) eC_ok ?_) ?_
    · rw [vw_d, vw_d]
      show (if small 3 && decide (-9223372036854775808 ≤ (3 : Int)) && decide ((3 : Int) < 9223372036854775808) && decide ((T.map fun r => D.str r.1).length * (3 : Int).toNat ≤ SL) then some (R.d (.lst (List.replicate (3 : Int).toNat (T.map fun r => D.str r.1)).flatten)) else none) = _
      have hsl : decide ((T.map fun r => D.str r.1).length * (3 : Int).toNat ≤ SL) = true := by
        rw [List.length_map, decide_eq_true_eq]
        refine le_SL ?_
        show T.length * 3 ≤ _
        omega
      rw [hsl, if_pos (by decide)]
      show some (R.d (.lst (List.replicate 3 (T.map fun r => D.str r.1)).flatten)) = _
      simp [List.replicate_succ]
      rfl
    · rw [vw_d, vw_d]
      simp [addR]
      exact le_SL (by omega)
  generalize hpl : "Int" :: (T.map (·.1) ++ T.map (·.1) ++ T.map (·.1)) = pl at hTy e3
  have hlen : pl.length = 1 + 3 * T.length := by rw [← hpl]; simp; omega
  obtain ⟨v, hv, h1⟩ := hC digs k 90 (by omega)
  have hlt : v % (1 + 3 * T.length) < pl.length := by rw [hlen]; exact Nat.mod_lt _ (by omega)
  refine ⟨pl[v % (1 + 3 * T.length)], k + 1, hTy _ (List.getElem_mem hlt), ?_⟩
  refine ixl_ok e3 (k := v % (1 + 3 * T.length)) (eOp_ok (eBi1_ok (eDraw rfl h1) rfl) (eOp_ok eC_ok (eOp_ok eC_ok (eBi1_ok (eV_at rfl) (z := .d (.int (T.length : Int))) (by rw [vw_d, encT, lenR_tup, List.length_map])) (mulR_l (by decide))) rfl) ?_) (by rw [List.getElem?_map, List.getElem?_eq_getElem hlt]; rfl)
  rw [vw_d, vw_d, modR_ok (by omega)]
  congr 3
theorem turn_spec {C : Fn} {T : Ty} {kvs : List (Ky × R)} (g : GoodT T) (hC : Draws C) {digs : List Int}
    (hR : ∀ (k : Nat) (x : String), TyNm T x → ∃ (r : Rg) (k' : Nat), Wr true T 3 x r ∧ C "_law_region" [.p 0, .d (encT T), .d (.str x), .d (.int 3)] (Bx digs k) = .ok (.d (enc r)) (Bx digs k'))
    (hS : ∀ (k : Nat) (x : String), TyNm T x → ∃ (r : Rg) (k' : Nat), Wr false T 3 x r ∧ C "_law_plain_simple" [.p 0, .d (encT T), .d (.str x), .d (.int 3)] (Bx digs k) = .ok (.d (enc r)) (Bx digs k'))
    (hT : ∀ (name : String) (r s o : Rg), TyNm T name → Wr true T 3 name r → Wr false T 3 name s → Wr false T 3 name o → Tn C T kvs digs name r s o)
    {x0 x4 x5 x6 x7 x8 x9 x10 x11 x12 x13 x14 x15 x16 x17 : Sl} {k : Nat} :
    ∃ (y5 y7 y8 y9 y10 y11 y12 y14 y15 y16 y17 : Sl) (k' : Nat), tbody C (lE x0 T kvs x4 x5 x6 x7 x8 x9 x10 x11 x12 x13 x14 x15 x16 x17) (Bx digs k) = .ok (.nx (lE x0 T kvs x4 y5 x6 y7 y8 y9 y10 y11 y12 x13 y14 y15 y16 y17)) (Bx digs k') := by
  obtain ⟨name, k1, n1, n2⟩ := name_draw hC g (kvs := kvs) (digs := digs) (k := k) (x0 := x0) (x4 := x4) (x5 := x5) (x6 := x6) (x7 := x7) (x8 := x8) (x9 := x9) (x10 := x10) (x11 := x11) (x12 := x12) (x13 := x13) (x14 := x14) (x15 := x15) (x16 := x16) (x17 := x17)
  obtain ⟨r, k2, r1, r2⟩ := hR k1 name n1
  obtain ⟨s, k3, s1, s2⟩ := hS k2 name n1
  obtain ⟨o, k4, o1, o2⟩ := hS k3 name n1
  have t := hT name r s o n1 r1 s1 o1
  obtain ⟨ρ', μ', ⟨y14, y15, y16, y17, k5, rfl, rfl⟩, hl⟩ := forL_invM (t := tgN 14) (b := inner C)
    (fun _ ρ μ => ∃ (y14 y15 y16 y17 : Sl) (k' : Nat), ρ = iE' x0 T kvs x4 name x6 r s o x13 y14 y15 y16 y17 ∧ μ = Bx digs k')
    (xs := rangeF 0 9) (k := 0) (ρ := iE' x0 T kvs x4 name x6 r s o x13 x14 x15 x16 x17) (μ := Bx digs k4) ⟨_, _, _, _, k4, rfl, rfl⟩ (by
      rintro i x ρ μ hx ⟨y14, y15, y16, y17, k', rfl, rfl⟩
      have hi : i < 9 := by
        have := (List.getElem?_eq_some_iff.mp hx).1
        simpa using this
      rw [getElem_rangeF 9 0 i hi] at hx
      have hx := (Option.some.inj hx).symm
      rw [Int.zero_add] at hx
      subst hx
      refine ⟨iE' x0 T kvs x4 name x6 r s o x13 (.v (.d (.int (i : Int)))) y15 y16 y17, by simp only [tgN, lE, List.set_cons_succ, List.set_cons_zero], ?_⟩
      obtain ⟨z15, z16, z17, k6, h⟩ := inner_ok g t (x0 := x0) (x4 := x4) (x6 := x6) (x13 := x13) (x15 := y15) (x16 := y16) (x17 := y17) (k := k') (i := i)
      exact ⟨_, _, ⟨_, _, _, _, k6, rfl, rfl⟩, h⟩)
  refine ⟨.v (.d (.str name)), .v (.d (enc r)), .v (.d (enc s)), .v (.d (enc o)), .v (.d (encO (cutM r s))), .v (.d (.lst ((restM T name r s).map enc))), .v (.d (.lst ([cut2 r s o, cut2 r o s].map encO))), y14, y15, y16, y17, k5, ?_⟩
  unfold tbody
  rw [sq_as n2]
  simp only [lE, List.set_cons_succ, List.set_cons_zero]
  rw [sq_as (call4 (eV_at rfl) (eV_at rfl) (eV_at rfl) (eC_ok (x := .int 3)) r2)]
  simp only [lE, List.set_cons_succ, List.set_cons_zero]
  rw [sq_as (call4 (eV_at rfl) (eV_at rfl) (eV_at rfl) (eC_ok (x := .int 3)) s2)]
  simp only [lE, List.set_cons_succ, List.set_cons_zero]
  rw [sq_as (call4 (eV_at rfl) (eV_at rfl) (eV_at rfl) (eC_ok (x := .int 3)) o2)]
  simp only [lE, List.set_cons_succ, List.set_cons_zero]
  rw [sq_as (call2' (eV_at rfl) (eV_at rfl) (t.cut _))]
  simp only [lE, List.set_cons_succ, List.set_cons_zero]
  rw [sq_as (call4 (eV_at rfl) (eV_at rfl) (eV_at rfl) (eV_at rfl) (t.rest _))]
  simp only [lE, List.set_cons_succ, List.set_cons_zero]
  have e12 : ∀ (ρ : Env) (μ : Mem), eCall C "_law_twice" [(eV 7), (eV 8), (eV 9)] ρ μ = .ok (.d (encO (cut2 r s o))) μ → eCall C "_law_twice" [(eV 7), (eV 9), (eV 8)] ρ μ = .ok (.d (encO (cut2 r o s))) μ → eLst [(eCall C "_law_twice" [(eV 7), (eV 8), (eV 9)]), (eCall C "_law_twice" [(eV 7), (eV 9), (eV 8)])] ρ μ = .ok (.d (.lst ([cut2 r s o, cut2 r o s].map encO))) μ := fun ρ μ a b => by
    unfold eLst
    rw [evs_cons, a, bind_ok, evs_cons, b, bind_ok, evs_nil, bind_ok, bind_ok, bind_ok]
    simp
  rw [sq_as (e12 _ _ (call3 (eV_at rfl) (eV_at rfl) (eV_at rfl) (t.twice _)) (call3 (eV_at rfl) (eV_at rfl) (eV_at rfl) (t.twice2 _)))]
  simp only [lE, List.set_cons_succ, List.set_cons_zero]
  rw [sq_if_f (tNot_ok (b := true) (tE_bl (call6 (eV_at rfl) (eV_at rfl) (eV_at rfl) (eV_at rfl) (eV_at rfl) (eV_at rfl) (t.forms _))))]
  have hcomp := compL_filter (t := tgN 13) (c := tYes) (e := eT (tNotN (eV 13))) (ρ := iE' x0 T kvs x4 name x6 r s o .un x14 x15 x16 x17) (μ := Bx digs k4) (fun o : Option Rg => R.d (encO o)) (fun o => R.d (.bl o.isSome)) (fun _ => true) (xs := [cut2 r s o, cut2 r o s]) (by
    intro q _
    refine ⟨iE' x0 T kvs x4 name x6 r s o (.v (.d (encO q))) x14 x15 x16 x17, by simp only [tgN, lE, List.set_cons_succ, List.set_cons_zero], by simp [tYes], fun _ => ?_⟩
    refine eT_ok ?_
    rw [tNotN_ok (eV_at rfl), encO_isNon]
    cases q <;> rfl)
  have e13 : eComp [13] (tgN 13) (iE (eV 12)) tYes (eT (tNotN (eV 13))) (iE' x0 T kvs x4 name x6 r s o x13 x14 x15 x16 x17) (Bx digs k4) = .ok (.d (.lst [.bl (cut2 r s o).isSome, .bl (cut2 r o s).isSome])) (Bx digs k4) := by
    rw [eComp_ok (iE_lst (ds := [cut2 r s o, cut2 r o s].map encO) (eV_at rfl)) (by rw [List.map_map]; exact hcomp) (by simp)]
    rfl
  have e14 : eOp mulR (eLst [(eCall C "_law_due_twice" [(eV 7), (eV 8), (eV 9)])]) (eC (.int 2)) (iE' x0 T kvs x4 name x6 r s o x13 x14 x15 x16 x17) (Bx digs k4) = .ok (.d (.lst [.bl (cut2 r s o).isSome, .bl (cut2 r s o).isSome])) (Bx digs k4) := by
    refine eOp_ok (x := .d (.lst [.bl (cut2 r s o).isSome])) ?_ eC_ok (by rw [vw_d, vw_d]; rfl)
    unfold eLst
    rw [evs_cons, call3 (eV_at rfl) (eV_at rfl) (eV_at rfl) (t.due _), bind_ok, evs_nil, bind_ok, bind_ok]
    simp
  have c15 : tCmp neR (eComp [13] (tgN 13) (iE (eV 12)) tYes (eT (tNotN (eV 13)))) (eOp mulR (eLst [(eCall C "_law_due_twice" [(eV 7), (eV 8), (eV 9)])]) (eC (.int 2))) (iE' x0 T kvs x4 name x6 r s o x13 x14 x15 x16 x17) (Bx digs k4) = .ok false (Bx digs k4) := tCmp_ok e13 e14 (by
    rw [vw_d, vw_d, neR_d, eqD_left (by simp [D.dep, D.depL]), ← t.comm]
    simp [D.eqv, D.eqvL])
  rw [sq_if_f c15]
  exact sFor_rt (iRange1_nat (n := 9) eC_ok (by omega)) hl
theorem tn_ok {T : Ty} (g : GoodT T) {F : Hf} {kvs : List (Ky × R)} (H : HtOk T F kvs) (digs : List Int) {n : Nat} (hn : 60 ≤ n) {name : String} {r s o : Rg} (hty : TyNm T name) (wr : Wr true T 3 name r) (ws : Wr false T 3 name s) (wo : Wr false T 3 name o) : Tn (callN P n) T kvs digs name r s o := by
  have hT : ∀ name, (makersOf T name).length ≤ 1000 := fun name => by have := makersOf_le g name; omega
  have b1 := (wr.bd g).hgt
  have b2 := (ws.bd g).hgt
  have w2 := (ws.bd g).wt
  obtain ⟨m, rfl⟩ : ∃ m, n = m + 1 := ⟨n - 1, by omega⟩
  refine ⟨wr, ws, wo, fun f k hf => ?_, fun q v μ hq hv => ?_, fun os v due μ hl ho hv hc => ?_, fun μ => ?_, fun μ => ?_, fun μ => ?_, fun μ => ?_, fun μ => ?_, ?_, fun μ => ?_, ?_⟩
  · have := Wr_wh hf
    obtain ⟨v, k', v1, v2⟩ := within_spec g H digs (m + 1) 3 f name k hf hty (by omega)
    exact ⟨v, k', v1.mono (by omega), v2⟩
  · have := (hq.bd g).hgt
    exact lholds_spec g (m + 1) 10 name q v μ hv (hq.hv g hv) (by omega)
  · exact held_spec μ hl (fun x hx => ⟨(ho x hx).hv g hv, by have := ((ho x hx).bd g).hgt; omega⟩) hc
  · exact (cut_both (m + 1)).1 r s μ (Wr.al g wr ws) (by omega)
  · exact (rest_both T hT (m + 1)).1 name r s μ (Wr.rt g wr ws) (by omega) (by omega)
  · exact twice_spec g wr ws wo (Nat.le_refl _) m μ (by omega)
  · exact twice_spec g wr wo ws (Nat.le_refl _) m μ (by omega)
  · exact due_spec g wr ws wo (Nat.le_refl _) m μ (by omega)
  · exact cut2_comm g H hty wr ws wo
  · exact forms_spec g wr ws m μ (by omega)
  · have := restM_len T name r s
    omega
theorem plain0 (ns : List Int) : Ev.callN P 200 "law" [.scr ns] [] = .ok (.d (.bl true)) [] := by
  rw [callN_run (n := 199) (d := f_law_10) rfl rfl, body_eq]
  obtain ⟨digs, hd⟩ := digits_spec 197 ns []
  obtain ⟨T, k1, g, ht⟩ := types_spec 197 digs 0
  obtain ⟨kvs, hdic, hh⟩ := heights_spec 198 g (Bx digs k1)
  have H : HtOk T (passN T (T.length + 1)) kvs := ⟨hdic, passN_don g T.length⟩
  have hC := draws 198
  have hR := fun (k : Nat) (x : String) (hx : TyNm T x) => region_spec g 3 199 digs k x hx (by omega)
  have hS := fun (k : Nat) (x : String) (hx : TyNm T x) => simple_spec g 3 199 digs k x hx (by omega)
  have hT := fun (name : String) (r s o : Rg) => tn_ok g H digs (n := 199) (by omega) (name := name) (r := r) (s := s) (o := o)
  generalize callN P 199 = C at hd ht hh hC hR hS hT ⊢
  have e1 : sCell 1 (eLst [(eCall C "_law_digits" [(eV 0), (eC (.int 0)), (eC (.int 50))]), (eC (.int 0))]) [.v (.scr ns), .un, .un, .un, .un, .un, .un, .un, .un, .un, .un, .un, .un, .un, .un, .un, .un, .un] [] = .ok (.nx [.v (.scr ns), .v (.p 0), .un, .un, .un, .un, .un, .un, .un, .un, .un, .un, .un, .un, .un, .un, .un, .un]) (Bx digs 0) := by
    have : eLst [(eCall C "_law_digits" [(eV 0), (eC (.int 0)), (eC (.int 50))]), (eC (.int 0))] [.v (.scr ns), .un, .un, .un, .un, .un, .un, .un, .un, .un, .un, .un, .un, .un, .un, .un, .un, .un] [] = .ok (.d (.lst [.lst (digs.map .int), .int 0])) [] := by
      simp [eV, eB, vw_d, vw_scr, vw_ls, vw_dic, eBi, evs_nil, evs_cons, lift, eIdx, eOp, eC, tCmp, eTup, eLst, valsR_nil, valsR_cons, tAnd, tOr, tNot, tE, eT, eIf, eCall, tIsN, tNotN, eNeg, eSlc, oN, oE, EqDep, eqD, D.dep, D.depL, hd]
    unfold sCell
    rw [this]
    rfl
  have e2 : eCall C "_law_types" [(eV 1)] [.v (.scr ns), .v (.p 0), .un, .un, .un, .un, .un, .un, .un, .un, .un, .un, .un, .un, .un, .un, .un, .un] (Bx digs 0) = .ok (.d (encT T)) (Bx digs k1) := by
    unfold eCall
    rw [evs_cons, eV_at rfl, bind_ok, evs_nil, bind_ok, bind_ok]
    exact ht
  have e2b : eCall C "_law_heights" [(eV 2)] [.v (.scr ns), .v (.p 0), .v (.d (encT T)), .un, .un, .un, .un, .un, .un, .un, .un, .un, .un, .un, .un, .un, .un, .un] (Bx digs k1) = .ok (.dic kvs) (Bx digs k1) := by
    unfold eCall
    rw [evs_cons, eV_at rfl, bind_ok, evs_nil, bind_ok, bind_ok]
    exact hh
  obtain ⟨ρ', μ', ⟨y4, y5, y6, y7, y8, y9, y10, y11, y12, y13, y14, y15, y16, y17, k', rfl, rfl⟩, hl⟩ := forL_invM (t := tgN 4) (b := tbody C)
    (fun _ ρ μ => ∃ (y4 y5 y6 y7 y8 y9 y10 y11 y12 y13 y14 y15 y16 y17 : Sl) (k' : Nat), ρ = lE (.v (.scr ns)) T kvs y4 y5 y6 y7 y8 y9 y10 y11 y12 y13 y14 y15 y16 y17 ∧ μ = Bx digs k')
    (xs := rangeF 0 4) (k := 0) (ρ := lE (.v (.scr ns)) T kvs .un .un .un .un .un .un .un .un .un .un .un .un .un .un) (μ := Bx digs k1) ⟨_, _, _, _, _, _, _, _, _, _, _, _, _, _, k1, rfl, rfl⟩ (by
      rintro i x ρ μ hx ⟨y4, y5, y6, y7, y8, y9, y10, y11, y12, y13, y14, y15, y16, y17, k', rfl, rfl⟩
      refine ⟨lE (.v (.scr ns)) T kvs (.v x) y5 y6 y7 y8 y9 y10 y11 y12 y13 y14 y15 y16 y17, by simp only [tgN, lE, List.set_cons_succ, List.set_cons_zero], ?_⟩
      obtain ⟨z5, z7, z8, z9, z10, z11, z12, z14, z15, z16, z17, k2, h⟩ := turn_spec g hC (digs := digs) (kvs := kvs) hR hS hT (x0 := .v (.scr ns)) (x4 := .v x) (x5 := y5) (x6 := y6) (x7 := y7) (x8 := y8) (x9 := y9) (x10 := y10) (x11 := y11) (x12 := y12) (x13 := y13) (x14 := y14) (x15 := y15) (x16 := y16) (x17 := y17) (k := k')
      exact ⟨_, _, ⟨_, _, _, _, _, _, _, _, _, _, _, _, _, _, k2, rfl, rfl⟩, h⟩)
  unfold runB
  simp only [f_law_10, List.map_cons, List.map_nil, List.length_cons, List.length_nil, Nat.reduceAdd, Nat.reduceSub, List.replicate_succ, List.replicate_zero, List.cons_append, List.nil_append]
  rw [sq_nx e1, sq_as e2]
  simp only [List.set_cons_succ, List.set_cons_zero]
  rw [sq_as e2b]
  simp only [List.set_cons_succ, List.set_cons_zero]
  have hit : ∀ (ρ : Env) (μ : Mem), iRange1 (eC (.int 4)) ρ μ = .ok (rangeF 0 4) μ := fun ρ μ => iRange1_nat (n := 4) eC_ok (by omega)
  rw [sq_nx (sFor_rt (hit _ _) hl), sRet_ok eC_ok]
  rfl
end K09
end

section
set_option maxHeartbeats 0
namespace K09
theorem plain (ns : List Int) (h1 : ns.length ≤ 63) (h2 : ∀ k ∈ ns, PySem.Builtin.Int.intBits k ≤ 1048576) : Ev.callN P 200 "law" [.scr ns] [] = .ok (.d (.bl true)) [] := plain0 ns
end K09
end

section
set_option maxHeartbeats 0
set_option Elab.async false
set_option linter.all false
set_option maxRecDepth 100000
set_option maxHeartbeats 0
namespace K09
open PySem PySem.Spec PyProof.Rows L2 EvS
def top (i : Nat) : Stmt := PySem.Challenge.pw_matchgraph_k09_cuts_twice.main.body.getD i (.Pass ⟨0, 0, 0, 0⟩)
/-- what the module holds -/
structure Gx (K : PySem.W.Frag) (mg : Str → Option Value) : Prop where
  f_all : mg "all" = none
  f_enumerate : mg "enumerate" = none
  f_int : mg "int" = none
  f_isinstance : mg "isinstance" = none
  f_len : mg "len" = none
  f_list : mg "list" = none
  f_max : mg "max" = none
  f_min : mg "min" = none
  f_range : mg "range" = none
  f_repr : mg "repr" = none
  f_tuple : mg "tuple" = none
  c_INTEGER_MOST : GC K mg (Str.ofString "INTEGER_MOST") (.int 99)
  c_ANY : GC K mg (Str.ofString "ANY") (.tup [.str "any"])
def d_f_constructors : He.DefD := ⟨("constructors", none), "constructors", "constructors", defArgs (top 1), defBody (top 1), defScope (top 1), [], []⟩
def d_f_fields_of : He.DefD := ⟨("fields_of", none), "fields_of", "fields_of", defArgs (top 2), defBody (top 2), defScope (top 2), [], []⟩
def d_f_cut : He.DefD := ⟨("cut", none), "cut", "cut", defArgs (top 6), defBody (top 6), defScope (top 6), [], []⟩
def d_f_cut_all : He.DefD := ⟨("cut_all", none), "cut_all", "cut_all", defArgs (top 7), defBody (top 7), defScope (top 7), [], []⟩
def d_f_rest_of_range : He.DefD := ⟨("rest_of_range", none), "rest_of_range", "rest_of_range", defArgs (top 8), defBody (top 8), defScope (top 8), [], []⟩
def d_f_left_out : He.DefD := ⟨("left_out", none), "left_out", "left_out", defArgs (top 9), defBody (top 9), defScope (top 9), [], []⟩
def d_f_rest : He.DefD := ⟨("rest", none), "rest", "rest", defArgs (top 10), defBody (top 10), defScope (top 10), [], []⟩
def d_f_rest_all : He.DefD := ⟨("rest_all", none), "rest_all", "rest_all", defArgs (top 11), defBody (top 11), defScope (top 11), [], []⟩
def d_f_holds : He.DefD := ⟨("holds", none), "holds", "holds", defArgs (top 12), defBody (top 12), defScope (top 12), [], []⟩
def d_f_law_cell : He.DefD := ⟨("_law_cell", none), "_law_cell", "_law_cell", defArgs (top 14), defBody (top 14), defScope (top 14), [], []⟩
def d_f_law_same : He.DefD := ⟨("_law_same", none), "_law_same", "_law_same", defArgs (top 15), defBody (top 15), defScope (top 15), [], []⟩
def d_f_law_digits : He.DefD := ⟨("_law_digits", none), "_law_digits", "_law_digits", defArgs (top 16), defBody (top 16), defScope (top 16), [], []⟩
def d_f_law_draw : He.DefD := ⟨("_law_draw", none), "_law_draw", "_law_draw", defArgs (top 17), defBody (top 17), defScope (top 17), [], []⟩
def d_f_law_types : He.DefD := ⟨("_law_types", none), "_law_types", "_law_types", defArgs (top 18), defBody (top 18), defScope (top 18), [], []⟩
def d_f_law_makers : He.DefD := ⟨("_law_makers", none), "_law_makers", "_law_makers", defArgs (top 19), defBody (top 19), defScope (top 19), [], []⟩
def d_f_law_heights : He.DefD := ⟨("_law_heights", none), "_law_heights", "_law_heights", defArgs (top 20), defBody (top 20), defScope (top 20), [], []⟩
def d_f_law_least : He.DefD := ⟨("_law_least", none), "_law_least", "_law_least", defArgs (top 21), defBody (top 21), defScope (top 21), [], []⟩
def d_f_law_value : He.DefD := ⟨("_law_value", none), "_law_value", "_law_value", defArgs (top 22), defBody (top 22), defScope (top 22), [], []⟩
def d_f_law_region : He.DefD := ⟨("_law_region", none), "_law_region", "_law_region", defArgs (top 23), defBody (top 23), defScope (top 23), [], []⟩
def d_f_law_holds : He.DefD := ⟨("_law_holds", none), "_law_holds", "_law_holds", defArgs (top 24), defBody (top 24), defScope (top 24), [], []⟩
def d_f_law_plain_simple : He.DefD := ⟨("_law_plain_simple", none), "_law_plain_simple", "_law_plain_simple", defArgs (top 25), defBody (top 25), defScope (top 25), [], []⟩
def d_f_law_cut_2 : He.DefD := ⟨("_law_cut", none), "_law_cut", "_law_cut", defArgs (top 26), defBody (top 26), defScope (top 26), [], []⟩
def d_f_law_cuts : He.DefD := ⟨("_law_cuts", none), "_law_cuts", "_law_cuts", defArgs (top 27), defBody (top 27), defScope (top 27), [], []⟩
def d_f_law_ends : He.DefD := ⟨("_law_ends", none), "_law_ends", "_law_ends", defArgs (top 28), defBody (top 28), defScope (top 28), [], []⟩
def d_f_law_covered : He.DefD := ⟨("_law_covered", none), "_law_covered", "_law_covered", defArgs (top 29), defBody (top 29), defScope (top 29), [], []⟩
def d_f_law_within : He.DefD := ⟨("_law_within", none), "_law_within", "_law_within", defArgs (top 30), defBody (top 30), defScope (top 30), [], []⟩
def d_f_law_twice : He.DefD := ⟨("_law_twice", none), "_law_twice", "_law_twice", defArgs (top 31), defBody (top 31), defScope (top 31), [], []⟩
def d_f_law_due_twice : He.DefD := ⟨("_law_due_twice", none), "_law_due_twice", "_law_due_twice", defArgs (top 32), defBody (top 32), defScope (top 32), [], []⟩
def d_f_law_forms : He.DefD := ⟨("_law_forms", none), "_law_forms", "_law_forms", defArgs (top 33), defBody (top 33), defScope (top 33), [], []⟩
def d_f_law_held : He.DefD := ⟨("_law_held", none), "_law_held", "_law_held", defArgs (top 34), defBody (top 34), defScope (top 34), [], []⟩
def d_f_law_10 : He.DefD := ⟨("law", none), "law", "law", defArgs (top 35), defBody (top 35), defScope (top 35), [], []⟩
def fn : List He.DefD := [d_f_constructors, d_f_fields_of, d_f_cut, d_f_cut_all, d_f_rest_of_range, d_f_left_out, d_f_rest, d_f_rest_all, d_f_holds, d_f_law_cell, d_f_law_same, d_f_law_digits, d_f_law_draw, d_f_law_types, d_f_law_makers, d_f_law_heights, d_f_law_least, d_f_law_value, d_f_law_region, d_f_law_holds, d_f_law_plain_simple, d_f_law_cut_2, d_f_law_cuts, d_f_law_ends, d_f_law_covered, d_f_law_within, d_f_law_twice, d_f_law_due_twice, d_f_law_forms, d_f_law_held, d_f_law_10]
def fa : List He.Fa := [.glo "constructors", .glo "fields_of", .glo "cut", .glo "cut_all", .glo "rest_of_range", .glo "left_out", .glo "rest", .glo "rest_all", .glo "holds", .glo "_law_cell", .glo "_law_same", .glo "_law_digits", .glo "_law_draw", .glo "_law_types", .glo "_law_makers", .glo "_law_heights", .glo "_law_least", .glo "_law_value", .glo "_law_region", .glo "_law_holds", .glo "_law_plain_simple", .glo "_law_cut", .glo "_law_cuts", .glo "_law_ends", .glo "_law_covered", .glo "_law_within", .glo "_law_twice", .glo "_law_due_twice", .glo "_law_forms", .glo "_law_held", .glo "law", .free "all", .free "enumerate", .free "int", .free "isinstance", .free "len", .free "list", .free "max", .free "min", .free "range", .free "repr", .free "tuple"]
def cs : List (String × Ev.D) := [("INTEGER_MOST", .int 99), ("ANY", .tup [.str "any"])]
def tf : List He.Defn := [("holds", none)]
section
variable {Pg : Program} {w : World} {K : PySem.W.Frag} {mg : Str → Option Value} {h : Heap} {ca : Cn}
theorem gx (X : K.In h) (G : h.Ns mainGlobals mg) (c : He.SaysD fa fn K) (cc : gcs K cs = true) : Gx K mg where
  f_all := He.free_ok X G (c.fact 31 (f := .free "all") rfl)
  f_enumerate := He.free_ok X G (c.fact 32 (f := .free "enumerate") rfl)
  f_int := He.free_ok X G (c.fact 33 (f := .free "int") rfl)
  f_isinstance := He.free_ok X G (c.fact 34 (f := .free "isinstance") rfl)
  f_len := He.free_ok X G (c.fact 35 (f := .free "len") rfl)
  f_list := He.free_ok X G (c.fact 36 (f := .free "list") rfl)
  f_max := He.free_ok X G (c.fact 37 (f := .free "max") rfl)
  f_min := He.free_ok X G (c.fact 38 (f := .free "min") rfl)
  f_range := He.free_ok X G (c.fact 39 (f := .free "range") rfl)
  f_repr := He.free_ok X G (c.fact 40 (f := .free "repr") rfl)
  f_tuple := He.free_ok X G (c.fact 41 (f := .free "tuple") rfl)
  c_INTEGER_MOST := gcs_ok X G cc (List.mem_of_getElem? (i := 0) rfl)
  c_ANY := gcs_ok X G cc (List.mem_of_getElem? (i := 1) rfl)
theorem sc_f_constructors : FnScope ["types", "name", "declared", "made"] ["types", "name"] (defScope (top 1)) := ⟨rfl, rfl, rfl, by decide +kernel, rfl, by decide +kernel, by decide +kernel⟩
theorem dv_f_constructors {base : Heap} {a : Addr} {cdv : Value} {A : Around} {out : List Env} {s : Shared} {H : Hp} {E : XK} {e : En} {n : Nat} (g : Gx K mg)
    (cal : ∀ g d, P g = some d → Callee (cx Pg w K mg base ["types", "name", "declared", "made"] "constructors" (defScope (top 1)) a cdv A out s H E) ca n (Ev.callN P n) g d.np) (xs : XS (cx Pg w K mg base ["types", "name", "declared", "made"] "constructors" (defScope (top 1)) a cdv A out s H E) (wE E) n) (sl : Slk (cx Pg w K mg base ["types", "name", "declared", "made"] "constructors" (defScope (top 1)) a cdv A out s H E) n) :
    PSs (cx Pg w K mg base ["types", "name", "declared", "made"] "constructors" (defScope (top 1)) a cdv A out s H E) (defBody (top 1)) (tS (ct (cx Pg w K mg base ["types", "name", "declared", "made"] "constructors" (defScope (top 1)) a cdv A out s H E) ca) (wE E) e (f_constructors.body (Ev.callN P n))) :=
  (ss_cons xs (s_for xs (si_e (se_v rfl (by first | exact .inl rfl | exact .inr (.inl rfl) | exact .inr (.inr rfl)))) (pg_seq xs.calm (pgs_cons (pg_name xs.nd rfl (by first | exact .inl rfl | exact .inr rfl)) (pgs_cons (pg_name xs.nd rfl (by first | exact .inl rfl | exact .inr rfl)) pgs_nil))) (gok_seq rfl (gsok_cons gok_name (gsok_cons gok_name gsok_nil))) (ss_one (s_if xs (st_cmp (opC_eq xs.u64) (SV (se_v rfl (by first | exact .inl rfl | exact .inr (.inl rfl) | exact .inr (.inr rfl)))) (SV (se_v rfl (by first | exact .inl rfl | exact .inr (.inl rfl) | exact .inr (.inr rfl)))) rfl) (ss_one (s_ret (se_v rfl (by first | exact .inl rfl | exact .inr (.inl rfl) | exact .inr (.inr rfl))))) ss_nil)))
  (ss_one (s_ret (se_tup sa_nil))))
theorem dn_f_constructors (X : K.In h) (G : h.Ns mainGlobals mg) (c : He.SaysD fa fn K) (g : Gx K mg) : Dn Pg w K mg (caK K tf) P "constructors" f_constructors := by
  obtain ⟨fd, F⟩ := c.def_ 0 (d := d_f_constructors) rfl
  exact ⟨_, _, _, _, _, _, fd, ["types", "name", "declared", "made"], ["types", "name"], F, He.glo_ok X G (c.fact 0 (f := .glo "constructors") rfl), sc_f_constructors, rfl, rfl, F.bindsN fun _ _ _ _ _ _ us hl => match us, hl with | [_, _], _ => rfl, fun base cdv A out s H E e n tb hc cal xs sl => dv_f_constructors g cal xs sl⟩
theorem sc_f_fields_of : FnScope ["types", "constructor", "_", "made", "name", "fields"] ["types", "constructor"] (defScope (top 2)) := ⟨rfl, rfl, rfl, by decide +kernel, rfl, by decide +kernel, by decide +kernel⟩
theorem dv_f_fields_of {base : Heap} {a : Addr} {cdv : Value} {A : Around} {out : List Env} {s : Shared} {H : Hp} {E : XK} {e : En} {n : Nat} (g : Gx K mg)
    (cal : ∀ g d, P g = some d → Callee (cx Pg w K mg base ["types", "constructor", "_", "made", "name", "fields"] "fields_of" (defScope (top 2)) a cdv A out s H E) ca n (Ev.callN P n) g d.np) (xs : XS (cx Pg w K mg base ["types", "constructor", "_", "made", "name", "fields"] "fields_of" (defScope (top 2)) a cdv A out s H E) (wE E) n) (sl : Slk (cx Pg w K mg base ["types", "constructor", "_", "made", "name", "fields"] "fields_of" (defScope (top 2)) a cdv A out s H E) n) :
    PSs (cx Pg w K mg base ["types", "constructor", "_", "made", "name", "fields"] "fields_of" (defScope (top 2)) a cdv A out s H E) (defBody (top 2)) (tS (ct (cx Pg w K mg base ["types", "constructor", "_", "made", "name", "fields"] "fields_of" (defScope (top 2)) a cdv A out s H E) ca) (wE E) e (f_fields_of.body (Ev.callN P n))) :=
  (ss_cons xs (s_for xs (si_e (se_v rfl (by first | exact .inl rfl | exact .inr (.inl rfl) | exact .inr (.inr rfl)))) (pg_seq xs.calm (pgs_cons (pg_name xs.nd rfl (by first | exact .inl rfl | exact .inr rfl)) (pgs_cons (pg_name xs.nd rfl (by first | exact .inl rfl | exact .inr rfl)) pgs_nil))) (gok_seq rfl (gsok_cons gok_name (gsok_cons gok_name gsok_nil))) (ss_one (s_for xs (si_e (se_v rfl (by first | exact .inl rfl | exact .inr (.inl rfl) | exact .inr (.inr rfl)))) (pg_seq xs.calm (pgs_cons (pg_name xs.nd rfl (by first | exact .inl rfl | exact .inr rfl)) (pgs_cons (pg_name xs.nd rfl (by first | exact .inl rfl | exact .inr rfl)) pgs_nil))) (gok_seq rfl (gsok_cons gok_name (gsok_cons gok_name gsok_nil))) (ss_one (s_if xs (st_cmp (opC_eq xs.u64) (SV (se_v rfl (by first | exact .inl rfl | exact .inr (.inl rfl) | exact .inr (.inr rfl)))) (SV (se_v rfl (by first | exact .inl rfl | exact .inr (.inl rfl) | exact .inr (.inr rfl)))) rfl) (ss_one (s_ret (se_v rfl (by first | exact .inl rfl | exact .inr (.inl rfl) | exact .inr (.inr rfl))))) ss_nil)))))
  (ss_one (s_ret (se_tup sa_nil))))
theorem dn_f_fields_of (X : K.In h) (G : h.Ns mainGlobals mg) (c : He.SaysD fa fn K) (g : Gx K mg) : Dn Pg w K mg (caK K tf) P "fields_of" f_fields_of := by
  obtain ⟨fd, F⟩ := c.def_ 1 (d := d_f_fields_of) rfl
  exact ⟨_, _, _, _, _, _, fd, ["types", "constructor", "_", "made", "name", "fields"], ["types", "constructor"], F, He.glo_ok X G (c.fact 1 (f := .glo "fields_of") rfl), sc_f_fields_of, rfl, rfl, F.bindsN fun _ _ _ _ _ _ us hl => match us, hl with | [_, _], _ => rfl, fun base cdv A out s H E e n tb hc cal xs sl => dv_f_fields_of g cal xs sl⟩
theorem sc_f_cut : FnScope ["region", "simple", "low", "high", "parts"] ["region", "simple"] (defScope (top 6)) := ⟨rfl, rfl, rfl, by decide +kernel, rfl, by decide +kernel, by decide +kernel⟩
theorem dv_f_cut {base : Heap} {a : Addr} {cdv : Value} {A : Around} {out : List Env} {s : Shared} {H : Hp} {E : XK} {e : En} {n : Nat} (g : Gx K mg)
    (cal : ∀ g d, P g = some d → Callee (cx Pg w K mg base ["region", "simple", "low", "high", "parts"] "cut" (defScope (top 6)) a cdv A out s H E) ca n (Ev.callN P n) g d.np) (xs : XS (cx Pg w K mg base ["region", "simple", "low", "high", "parts"] "cut" (defScope (top 6)) a cdv A out s H E) (wE E) n) (sl : Slk (cx Pg w K mg base ["region", "simple", "low", "high", "parts"] "cut" (defScope (top 6)) a cdv A out s H E) n) :
    PSs (cx Pg w K mg base ["region", "simple", "low", "high", "parts"] "cut" (defScope (top 6)) a cdv A out s H E) (defBody (top 6)) (tS (ct (cx Pg w K mg base ["region", "simple", "low", "high", "parts"] "cut" (defScope (top 6)) a cdv A out s H E) ca) (wE E) e (f_cut.body (Ev.callN P n))) :=
  (ss_cons xs (s_if xs (st_cmp (opC_eq xs.u64) (SV (se_v rfl (by first | exact .inl rfl | exact .inr (.inl rfl) | exact .inr (.inr rfl)))) (SV (se_gc g.c_ANY rfl)) rfl) (ss_one (s_ret (se_v rfl (by first | exact .inl rfl | exact .inr (.inl rfl) | exact .inr (.inr rfl))))) ss_nil)
  (ss_cons xs (s_if xs (st_cmp (opC_eq xs.u64) (SV (se_v rfl (by first | exact .inl rfl | exact .inr (.inl rfl) | exact .inr (.inr rfl)))) (SV (se_gc g.c_ANY rfl)) rfl) (ss_one (s_ret (se_v rfl (by first | exact .inl rfl | exact .inr (.inl rfl) | exact .inr (.inr rfl))))) ss_nil)
  (ss_cons xs (s_if xs (st_cmp (opC_eq xs.u64) (SV (se_ix xs.u1 (SV (se_v rfl (by first | exact .inl rfl | exact .inr (.inl rfl) | exact .inr (.inr rfl)))) se_int)) (SV se_str) rfl) (ss_cons xs (s_as xs.nd rfl (by first | exact .inl rfl | exact .inr rfl) (se_bi (pe_callB (cb_max xs.calm) rfl g.f_max rfl (sav_cons (SV (se_ix xs.u1 (SV (se_v rfl (by first | exact .inl rfl | exact .inr (.inl rfl) | exact .inr (.inr rfl)))) se_int)) (sav_cons (SV (se_ix xs.u1 (SV (se_v rfl (by first | exact .inl rfl | exact .inr (.inl rfl) | exact .inr (.inr rfl)))) se_int)) sav_nil)))))
  (ss_cons xs (s_as xs.nd rfl (by first | exact .inl rfl | exact .inr rfl) (se_bi (pe_callB (cb_min xs.calm) rfl g.f_min rfl (sav_cons (SV (se_ix xs.u1 (SV (se_v rfl (by first | exact .inl rfl | exact .inr (.inl rfl) | exact .inr (.inr rfl)))) se_int)) (sav_cons (SV (se_ix xs.u1 (SV (se_v rfl (by first | exact .inl rfl | exact .inr (.inl rfl) | exact .inr (.inr rfl)))) se_int)) sav_nil)))))
  (ss_one (s_ret (se_if (st_cmp opC_le (SV (se_v rfl (by first | exact .inl rfl | exact .inr (.inl rfl) | exact .inr (.inr rfl)))) (SV (se_v rfl (by first | exact .inl rfl | exact .inr (.inl rfl) | exact .inr (.inr rfl)))) rfl) (se_tup (sa_cons se_str (sa_cons (se_v rfl (by first | exact .inl rfl | exact .inr (.inl rfl) | exact .inr (.inr rfl))) (sa_cons (se_v rfl (by first | exact .inl rfl | exact .inr (.inl rfl) | exact .inr (.inr rfl))) sa_nil)))) se_non))))) ss_nil)
  (ss_cons xs (s_if xs (st_cmp (opC_eq xs.u64) (SV (se_ix xs.u1 (SV (se_v rfl (by first | exact .inl rfl | exact .inr (.inl rfl) | exact .inr (.inr rfl)))) se_int)) (SV se_str) rfl) (ss_one (s_ret (se_if (st_cmp (opC_in xs.u65) (SV (se_ix xs.u1 (SV (se_v rfl (by first | exact .inl rfl | exact .inr (.inl rfl) | exact .inr (.inr rfl)))) se_int)) (SV (se_ix xs.u1 (SV (se_v rfl (by first | exact .inl rfl | exact .inr (.inl rfl) | exact .inr (.inr rfl)))) se_int)) rfl) se_non (se_v rfl (by first | exact .inl rfl | exact .inr (.inl rfl) | exact .inr (.inr rfl)))))) ss_nil)
  (ss_cons xs (s_if xs (st_cmp (opC_ne xs.u64) (SV (se_ix xs.u1 (SV (se_v rfl (by first | exact .inl rfl | exact .inr (.inl rfl) | exact .inr (.inr rfl)))) se_int)) (SV (se_ix xs.u1 (SV (se_v rfl (by first | exact .inl rfl | exact .inr (.inl rfl) | exact .inr (.inr rfl)))) se_int)) rfl) (ss_one (s_ret se_non)) ss_nil)
  (ss_cons xs (s_as xs.nd rfl (by first | exact .inl rfl | exact .inr rfl) (se_call ⟨(cal "cut_all" _ rfl).at_⟩ xs rfl rfl (sa_cons (se_ix xs.u1 (SV (se_v rfl (by first | exact .inl rfl | exact .inr (.inl rfl) | exact .inr (.inr rfl)))) se_int) (sa_cons (se_ix xs.u1 (SV (se_v rfl (by first | exact .inl rfl | exact .inr (.inl rfl) | exact .inr (.inr rfl)))) se_int) sa_nil)) rfl))
  (ss_one (s_ret (se_if (st_isN (SV (se_v rfl (by first | exact .inl rfl | exact .inr (.inl rfl) | exact .inr (.inr rfl))))) se_non (se_tup (sa_cons se_str (sa_cons (se_ix xs.u1 (SV (se_v rfl (by first | exact .inl rfl | exact .inr (.inl rfl) | exact .inr (.inr rfl)))) se_int) (sa_cons (se_v rfl (by first | exact .inl rfl | exact .inr (.inl rfl) | exact .inr (.inr rfl))) sa_nil)))))))))))))
theorem dn_f_cut (X : K.In h) (G : h.Ns mainGlobals mg) (c : He.SaysD fa fn K) (g : Gx K mg) : Dn Pg w K mg (caK K tf) P "cut" f_cut := by
  obtain ⟨fd, F⟩ := c.def_ 2 (d := d_f_cut) rfl
  exact ⟨_, _, _, _, _, _, fd, ["region", "simple", "low", "high", "parts"], ["region", "simple"], F, He.glo_ok X G (c.fact 2 (f := .glo "cut") rfl), sc_f_cut, rfl, rfl, F.bindsN fun _ _ _ _ _ _ us hl => match us, hl with | [_, _], _ => rfl, fun base cdv A out s H E e n tb hc cal xs sl => dv_f_cut g cal xs sl⟩
theorem sc_f_cut_all : FnScope ["regions", "simples", "found", "at", "region"] ["regions", "simples"] (defScope (top 7)) := ⟨rfl, rfl, rfl, by decide +kernel, rfl, by decide +kernel, by decide +kernel⟩
theorem dv_f_cut_all {base : Heap} {a : Addr} {cdv : Value} {A : Around} {out : List Env} {s : Shared} {H : Hp} {E : XK} {e : En} {n : Nat} (g : Gx K mg)
    (cal : ∀ g d, P g = some d → Callee (cx Pg w K mg base ["regions", "simples", "found", "at", "region"] "cut_all" (defScope (top 7)) a cdv A out s H E) ca n (Ev.callN P n) g d.np) (xs : XS (cx Pg w K mg base ["regions", "simples", "found", "at", "region"] "cut_all" (defScope (top 7)) a cdv A out s H E) (wE E) n) (sl : Slk (cx Pg w K mg base ["regions", "simples", "found", "at", "region"] "cut_all" (defScope (top 7)) a cdv A out s H E) n) :
    PSs (cx Pg w K mg base ["regions", "simples", "found", "at", "region"] "cut_all" (defScope (top 7)) a cdv A out s H E) (defBody (top 7)) (tS (ct (cx Pg w K mg base ["regions", "simples", "found", "at", "region"] "cut_all" (defScope (top 7)) a cdv A out s H E) ca) (wE E) e (f_cut_all.body (Ev.callN P n))) :=
  (ss_cons xs (s_as xs.nd rfl (by first | exact .inl rfl | exact .inr rfl) (se_bi (pe_callTy cb_tuple rfl g.f_tuple rfl (sav_cons (SV (SN (sn_comp0 (own := [("at", 3), ("region", 4)]) xs (si_enum rfl g.f_enumerate (se_v rfl (by first | exact .inl rfl | exact .inr (.inl rfl) | exact .inr (.inr rfl)))) (blkOk_by (by kernel_rfl)) (fun _ _ _ _ _ => (pg_seq xs.blk.calm (pgs_cons (pg_name xs.blk.nd rfl (by first | exact .inl rfl | exact .inr rfl)) (pgs_cons (pg_name xs.blk.nd rfl (by first | exact .inl rfl | exact .inr rfl)) pgs_nil)))) (gok_seq rfl (gsok_cons gok_name (gsok_cons gok_name gsok_nil))) (by decide) (fun _ _ _ _ _ => (se_call ⟨(cal "cut" _ rfl).at_⟩ xs.blk rfl rfl (sa_cons (se_v rfl (by first | exact .inl rfl | exact .inr (.inl rfl) | exact .inr (.inr rfl))) (sa_cons (se_ix xs.blk.u1 (SV (se_v rfl (by first | exact .inl rfl | exact .inr (.inl rfl) | exact .inr (.inr rfl)))) (se_v rfl (by first | exact .inl rfl | exact .inr (.inl rfl) | exact .inr (.inr rfl)))) sa_nil)) rfl))))) sav_nil))))
  (ss_one (s_ret (se_if (st_cmp (opC_in xs.u65) (SV se_non) (SV (se_v rfl (by first | exact .inl rfl | exact .inr (.inl rfl) | exact .inr (.inr rfl)))) rfl) se_non (se_v rfl (by first | exact .inl rfl | exact .inr (.inl rfl) | exact .inr (.inr rfl)))))))
theorem dn_f_cut_all (X : K.In h) (G : h.Ns mainGlobals mg) (c : He.SaysD fa fn K) (g : Gx K mg) : Dn Pg w K mg (caK K tf) P "cut_all" f_cut_all := by
  obtain ⟨fd, F⟩ := c.def_ 3 (d := d_f_cut_all) rfl
  exact ⟨_, _, _, _, _, _, fd, ["regions", "simples", "found", "at", "region"], ["regions", "simples"], F, He.glo_ok X G (c.fact 3 (f := .glo "cut_all") rfl), sc_f_cut_all, rfl, rfl, F.bindsN fun _ _ _ _ _ _ us hl => match us, hl with | [_, _], _ => rfl, fun base cdv A out s H E e n tb hc cal xs sl => dv_f_cut_all g cal xs sl⟩
theorem sc_f_rest_of_range : FnScope ["region", "simple", "low", "high", "found"] ["region", "simple"] (defScope (top 8)) := ⟨rfl, rfl, rfl, by decide +kernel, rfl, by decide +kernel, by decide +kernel⟩
theorem dv_f_rest_of_range {base : Heap} {a : Addr} {cdv : Value} {A : Around} {out : List Env} {s : Shared} {H : Hp} {E : XK} {e : En} {n : Nat} (g : Gx K mg)
    (cal : ∀ g d, P g = some d → Callee (cx Pg w K mg base ["region", "simple", "low", "high", "found"] "rest_of_range" (defScope (top 8)) a cdv A out s H E) ca n (Ev.callN P n) g d.np) (xs : XS (cx Pg w K mg base ["region", "simple", "low", "high", "found"] "rest_of_range" (defScope (top 8)) a cdv A out s H E) (wE E) n) (sl : Slk (cx Pg w K mg base ["region", "simple", "low", "high", "found"] "rest_of_range" (defScope (top 8)) a cdv A out s H E) n) :
    PSs (cx Pg w K mg base ["region", "simple", "low", "high", "found"] "rest_of_range" (defScope (top 8)) a cdv A out s H E) (defBody (top 8)) (tS (ct (cx Pg w K mg base ["region", "simple", "low", "high", "found"] "rest_of_range" (defScope (top 8)) a cdv A out s H E) ca) (wE E) e (f_rest_of_range.body (Ev.callN P n))) :=
  (ss_cons xs (s_asT (pg_seq xs.calm (pgs_cons (pg_name xs.nd rfl (by first | exact .inl rfl | exact .inr rfl)) (pgs_cons (pg_name xs.nd rfl (by first | exact .inl rfl | exact .inr rfl)) pgs_nil))) (gok_seq rfl (gsok_cons gok_name (gsok_cons gok_name gsok_nil))) (se_if (st_cmp (opC_eq xs.u64) (SV (se_v rfl (by first | exact .inl rfl | exact .inr (.inl rfl) | exact .inr (.inr rfl)))) (SV (se_gc g.c_ANY rfl)) rfl) (se_tup (sa_cons (se_op opD_sub (SV se_int) (SV (se_gc g.c_INTEGER_MOST rfl))) (sa_cons (se_gc g.c_INTEGER_MOST rfl) sa_nil))) (se_slc (SV (se_v rfl (by first | exact .inl rfl | exact .inr (.inl rfl) | exact .inr (.inr rfl)))) (so_e se_int) so_n)))
  (ss_cons xs (s_if xs (PW.pt (sw_or (st_cmp opC_lt (SV (se_ix xs.u1 (SV (se_v rfl (by first | exact .inl rfl | exact .inr (.inl rfl) | exact .inr (.inr rfl)))) se_int)) (SV (se_v rfl (by first | exact .inl rfl | exact .inr (.inl rfl) | exact .inr (.inr rfl)))) rfl) (sw_or1 (st_cmp opC_lt (SV (se_v rfl (by first | exact .inl rfl | exact .inr (.inl rfl) | exact .inr (.inr rfl)))) (SV (se_ix xs.u1 (SV (se_v rfl (by first | exact .inl rfl | exact .inr (.inl rfl) | exact .inr (.inr rfl)))) se_int)) rfl)))) (ss_one (s_ret (SN (sn_lst (sa_cons (se_v rfl (by first | exact .inl rfl | exact .inr (.inl rfl) | exact .inr (.inr rfl))) sa_nil))))) ss_nil)
  (ss_cons xs (s_own xs.nd rfl (by first | exact .inl rfl | exact .inr rfl) (sn_lst sa_nil))
  (ss_cons xs (s_if xs (st_cmp opC_lt (SV (se_v rfl (by first | exact .inl rfl | exact .inr (.inl rfl) | exact .inr (.inr rfl)))) (SV (se_ix xs.u1 (SV (se_v rfl (by first | exact .inl rfl | exact .inr (.inl rfl) | exact .inr (.inr rfl)))) se_int)) rfl) (ss_one (s_app rfl (by first | exact .inl rfl | exact .inr (.inl rfl) | exact .inr (.inr rfl)) (se_tup (sa_cons se_str (sa_cons (se_v rfl (by first | exact .inl rfl | exact .inr (.inl rfl) | exact .inr (.inr rfl))) (sa_cons (se_op opD_sub (SV (se_ix xs.u1 (SV (se_v rfl (by first | exact .inl rfl | exact .inr (.inl rfl) | exact .inr (.inr rfl)))) se_int)) (SV se_int)) sa_nil)))))) ss_nil)
  (ss_cons xs (s_if xs (st_cmp opC_lt (SV (se_ix xs.u1 (SV (se_v rfl (by first | exact .inl rfl | exact .inr (.inl rfl) | exact .inr (.inr rfl)))) se_int)) (SV (se_v rfl (by first | exact .inl rfl | exact .inr (.inl rfl) | exact .inr (.inr rfl)))) rfl) (ss_one (s_app rfl (by first | exact .inl rfl | exact .inr (.inl rfl) | exact .inr (.inr rfl)) (se_tup (sa_cons se_str (sa_cons (se_op opD_add (SV (se_ix xs.u1 (SV (se_v rfl (by first | exact .inl rfl | exact .inr (.inl rfl) | exact .inr (.inr rfl)))) se_int)) (SV se_int)) (sa_cons (se_v rfl (by first | exact .inl rfl | exact .inr (.inl rfl) | exact .inr (.inr rfl))) sa_nil)))))) ss_nil)
  (ss_frz xs (ss_one (s_ret (se_v rfl (by first | exact .inl rfl | exact .inr (.inl rfl) | exact .inr (.inr rfl)))))))))))
theorem dn_f_rest_of_range (X : K.In h) (G : h.Ns mainGlobals mg) (c : He.SaysD fa fn K) (g : Gx K mg) : Dn Pg w K mg (caK K tf) P "rest_of_range" f_rest_of_range := by
  obtain ⟨fd, F⟩ := c.def_ 4 (d := d_f_rest_of_range) rfl
  exact ⟨_, _, _, _, _, _, fd, ["region", "simple", "low", "high", "found"], ["region", "simple"], F, He.glo_ok X G (c.fact 4 (f := .glo "rest_of_range") rfl), sc_f_rest_of_range, rfl, rfl, F.bindsN fun _ _ _ _ _ _ us hl => match us, hl with | [_, _], _ => rfl, fun base cdv A out s H E e n tb hc cal xs sl => dv_f_rest_of_range g cal xs sl⟩
theorem sc_f_left_out : FnScope ["types", "name", "region", "made", "names", "constructor", "_", "out"] ["types", "name", "region", "made"] (defScope (top 9)) := ⟨rfl, rfl, rfl, by decide +kernel, rfl, by decide +kernel, by decide +kernel⟩
theorem dv_f_left_out {base : Heap} {a : Addr} {cdv : Value} {A : Around} {out : List Env} {s : Shared} {H : Hp} {E : XK} {e : En} {n : Nat} (g : Gx K mg)
    (cal : ∀ g d, P g = some d → Callee (cx Pg w K mg base ["types", "name", "region", "made", "names", "constructor", "_", "out"] "left_out" (defScope (top 9)) a cdv A out s H E) ca n (Ev.callN P n) g d.np) (xs : XS (cx Pg w K mg base ["types", "name", "region", "made", "names", "constructor", "_", "out"] "left_out" (defScope (top 9)) a cdv A out s H E) (wE E) n) (sl : Slk (cx Pg w K mg base ["types", "name", "region", "made", "names", "constructor", "_", "out"] "left_out" (defScope (top 9)) a cdv A out s H E) n) :
    PSs (cx Pg w K mg base ["types", "name", "region", "made", "names", "constructor", "_", "out"] "left_out" (defScope (top 9)) a cdv A out s H E) (defBody (top 9)) (tS (ct (cx Pg w K mg base ["types", "name", "region", "made", "names", "constructor", "_", "out"] "left_out" (defScope (top 9)) a cdv A out s H E) ca) (wE E) e (f_left_out.body (Ev.callN P n))) :=
  (ss_cons xs (s_asOf (SA (pa_comp0 (own := [("constructor", 5), ("_", 6)]) xs rfl rfl (si_e (se_call ⟨(cal "constructors" _ rfl).at_⟩ xs rfl rfl (sa_cons (se_v rfl (by first | exact .inl rfl | exact .inr (.inl rfl) | exact .inr (.inr rfl))) (sa_cons (se_v rfl (by first | exact .inl rfl | exact .inr (.inl rfl) | exact .inr (.inr rfl))) sa_nil)) rfl)) (blkOk_by (by kernel_rfl)) (fun _ _ _ _ _ => (pg_seq xs.blk.calm (pgs_cons (pg_name xs.blk.nd rfl (by first | exact .inl rfl | exact .inr rfl)) (pgs_cons (pg_name xs.blk.nd rfl (by first | exact .inl rfl | exact .inr rfl)) pgs_nil)))) (gok_seq rfl (gsok_cons gok_name (gsok_cons gok_name gsok_nil))) (by decide) (fun _ _ _ _ _ => (se_v rfl (by first | exact .inl rfl | exact .inr (.inl rfl) | exact .inr (.inr rfl)))))) gok_name)
  (ss_cons xs (s_as xs.nd rfl (by first | exact .inl rfl | exact .inr rfl) (se_if (st_cmp (opC_eq xs.u64) (SV (se_v rfl (by first | exact .inl rfl | exact .inr (.inl rfl) | exact .inr (.inr rfl)))) (SV (se_gc g.c_ANY rfl)) rfl) (SN (sn_lst (sa_cons (se_v rfl (by first | exact .inl rfl | exact .inr (.inl rfl) | exact .inr (.inr rfl))) sa_nil))) (se_op opD_add (SV (SN (sn_bi (pe_callTy cb_list rfl g.f_list rfl (sav_cons (SV (se_ix xs.u1 (SV (se_v rfl (by first | exact .inl rfl | exact .inr (.inl rfl) | exact .inr (.inr rfl)))) se_int)) sav_nil))))) (SV (SN (sn_lst (sa_cons (se_v rfl (by first | exact .inl rfl | exact .inr (.inl rfl) | exact .inr (.inr rfl))) sa_nil)))))))
  (ss_cons xs (s_if xs (st_cmp (opC_eq xs.u64) (SV (se_bi (pe_callB cb_len rfl g.f_len rfl (sav_cons (SV (se_v rfl (by first | exact .inl rfl | exact .inr (.inl rfl) | exact .inr (.inr rfl)))) sav_nil)))) (SV (se_bi (pe_callB cb_len rfl g.f_len rfl (sav_cons (SV (se_v rfl (by first | exact .inl rfl | exact .inr (.inl rfl) | exact .inr (.inr rfl)))) sav_nil)))) rfl) (ss_one (s_ret (SN (sn_lst sa_nil)))) ss_nil)
  (ss_one (s_ret (SN (sn_lst (sa_cons (se_tup (sa_cons se_str (sa_cons (se_bi (pe_callTy cb_tuple rfl g.f_tuple rfl (sav_cons (SV (SN (sn_comp1 (own := [("constructor", 5)]) xs (si_e (se_v rfl (by first | exact .inl rfl | exact .inr (.inl rfl) | exact .inr (.inr rfl)))) (blkOk_by (by kernel_rfl)) (fun _ _ _ _ _ => (pg_name xs.blk.nd rfl (by first | exact .inl rfl | exact .inr rfl))) gok_name (by decide) (fun _ _ _ _ _ => (st_cmp (opC_in xs.blk.u65) (SV (se_v rfl (by first | exact .inl rfl | exact .inr (.inl rfl) | exact .inr (.inr rfl)))) (SV (se_v rfl (by first | exact .inl rfl | exact .inr (.inl rfl) | exact .inr (.inr rfl)))) rfl)) (fun _ _ _ _ _ => (se_v rfl (by first | exact .inl rfl | exact .inr (.inl rfl) | exact .inr (.inr rfl))))))) sav_nil))) sa_nil))) sa_nil))))))))
theorem dn_f_left_out (X : K.In h) (G : h.Ns mainGlobals mg) (c : He.SaysD fa fn K) (g : Gx K mg) : Dn Pg w K mg (caK K tf) P "left_out" f_left_out := by
  obtain ⟨fd, F⟩ := c.def_ 5 (d := d_f_left_out) rfl
  exact ⟨_, _, _, _, _, _, fd, ["types", "name", "region", "made", "names", "constructor", "_", "out"], ["types", "name", "region", "made"], F, He.glo_ok X G (c.fact 5 (f := .glo "left_out") rfl), sc_f_left_out, rfl, rfl, F.bindsN fun _ _ _ _ _ _ us hl => match us, hl with | [_, _, _, _], _ => rfl, fun base cdv A out s H E e n tb hc cal xs sl => dv_f_left_out g cal xs sl⟩
theorem sc_f_rest : FnScope ["types", "name", "region", "simple", "_", "made", "parts", "fields", "found", "inner", "row"] ["types", "name", "region", "simple"] (defScope (top 10)) := ⟨rfl, rfl, rfl, by decide +kernel, rfl, by decide +kernel, by decide +kernel⟩
theorem dv_f_rest {base : Heap} {a : Addr} {cdv : Value} {A : Around} {out : List Env} {s : Shared} {H : Hp} {E : XK} {e : En} {n : Nat} (g : Gx K mg)
    (cal : ∀ g d, P g = some d → Callee (cx Pg w K mg base ["types", "name", "region", "simple", "_", "made", "parts", "fields", "found", "inner", "row"] "rest" (defScope (top 10)) a cdv A out s H E) ca n (Ev.callN P n) g d.np) (xs : XS (cx Pg w K mg base ["types", "name", "region", "simple", "_", "made", "parts", "fields", "found", "inner", "row"] "rest" (defScope (top 10)) a cdv A out s H E) (wE E) n) (sl : Slk (cx Pg w K mg base ["types", "name", "region", "simple", "_", "made", "parts", "fields", "found", "inner", "row"] "rest" (defScope (top 10)) a cdv A out s H E) n) :
    PSs (cx Pg w K mg base ["types", "name", "region", "simple", "_", "made", "parts", "fields", "found", "inner", "row"] "rest" (defScope (top 10)) a cdv A out s H E) (defBody (top 10)) (tS (ct (cx Pg w K mg base ["types", "name", "region", "simple", "_", "made", "parts", "fields", "found", "inner", "row"] "rest" (defScope (top 10)) a cdv A out s H E) ca) (wE E) e (f_rest.body (Ev.callN P n))) :=
  (ss_cons xs (s_if xs (st_cmp (opC_eq xs.u64) (SV (se_v rfl (by first | exact .inl rfl | exact .inr (.inl rfl) | exact .inr (.inr rfl)))) (SV (se_gc g.c_ANY rfl)) rfl) (ss_one (s_ret (SN (sn_lst sa_nil)))) ss_nil)
  (ss_cons xs (s_if xs (st_cmp (opC_eq xs.u64) (SV (se_ix xs.u1 (SV (se_v rfl (by first | exact .inl rfl | exact .inr (.inl rfl) | exact .inr (.inr rfl)))) se_int)) (SV se_str) rfl) (ss_one (s_ret (se_call ⟨(cal "rest_of_range" _ rfl).at_⟩ xs rfl rfl (sa_cons (se_v rfl (by first | exact .inl rfl | exact .inr (.inl rfl) | exact .inr (.inr rfl))) (sa_cons (se_v rfl (by first | exact .inl rfl | exact .inr (.inl rfl) | exact .inr (.inr rfl))) sa_nil)) rfl))) ss_nil)
  (ss_cons xs (s_asT (pg_seq xs.calm (pgs_cons (pg_name xs.nd rfl (by first | exact .inl rfl | exact .inr rfl)) (pgs_cons (pg_name xs.nd rfl (by first | exact .inl rfl | exact .inr rfl)) (pgs_cons (pg_name xs.nd rfl (by first | exact .inl rfl | exact .inr rfl)) pgs_nil)))) (gok_seq rfl (gsok_cons gok_name (gsok_cons gok_name (gsok_cons gok_name gsok_nil)))) (se_v rfl (by first | exact .inl rfl | exact .inr (.inl rfl) | exact .inr (.inr rfl))))
  (ss_cons xs (s_if xs (PW.pt (sw_or (PW.pt (sw_and (st_cmp (opC_eq xs.u64) (SV (se_ix xs.u1 (SV (se_v rfl (by first | exact .inl rfl | exact .inr (.inl rfl) | exact .inr (.inr rfl)))) se_int)) (SV se_str) rfl) (sw_and1 (st_cmp (opC_in xs.u65) (SV (se_v rfl (by first | exact .inl rfl | exact .inr (.inl rfl) | exact .inr (.inr rfl)))) (SV (se_ix xs.u1 (SV (se_v rfl (by first | exact .inl rfl | exact .inr (.inl rfl) | exact .inr (.inr rfl)))) se_int)) rfl)))) (sw_or1 (PW.pt (sw_and (st_cmp (opC_eq xs.u64) (SV (se_ix xs.u1 (SV (se_v rfl (by first | exact .inl rfl | exact .inr (.inl rfl) | exact .inr (.inr rfl)))) se_int)) (SV se_str) rfl) (sw_and1 (st_cmp (opC_ne xs.u64) (SV (se_ix xs.u1 (SV (se_v rfl (by first | exact .inl rfl | exact .inr (.inl rfl) | exact .inr (.inr rfl)))) se_int)) (SV (se_v rfl (by first | exact .inl rfl | exact .inr (.inl rfl) | exact .inr (.inr rfl)))) rfl))))))) (ss_one (s_ret (SN (sn_lst (sa_cons (se_v rfl (by first | exact .inl rfl | exact .inr (.inl rfl) | exact .inr (.inr rfl))) sa_nil))))) ss_nil)
  (ss_cons xs (s_as xs.nd rfl (by first | exact .inl rfl | exact .inr rfl) (se_call ⟨(cal "fields_of" _ rfl).at_⟩ xs rfl rfl (sa_cons (se_v rfl (by first | exact .inl rfl | exact .inr (.inl rfl) | exact .inr (.inr rfl))) (sa_cons (se_v rfl (by first | exact .inl rfl | exact .inr (.inl rfl) | exact .inr (.inr rfl))) sa_nil)) rfl))
  (ss_cons xs (s_own xs.nd rfl (by first | exact .inl rfl | exact .inr rfl) (sn_lst sa_nil))
  (ss_cons xs (s_as xs.nd rfl (by first | exact .inl rfl | exact .inr rfl) (se_if (st_cmp (opC_eq xs.u64) (SV (se_ix xs.u1 (SV (se_v rfl (by first | exact .inl rfl | exact .inr (.inl rfl) | exact .inr (.inr rfl)))) se_int)) (SV se_str) rfl) (se_ix xs.u1 (SV (se_v rfl (by first | exact .inl rfl | exact .inr (.inl rfl) | exact .inr (.inr rfl)))) se_int) (se_bi (pe_callTy cb_tuple rfl g.f_tuple rfl (sav_cons (SV (SN (sn_comp0 (own := [("_", 4)]) xs (si_e (se_v rfl (by first | exact .inl rfl | exact .inr (.inl rfl) | exact .inr (.inr rfl)))) (blkOk_by (by kernel_rfl)) (fun _ _ _ _ _ => (pg_name xs.blk.nd rfl (by first | exact .inl rfl | exact .inr rfl))) gok_name (by decide) (fun _ _ _ _ _ => (se_gc g.c_ANY rfl))))) sav_nil)))))
  (ss_cons xs (s_if xs (st_cmp (opC_ne xs.u64) (SV (se_ix xs.u1 (SV (se_v rfl (by first | exact .inl rfl | exact .inr (.inl rfl) | exact .inr (.inr rfl)))) se_int)) (SV se_str) rfl) (ss_one (s_ext rfl (by first | exact .inl rfl | exact .inr (.inl rfl) | exact .inr (.inr rfl)) (SV (se_call ⟨(cal "left_out" _ rfl).at_⟩ xs rfl rfl (sa_cons (se_v rfl (by first | exact .inl rfl | exact .inr (.inl rfl) | exact .inr (.inr rfl))) (sa_cons (se_v rfl (by first | exact .inl rfl | exact .inr (.inl rfl) | exact .inr (.inr rfl))) (sa_cons (se_v rfl (by first | exact .inl rfl | exact .inr (.inl rfl) | exact .inr (.inr rfl))) (sa_cons (se_v rfl (by first | exact .inl rfl | exact .inr (.inl rfl) | exact .inr (.inr rfl))) sa_nil)))) rfl)))) ss_nil)
  (ss_cons xs (s_ext rfl (by first | exact .inl rfl | exact .inr (.inl rfl) | exact .inr (.inr rfl)) (SV (SN (sn_comp0 (own := [("row", 10)]) xs (si_e (se_call ⟨(cal "rest_all" _ rfl).at_⟩ xs rfl rfl (sa_cons (se_v rfl (by first | exact .inl rfl | exact .inr (.inl rfl) | exact .inr (.inr rfl))) (sa_cons (se_v rfl (by first | exact .inl rfl | exact .inr (.inl rfl) | exact .inr (.inr rfl))) (sa_cons (se_v rfl (by first | exact .inl rfl | exact .inr (.inl rfl) | exact .inr (.inr rfl))) (sa_cons (se_v rfl (by first | exact .inl rfl | exact .inr (.inl rfl) | exact .inr (.inr rfl))) sa_nil)))) rfl)) (blkOk_by (by kernel_rfl)) (fun _ _ _ _ _ => (pg_name xs.blk.nd rfl (by first | exact .inl rfl | exact .inr rfl))) gok_name (by decide) (fun _ _ _ _ _ => (se_tup (sa_cons se_str (sa_cons (se_v rfl (by first | exact .inl rfl | exact .inr (.inl rfl) | exact .inr (.inr rfl))) (sa_cons (se_v rfl (by first | exact .inl rfl | exact .inr (.inl rfl) | exact .inr (.inr rfl))) sa_nil)))))))))
  (ss_frz xs (ss_one (s_ret (se_v rfl (by first | exact .inl rfl | exact .inr (.inl rfl) | exact .inr (.inr rfl)))))))))))))))
theorem dn_f_rest (X : K.In h) (G : h.Ns mainGlobals mg) (c : He.SaysD fa fn K) (g : Gx K mg) : Dn Pg w K mg (caK K tf) P "rest" f_rest := by
  obtain ⟨fd, F⟩ := c.def_ 6 (d := d_f_rest) rfl
  exact ⟨_, _, _, _, _, _, fd, ["types", "name", "region", "simple", "_", "made", "parts", "fields", "found", "inner", "row"], ["types", "name", "region", "simple"], F, He.glo_ok X G (c.fact 6 (f := .glo "rest") rfl), sc_f_rest, rfl, rfl, F.bindsN fun _ _ _ _ _ _ us hl => match us, hl with | [_, _, _, _], _ => rfl, fun base cdv A out s H E e n tb hc cal xs sl => dv_f_rest g cal xs sl⟩
theorem sc_f_rest_all : FnScope ["types", "names", "regions", "simples", "cuts", "found", "at", "name", "part"] ["types", "names", "regions", "simples"] (defScope (top 11)) := ⟨rfl, rfl, rfl, by decide +kernel, rfl, by decide +kernel, by decide +kernel⟩
theorem dv_f_rest_all {base : Heap} {a : Addr} {cdv : Value} {A : Around} {out : List Env} {s : Shared} {H : Hp} {E : XK} {e : En} {n : Nat} (g : Gx K mg)
    (cal : ∀ g d, P g = some d → Callee (cx Pg w K mg base ["types", "names", "regions", "simples", "cuts", "found", "at", "name", "part"] "rest_all" (defScope (top 11)) a cdv A out s H E) ca n (Ev.callN P n) g d.np) (xs : XS (cx Pg w K mg base ["types", "names", "regions", "simples", "cuts", "found", "at", "name", "part"] "rest_all" (defScope (top 11)) a cdv A out s H E) (wE E) n) (sl : Slk (cx Pg w K mg base ["types", "names", "regions", "simples", "cuts", "found", "at", "name", "part"] "rest_all" (defScope (top 11)) a cdv A out s H E) n) :
    PSs (cx Pg w K mg base ["types", "names", "regions", "simples", "cuts", "found", "at", "name", "part"] "rest_all" (defScope (top 11)) a cdv A out s H E) (defBody (top 11)) (tS (ct (cx Pg w K mg base ["types", "names", "regions", "simples", "cuts", "found", "at", "name", "part"] "rest_all" (defScope (top 11)) a cdv A out s H E) ca) (wE E) e (f_rest_all.body (Ev.callN P n))) :=
  (ss_cons xs (s_as xs.nd rfl (by first | exact .inl rfl | exact .inr rfl) (se_call ⟨(cal "cut_all" _ rfl).at_⟩ xs rfl rfl (sa_cons (se_v rfl (by first | exact .inl rfl | exact .inr (.inl rfl) | exact .inr (.inr rfl))) (sa_cons (se_v rfl (by first | exact .inl rfl | exact .inr (.inl rfl) | exact .inr (.inr rfl))) sa_nil)) rfl))
  (ss_cons xs (s_if xs (st_isN (SV (se_v rfl (by first | exact .inl rfl | exact .inr (.inl rfl) | exact .inr (.inr rfl))))) (ss_one (s_ret (SN (sn_lst (sa_cons (se_v rfl (by first | exact .inl rfl | exact .inr (.inl rfl) | exact .inr (.inr rfl))) sa_nil))))) ss_nil)
  (ss_cons xs (s_own xs.nd rfl (by first | exact .inl rfl | exact .inr rfl) (sn_lst sa_nil))
  (ss_cons xs (s_for xs (si_enum rfl g.f_enumerate (se_v rfl (by first | exact .inl rfl | exact .inr (.inl rfl) | exact .inr (.inr rfl)))) (pg_seq xs.calm (pgs_cons (pg_name xs.nd rfl (by first | exact .inl rfl | exact .inr rfl)) (pgs_cons (pg_name xs.nd rfl (by first | exact .inl rfl | exact .inr rfl)) pgs_nil))) (gok_seq rfl (gsok_cons gok_name (gsok_cons gok_name gsok_nil))) (ss_one (s_for xs (si_e (se_call ⟨(cal "rest" _ rfl).at_⟩ xs rfl rfl (sa_cons (se_v rfl (by first | exact .inl rfl | exact .inr (.inl rfl) | exact .inr (.inr rfl))) (sa_cons (se_v rfl (by first | exact .inl rfl | exact .inr (.inl rfl) | exact .inr (.inr rfl))) (sa_cons (se_ix xs.u1 (SV (se_v rfl (by first | exact .inl rfl | exact .inr (.inl rfl) | exact .inr (.inr rfl)))) (se_v rfl (by first | exact .inl rfl | exact .inr (.inl rfl) | exact .inr (.inr rfl)))) (sa_cons (se_ix xs.u1 (SV (se_v rfl (by first | exact .inl rfl | exact .inr (.inl rfl) | exact .inr (.inr rfl)))) (se_v rfl (by first | exact .inl rfl | exact .inr (.inl rfl) | exact .inr (.inr rfl)))) sa_nil)))) rfl)) (pg_name xs.nd rfl (by first | exact .inl rfl | exact .inr rfl)) gok_name (ss_one (s_app rfl (by first | exact .inl rfl | exact .inr (.inl rfl) | exact .inr (.inr rfl)) (se_op opD_add (SV (se_op opD_add (SV (se_slc (SV (se_v rfl (by first | exact .inl rfl | exact .inr (.inl rfl) | exact .inr (.inr rfl)))) so_n (so_e (se_v rfl (by first | exact .inl rfl | exact .inr (.inl rfl) | exact .inr (.inr rfl)))))) (SV (se_tup (sa_cons (se_v rfl (by first | exact .inl rfl | exact .inr (.inl rfl) | exact .inr (.inr rfl))) sa_nil))))) (SV (se_slc (SV (se_v rfl (by first | exact .inl rfl | exact .inr (.inl rfl) | exact .inr (.inr rfl)))) (so_e (se_op opD_add (SV (se_v rfl (by first | exact .inl rfl | exact .inr (.inl rfl) | exact .inr (.inr rfl)))) (SV se_int))) so_n))))))))
  (ss_frz xs (ss_one (s_ret (se_v rfl (by first | exact .inl rfl | exact .inr (.inl rfl) | exact .inr (.inr rfl))))))))))
theorem dn_f_rest_all (X : K.In h) (G : h.Ns mainGlobals mg) (c : He.SaysD fa fn K) (g : Gx K mg) : Dn Pg w K mg (caK K tf) P "rest_all" f_rest_all := by
  obtain ⟨fd, F⟩ := c.def_ 7 (d := d_f_rest_all) rfl
  exact ⟨_, _, _, _, _, _, fd, ["types", "names", "regions", "simples", "cuts", "found", "at", "name", "part"], ["types", "names", "regions", "simples"], F, He.glo_ok X G (c.fact 7 (f := .glo "rest_all") rfl), sc_f_rest_all, rfl, rfl, F.bindsN fun _ _ _ _ _ _ us hl => match us, hl with | [_, _, _, _], _ => rfl, fun base cdv A out s H E e n tb hc cal xs sl => dv_f_rest_all g cal xs sl⟩
theorem sc_f_holds : FnScope ["region", "value", "at", "part"] ["region", "value"] (defScope (top 12)) := ⟨rfl, rfl, rfl, by decide +kernel, rfl, by decide +kernel, by decide +kernel⟩
theorem dv_f_holds {base : Heap} {a : Addr} {cdv : Value} {A : Around} {out : List Env} {s : Shared} {H : Hp} {E : XK} {e : En} {n : Nat} (g : Gx K mg)
    (cal : ∀ g d, P g = some d → Callee (cx Pg w K mg base ["region", "value", "at", "part"] "holds" (defScope (top 12)) a cdv A out s H E) ca n (Ev.callN P n) g d.np) (xs : XS (cx Pg w K mg base ["region", "value", "at", "part"] "holds" (defScope (top 12)) a cdv A out s H E) (wE E) n) (sl : Slk (cx Pg w K mg base ["region", "value", "at", "part"] "holds" (defScope (top 12)) a cdv A out s H E) n) (tbx : Tbx (cx Pg w K mg base ["region", "value", "at", "part"] "holds" (defScope (top 12)) a cdv A out s H E) ca) :
    PSs (cx Pg w K mg base ["region", "value", "at", "part"] "holds" (defScope (top 12)) a cdv A out s H E) (defBody (top 12)) (tS (ct (cx Pg w K mg base ["region", "value", "at", "part"] "holds" (defScope (top 12)) a cdv A out s H E) ca) (wE E) e (f_holds.body (Ev.callN P n))) :=
  (ss_cons xs (s_if xs (st_cmp (opC_eq xs.u64) (SV (se_v rfl (by first | exact .inl rfl | exact .inr (.inl rfl) | exact .inr (.inr rfl)))) (SV (se_gc g.c_ANY rfl)) rfl) (ss_one (s_ret se_bl)) ss_nil)
  (ss_cons xs (s_if xs (st_cmp (opC_eq xs.u64) (SV (se_ix xs.u1 (SV (se_v rfl (by first | exact .inl rfl | exact .inr (.inl rfl) | exact .inr (.inr rfl)))) se_int)) (SV se_str) rfl) (ss_one (s_ret (se_ch opC_le opC_le (SV (se_ix xs.u1 (SV (se_v rfl (by first | exact .inl rfl | exact .inr (.inl rfl) | exact .inr (.inr rfl)))) se_int)) (SV (se_ix xs.u1 (SV (se_v rfl (by first | exact .inl rfl | exact .inr (.inl rfl) | exact .inr (.inr rfl)))) se_int)) (SV (se_ix xs.u1 (SV (se_v rfl (by first | exact .inl rfl | exact .inr (.inl rfl) | exact .inr (.inr rfl)))) se_int))))) ss_nil)
  (ss_cons xs (s_if xs (st_cmp (opC_eq xs.u64) (SV (se_ix xs.u1 (SV (se_v rfl (by first | exact .inl rfl | exact .inr (.inl rfl) | exact .inr (.inr rfl)))) se_int)) (SV se_str) rfl) (ss_one (s_ret (se_cmp (opC_nin xs.u65) (SV (se_ix xs.u1 (SV (se_v rfl (by first | exact .inl rfl | exact .inr (.inl rfl) | exact .inr (.inr rfl)))) se_int)) (SV (se_ix xs.u1 (SV (se_v rfl (by first | exact .inl rfl | exact .inr (.inl rfl) | exact .inr (.inr rfl)))) se_int)) rfl))) ss_nil)
  (ss_one (s_ret (se_and (se_cmp (opC_eq xs.u64) (SV (se_ix xs.u1 (SV (se_v rfl (by first | exact .inl rfl | exact .inr (.inl rfl) | exact .inr (.inr rfl)))) se_int)) (SV (se_ix xs.u1 (SV (se_v rfl (by first | exact .inl rfl | exact .inr (.inl rfl) | exact .inr (.inr rfl)))) se_int)) rfl) (se_one (se_all (own := [("at", 2), ("part", 3)]) xs sl tbx rfl g.f_all (si_enum rfl g.f_enumerate (se_ix xs.u1 (SV (se_v rfl (by first | exact .inl rfl | exact .inr (.inl rfl) | exact .inr (.inr rfl)))) se_int)) (blkOk_by (by kernel_rfl)) ⟨by decide +kernel, by rfl, rfl⟩ (fun _ _ _ _ _ _ _ r => (pg_seq (xs.gen r).calm (pgs_cons (pg_name (xs.gen r).nd rfl (by first | exact .inl rfl | exact .inr rfl)) (pgs_cons (pg_name (xs.gen r).nd rfl (by first | exact .inl rfl | exact .inr rfl)) pgs_nil)))) (gok_seq rfl (gsok_cons gok_name (gsok_cons gok_name gsok_nil))) (by decide) (fun _ _ _ _ _ _ _ r => (se_call ⟨(cal "holds" _ rfl).at_⟩ (xs.gen r) rfl rfl (sa_cons (se_v rfl (by first | exact .inl rfl | exact .inr (.inl rfl) | exact .inr (.inr rfl))) (sa_cons (se_ix (xs.gen r).u1 (SV (se_ix (xs.gen r).u1 (SV (se_v rfl (by first | exact .inl rfl | exact .inr (.inl rfl) | exact .inr (.inr rfl)))) se_int)) (se_v rfl (by first | exact .inl rfl | exact .inr (.inl rfl) | exact .inr (.inr rfl)))) sa_nil)) rfl))))))))))
theorem dn_f_holds (X : K.In h) (G : h.Ns mainGlobals mg) (c : He.SaysD fa fn K) (g : Gx K mg) : Dn Pg w K mg (caK K tf) P "holds" f_holds := by
  obtain ⟨fd, F⟩ := c.def_ 8 (d := d_f_holds) rfl
  exact ⟨_, _, _, _, _, _, fd, ["region", "value", "at", "part"], ["region", "value"], F, He.glo_ok X G (c.fact 8 (f := .glo "holds") rfl), sc_f_holds, rfl, rfl, F.bindsN fun _ _ _ _ _ _ us hl => match us, hl with | [_, _], _ => rfl, fun base cdv A out s H E e n tb hc cal xs sl => dv_f_holds g cal xs sl (tbx_of tb hc (List.mem_of_getElem? (i := 0) rfl))⟩
theorem sc_f_law_cell : FnScope ["script", "k"] ["script", "k"] (defScope (top 14)) := ⟨rfl, rfl, rfl, by decide +kernel, rfl, by decide +kernel, by decide +kernel⟩
theorem dv_f_law_cell {base : Heap} {a : Addr} {cdv : Value} {A : Around} {out : List Env} {s : Shared} {H : Hp} {E : XK} {e : En} {n : Nat} (g : Gx K mg)
    (cal : ∀ g d, P g = some d → Callee (cx Pg w K mg base ["script", "k"] "_law_cell" (defScope (top 14)) a cdv A out s H E) ca n (Ev.callN P n) g d.np) (xs : XS (cx Pg w K mg base ["script", "k"] "_law_cell" (defScope (top 14)) a cdv A out s H E) (wE E) n) (sl : Slk (cx Pg w K mg base ["script", "k"] "_law_cell" (defScope (top 14)) a cdv A out s H E) n) :
    PSs (cx Pg w K mg base ["script", "k"] "_law_cell" (defScope (top 14)) a cdv A out s H E) (defBody (top 14)) (tS (ct (cx Pg w K mg base ["script", "k"] "_law_cell" (defScope (top 14)) a cdv A out s H E) ca) (wE E) e (f_law_cell.body (Ev.callN P n))) :=
  (ss_cons xs (s_if xs (st_cmp opC_lt (SV (se_v rfl (by first | exact .inl rfl | exact .inr (.inl rfl) | exact .inr (.inr rfl)))) (SV (se_bi (pe_callB cb_len rfl g.f_len rfl (sav_cons (SV (se_v rfl (by first | exact .inl rfl | exact .inr (.inl rfl) | exact .inr (.inr rfl)))) sav_nil)))) rfl) (ss_one (s_ret (se_ix xs.u1 (SV (se_v rfl (by first | exact .inl rfl | exact .inr (.inl rfl) | exact .inr (.inr rfl)))) (se_v rfl (by first | exact .inl rfl | exact .inr (.inl rfl) | exact .inr (.inr rfl)))))) ss_nil)
  (ss_one (s_ret se_int)))
theorem dn_f_law_cell (X : K.In h) (G : h.Ns mainGlobals mg) (c : He.SaysD fa fn K) (g : Gx K mg) : Dn Pg w K mg (caK K tf) P "_law_cell" f_law_cell := by
  obtain ⟨fd, F⟩ := c.def_ 9 (d := d_f_law_cell) rfl
  exact ⟨_, _, _, _, _, _, fd, ["script", "k"], ["script", "k"], F, He.glo_ok X G (c.fact 9 (f := .glo "_law_cell") rfl), sc_f_law_cell, rfl, rfl, F.bindsN fun _ _ _ _ _ _ us hl => match us, hl with | [_, _], _ => rfl, fun base cdv A out s H E e n tb hc cal xs sl => dv_f_law_cell g cal xs sl⟩
theorem sc_f_law_same : FnScope ["actual", "due"] ["actual", "due"] (defScope (top 15)) := ⟨rfl, rfl, rfl, by decide +kernel, rfl, by decide +kernel, by decide +kernel⟩
theorem dv_f_law_same {base : Heap} {a : Addr} {cdv : Value} {A : Around} {out : List Env} {s : Shared} {H : Hp} {E : XK} {e : En} {n : Nat} (g : Gx K mg)
    (cal : ∀ g d, P g = some d → Callee (cx Pg w K mg base ["actual", "due"] "_law_same" (defScope (top 15)) a cdv A out s H E) ca n (Ev.callN P n) g d.np) (xs : XS (cx Pg w K mg base ["actual", "due"] "_law_same" (defScope (top 15)) a cdv A out s H E) (wE E) n) (sl : Slk (cx Pg w K mg base ["actual", "due"] "_law_same" (defScope (top 15)) a cdv A out s H E) n) :
    PSs (cx Pg w K mg base ["actual", "due"] "_law_same" (defScope (top 15)) a cdv A out s H E) (defBody (top 15)) (tS (ct (cx Pg w K mg base ["actual", "due"] "_law_same" (defScope (top 15)) a cdv A out s H E) ca) (wE E) e (f_law_same.body (Ev.callN P n))) :=
  (ss_one (s_ret (se_cmp (opC_eq xs.u64) (SV (se_bi (pe_callB (cb_repr xs.room.g xs.u65) rfl g.f_repr rfl (sav_cons (SV (se_v rfl (by first | exact .inl rfl | exact .inr (.inl rfl) | exact .inr (.inr rfl)))) sav_nil)))) (SV (se_bi (pe_callB (cb_repr xs.room.g xs.u65) rfl g.f_repr rfl (sav_cons (SV (se_v rfl (by first | exact .inl rfl | exact .inr (.inl rfl) | exact .inr (.inr rfl)))) sav_nil)))) rfl)))
theorem dn_f_law_same (X : K.In h) (G : h.Ns mainGlobals mg) (c : He.SaysD fa fn K) (g : Gx K mg) : Dn Pg w K mg (caK K tf) P "_law_same" f_law_same := by
  obtain ⟨fd, F⟩ := c.def_ 10 (d := d_f_law_same) rfl
  exact ⟨_, _, _, _, _, _, fd, ["actual", "due"], ["actual", "due"], F, He.glo_ok X G (c.fact 10 (f := .glo "_law_same") rfl), sc_f_law_same, rfl, rfl, F.bindsN fun _ _ _ _ _ _ us hl => match us, hl with | [_, _], _ => rfl, fun base cdv A out s H E e n tb hc cal xs sl => dv_f_law_same g cal xs sl⟩
theorem sc_f_law_digits : FnScope ["script", "first", "last", "digits", "k", "cell", "turn", "seed"] ["script", "first", "last"] (defScope (top 16)) := ⟨rfl, rfl, rfl, by decide +kernel, rfl, by decide +kernel, by decide +kernel⟩
theorem dv_f_law_digits {base : Heap} {a : Addr} {cdv : Value} {A : Around} {out : List Env} {s : Shared} {H : Hp} {E : XK} {e : En} {n : Nat} (g : Gx K mg)
    (cal : ∀ g d, P g = some d → Callee (cx Pg w K mg base ["script", "first", "last", "digits", "k", "cell", "turn", "seed"] "_law_digits" (defScope (top 16)) a cdv A out s H E) ca n (Ev.callN P n) g d.np) (xs : XS (cx Pg w K mg base ["script", "first", "last", "digits", "k", "cell", "turn", "seed"] "_law_digits" (defScope (top 16)) a cdv A out s H E) (wE E) n) (sl : Slk (cx Pg w K mg base ["script", "first", "last", "digits", "k", "cell", "turn", "seed"] "_law_digits" (defScope (top 16)) a cdv A out s H E) n) :
    PSs (cx Pg w K mg base ["script", "first", "last", "digits", "k", "cell", "turn", "seed"] "_law_digits" (defScope (top 16)) a cdv A out s H E) (defBody (top 16)) (tS (ct (cx Pg w K mg base ["script", "first", "last", "digits", "k", "cell", "turn", "seed"] "_law_digits" (defScope (top 16)) a cdv A out s H E) ca) (wE E) e (f_law_digits.body (Ev.callN P n))) :=
  (ss_cons xs (s_own xs.nd rfl (by first | exact .inl rfl | exact .inr rfl) (sn_lst sa_nil))
  (ss_cons xs (s_for xs (si_range2 rfl g.f_range (se_v rfl (by first | exact .inl rfl | exact .inr (.inl rfl) | exact .inr (.inr rfl))) (se_v rfl (by first | exact .inl rfl | exact .inr (.inl rfl) | exact .inr (.inr rfl)))) (pg_name xs.nd rfl (by first | exact .inl rfl | exact .inr rfl)) gok_name (ss_cons xs (s_as xs.nd rfl (by first | exact .inl rfl | exact .inr rfl) (se_call ⟨(cal "_law_cell" _ rfl).at_⟩ xs rfl rfl (sa_cons (se_v rfl (by first | exact .inl rfl | exact .inr (.inl rfl) | exact .inr (.inr rfl))) (sa_cons (se_v rfl (by first | exact .inl rfl | exact .inr (.inl rfl) | exact .inr (.inr rfl))) sa_nil)) rfl))
  (ss_cons xs (s_if xs (st_cmp opC_lt (SV (se_v rfl (by first | exact .inl rfl | exact .inr (.inl rfl) | exact .inr (.inr rfl)))) (SV se_int) rfl) (ss_one (s_as xs.nd rfl (by first | exact .inl rfl | exact .inr rfl) (se_op opD_sub (SV se_int) (SV (se_op opD_mul (SV se_int) (SV (se_v rfl (by first | exact .inl rfl | exact .inr (.inl rfl) | exact .inr (.inr rfl))))))))) ss_nil)
  (ss_one (s_if xs (st_cmp opC_ge (SV (se_v rfl (by first | exact .inl rfl | exact .inr (.inl rfl) | exact .inr (.inr rfl)))) (SV (se_op opD_pow (SV se_int) (SV se_int))) rfl) (ss_one (s_for xs (si_range1 rfl g.f_range se_int) (pg_name xs.nd rfl (by first | exact .inl rfl | exact .inr rfl)) gok_name (ss_one (s_if xs (st_cmp opC_gt (SV (se_v rfl (by first | exact .inl rfl | exact .inr (.inl rfl) | exact .inr (.inr rfl)))) (SV se_int) rfl) (ss_cons xs (s_app rfl (by first | exact .inl rfl | exact .inr (.inl rfl) | exact .inr (.inr rfl)) (se_op opD_mod (SV (se_bi (pe_callTy cb_int rfl g.f_int rfl (sav_cons (SV (se_v rfl (by first | exact .inl rfl | exact .inr (.inl rfl) | exact .inr (.inr rfl)))) sav_nil)))) (SV se_int)))
  (ss_one (s_as xs.nd rfl (by first | exact .inl rfl | exact .inr rfl) (se_op opD_fdiv (SV (se_v rfl (by first | exact .inl rfl | exact .inr (.inl rfl) | exact .inr (.inr rfl)))) (SV se_int))))) ss_nil)))) (ss_cons xs (s_as xs.nd rfl (by first | exact .inl rfl | exact .inr rfl) (se_op opD_mod (SV (se_bi (pe_callTy cb_int rfl g.f_int rfl (sav_cons (SV (se_op opD_add (SV (se_op opD_add (SV (se_op opD_mul (SV (se_v rfl (by first | exact .inl rfl | exact .inr (.inl rfl) | exact .inr (.inr rfl)))) (SV se_int))) (SV (se_op opD_mul (SV (se_v rfl (by first | exact .inl rfl | exact .inr (.inl rfl) | exact .inr (.inr rfl)))) (SV se_int))))) (SV se_int))) sav_nil)))) (SV se_int)))
  (ss_one (s_for xs (si_range1 rfl g.f_range se_int) (pg_name xs.nd rfl (by first | exact .inl rfl | exact .inr rfl)) gok_name (ss_cons xs (s_as xs.nd rfl (by first | exact .inl rfl | exact .inr rfl) (se_op opD_mod (SV (se_bi (pe_callTy cb_int rfl g.f_int rfl (sav_cons (SV (se_op opD_add (SV (se_op opD_add (SV (se_op opD_mul (SV (se_v rfl (by first | exact .inl rfl | exact .inr (.inl rfl) | exact .inr (.inr rfl)))) (SV se_int))) (SV (se_op opD_mul (SV se_int) (SV (se_v rfl (by first | exact .inl rfl | exact .inr (.inl rfl) | exact .inr (.inr rfl)))))))) (SV se_int))) sav_nil)))) (SV se_int)))
  (ss_one (s_app rfl (by first | exact .inl rfl | exact .inr (.inl rfl) | exact .inr (.inr rfl)) (se_op opD_mod (SV (se_bi (pe_callTy cb_int rfl g.f_int rfl (sav_cons (SV (se_op opD_fdiv (SV (se_v rfl (by first | exact .inl rfl | exact .inr (.inl rfl) | exact .inr (.inr rfl)))) (SV se_int))) sav_nil)))) (SV se_int)))))))))))))
  (ss_frz xs (ss_one (s_ret (se_v rfl (by first | exact .inl rfl | exact .inr (.inl rfl) | exact .inr (.inr rfl))))))))
theorem dn_f_law_digits (X : K.In h) (G : h.Ns mainGlobals mg) (c : He.SaysD fa fn K) (g : Gx K mg) : Dn Pg w K mg (caK K tf) P "_law_digits" f_law_digits := by
  obtain ⟨fd, F⟩ := c.def_ 11 (d := d_f_law_digits) rfl
  exact ⟨_, _, _, _, _, _, fd, ["script", "first", "last", "digits", "k", "cell", "turn", "seed"], ["script", "first", "last"], F, He.glo_ok X G (c.fact 11 (f := .glo "_law_digits") rfl), sc_f_law_digits, rfl, rfl, F.bindsN fun _ _ _ _ _ _ us hl => match us, hl with | [_, _, _], _ => rfl, fun base cdv A out s H E e n tb hc cal xs sl => dv_f_law_digits g cal xs sl⟩
theorem sc_f_law_draw : FnScope ["box", "many", "at"] ["box", "many"] (defScope (top 17)) := ⟨rfl, rfl, rfl, by decide +kernel, rfl, by decide +kernel, by decide +kernel⟩
theorem dv_f_law_draw {base : Heap} {a : Addr} {cdv : Value} {A : Around} {out : List Env} {s : Shared} {H : Hp} {E : XK} {e : En} {n : Nat} (g : Gx K mg)
    (cal : ∀ g d, P g = some d → Callee (cx Pg w K mg base ["box", "many", "at"] "_law_draw" (defScope (top 17)) a cdv A out s H E) ca n (Ev.callN P n) g d.np) (xs : XS (cx Pg w K mg base ["box", "many", "at"] "_law_draw" (defScope (top 17)) a cdv A out s H E) (wE E) n) (sl : Slk (cx Pg w K mg base ["box", "many", "at"] "_law_draw" (defScope (top 17)) a cdv A out s H E) n) :
    PSs (cx Pg w K mg base ["box", "many", "at"] "_law_draw" (defScope (top 17)) a cdv A out s H E) (defBody (top 17)) (tS (ct (cx Pg w K mg base ["box", "many", "at"] "_law_draw" (defScope (top 17)) a cdv A out s H E) ca) (wE E) e (f_law_draw.body (Ev.callN P n))) :=
  (ss_cons xs (s_as xs.nd rfl (by first | exact .inl rfl | exact .inr rfl) (se_ix xs.u1 (SV (se_v rfl (by first | exact .inl rfl | exact .inr (.inl rfl) | exact .inr (.inr rfl)))) se_int))
  (ss_cons xs (s_set xs (se_v rfl (by first | exact .inl rfl | exact .inr (.inl rfl) | exact .inr (.inr rfl))) se_int (se_op opD_add (SV (se_v rfl (by first | exact .inl rfl | exact .inr (.inl rfl) | exact .inr (.inr rfl)))) (SV se_int)))
  (ss_cons xs (s_if xs (st_cmp opC_lt (SV (se_v rfl (by first | exact .inl rfl | exact .inr (.inl rfl) | exact .inr (.inr rfl)))) (SV (se_bi (pe_callB cb_len rfl g.f_len rfl (sav_cons (SV (se_ix xs.u1 (SV (se_v rfl (by first | exact .inl rfl | exact .inr (.inl rfl) | exact .inr (.inr rfl)))) se_int)) sav_nil)))) rfl) (ss_one (s_ret (se_op opD_mod (SV (se_bi (pe_callTy cb_int rfl g.f_int rfl (sav_cons (SV (se_ix xs.u1 (SV (se_ix xs.u1 (SV (se_v rfl (by first | exact .inl rfl | exact .inr (.inl rfl) | exact .inr (.inr rfl)))) se_int)) (se_v rfl (by first | exact .inl rfl | exact .inr (.inl rfl) | exact .inr (.inr rfl))))) sav_nil)))) (SV (se_v rfl (by first | exact .inl rfl | exact .inr (.inl rfl) | exact .inr (.inr rfl))))))) ss_nil)
  (ss_one (s_ret (se_op opD_mod (SV (se_bi (pe_callTy cb_int rfl g.f_int rfl (sav_cons (SV (se_op opD_add (SV (se_op opD_mul (SV (se_v rfl (by first | exact .inl rfl | exact .inr (.inl rfl) | exact .inr (.inr rfl)))) (SV se_int))) (SV se_int))) sav_nil)))) (SV (se_v rfl (by first | exact .inl rfl | exact .inr (.inl rfl) | exact .inr (.inr rfl))))))))))
theorem dn_f_law_draw (X : K.In h) (G : h.Ns mainGlobals mg) (c : He.SaysD fa fn K) (g : Gx K mg) : Dn Pg w K mg (caK K tf) P "_law_draw" f_law_draw := by
  obtain ⟨fd, F⟩ := c.def_ 12 (d := d_f_law_draw) rfl
  exact ⟨_, _, _, _, _, _, fd, ["box", "many", "at"], ["box", "many"], F, He.glo_ok X G (c.fact 12 (f := .glo "_law_draw") rfl), sc_f_law_draw, rfl, rfl, F.bindsN fun _ _ _ _ _ _ us hl => match us, hl with | [_, _], _ => rfl, fun base cdv A out s H E e n tb hc cal xs sl => dv_f_law_draw g cal xs sl⟩
theorem sc_f_law_types : FnScope ["box", "names", "found", "k", "makers", "m", "pool", "fields", "f"] ["box"] (defScope (top 18)) := ⟨rfl, rfl, rfl, by decide +kernel, rfl, by decide +kernel, by decide +kernel⟩
theorem dv_f_law_types {base : Heap} {a : Addr} {cdv : Value} {A : Around} {out : List Env} {s : Shared} {H : Hp} {E : XK} {e : En} {n : Nat} (g : Gx K mg)
    (cal : ∀ g d, P g = some d → Callee (cx Pg w K mg base ["box", "names", "found", "k", "makers", "m", "pool", "fields", "f"] "_law_types" (defScope (top 18)) a cdv A out s H E) ca n (Ev.callN P n) g d.np) (xs : XS (cx Pg w K mg base ["box", "names", "found", "k", "makers", "m", "pool", "fields", "f"] "_law_types" (defScope (top 18)) a cdv A out s H E) (wE E) n) (sl : Slk (cx Pg w K mg base ["box", "names", "found", "k", "makers", "m", "pool", "fields", "f"] "_law_types" (defScope (top 18)) a cdv A out s H E) n) :
    PSs (cx Pg w K mg base ["box", "names", "found", "k", "makers", "m", "pool", "fields", "f"] "_law_types" (defScope (top 18)) a cdv A out s H E) (defBody (top 18)) (tS (ct (cx Pg w K mg base ["box", "names", "found", "k", "makers", "m", "pool", "fields", "f"] "_law_types" (defScope (top 18)) a cdv A out s H E) ca) (wE E) e (f_law_types.body (Ev.callN P n))) :=
  (ss_cons xs (s_as xs.nd rfl (by first | exact .inl rfl | exact .inr rfl) (se_slc (SV (SN (sn_lst (sa_cons se_str (sa_cons se_str (sa_cons se_str sa_nil)))))) so_n (so_e (se_op opD_add (SV se_int) (SV (se_call ⟨(cal "_law_draw" _ rfl).at_⟩ xs rfl rfl (sa_cons (se_v rfl (by first | exact .inl rfl | exact .inr (.inl rfl) | exact .inr (.inr rfl))) (sa_cons se_int sa_nil)) rfl))))))
  (ss_cons xs (s_own xs.nd rfl (by first | exact .inl rfl | exact .inr rfl) (sn_lst sa_nil))
  (ss_cons xs (s_for xs (si_range1 rfl g.f_range (se_bi (pe_callB cb_len rfl g.f_len rfl (sav_cons (SV (se_v rfl (by first | exact .inl rfl | exact .inr (.inl rfl) | exact .inr (.inr rfl)))) sav_nil)))) (pg_name xs.nd rfl (by first | exact .inl rfl | exact .inr rfl)) gok_name (ss_cons xs (s_own xs.nd rfl (by first | exact .inl rfl | exact .inr rfl) (sn_lst sa_nil))
  (ss_cons xs (s_for xs (si_range1 rfl g.f_range (se_op opD_add (SV se_int) (SV (se_call ⟨(cal "_law_draw" _ rfl).at_⟩ xs rfl rfl (sa_cons (se_v rfl (by first | exact .inl rfl | exact .inr (.inl rfl) | exact .inr (.inr rfl))) (sa_cons se_int sa_nil)) rfl)))) (pg_name xs.nd rfl (by first | exact .inl rfl | exact .inr rfl)) gok_name (ss_cons xs (s_as xs.nd rfl (by first | exact .inl rfl | exact .inr rfl) (se_op opD_add (SV (SN (sn_lst (sa_cons se_str sa_nil)))) (SV (se_v rfl (by first | exact .inl rfl | exact .inr (.inl rfl) | exact .inr (.inr rfl))))))
  (ss_cons xs (s_if xs (st_cmp (opC_eq xs.u64) (SV (se_v rfl (by first | exact .inl rfl | exact .inr (.inl rfl) | exact .inr (.inr rfl)))) (SV se_int) rfl) (ss_one (s_as xs.nd rfl (by first | exact .inl rfl | exact .inr rfl) (se_op opD_add (SV (SN (sn_lst (sa_cons se_str sa_nil)))) (SV (se_slc (SV (se_v rfl (by first | exact .inl rfl | exact .inr (.inl rfl) | exact .inr (.inr rfl)))) so_n (so_e (se_v rfl (by first | exact .inl rfl | exact .inr (.inl rfl) | exact .inr (.inr rfl))))))))) ss_nil)
  (ss_cons xs (s_asOf (SA (pa_comp0 (own := [("f", 8)]) xs rfl rfl (si_range1 rfl g.f_range (se_op opD_mul (SV (se_call ⟨(cal "_law_draw" _ rfl).at_⟩ xs rfl rfl (sa_cons (se_v rfl (by first | exact .inl rfl | exact .inr (.inl rfl) | exact .inr (.inr rfl))) (sa_cons se_int sa_nil)) rfl)) (SV (se_bi (pe_callTy cb_int rfl g.f_int rfl (sav_cons (SV (se_or (se_cmp opC_gt (SV (se_v rfl (by first | exact .inl rfl | exact .inr (.inl rfl) | exact .inr (.inr rfl)))) (SV se_int) rfl) (se_one (se_cmp (opC_eq xs.u64) (SV (se_call ⟨(cal "_law_draw" _ rfl).at_⟩ xs rfl rfl (sa_cons (se_v rfl (by first | exact .inl rfl | exact .inr (.inl rfl) | exact .inr (.inr rfl))) (sa_cons se_int sa_nil)) rfl)) (SV se_int) rfl)))) sav_nil)))))) (blkOk_by (by kernel_rfl)) (fun _ _ _ _ _ => (pg_name xs.blk.nd rfl (by first | exact .inl rfl | exact .inr rfl))) gok_name (by decide) (fun _ _ _ _ _ => (se_ix xs.blk.u1 (SV (se_v rfl (by first | exact .inl rfl | exact .inr (.inl rfl) | exact .inr (.inr rfl)))) (se_op opD_mod (SV (se_bi (pe_callTy cb_int rfl g.f_int rfl (sav_cons (SV (se_call ⟨(cal "_law_draw" _ rfl).at_⟩ xs.blk rfl rfl (sa_cons (se_v rfl (by first | exact .inl rfl | exact .inr (.inl rfl) | exact .inr (.inr rfl))) (sa_cons se_int sa_nil)) rfl)) sav_nil)))) (SV (se_bi (pe_callB cb_len rfl g.f_len rfl (sav_cons (SV (se_v rfl (by first | exact .inl rfl | exact .inr (.inl rfl) | exact .inr (.inr rfl)))) sav_nil))))))))) gok_name)
  (ss_one (s_app rfl (by first | exact .inl rfl | exact .inr (.inl rfl) | exact .inr (.inr rfl)) (se_tup (sa_cons (se_op opD_add (SV (se_ix xs.u1 (SV (SN (sn_lst (sa_cons se_str (sa_cons se_str (sa_cons se_str sa_nil)))))) (se_v rfl (by first | exact .inl rfl | exact .inr (.inl rfl) | exact .inr (.inr rfl))))) (SV (se_ix xs.u1 (SV (se_v rfl (by first | exact .inl rfl | exact .inr (.inl rfl) | exact .inr (.inr rfl)))) (se_v rfl (by first | exact .inl rfl | exact .inr (.inl rfl) | exact .inr (.inr rfl)))))) (sa_cons (se_bi (pe_callTy cb_tuple rfl g.f_tuple rfl (sav_cons (SV (se_v rfl (by first | exact .inl rfl | exact .inr (.inl rfl) | exact .inr (.inr rfl)))) sav_nil))) sa_nil)))))))))
  (ss_cons xs (s_if xs (st_cmp (opC_eq xs.u64) (SV (se_call ⟨(cal "_law_draw" _ rfl).at_⟩ xs rfl rfl (sa_cons (se_v rfl (by first | exact .inl rfl | exact .inr (.inl rfl) | exact .inr (.inr rfl))) (sa_cons se_int sa_nil)) rfl)) (SV se_int) rfl) (ss_one (s_rev rfl (by first | exact .inl rfl | exact .inr (.inl rfl) | exact .inr (.inr rfl)))) ss_nil)
  (ss_one (s_app rfl (by first | exact .inl rfl | exact .inr (.inl rfl) | exact .inr (.inr rfl)) (se_tup (sa_cons (se_ix xs.u1 (SV (se_v rfl (by first | exact .inl rfl | exact .inr (.inl rfl) | exact .inr (.inr rfl)))) (se_v rfl (by first | exact .inl rfl | exact .inr (.inl rfl) | exact .inr (.inr rfl)))) (sa_cons (se_bi (pe_callTy cb_tuple rfl g.f_tuple rfl (sav_cons (sv_b rfl (by first | exact .inl rfl | exact .inr (.inl rfl) | exact .inr (.inr rfl))) sav_nil))) sa_nil)))))))))
  (ss_one (s_ret (se_bi (pe_callTy cb_tuple rfl g.f_tuple rfl (sav_cons (sv_b rfl (by first | exact .inl rfl | exact .inr (.inl rfl) | exact .inr (.inr rfl))) sav_nil))))))))
theorem dn_f_law_types (X : K.In h) (G : h.Ns mainGlobals mg) (c : He.SaysD fa fn K) (g : Gx K mg) : Dn Pg w K mg (caK K tf) P "_law_types" f_law_types := by
  obtain ⟨fd, F⟩ := c.def_ 13 (d := d_f_law_types) rfl
  exact ⟨_, _, _, _, _, _, fd, ["box", "names", "found", "k", "makers", "m", "pool", "fields", "f"], ["box"], F, He.glo_ok X G (c.fact 13 (f := .glo "_law_types") rfl), sc_f_law_types, rfl, rfl, F.bindsN fun _ _ _ _ _ _ us hl => match us, hl with | [_], _ => rfl, fun base cdv A out s H E e n tb hc cal xs sl => dv_f_law_types g cal xs sl⟩
theorem sc_f_law_makers : FnScope ["types", "name", "row"] ["types", "name"] (defScope (top 19)) := ⟨rfl, rfl, rfl, by decide +kernel, rfl, by decide +kernel, by decide +kernel⟩
theorem dv_f_law_makers {base : Heap} {a : Addr} {cdv : Value} {A : Around} {out : List Env} {s : Shared} {H : Hp} {E : XK} {e : En} {n : Nat} (g : Gx K mg)
    (cal : ∀ g d, P g = some d → Callee (cx Pg w K mg base ["types", "name", "row"] "_law_makers" (defScope (top 19)) a cdv A out s H E) ca n (Ev.callN P n) g d.np) (xs : XS (cx Pg w K mg base ["types", "name", "row"] "_law_makers" (defScope (top 19)) a cdv A out s H E) (wE E) n) (sl : Slk (cx Pg w K mg base ["types", "name", "row"] "_law_makers" (defScope (top 19)) a cdv A out s H E) n) :
    PSs (cx Pg w K mg base ["types", "name", "row"] "_law_makers" (defScope (top 19)) a cdv A out s H E) (defBody (top 19)) (tS (ct (cx Pg w K mg base ["types", "name", "row"] "_law_makers" (defScope (top 19)) a cdv A out s H E) ca) (wE E) e (f_law_makers.body (Ev.callN P n))) :=
  (ss_cons xs (s_for xs (si_e (se_v rfl (by first | exact .inl rfl | exact .inr (.inl rfl) | exact .inr (.inr rfl)))) (pg_name xs.nd rfl (by first | exact .inl rfl | exact .inr rfl)) gok_name (ss_one (s_if xs (st_cmp (opC_eq xs.u64) (SV (se_ix xs.u1 (SV (se_v rfl (by first | exact .inl rfl | exact .inr (.inl rfl) | exact .inr (.inr rfl)))) se_int)) (SV (se_v rfl (by first | exact .inl rfl | exact .inr (.inl rfl) | exact .inr (.inr rfl)))) rfl) (ss_one (s_ret (se_ix xs.u1 (SV (se_v rfl (by first | exact .inl rfl | exact .inr (.inl rfl) | exact .inr (.inr rfl)))) se_int))) ss_nil)))
  (ss_one (s_ret (se_tup sa_nil))))
theorem dn_f_law_makers (X : K.In h) (G : h.Ns mainGlobals mg) (c : He.SaysD fa fn K) (g : Gx K mg) : Dn Pg w K mg (caK K tf) P "_law_makers" f_law_makers := by
  obtain ⟨fd, F⟩ := c.def_ 14 (d := d_f_law_makers) rfl
  exact ⟨_, _, _, _, _, _, fd, ["types", "name", "row"], ["types", "name"], F, He.glo_ok X G (c.fact 14 (f := .glo "_law_makers") rfl), sc_f_law_makers, rfl, rfl, F.bindsN fun _ _ _ _ _ _ us hl => match us, hl with | [_, _], _ => rfl, fun base cdv A out s H E e n tb hc cal xs sl => dv_f_law_makers g cal xs sl⟩
theorem sc_f_law_heights : FnScope ["types", "found", "turn", "name", "makers", "rows", "kind", "maker", "fields"] ["types"] (defScope (top 20)) := ⟨rfl, rfl, rfl, by decide +kernel, rfl, by decide +kernel, by decide +kernel⟩
theorem dv_f_law_heights {base : Heap} {a : Addr} {cdv : Value} {A : Around} {out : List Env} {s : Shared} {H : Hp} {E : XK} {e : En} {n : Nat} (g : Gx K mg)
    (cal : ∀ g d, P g = some d → Callee (cx Pg w K mg base ["types", "found", "turn", "name", "makers", "rows", "kind", "maker", "fields"] "_law_heights" (defScope (top 20)) a cdv A out s H E) ca n (Ev.callN P n) g d.np) (xs : XS (cx Pg w K mg base ["types", "found", "turn", "name", "makers", "rows", "kind", "maker", "fields"] "_law_heights" (defScope (top 20)) a cdv A out s H E) (wE E) n) (sl : Slk (cx Pg w K mg base ["types", "found", "turn", "name", "makers", "rows", "kind", "maker", "fields"] "_law_heights" (defScope (top 20)) a cdv A out s H E) n) :
    PSs (cx Pg w K mg base ["types", "found", "turn", "name", "makers", "rows", "kind", "maker", "fields"] "_law_heights" (defScope (top 20)) a cdv A out s H E) (defBody (top 20)) (tS (ct (cx Pg w K mg base ["types", "found", "turn", "name", "makers", "rows", "kind", "maker", "fields"] "_law_heights" (defScope (top 20)) a cdv A out s H E) ca) (wE E) e (f_law_heights.body (Ev.callN P n))) :=
  (ss_cons xs (s_own xs.nd rfl (by first | exact .inl rfl | exact .inr rfl) (sn_dic (fps := [(_, _)]) (sps_cons se_str se_int sps_nil)))
  (ss_cons xs (s_for xs (si_range1 rfl g.f_range (se_op opD_add (SV (se_bi (pe_callB cb_len rfl g.f_len rfl (sav_cons (SV (se_v rfl (by first | exact .inl rfl | exact .inr (.inl rfl) | exact .inr (.inr rfl)))) sav_nil)))) (SV se_int))) (pg_name xs.nd rfl (by first | exact .inl rfl | exact .inr rfl)) gok_name (ss_one (s_for xs (si_e (se_v rfl (by first | exact .inl rfl | exact .inr (.inl rfl) | exact .inr (.inr rfl)))) (pg_seq xs.calm (pgs_cons (pg_name xs.nd rfl (by first | exact .inl rfl | exact .inr rfl)) (pgs_cons (pg_name xs.nd rfl (by first | exact .inl rfl | exact .inr rfl)) pgs_nil))) (gok_seq rfl (gsok_cons gok_name (gsok_cons gok_name gsok_nil))) (ss_cons xs (s_asOf (SA (pa_comp1 (own := [("maker", 7), ("fields", 8)]) xs rfl rfl (si_e (se_v rfl (by first | exact .inl rfl | exact .inr (.inl rfl) | exact .inr (.inr rfl)))) (blkOk_by (by kernel_rfl)) (fun _ _ _ _ _ => (pg_seq xs.blk.calm (pgs_cons (pg_name xs.blk.nd rfl (by first | exact .inl rfl | exact .inr rfl)) (pgs_cons (pg_name xs.blk.nd rfl (by first | exact .inl rfl | exact .inr rfl)) pgs_nil)))) (gok_seq rfl (gsok_cons gok_name (gsok_cons gok_name gsok_nil))) (by decide) (fun _ _ _ _ _ => (st_cmp (opC_eq xs.blk.u64) (SV (se_bi (pe_callB cb_len rfl g.f_len rfl (sav_cons (SV (SN (sn_comp1 (own := [("kind", 6)]) xs.blk (si_e (se_v rfl (by first | exact .inl rfl | exact .inr (.inl rfl) | exact .inr (.inr rfl)))) (blkOk_by (by kernel_rfl)) (fun _ _ _ _ _ => (pg_name xs.blk.blk.nd rfl (by first | exact .inl rfl | exact .inr rfl))) gok_name (by decide) (fun _ _ _ _ _ => (st_cmp (opC_nin xs.blk.blk.u65) (SV (se_v rfl (by first | exact .inl rfl | exact .inr (.inl rfl) | exact .inr (.inr rfl)))) (sv_b rfl (by first | exact .inl rfl | exact .inr (.inl rfl) | exact .inr (.inr rfl))) rfl)) (fun _ _ _ _ _ => (se_v rfl (by first | exact .inl rfl | exact .inr (.inl rfl) | exact .inr (.inr rfl))))))) sav_nil)))) (SV se_int) rfl)) (fun _ _ _ _ _ => (se_op opD_add (SV (se_bi (pe_callB (cb_max xs.blk.calm) rfl g.f_max rfl (sav_cons (SV (se_op opD_add (SV (SN (sn_lst (sa_cons se_int sa_nil)))) (SV (SN (sn_comp0 (own := [("kind", 6)]) xs.blk (si_e (se_v rfl (by first | exact .inl rfl | exact .inr (.inl rfl) | exact .inr (.inr rfl)))) (blkOk_by (by kernel_rfl)) (fun _ _ _ _ _ => (pg_name xs.blk.blk.nd rfl (by first | exact .inl rfl | exact .inr rfl))) gok_name (by decide) (fun _ _ _ _ _ => (se_ix xs.blk.blk.u1 (sv_b rfl (by first | exact .inl rfl | exact .inr (.inl rfl) | exact .inr (.inr rfl))) (se_v rfl (by first | exact .inl rfl | exact .inr (.inl rfl) | exact .inr (.inr rfl)))))))))) sav_nil)))) (SV se_int))))) gok_name)
  (ss_one (s_if xs (st_cmp opC_gt (SV (se_bi (pe_callB cb_len rfl g.f_len rfl (sav_cons (SV (se_v rfl (by first | exact .inl rfl | exact .inr (.inl rfl) | exact .inr (.inr rfl)))) sav_nil)))) (SV se_int) rfl) (ss_one (s_dput xs.u1 xs rfl (by first | exact .inl rfl | exact .inr (.inl rfl) | exact .inr (.inr rfl)) (se_v rfl (by first | exact .inl rfl | exact .inr (.inl rfl) | exact .inr (.inr rfl))) (se_bi (pe_callB (cb_min xs.calm) rfl g.f_min rfl (sav_cons (SV (se_v rfl (by first | exact .inl rfl | exact .inr (.inl rfl) | exact .inr (.inr rfl)))) sav_nil))))) ss_nil))))))
  (ss_frz xs (ss_one (s_ret (se_v rfl (by first | exact .inl rfl | exact .inr (.inl rfl) | exact .inr (.inr rfl))))))))
theorem dn_f_law_heights (X : K.In h) (G : h.Ns mainGlobals mg) (c : He.SaysD fa fn K) (g : Gx K mg) : Dn Pg w K mg (caK K tf) P "_law_heights" f_law_heights := by
  obtain ⟨fd, F⟩ := c.def_ 15 (d := d_f_law_heights) rfl
  exact ⟨_, _, _, _, _, _, fd, ["types", "found", "turn", "name", "makers", "rows", "kind", "maker", "fields"], ["types"], F, He.glo_ok X G (c.fact 15 (f := .glo "_law_heights") rfl), sc_f_law_heights, rfl, rfl, F.bindsN fun _ _ _ _ _ _ us hl => match us, hl with | [_], _ => rfl, fun base cdv A out s H E e n tb hc cal xs sl => dv_f_law_heights g cal xs sl⟩
theorem sc_f_law_least : FnScope ["types", "heights", "name", "maker", "fields", "kind"] ["types", "heights", "name"] (defScope (top 21)) := ⟨rfl, rfl, rfl, by decide +kernel, rfl, by decide +kernel, by decide +kernel⟩
theorem dv_f_law_least {base : Heap} {a : Addr} {cdv : Value} {A : Around} {out : List Env} {s : Shared} {H : Hp} {E : XK} {e : En} {n : Nat} (g : Gx K mg)
    (cal : ∀ g d, P g = some d → Callee (cx Pg w K mg base ["types", "heights", "name", "maker", "fields", "kind"] "_law_least" (defScope (top 21)) a cdv A out s H E) ca n (Ev.callN P n) g d.np) (xs : XS (cx Pg w K mg base ["types", "heights", "name", "maker", "fields", "kind"] "_law_least" (defScope (top 21)) a cdv A out s H E) (wE E) n) (sl : Slk (cx Pg w K mg base ["types", "heights", "name", "maker", "fields", "kind"] "_law_least" (defScope (top 21)) a cdv A out s H E) n) :
    PSs (cx Pg w K mg base ["types", "heights", "name", "maker", "fields", "kind"] "_law_least" (defScope (top 21)) a cdv A out s H E) (defBody (top 21)) (tS (ct (cx Pg w K mg base ["types", "heights", "name", "maker", "fields", "kind"] "_law_least" (defScope (top 21)) a cdv A out s H E) ca) (wE E) e (f_law_least.body (Ev.callN P n))) :=
  (ss_cons xs (s_if xs (st_cmp (opC_eq xs.u64) (SV (se_v rfl (by first | exact .inl rfl | exact .inr (.inl rfl) | exact .inr (.inr rfl)))) (SV se_str) rfl) (ss_one (s_ret (se_tup (sa_cons se_str (sa_cons se_int sa_nil))))) ss_nil)
  (ss_cons xs (s_for xs (si_e (se_call ⟨(cal "_law_makers" _ rfl).at_⟩ xs rfl rfl (sa_cons (se_v rfl (by first | exact .inl rfl | exact .inr (.inl rfl) | exact .inr (.inr rfl))) (sa_cons (se_v rfl (by first | exact .inl rfl | exact .inr (.inl rfl) | exact .inr (.inr rfl))) sa_nil)) rfl)) (pg_seq xs.calm (pgs_cons (pg_name xs.nd rfl (by first | exact .inl rfl | exact .inr rfl)) (pgs_cons (pg_name xs.nd rfl (by first | exact .inl rfl | exact .inr rfl)) pgs_nil))) (gok_seq rfl (gsok_cons gok_name (gsok_cons gok_name gsok_nil))) (ss_one (s_if xs (st_cmp (opC_eq xs.u64) (SV (se_op opD_add (SV (se_bi (pe_callB (cb_max xs.calm) rfl g.f_max rfl (sav_cons (SV (se_op opD_add (SV (SN (sn_lst (sa_cons se_int sa_nil)))) (SV (SN (sn_comp0 (own := [("kind", 5)]) xs (si_e (se_v rfl (by first | exact .inl rfl | exact .inr (.inl rfl) | exact .inr (.inr rfl)))) (blkOk_by (by kernel_rfl)) (fun _ _ _ _ _ => (pg_name xs.blk.nd rfl (by first | exact .inl rfl | exact .inr rfl))) gok_name (by decide) (fun _ _ _ _ _ => (se_get2 xs.blk.u1 (SV (se_v rfl (by first | exact .inl rfl | exact .inr (.inl rfl) | exact .inr (.inr rfl)))) (se_v rfl (by first | exact .inl rfl | exact .inr (.inl rfl) | exact .inr (.inr rfl))) se_int ⟨rfl, rfl, rfl, rfl⟩))))))) sav_nil)))) (SV se_int))) (SV (se_ix xs.u1 (SV (se_v rfl (by first | exact .inl rfl | exact .inr (.inl rfl) | exact .inr (.inr rfl)))) (se_v rfl (by first | exact .inl rfl | exact .inr (.inl rfl) | exact .inr (.inr rfl))))) rfl) (ss_one (s_ret (se_tup (sa_cons se_str (sa_cons (se_v rfl (by first | exact .inl rfl | exact .inr (.inl rfl) | exact .inr (.inr rfl))) (sa_cons (se_bi (pe_callTy cb_tuple rfl g.f_tuple rfl (sav_cons (SV (SN (sn_comp0 (own := [("kind", 5)]) xs (si_e (se_v rfl (by first | exact .inl rfl | exact .inr (.inl rfl) | exact .inr (.inr rfl)))) (blkOk_by (by kernel_rfl)) (fun _ _ _ _ _ => (pg_name xs.blk.nd rfl (by first | exact .inl rfl | exact .inr rfl))) gok_name (by decide) (fun _ _ _ _ _ => (se_call ⟨(cal "_law_least" _ rfl).at_⟩ xs.blk rfl rfl (sa_cons (se_v rfl (by first | exact .inl rfl | exact .inr (.inl rfl) | exact .inr (.inr rfl))) (sa_cons (se_v rfl (by first | exact .inl rfl | exact .inr (.inl rfl) | exact .inr (.inr rfl))) (sa_cons (se_v rfl (by first | exact .inl rfl | exact .inr (.inl rfl) | exact .inr (.inr rfl))) sa_nil))) rfl))))) sav_nil))) sa_nil)))))) ss_nil)))
  (ss_one (s_ret se_non))))
theorem dn_f_law_least (X : K.In h) (G : h.Ns mainGlobals mg) (c : He.SaysD fa fn K) (g : Gx K mg) : Dn Pg w K mg (caK K tf) P "_law_least" f_law_least := by
  obtain ⟨fd, F⟩ := c.def_ 16 (d := d_f_law_least) rfl
  exact ⟨_, _, _, _, _, _, fd, ["types", "heights", "name", "maker", "fields", "kind"], ["types", "heights", "name"], F, He.glo_ok X G (c.fact 16 (f := .glo "_law_least") rfl), sc_f_law_least, rfl, rfl, F.bindsN fun _ _ _ _ _ _ us hl => match us, hl with | [_, _, _], _ => rfl, fun base cdv A out s H E e n tb hc cal xs sl => dv_f_law_least g cal xs sl⟩
theorem sc_f_law_value : FnScope ["box", "types", "heights", "name", "depth", "makers", "maker", "fields", "kind"] ["box", "types", "heights", "name", "depth"] (defScope (top 22)) := ⟨rfl, rfl, rfl, by decide +kernel, rfl, by decide +kernel, by decide +kernel⟩
theorem dv_f_law_value {base : Heap} {a : Addr} {cdv : Value} {A : Around} {out : List Env} {s : Shared} {H : Hp} {E : XK} {e : En} {n : Nat} (g : Gx K mg)
    (cal : ∀ g d, P g = some d → Callee (cx Pg w K mg base ["box", "types", "heights", "name", "depth", "makers", "maker", "fields", "kind"] "_law_value" (defScope (top 22)) a cdv A out s H E) ca n (Ev.callN P n) g d.np) (xs : XS (cx Pg w K mg base ["box", "types", "heights", "name", "depth", "makers", "maker", "fields", "kind"] "_law_value" (defScope (top 22)) a cdv A out s H E) (wE E) n) (sl : Slk (cx Pg w K mg base ["box", "types", "heights", "name", "depth", "makers", "maker", "fields", "kind"] "_law_value" (defScope (top 22)) a cdv A out s H E) n) :
    PSs (cx Pg w K mg base ["box", "types", "heights", "name", "depth", "makers", "maker", "fields", "kind"] "_law_value" (defScope (top 22)) a cdv A out s H E) (defBody (top 22)) (tS (ct (cx Pg w K mg base ["box", "types", "heights", "name", "depth", "makers", "maker", "fields", "kind"] "_law_value" (defScope (top 22)) a cdv A out s H E) ca) (wE E) e (f_law_value.body (Ev.callN P n))) :=
  (ss_cons xs (s_if xs (st_cmp (opC_eq xs.u64) (SV (se_v rfl (by first | exact .inl rfl | exact .inr (.inl rfl) | exact .inr (.inr rfl)))) (SV se_str) rfl) (ss_one (s_ret (se_tup (sa_cons se_str (sa_cons (se_ix xs.u1 (SV (SN (sn_lst (sa_cons (se_op opD_sub (SV (se_call ⟨(cal "_law_draw" _ rfl).at_⟩ xs rfl rfl (sa_cons (se_v rfl (by first | exact .inl rfl | exact .inr (.inl rfl) | exact .inr (.inr rfl))) (sa_cons se_int sa_nil)) rfl)) (SV se_int)) (sa_cons (se_op opD_sub (SV (se_call ⟨(cal "_law_draw" _ rfl).at_⟩ xs rfl rfl (sa_cons (se_v rfl (by first | exact .inl rfl | exact .inr (.inl rfl) | exact .inr (.inr rfl))) (sa_cons se_int sa_nil)) rfl)) (SV se_int)) sa_nil))))) (se_call ⟨(cal "_law_draw" _ rfl).at_⟩ xs rfl rfl (sa_cons (se_v rfl (by first | exact .inl rfl | exact .inr (.inl rfl) | exact .inr (.inr rfl))) (sa_cons se_int sa_nil)) rfl)) sa_nil))))) ss_nil)
  (ss_cons xs (s_as xs.nd rfl (by first | exact .inl rfl | exact .inr rfl) (se_call ⟨(cal "_law_makers" _ rfl).at_⟩ xs rfl rfl (sa_cons (se_v rfl (by first | exact .inl rfl | exact .inr (.inl rfl) | exact .inr (.inr rfl))) (sa_cons (se_v rfl (by first | exact .inl rfl | exact .inr (.inl rfl) | exact .inr (.inr rfl))) sa_nil)) rfl))
  (ss_cons xs (s_asT (pg_seq xs.calm (pgs_cons (pg_name xs.nd rfl (by first | exact .inl rfl | exact .inr rfl)) (pgs_cons (pg_name xs.nd rfl (by first | exact .inl rfl | exact .inr rfl)) pgs_nil))) (gok_seq rfl (gsok_cons gok_name (gsok_cons gok_name gsok_nil))) (se_ix xs.u1 (SV (se_v rfl (by first | exact .inl rfl | exact .inr (.inl rfl) | exact .inr (.inr rfl)))) (se_op opD_mod (SV (se_bi (pe_callTy cb_int rfl g.f_int rfl (sav_cons (SV (se_call ⟨(cal "_law_draw" _ rfl).at_⟩ xs rfl rfl (sa_cons (se_v rfl (by first | exact .inl rfl | exact .inr (.inl rfl) | exact .inr (.inr rfl))) (sa_cons se_int sa_nil)) rfl)) sav_nil)))) (SV (se_bi (pe_callB cb_len rfl g.f_len rfl (sav_cons (SV (se_v rfl (by first | exact .inl rfl | exact .inr (.inl rfl) | exact .inr (.inr rfl)))) sav_nil)))))))
  (ss_cons xs (s_if xs (st_cmp opC_le (SV (se_v rfl (by first | exact .inl rfl | exact .inr (.inl rfl) | exact .inr (.inr rfl)))) (SV (se_ix xs.u1 (SV (se_v rfl (by first | exact .inl rfl | exact .inr (.inl rfl) | exact .inr (.inr rfl)))) (se_v rfl (by first | exact .inl rfl | exact .inr (.inl rfl) | exact .inr (.inr rfl))))) rfl) (ss_one (s_ret (se_call ⟨(cal "_law_least" _ rfl).at_⟩ xs rfl rfl (sa_cons (se_v rfl (by first | exact .inl rfl | exact .inr (.inl rfl) | exact .inr (.inr rfl))) (sa_cons (se_v rfl (by first | exact .inl rfl | exact .inr (.inl rfl) | exact .inr (.inr rfl))) (sa_cons (se_v rfl (by first | exact .inl rfl | exact .inr (.inl rfl) | exact .inr (.inr rfl))) sa_nil))) rfl))) ss_nil)
  (ss_one (s_ret (se_tup (sa_cons se_str (sa_cons (se_v rfl (by first | exact .inl rfl | exact .inr (.inl rfl) | exact .inr (.inr rfl))) (sa_cons (se_bi (pe_callTy cb_tuple rfl g.f_tuple rfl (sav_cons (SV (SN (sn_comp0 (own := [("kind", 8)]) xs (si_e (se_v rfl (by first | exact .inl rfl | exact .inr (.inl rfl) | exact .inr (.inr rfl)))) (blkOk_by (by kernel_rfl)) (fun _ _ _ _ _ => (pg_name xs.blk.nd rfl (by first | exact .inl rfl | exact .inr rfl))) gok_name (by decide) (fun _ _ _ _ _ => (se_call ⟨(cal "_law_value" _ rfl).at_⟩ xs.blk rfl rfl (sa_cons (se_v rfl (by first | exact .inl rfl | exact .inr (.inl rfl) | exact .inr (.inr rfl))) (sa_cons (se_v rfl (by first | exact .inl rfl | exact .inr (.inl rfl) | exact .inr (.inr rfl))) (sa_cons (se_v rfl (by first | exact .inl rfl | exact .inr (.inl rfl) | exact .inr (.inr rfl))) (sa_cons (se_v rfl (by first | exact .inl rfl | exact .inr (.inl rfl) | exact .inr (.inr rfl))) (sa_cons (se_op opD_sub (SV (se_v rfl (by first | exact .inl rfl | exact .inr (.inl rfl) | exact .inr (.inr rfl)))) (SV se_int)) sa_nil))))) rfl))))) sav_nil))) sa_nil))))))))))
theorem dn_f_law_value (X : K.In h) (G : h.Ns mainGlobals mg) (c : He.SaysD fa fn K) (g : Gx K mg) : Dn Pg w K mg (caK K tf) P "_law_value" f_law_value := by
  obtain ⟨fd, F⟩ := c.def_ 17 (d := d_f_law_value) rfl
  exact ⟨_, _, _, _, _, _, fd, ["box", "types", "heights", "name", "depth", "makers", "maker", "fields", "kind"], ["box", "types", "heights", "name", "depth"], F, He.glo_ok X G (c.fact 17 (f := .glo "_law_value") rfl), sc_f_law_value, rfl, rfl, F.bindsN fun _ _ _ _ _ _ us hl => match us, hl with | [_, _, _, _, _], _ => rfl, fun base cdv A out s H E e n tb hc cal xs sl => dv_f_law_value g cal xs sl⟩
theorem sc_f_law_region : FnScope ["box", "types", "name", "depth", "kind", "low", "makers", "left", "maker", "fields", "field"] ["box", "types", "name", "depth"] (defScope (top 23)) := ⟨rfl, rfl, rfl, by decide +kernel, rfl, by decide +kernel, by decide +kernel⟩
theorem dv_f_law_region {base : Heap} {a : Addr} {cdv : Value} {A : Around} {out : List Env} {s : Shared} {H : Hp} {E : XK} {e : En} {n : Nat} (g : Gx K mg)
    (cal : ∀ g d, P g = some d → Callee (cx Pg w K mg base ["box", "types", "name", "depth", "kind", "low", "makers", "left", "maker", "fields", "field"] "_law_region" (defScope (top 23)) a cdv A out s H E) ca n (Ev.callN P n) g d.np) (xs : XS (cx Pg w K mg base ["box", "types", "name", "depth", "kind", "low", "makers", "left", "maker", "fields", "field"] "_law_region" (defScope (top 23)) a cdv A out s H E) (wE E) n) (sl : Slk (cx Pg w K mg base ["box", "types", "name", "depth", "kind", "low", "makers", "left", "maker", "fields", "field"] "_law_region" (defScope (top 23)) a cdv A out s H E) n) :
    PSs (cx Pg w K mg base ["box", "types", "name", "depth", "kind", "low", "makers", "left", "maker", "fields", "field"] "_law_region" (defScope (top 23)) a cdv A out s H E) (defBody (top 23)) (tS (ct (cx Pg w K mg base ["box", "types", "name", "depth", "kind", "low", "makers", "left", "maker", "fields", "field"] "_law_region" (defScope (top 23)) a cdv A out s H E) ca) (wE E) e (f_law_region.body (Ev.callN P n))) :=
  (ss_cons xs (s_as xs.nd rfl (by first | exact .inl rfl | exact .inr rfl) (se_call ⟨(cal "_law_draw" _ rfl).at_⟩ xs rfl rfl (sa_cons (se_v rfl (by first | exact .inl rfl | exact .inr (.inl rfl) | exact .inr (.inr rfl))) (sa_cons se_int sa_nil)) rfl))
  (ss_cons xs (s_if xs (PW.pt (sw_or (st_cmp (opC_eq xs.u64) (SV (se_v rfl (by first | exact .inl rfl | exact .inr (.inl rfl) | exact .inr (.inr rfl)))) (SV se_int) rfl) (sw_or1 (st_cmp (opC_eq xs.u64) (SV (se_v rfl (by first | exact .inl rfl | exact .inr (.inl rfl) | exact .inr (.inr rfl)))) (SV se_int) rfl)))) (ss_one (s_ret (se_tup (sa_cons se_str sa_nil)))) ss_nil)
  (ss_cons xs (s_if xs (st_cmp (opC_eq xs.u64) (SV (se_v rfl (by first | exact .inl rfl | exact .inr (.inl rfl) | exact .inr (.inr rfl)))) (SV se_str) rfl) (ss_cons xs (s_as xs.nd rfl (by first | exact .inl rfl | exact .inr rfl) (se_op opD_sub (SV (se_call ⟨(cal "_law_draw" _ rfl).at_⟩ xs rfl rfl (sa_cons (se_v rfl (by first | exact .inl rfl | exact .inr (.inl rfl) | exact .inr (.inr rfl))) (sa_cons se_int sa_nil)) rfl)) (SV se_int)))
  (ss_one (s_ret (se_tup (sa_cons se_str (sa_cons (se_v rfl (by first | exact .inl rfl | exact .inr (.inl rfl) | exact .inr (.inr rfl))) (sa_cons (se_op opD_add (SV (se_v rfl (by first | exact .inl rfl | exact .inr (.inl rfl) | exact .inr (.inr rfl)))) (SV (se_call ⟨(cal "_law_draw" _ rfl).at_⟩ xs rfl rfl (sa_cons (se_v rfl (by first | exact .inl rfl | exact .inr (.inl rfl) | exact .inr (.inr rfl))) (sa_cons se_int sa_nil)) rfl))) sa_nil))))))) ss_nil)
  (ss_cons xs (s_as xs.nd rfl (by first | exact .inl rfl | exact .inr rfl) (se_call ⟨(cal "_law_makers" _ rfl).at_⟩ xs rfl rfl (sa_cons (se_v rfl (by first | exact .inl rfl | exact .inr (.inl rfl) | exact .inr (.inr rfl))) (sa_cons (se_v rfl (by first | exact .inl rfl | exact .inr (.inl rfl) | exact .inr (.inr rfl))) sa_nil)) rfl))
  (ss_cons xs (s_if xs (PW.pt (sw_and (st_cmp (opC_eq xs.u64) (SV (se_v rfl (by first | exact .inl rfl | exact .inr (.inl rfl) | exact .inr (.inr rfl)))) (SV se_int) rfl) (sw_and1 (st_cmp opC_gt (SV (se_bi (pe_callB cb_len rfl g.f_len rfl (sav_cons (SV (se_v rfl (by first | exact .inl rfl | exact .inr (.inl rfl) | exact .inr (.inr rfl)))) sav_nil)))) (SV se_int) rfl)))) (ss_cons xs (s_asOf (SA (pa_comp1 (own := [("maker", 8), ("fields", 9)]) xs rfl rfl (si_e (se_v rfl (by first | exact .inl rfl | exact .inr (.inl rfl) | exact .inr (.inr rfl)))) (blkOk_by (by kernel_rfl)) (fun _ _ _ _ _ => (pg_seq xs.blk.calm (pgs_cons (pg_name xs.blk.nd rfl (by first | exact .inl rfl | exact .inr rfl)) (pgs_cons (pg_name xs.blk.nd rfl (by first | exact .inl rfl | exact .inr rfl)) pgs_nil)))) (gok_seq rfl (gsok_cons gok_name (gsok_cons gok_name gsok_nil))) (by decide) (fun _ _ _ _ _ => (st_cmp (opC_eq xs.blk.u64) (SV (se_call ⟨(cal "_law_draw" _ rfl).at_⟩ xs.blk rfl rfl (sa_cons (se_v rfl (by first | exact .inl rfl | exact .inr (.inl rfl) | exact .inr (.inr rfl))) (sa_cons se_int sa_nil)) rfl)) (SV se_int) rfl)) (fun _ _ _ _ _ => (se_v rfl (by first | exact .inl rfl | exact .inr (.inl rfl) | exact .inr (.inr rfl)))))) gok_name)
  (ss_one (s_if xs (st_ch opC_lt opC_lt (SV se_int) (SV (se_bi (pe_callB cb_len rfl g.f_len rfl (sav_cons (SV (se_v rfl (by first | exact .inl rfl | exact .inr (.inl rfl) | exact .inr (.inr rfl)))) sav_nil)))) (SV (se_bi (pe_callB cb_len rfl g.f_len rfl (sav_cons (SV (se_v rfl (by first | exact .inl rfl | exact .inr (.inl rfl) | exact .inr (.inr rfl)))) sav_nil))))) (ss_one (s_ret (se_tup (sa_cons se_str (sa_cons (se_bi (pe_callTy cb_tuple rfl g.f_tuple rfl (sav_cons (SV (se_v rfl (by first | exact .inl rfl | exact .inr (.inl rfl) | exact .inr (.inr rfl)))) sav_nil))) sa_nil))))) ss_nil))) ss_nil)
  (ss_cons xs (s_asT (pg_seq xs.calm (pgs_cons (pg_name xs.nd rfl (by first | exact .inl rfl | exact .inr rfl)) (pgs_cons (pg_name xs.nd rfl (by first | exact .inl rfl | exact .inr rfl)) pgs_nil))) (gok_seq rfl (gsok_cons gok_name (gsok_cons gok_name gsok_nil))) (se_ix xs.u1 (SV (se_v rfl (by first | exact .inl rfl | exact .inr (.inl rfl) | exact .inr (.inr rfl)))) (se_op opD_mod (SV (se_bi (pe_callTy cb_int rfl g.f_int rfl (sav_cons (SV (se_call ⟨(cal "_law_draw" _ rfl).at_⟩ xs rfl rfl (sa_cons (se_v rfl (by first | exact .inl rfl | exact .inr (.inl rfl) | exact .inr (.inr rfl))) (sa_cons se_int sa_nil)) rfl)) sav_nil)))) (SV (se_bi (pe_callB cb_len rfl g.f_len rfl (sav_cons (SV (se_v rfl (by first | exact .inl rfl | exact .inr (.inl rfl) | exact .inr (.inr rfl)))) sav_nil)))))))
  (ss_one (s_ret (se_tup (sa_cons se_str (sa_cons (se_v rfl (by first | exact .inl rfl | exact .inr (.inl rfl) | exact .inr (.inr rfl))) (sa_cons (se_bi (pe_callTy cb_tuple rfl g.f_tuple rfl (sav_cons (SV (SN (sn_comp0 (own := [("field", 10)]) xs (si_e (se_v rfl (by first | exact .inl rfl | exact .inr (.inl rfl) | exact .inr (.inr rfl)))) (blkOk_by (by kernel_rfl)) (fun _ _ _ _ _ => (pg_name xs.blk.nd rfl (by first | exact .inl rfl | exact .inr rfl))) gok_name (by decide) (fun _ _ _ _ _ => (se_call ⟨(cal "_law_region" _ rfl).at_⟩ xs.blk rfl rfl (sa_cons (se_v rfl (by first | exact .inl rfl | exact .inr (.inl rfl) | exact .inr (.inr rfl))) (sa_cons (se_v rfl (by first | exact .inl rfl | exact .inr (.inl rfl) | exact .inr (.inr rfl))) (sa_cons (se_v rfl (by first | exact .inl rfl | exact .inr (.inl rfl) | exact .inr (.inr rfl))) (sa_cons (se_op opD_sub (SV (se_v rfl (by first | exact .inl rfl | exact .inr (.inl rfl) | exact .inr (.inr rfl)))) (SV se_int)) sa_nil)))) rfl))))) sav_nil))) sa_nil))))))))))))
theorem dn_f_law_region (X : K.In h) (G : h.Ns mainGlobals mg) (c : He.SaysD fa fn K) (g : Gx K mg) : Dn Pg w K mg (caK K tf) P "_law_region" f_law_region := by
  obtain ⟨fd, F⟩ := c.def_ 18 (d := d_f_law_region) rfl
  exact ⟨_, _, _, _, _, _, fd, ["box", "types", "name", "depth", "kind", "low", "makers", "left", "maker", "fields", "field"], ["box", "types", "name", "depth"], F, He.glo_ok X G (c.fact 18 (f := .glo "_law_region") rfl), sc_f_law_region, rfl, rfl, F.bindsN fun _ _ _ _ _ _ us hl => match us, hl with | [_, _, _, _], _ => rfl, fun base cdv A out s H E e n tb hc cal xs sl => dv_f_law_region g cal xs sl⟩
theorem sc_f_law_holds : FnScope ["region", "value", "k"] ["region", "value"] (defScope (top 24)) := ⟨rfl, rfl, rfl, by decide +kernel, rfl, by decide +kernel, by decide +kernel⟩
theorem dv_f_law_holds {base : Heap} {a : Addr} {cdv : Value} {A : Around} {out : List Env} {s : Shared} {H : Hp} {E : XK} {e : En} {n : Nat} (g : Gx K mg)
    (cal : ∀ g d, P g = some d → Callee (cx Pg w K mg base ["region", "value", "k"] "_law_holds" (defScope (top 24)) a cdv A out s H E) ca n (Ev.callN P n) g d.np) (xs : XS (cx Pg w K mg base ["region", "value", "k"] "_law_holds" (defScope (top 24)) a cdv A out s H E) (wE E) n) (sl : Slk (cx Pg w K mg base ["region", "value", "k"] "_law_holds" (defScope (top 24)) a cdv A out s H E) n) :
    PSs (cx Pg w K mg base ["region", "value", "k"] "_law_holds" (defScope (top 24)) a cdv A out s H E) (defBody (top 24)) (tS (ct (cx Pg w K mg base ["region", "value", "k"] "_law_holds" (defScope (top 24)) a cdv A out s H E) ca) (wE E) e (f_law_holds.body (Ev.callN P n))) :=
  (ss_cons xs (s_if xs (st_cmp (opC_eq xs.u64) (SV (se_ix xs.u1 (SV (se_v rfl (by first | exact .inl rfl | exact .inr (.inl rfl) | exact .inr (.inr rfl)))) se_int)) (SV se_str) rfl) (ss_one (s_ret se_bl)) ss_nil)
  (ss_cons xs (s_if xs (st_cmp (opC_eq xs.u64) (SV (se_ix xs.u1 (SV (se_v rfl (by first | exact .inl rfl | exact .inr (.inl rfl) | exact .inr (.inr rfl)))) se_int)) (SV se_str) rfl) (ss_one (s_ret (se_ch opC_le opC_le (SV (se_ix xs.u1 (SV (se_v rfl (by first | exact .inl rfl | exact .inr (.inl rfl) | exact .inr (.inr rfl)))) se_int)) (SV (se_ix xs.u1 (SV (se_v rfl (by first | exact .inl rfl | exact .inr (.inl rfl) | exact .inr (.inr rfl)))) se_int)) (SV (se_ix xs.u1 (SV (se_v rfl (by first | exact .inl rfl | exact .inr (.inl rfl) | exact .inr (.inr rfl)))) se_int))))) ss_nil)
  (ss_cons xs (s_if xs (st_cmp (opC_eq xs.u64) (SV (se_ix xs.u1 (SV (se_v rfl (by first | exact .inl rfl | exact .inr (.inl rfl) | exact .inr (.inr rfl)))) se_int)) (SV se_str) rfl) (ss_one (s_ret (se_cmp (opC_nin xs.u65) (SV (se_ix xs.u1 (SV (se_v rfl (by first | exact .inl rfl | exact .inr (.inl rfl) | exact .inr (.inr rfl)))) se_int)) (SV (se_ix xs.u1 (SV (se_v rfl (by first | exact .inl rfl | exact .inr (.inl rfl) | exact .inr (.inr rfl)))) se_int)) rfl))) ss_nil)
  (ss_cons xs (s_if xs (st_cmp (opC_ne xs.u64) (SV (se_ix xs.u1 (SV (se_v rfl (by first | exact .inl rfl | exact .inr (.inl rfl) | exact .inr (.inr rfl)))) se_int)) (SV (se_ix xs.u1 (SV (se_v rfl (by first | exact .inl rfl | exact .inr (.inl rfl) | exact .inr (.inr rfl)))) se_int)) rfl) (ss_one (s_ret se_bl)) ss_nil)
  (ss_cons xs (s_for xs (si_range1 rfl g.f_range (se_bi (pe_callB cb_len rfl g.f_len rfl (sav_cons (SV (se_ix xs.u1 (SV (se_v rfl (by first | exact .inl rfl | exact .inr (.inl rfl) | exact .inr (.inr rfl)))) se_int)) sav_nil)))) (pg_name xs.nd rfl (by first | exact .inl rfl | exact .inr rfl)) gok_name (ss_one (s_if xs (st_not (st_e (SV (se_call ⟨(cal "_law_holds" _ rfl).at_⟩ xs rfl rfl (sa_cons (se_ix xs.u1 (SV (se_ix xs.u1 (SV (se_v rfl (by first | exact .inl rfl | exact .inr (.inl rfl) | exact .inr (.inr rfl)))) se_int)) (se_v rfl (by first | exact .inl rfl | exact .inr (.inl rfl) | exact .inr (.inr rfl)))) (sa_cons (se_ix xs.u1 (SV (se_ix xs.u1 (SV (se_v rfl (by first | exact .inl rfl | exact .inr (.inl rfl) | exact .inr (.inr rfl)))) se_int)) (se_v rfl (by first | exact .inl rfl | exact .inr (.inl rfl) | exact .inr (.inr rfl)))) sa_nil)) rfl)))) (ss_one (s_ret se_bl)) ss_nil)))
  (ss_one (s_ret se_bl)))))))
theorem dn_f_law_holds (X : K.In h) (G : h.Ns mainGlobals mg) (c : He.SaysD fa fn K) (g : Gx K mg) : Dn Pg w K mg (caK K tf) P "_law_holds" f_law_holds := by
  obtain ⟨fd, F⟩ := c.def_ 19 (d := d_f_law_holds) rfl
  exact ⟨_, _, _, _, _, _, fd, ["region", "value", "k"], ["region", "value"], F, He.glo_ok X G (c.fact 19 (f := .glo "_law_holds") rfl), sc_f_law_holds, rfl, rfl, F.bindsN fun _ _ _ _ _ _ us hl => match us, hl with | [_, _], _ => rfl, fun base cdv A out s H E e n tb hc cal xs sl => dv_f_law_holds g cal xs sl⟩
theorem sc_f_law_plain_simple : FnScope ["box", "types", "name", "depth", "low", "makers", "maker", "fields", "field"] ["box", "types", "name", "depth"] (defScope (top 25)) := ⟨rfl, rfl, rfl, by decide +kernel, rfl, by decide +kernel, by decide +kernel⟩
theorem dv_f_law_plain_simple {base : Heap} {a : Addr} {cdv : Value} {A : Around} {out : List Env} {s : Shared} {H : Hp} {E : XK} {e : En} {n : Nat} (g : Gx K mg)
    (cal : ∀ g d, P g = some d → Callee (cx Pg w K mg base ["box", "types", "name", "depth", "low", "makers", "maker", "fields", "field"] "_law_plain_simple" (defScope (top 25)) a cdv A out s H E) ca n (Ev.callN P n) g d.np) (xs : XS (cx Pg w K mg base ["box", "types", "name", "depth", "low", "makers", "maker", "fields", "field"] "_law_plain_simple" (defScope (top 25)) a cdv A out s H E) (wE E) n) (sl : Slk (cx Pg w K mg base ["box", "types", "name", "depth", "low", "makers", "maker", "fields", "field"] "_law_plain_simple" (defScope (top 25)) a cdv A out s H E) n) :
    PSs (cx Pg w K mg base ["box", "types", "name", "depth", "low", "makers", "maker", "fields", "field"] "_law_plain_simple" (defScope (top 25)) a cdv A out s H E) (defBody (top 25)) (tS (ct (cx Pg w K mg base ["box", "types", "name", "depth", "low", "makers", "maker", "fields", "field"] "_law_plain_simple" (defScope (top 25)) a cdv A out s H E) ca) (wE E) e (f_law_plain_simple.body (Ev.callN P n))) :=
  (ss_cons xs (s_if xs (PW.pt (sw_or (st_cmp (opC_eq xs.u64) (SV (se_v rfl (by first | exact .inl rfl | exact .inr (.inl rfl) | exact .inr (.inr rfl)))) (SV se_int) rfl) (sw_or1 (st_cmp (opC_eq xs.u64) (SV (se_call ⟨(cal "_law_draw" _ rfl).at_⟩ xs rfl rfl (sa_cons (se_v rfl (by first | exact .inl rfl | exact .inr (.inl rfl) | exact .inr (.inr rfl))) (sa_cons se_int sa_nil)) rfl)) (SV se_int) rfl)))) (ss_one (s_ret (se_tup (sa_cons se_str sa_nil)))) ss_nil)
  (ss_cons xs (s_if xs (st_cmp (opC_eq xs.u64) (SV (se_v rfl (by first | exact .inl rfl | exact .inr (.inl rfl) | exact .inr (.inr rfl)))) (SV se_str) rfl) (ss_cons xs (s_as xs.nd rfl (by first | exact .inl rfl | exact .inr rfl) (se_op opD_sub (SV (se_call ⟨(cal "_law_draw" _ rfl).at_⟩ xs rfl rfl (sa_cons (se_v rfl (by first | exact .inl rfl | exact .inr (.inl rfl) | exact .inr (.inr rfl))) (sa_cons se_int sa_nil)) rfl)) (SV se_int)))
  (ss_one (s_ret (se_tup (sa_cons se_str (sa_cons (se_v rfl (by first | exact .inl rfl | exact .inr (.inl rfl) | exact .inr (.inr rfl))) (sa_cons (se_op opD_add (SV (se_v rfl (by first | exact .inl rfl | exact .inr (.inl rfl) | exact .inr (.inr rfl)))) (SV (se_call ⟨(cal "_law_draw" _ rfl).at_⟩ xs rfl rfl (sa_cons (se_v rfl (by first | exact .inl rfl | exact .inr (.inl rfl) | exact .inr (.inr rfl))) (sa_cons se_int sa_nil)) rfl))) sa_nil))))))) ss_nil)
  (ss_cons xs (s_as xs.nd rfl (by first | exact .inl rfl | exact .inr rfl) (se_call ⟨(cal "_law_makers" _ rfl).at_⟩ xs rfl rfl (sa_cons (se_v rfl (by first | exact .inl rfl | exact .inr (.inl rfl) | exact .inr (.inr rfl))) (sa_cons (se_v rfl (by first | exact .inl rfl | exact .inr (.inl rfl) | exact .inr (.inr rfl))) sa_nil)) rfl))
  (ss_cons xs (s_asT (pg_seq xs.calm (pgs_cons (pg_name xs.nd rfl (by first | exact .inl rfl | exact .inr rfl)) (pgs_cons (pg_name xs.nd rfl (by first | exact .inl rfl | exact .inr rfl)) pgs_nil))) (gok_seq rfl (gsok_cons gok_name (gsok_cons gok_name gsok_nil))) (se_ix xs.u1 (SV (se_v rfl (by first | exact .inl rfl | exact .inr (.inl rfl) | exact .inr (.inr rfl)))) (se_op opD_mod (SV (se_bi (pe_callTy cb_int rfl g.f_int rfl (sav_cons (SV (se_call ⟨(cal "_law_draw" _ rfl).at_⟩ xs rfl rfl (sa_cons (se_v rfl (by first | exact .inl rfl | exact .inr (.inl rfl) | exact .inr (.inr rfl))) (sa_cons se_int sa_nil)) rfl)) sav_nil)))) (SV (se_bi (pe_callB cb_len rfl g.f_len rfl (sav_cons (SV (se_v rfl (by first | exact .inl rfl | exact .inr (.inl rfl) | exact .inr (.inr rfl)))) sav_nil)))))))
  (ss_one (s_ret (se_tup (sa_cons se_str (sa_cons (se_v rfl (by first | exact .inl rfl | exact .inr (.inl rfl) | exact .inr (.inr rfl))) (sa_cons (se_bi (pe_callTy cb_tuple rfl g.f_tuple rfl (sav_cons (SV (SN (sn_comp0 (own := [("field", 8)]) xs (si_e (se_v rfl (by first | exact .inl rfl | exact .inr (.inl rfl) | exact .inr (.inr rfl)))) (blkOk_by (by kernel_rfl)) (fun _ _ _ _ _ => (pg_name xs.blk.nd rfl (by first | exact .inl rfl | exact .inr rfl))) gok_name (by decide) (fun _ _ _ _ _ => (se_call ⟨(cal "_law_plain_simple" _ rfl).at_⟩ xs.blk rfl rfl (sa_cons (se_v rfl (by first | exact .inl rfl | exact .inr (.inl rfl) | exact .inr (.inr rfl))) (sa_cons (se_v rfl (by first | exact .inl rfl | exact .inr (.inl rfl) | exact .inr (.inr rfl))) (sa_cons (se_v rfl (by first | exact .inl rfl | exact .inr (.inl rfl) | exact .inr (.inr rfl))) (sa_cons (se_op opD_sub (SV (se_v rfl (by first | exact .inl rfl | exact .inr (.inl rfl) | exact .inr (.inr rfl)))) (SV se_int)) sa_nil)))) rfl))))) sav_nil))) sa_nil))))))))))
theorem dn_f_law_plain_simple (X : K.In h) (G : h.Ns mainGlobals mg) (c : He.SaysD fa fn K) (g : Gx K mg) : Dn Pg w K mg (caK K tf) P "_law_plain_simple" f_law_plain_simple := by
  obtain ⟨fd, F⟩ := c.def_ 20 (d := d_f_law_plain_simple) rfl
  exact ⟨_, _, _, _, _, _, fd, ["box", "types", "name", "depth", "low", "makers", "maker", "fields", "field"], ["box", "types", "name", "depth"], F, He.glo_ok X G (c.fact 20 (f := .glo "_law_plain_simple") rfl), sc_f_law_plain_simple, rfl, rfl, F.bindsN fun _ _ _ _ _ _ us hl => match us, hl with | [_, _, _, _], _ => rfl, fun base cdv A out s H E e n tb hc cal xs sl => dv_f_law_plain_simple g cal xs sl⟩
theorem sc_f_law_cut_2 : FnScope ["region", "simple", "low", "high", "parts"] ["region", "simple"] (defScope (top 26)) := ⟨rfl, rfl, rfl, by decide +kernel, rfl, by decide +kernel, by decide +kernel⟩
theorem dv_f_law_cut_2 {base : Heap} {a : Addr} {cdv : Value} {A : Around} {out : List Env} {s : Shared} {H : Hp} {E : XK} {e : En} {n : Nat} (g : Gx K mg)
    (cal : ∀ g d, P g = some d → Callee (cx Pg w K mg base ["region", "simple", "low", "high", "parts"] "_law_cut" (defScope (top 26)) a cdv A out s H E) ca n (Ev.callN P n) g d.np) (xs : XS (cx Pg w K mg base ["region", "simple", "low", "high", "parts"] "_law_cut" (defScope (top 26)) a cdv A out s H E) (wE E) n) (sl : Slk (cx Pg w K mg base ["region", "simple", "low", "high", "parts"] "_law_cut" (defScope (top 26)) a cdv A out s H E) n) :
    PSs (cx Pg w K mg base ["region", "simple", "low", "high", "parts"] "_law_cut" (defScope (top 26)) a cdv A out s H E) (defBody (top 26)) (tS (ct (cx Pg w K mg base ["region", "simple", "low", "high", "parts"] "_law_cut" (defScope (top 26)) a cdv A out s H E) ca) (wE E) e (f_law_cut_2.body (Ev.callN P n))) :=
  (ss_cons xs (s_if xs (st_cmp (opC_eq xs.u64) (SV (se_ix xs.u1 (SV (se_v rfl (by first | exact .inl rfl | exact .inr (.inl rfl) | exact .inr (.inr rfl)))) se_int)) (SV se_str) rfl) (ss_one (s_ret (se_v rfl (by first | exact .inl rfl | exact .inr (.inl rfl) | exact .inr (.inr rfl))))) ss_nil)
  (ss_cons xs (s_if xs (st_cmp (opC_eq xs.u64) (SV (se_ix xs.u1 (SV (se_v rfl (by first | exact .inl rfl | exact .inr (.inl rfl) | exact .inr (.inr rfl)))) se_int)) (SV se_str) rfl) (ss_one (s_ret (se_v rfl (by first | exact .inl rfl | exact .inr (.inl rfl) | exact .inr (.inr rfl))))) ss_nil)
  (ss_cons xs (s_if xs (st_cmp (opC_eq xs.u64) (SV (se_ix xs.u1 (SV (se_v rfl (by first | exact .inl rfl | exact .inr (.inl rfl) | exact .inr (.inr rfl)))) se_int)) (SV se_str) rfl) (ss_cons xs (s_as xs.nd rfl (by first | exact .inl rfl | exact .inr rfl) (se_bi (pe_callB (cb_max xs.calm) rfl g.f_max rfl (sav_cons (SV (se_ix xs.u1 (SV (se_v rfl (by first | exact .inl rfl | exact .inr (.inl rfl) | exact .inr (.inr rfl)))) se_int)) (sav_cons (SV (se_ix xs.u1 (SV (se_v rfl (by first | exact .inl rfl | exact .inr (.inl rfl) | exact .inr (.inr rfl)))) se_int)) sav_nil)))))
  (ss_cons xs (s_as xs.nd rfl (by first | exact .inl rfl | exact .inr rfl) (se_bi (pe_callB (cb_min xs.calm) rfl g.f_min rfl (sav_cons (SV (se_ix xs.u1 (SV (se_v rfl (by first | exact .inl rfl | exact .inr (.inl rfl) | exact .inr (.inr rfl)))) se_int)) (sav_cons (SV (se_ix xs.u1 (SV (se_v rfl (by first | exact .inl rfl | exact .inr (.inl rfl) | exact .inr (.inr rfl)))) se_int)) sav_nil)))))
  (ss_cons xs (s_if xs (st_cmp opC_gt (SV (se_v rfl (by first | exact .inl rfl | exact .inr (.inl rfl) | exact .inr (.inr rfl)))) (SV (se_v rfl (by first | exact .inl rfl | exact .inr (.inl rfl) | exact .inr (.inr rfl)))) rfl) (ss_one (s_ret se_non)) ss_nil)
  (ss_one (s_ret (se_tup (sa_cons se_str (sa_cons (se_v rfl (by first | exact .inl rfl | exact .inr (.inl rfl) | exact .inr (.inr rfl))) (sa_cons (se_v rfl (by first | exact .inl rfl | exact .inr (.inl rfl) | exact .inr (.inr rfl))) sa_nil))))))))) ss_nil)
  (ss_cons xs (s_if xs (st_cmp (opC_eq xs.u64) (SV (se_ix xs.u1 (SV (se_v rfl (by first | exact .inl rfl | exact .inr (.inl rfl) | exact .inr (.inr rfl)))) se_int)) (SV se_str) rfl) (ss_cons xs (s_if xs (st_cmp (opC_in xs.u65) (SV (se_ix xs.u1 (SV (se_v rfl (by first | exact .inl rfl | exact .inr (.inl rfl) | exact .inr (.inr rfl)))) se_int)) (SV (se_ix xs.u1 (SV (se_v rfl (by first | exact .inl rfl | exact .inr (.inl rfl) | exact .inr (.inr rfl)))) se_int)) rfl) (ss_one (s_ret se_non)) ss_nil)
  (ss_one (s_ret (se_v rfl (by first | exact .inl rfl | exact .inr (.inl rfl) | exact .inr (.inr rfl)))))) ss_nil)
  (ss_cons xs (s_if xs (st_cmp (opC_ne xs.u64) (SV (se_ix xs.u1 (SV (se_v rfl (by first | exact .inl rfl | exact .inr (.inl rfl) | exact .inr (.inr rfl)))) se_int)) (SV (se_ix xs.u1 (SV (se_v rfl (by first | exact .inl rfl | exact .inr (.inl rfl) | exact .inr (.inr rfl)))) se_int)) rfl) (ss_one (s_ret se_non)) ss_nil)
  (ss_cons xs (s_as xs.nd rfl (by first | exact .inl rfl | exact .inr rfl) (se_call ⟨(cal "_law_cuts" _ rfl).at_⟩ xs rfl rfl (sa_cons (se_ix xs.u1 (SV (se_v rfl (by first | exact .inl rfl | exact .inr (.inl rfl) | exact .inr (.inr rfl)))) se_int) (sa_cons (se_ix xs.u1 (SV (se_v rfl (by first | exact .inl rfl | exact .inr (.inl rfl) | exact .inr (.inr rfl)))) se_int) sa_nil)) rfl))
  (ss_cons xs (s_if xs (st_isN (SV (se_v rfl (by first | exact .inl rfl | exact .inr (.inl rfl) | exact .inr (.inr rfl))))) (ss_one (s_ret se_non)) ss_nil)
  (ss_one (s_ret (se_tup (sa_cons se_str (sa_cons (se_ix xs.u1 (SV (se_v rfl (by first | exact .inl rfl | exact .inr (.inl rfl) | exact .inr (.inr rfl)))) se_int) (sa_cons (se_v rfl (by first | exact .inl rfl | exact .inr (.inl rfl) | exact .inr (.inr rfl))) sa_nil)))))))))))))
theorem dn_f_law_cut_2 (X : K.In h) (G : h.Ns mainGlobals mg) (c : He.SaysD fa fn K) (g : Gx K mg) : Dn Pg w K mg (caK K tf) P "_law_cut" f_law_cut_2 := by
  obtain ⟨fd, F⟩ := c.def_ 21 (d := d_f_law_cut_2) rfl
  exact ⟨_, _, _, _, _, _, fd, ["region", "simple", "low", "high", "parts"], ["region", "simple"], F, He.glo_ok X G (c.fact 21 (f := .glo "_law_cut") rfl), sc_f_law_cut_2, rfl, rfl, F.bindsN fun _ _ _ _ _ _ us hl => match us, hl with | [_, _], _ => rfl, fun base cdv A out s H E e n tb hc cal xs sl => dv_f_law_cut_2 g cal xs sl⟩
theorem sc_f_law_cuts : FnScope ["regions", "simples", "found", "k", "part"] ["regions", "simples"] (defScope (top 27)) := ⟨rfl, rfl, rfl, by decide +kernel, rfl, by decide +kernel, by decide +kernel⟩
theorem dv_f_law_cuts {base : Heap} {a : Addr} {cdv : Value} {A : Around} {out : List Env} {s : Shared} {H : Hp} {E : XK} {e : En} {n : Nat} (g : Gx K mg)
    (cal : ∀ g d, P g = some d → Callee (cx Pg w K mg base ["regions", "simples", "found", "k", "part"] "_law_cuts" (defScope (top 27)) a cdv A out s H E) ca n (Ev.callN P n) g d.np) (xs : XS (cx Pg w K mg base ["regions", "simples", "found", "k", "part"] "_law_cuts" (defScope (top 27)) a cdv A out s H E) (wE E) n) (sl : Slk (cx Pg w K mg base ["regions", "simples", "found", "k", "part"] "_law_cuts" (defScope (top 27)) a cdv A out s H E) n) :
    PSs (cx Pg w K mg base ["regions", "simples", "found", "k", "part"] "_law_cuts" (defScope (top 27)) a cdv A out s H E) (defBody (top 27)) (tS (ct (cx Pg w K mg base ["regions", "simples", "found", "k", "part"] "_law_cuts" (defScope (top 27)) a cdv A out s H E) ca) (wE E) e (f_law_cuts.body (Ev.callN P n))) :=
  (ss_cons xs (s_as xs.nd rfl (by first | exact .inl rfl | exact .inr rfl) (se_tup sa_nil))
  (ss_cons xs (s_for xs (si_range1 rfl g.f_range (se_bi (pe_callB cb_len rfl g.f_len rfl (sav_cons (SV (se_v rfl (by first | exact .inl rfl | exact .inr (.inl rfl) | exact .inr (.inr rfl)))) sav_nil)))) (pg_name xs.nd rfl (by first | exact .inl rfl | exact .inr rfl)) gok_name (ss_cons xs (s_as xs.nd rfl (by first | exact .inl rfl | exact .inr rfl) (se_call ⟨(cal "_law_cut" _ rfl).at_⟩ xs rfl rfl (sa_cons (se_ix xs.u1 (SV (se_v rfl (by first | exact .inl rfl | exact .inr (.inl rfl) | exact .inr (.inr rfl)))) (se_v rfl (by first | exact .inl rfl | exact .inr (.inl rfl) | exact .inr (.inr rfl)))) (sa_cons (se_ix xs.u1 (SV (se_v rfl (by first | exact .inl rfl | exact .inr (.inl rfl) | exact .inr (.inr rfl)))) (se_v rfl (by first | exact .inl rfl | exact .inr (.inl rfl) | exact .inr (.inr rfl)))) sa_nil)) rfl))
  (ss_cons xs (s_if xs (st_isN (SV (se_v rfl (by first | exact .inl rfl | exact .inr (.inl rfl) | exact .inr (.inr rfl))))) (ss_one (s_ret se_non)) ss_nil)
  (ss_one (s_as xs.nd rfl (by first | exact .inl rfl | exact .inr rfl) (se_op opD_add (SV (se_v rfl (by first | exact .inl rfl | exact .inr (.inl rfl) | exact .inr (.inr rfl)))) (SV (se_tup (sa_cons (se_v rfl (by first | exact .inl rfl | exact .inr (.inl rfl) | exact .inr (.inr rfl))) sa_nil)))))))))
  (ss_one (s_ret (se_v rfl (by first | exact .inl rfl | exact .inr (.inl rfl) | exact .inr (.inr rfl)))))))
theorem dn_f_law_cuts (X : K.In h) (G : h.Ns mainGlobals mg) (c : He.SaysD fa fn K) (g : Gx K mg) : Dn Pg w K mg (caK K tf) P "_law_cuts" f_law_cuts := by
  obtain ⟨fd, F⟩ := c.def_ 22 (d := d_f_law_cuts) rfl
  exact ⟨_, _, _, _, _, _, fd, ["regions", "simples", "found", "k", "part"], ["regions", "simples"], F, He.glo_ok X G (c.fact 22 (f := .glo "_law_cuts") rfl), sc_f_law_cuts, rfl, rfl, F.bindsN fun _ _ _ _ _ _ us hl => match us, hl with | [_, _], _ => rfl, fun base cdv A out s H E e n tb hc cal xs sl => dv_f_law_cuts g cal xs sl⟩
theorem sc_f_law_ends : FnScope ["region"] ["region"] (defScope (top 28)) := ⟨rfl, rfl, rfl, by decide +kernel, rfl, by decide +kernel, by decide +kernel⟩
theorem dv_f_law_ends {base : Heap} {a : Addr} {cdv : Value} {A : Around} {out : List Env} {s : Shared} {H : Hp} {E : XK} {e : En} {n : Nat} (g : Gx K mg)
    (cal : ∀ g d, P g = some d → Callee (cx Pg w K mg base ["region"] "_law_ends" (defScope (top 28)) a cdv A out s H E) ca n (Ev.callN P n) g d.np) (xs : XS (cx Pg w K mg base ["region"] "_law_ends" (defScope (top 28)) a cdv A out s H E) (wE E) n) (sl : Slk (cx Pg w K mg base ["region"] "_law_ends" (defScope (top 28)) a cdv A out s H E) n) :
    PSs (cx Pg w K mg base ["region"] "_law_ends" (defScope (top 28)) a cdv A out s H E) (defBody (top 28)) (tS (ct (cx Pg w K mg base ["region"] "_law_ends" (defScope (top 28)) a cdv A out s H E) ca) (wE E) e (f_law_ends.body (Ev.callN P n))) :=
  (ss_cons xs (s_if xs (st_cmp (opC_eq xs.u64) (SV (se_ix xs.u1 (SV (se_v rfl (by first | exact .inl rfl | exact .inr (.inl rfl) | exact .inr (.inr rfl)))) se_int)) (SV se_str) rfl) (ss_one (s_ret (SN (sn_lst (sa_cons (se_neg se_int) (sa_cons se_int sa_nil)))))) ss_nil)
  (ss_one (s_ret (SN (sn_lst (sa_cons (se_ix xs.u1 (SV (se_v rfl (by first | exact .inl rfl | exact .inr (.inl rfl) | exact .inr (.inr rfl)))) se_int) (sa_cons (se_ix xs.u1 (SV (se_v rfl (by first | exact .inl rfl | exact .inr (.inl rfl) | exact .inr (.inr rfl)))) se_int) sa_nil)))))))
theorem dn_f_law_ends (X : K.In h) (G : h.Ns mainGlobals mg) (c : He.SaysD fa fn K) (g : Gx K mg) : Dn Pg w K mg (caK K tf) P "_law_ends" f_law_ends := by
  obtain ⟨fd, F⟩ := c.def_ 23 (d := d_f_law_ends) rfl
  exact ⟨_, _, _, _, _, _, fd, ["region"], ["region"], F, He.glo_ok X G (c.fact 23 (f := .glo "_law_ends") rfl), sc_f_law_ends, rfl, rfl, F.bindsN fun _ _ _ _ _ _ us hl => match us, hl with | [_], _ => rfl, fun base cdv A out s H E e n tb hc cal xs sl => dv_f_law_ends g cal xs sl⟩
theorem sc_f_law_covered : FnScope ["types", "name", "region", "simple", "low", "high", "fields", "row", "inner", "field", "k"] ["types", "name", "region", "simple"] (defScope (top 29)) := ⟨rfl, rfl, rfl, by decide +kernel, rfl, by decide +kernel, by decide +kernel⟩
theorem dv_f_law_covered {base : Heap} {a : Addr} {cdv : Value} {A : Around} {out : List Env} {s : Shared} {H : Hp} {E : XK} {e : En} {n : Nat} (g : Gx K mg)
    (cal : ∀ g d, P g = some d → Callee (cx Pg w K mg base ["types", "name", "region", "simple", "low", "high", "fields", "row", "inner", "field", "k"] "_law_covered" (defScope (top 29)) a cdv A out s H E) ca n (Ev.callN P n) g d.np) (xs : XS (cx Pg w K mg base ["types", "name", "region", "simple", "low", "high", "fields", "row", "inner", "field", "k"] "_law_covered" (defScope (top 29)) a cdv A out s H E) (wE E) n) (sl : Slk (cx Pg w K mg base ["types", "name", "region", "simple", "low", "high", "fields", "row", "inner", "field", "k"] "_law_covered" (defScope (top 29)) a cdv A out s H E) n) :
    PSs (cx Pg w K mg base ["types", "name", "region", "simple", "low", "high", "fields", "row", "inner", "field", "k"] "_law_covered" (defScope (top 29)) a cdv A out s H E) (defBody (top 29)) (tS (ct (cx Pg w K mg base ["types", "name", "region", "simple", "low", "high", "fields", "row", "inner", "field", "k"] "_law_covered" (defScope (top 29)) a cdv A out s H E) ca) (wE E) e (f_law_covered.body (Ev.callN P n))) :=
  (ss_cons xs (s_if xs (st_cmp (opC_eq xs.u64) (SV (se_ix xs.u1 (SV (se_v rfl (by first | exact .inl rfl | exact .inr (.inl rfl) | exact .inr (.inr rfl)))) se_int)) (SV se_str) rfl) (ss_one (s_ret se_bl)) ss_nil)
  (ss_cons xs (s_if xs (st_cmp (opC_eq xs.u64) (SV (se_ix xs.u1 (SV (se_v rfl (by first | exact .inl rfl | exact .inr (.inl rfl) | exact .inr (.inr rfl)))) se_int)) (SV se_str) rfl) (ss_cons xs (s_asT (pg_seq xs.calm (pgs_cons (pg_name xs.nd rfl (by first | exact .inl rfl | exact .inr rfl)) (pgs_cons (pg_name xs.nd rfl (by first | exact .inl rfl | exact .inr rfl)) pgs_nil))) (gok_seq rfl (gsok_cons gok_name (gsok_cons gok_name gsok_nil))) (se_call ⟨(cal "_law_ends" _ rfl).at_⟩ xs rfl rfl (sa_cons (se_v rfl (by first | exact .inl rfl | exact .inr (.inl rfl) | exact .inr (.inr rfl))) sa_nil) rfl))
  (ss_one (s_ret (se_and (se_cmp opC_le (SV (se_ix xs.u1 (SV (se_v rfl (by first | exact .inl rfl | exact .inr (.inl rfl) | exact .inr (.inr rfl)))) se_int)) (SV (se_v rfl (by first | exact .inl rfl | exact .inr (.inl rfl) | exact .inr (.inr rfl)))) rfl) (se_one (se_cmp opC_le (SV (se_v rfl (by first | exact .inl rfl | exact .inr (.inl rfl) | exact .inr (.inr rfl)))) (SV (se_ix xs.u1 (SV (se_v rfl (by first | exact .inl rfl | exact .inr (.inl rfl) | exact .inr (.inr rfl)))) se_int)) rfl)))))) ss_nil)
  (ss_cons xs (s_as xs.nd rfl (by first | exact .inl rfl | exact .inr rfl) (se_ix xs.u1 (SV (SN (sn_comp1 (own := [("row", 7)]) xs (si_e (se_call ⟨(cal "_law_makers" _ rfl).at_⟩ xs rfl rfl (sa_cons (se_v rfl (by first | exact .inl rfl | exact .inr (.inl rfl) | exact .inr (.inr rfl))) (sa_cons (se_v rfl (by first | exact .inl rfl | exact .inr (.inl rfl) | exact .inr (.inr rfl))) sa_nil)) rfl)) (blkOk_by (by kernel_rfl)) (fun _ _ _ _ _ => (pg_name xs.blk.nd rfl (by first | exact .inl rfl | exact .inr rfl))) gok_name (by decide) (fun _ _ _ _ _ => (st_cmp (opC_eq xs.blk.u64) (SV (se_ix xs.blk.u1 (SV (se_v rfl (by first | exact .inl rfl | exact .inr (.inl rfl) | exact .inr (.inr rfl)))) se_int)) (SV (se_ix xs.blk.u1 (SV (se_v rfl (by first | exact .inl rfl | exact .inr (.inl rfl) | exact .inr (.inr rfl)))) se_int)) rfl)) (fun _ _ _ _ _ => (se_ix xs.blk.u1 (SV (se_v rfl (by first | exact .inl rfl | exact .inr (.inl rfl) | exact .inr (.inr rfl)))) se_int))))) se_int))
  (ss_cons xs (s_as xs.nd rfl (by first | exact .inl rfl | exact .inr rfl) (SN (sn_comp0 (own := [("field", 9)]) xs (si_e (se_v rfl (by first | exact .inl rfl | exact .inr (.inl rfl) | exact .inr (.inr rfl)))) (blkOk_by (by kernel_rfl)) (fun _ _ _ _ _ => (pg_name xs.blk.nd rfl (by first | exact .inl rfl | exact .inr rfl))) gok_name (by decide) (fun _ _ _ _ _ => (se_tup (sa_cons se_str sa_nil))))))
  (ss_cons xs (s_if xs (st_cmp (opC_eq xs.u64) (SV (se_ix xs.u1 (SV (se_v rfl (by first | exact .inl rfl | exact .inr (.inl rfl) | exact .inr (.inr rfl)))) se_int)) (SV se_str) rfl) (ss_cons xs (s_if xs (st_cmp (opC_ne xs.u64) (SV (se_ix xs.u1 (SV (se_v rfl (by first | exact .inl rfl | exact .inr (.inl rfl) | exact .inr (.inr rfl)))) se_int)) (SV (se_ix xs.u1 (SV (se_v rfl (by first | exact .inl rfl | exact .inr (.inl rfl) | exact .inr (.inr rfl)))) se_int)) rfl) (ss_one (s_ret se_bl)) ss_nil)
  (ss_one (s_as xs.nd rfl (by first | exact .inl rfl | exact .inr rfl) (se_ix xs.u1 (SV (se_v rfl (by first | exact .inl rfl | exact .inr (.inl rfl) | exact .inr (.inr rfl)))) se_int)))) (ss_one (s_if xs (st_cmp (opC_ne xs.u64) (SV (SN (sn_comp1 (own := [("row", 7)]) xs (si_e (se_call ⟨(cal "_law_makers" _ rfl).at_⟩ xs rfl rfl (sa_cons (se_v rfl (by first | exact .inl rfl | exact .inr (.inl rfl) | exact .inr (.inr rfl))) (sa_cons (se_v rfl (by first | exact .inl rfl | exact .inr (.inl rfl) | exact .inr (.inr rfl))) sa_nil)) rfl)) (blkOk_by (by kernel_rfl)) (fun _ _ _ _ _ => (pg_name xs.blk.nd rfl (by first | exact .inl rfl | exact .inr rfl))) gok_name (by decide) (fun _ _ _ _ _ => (PW.pt (sw_or (st_cmp (opC_eq xs.blk.u64) (SV (se_ix xs.blk.u1 (SV (se_v rfl (by first | exact .inl rfl | exact .inr (.inl rfl) | exact .inr (.inr rfl)))) se_int)) (SV se_str) rfl) (sw_or1 (st_cmp (opC_nin xs.blk.u65) (SV (se_ix xs.blk.u1 (SV (se_v rfl (by first | exact .inl rfl | exact .inr (.inl rfl) | exact .inr (.inr rfl)))) se_int)) (SV (se_ix xs.blk.u1 (SV (se_v rfl (by first | exact .inl rfl | exact .inr (.inl rfl) | exact .inr (.inr rfl)))) se_int)) rfl))))) (fun _ _ _ _ _ => (se_ix xs.blk.u1 (SV (se_v rfl (by first | exact .inl rfl | exact .inr (.inl rfl) | exact .inr (.inr rfl)))) se_int))))) (SV (SN (sn_lst (sa_cons (se_ix xs.u1 (SV (se_v rfl (by first | exact .inl rfl | exact .inr (.inl rfl) | exact .inr (.inr rfl)))) se_int) sa_nil)))) rfl) (ss_one (s_ret se_bl)) ss_nil)))
  (ss_one (s_ret (se_cmp (opC_eq xs.u64) (SV (se_bi (pe_callB cb_len rfl g.f_len rfl (sav_cons (SV (SN (sn_comp1 (own := [("k", 10)]) xs (si_range1 rfl g.f_range (se_bi (pe_callB cb_len rfl g.f_len rfl (sav_cons (SV (se_v rfl (by first | exact .inl rfl | exact .inr (.inl rfl) | exact .inr (.inr rfl)))) sav_nil)))) (blkOk_by (by kernel_rfl)) (fun _ _ _ _ _ => (pg_name xs.blk.nd rfl (by first | exact .inl rfl | exact .inr rfl))) gok_name (by decide) (fun _ _ _ _ _ => (st_not (st_e (SV (se_call ⟨(cal "_law_covered" _ rfl).at_⟩ xs.blk rfl rfl (sa_cons (se_v rfl (by first | exact .inl rfl | exact .inr (.inl rfl) | exact .inr (.inr rfl))) (sa_cons (se_ix xs.blk.u1 (SV (se_v rfl (by first | exact .inl rfl | exact .inr (.inl rfl) | exact .inr (.inr rfl)))) (se_v rfl (by first | exact .inl rfl | exact .inr (.inl rfl) | exact .inr (.inr rfl)))) (sa_cons (se_ix xs.blk.u1 (SV (se_v rfl (by first | exact .inl rfl | exact .inr (.inl rfl) | exact .inr (.inr rfl)))) (se_v rfl (by first | exact .inl rfl | exact .inr (.inl rfl) | exact .inr (.inr rfl)))) (sa_cons (se_ix xs.blk.u1 (SV (se_ix xs.blk.u1 (SV (se_v rfl (by first | exact .inl rfl | exact .inr (.inl rfl) | exact .inr (.inr rfl)))) se_int)) (se_v rfl (by first | exact .inl rfl | exact .inr (.inl rfl) | exact .inr (.inr rfl)))) sa_nil)))) rfl))))) (fun _ _ _ _ _ => (se_v rfl (by first | exact .inl rfl | exact .inr (.inl rfl) | exact .inr (.inr rfl))))))) sav_nil)))) (SV se_int) rfl))))))))
theorem dn_f_law_covered (X : K.In h) (G : h.Ns mainGlobals mg) (c : He.SaysD fa fn K) (g : Gx K mg) : Dn Pg w K mg (caK K tf) P "_law_covered" f_law_covered := by
  obtain ⟨fd, F⟩ := c.def_ 24 (d := d_f_law_covered) rfl
  exact ⟨_, _, _, _, _, _, fd, ["types", "name", "region", "simple", "low", "high", "fields", "row", "inner", "field", "k"], ["types", "name", "region", "simple"], F, He.glo_ok X G (c.fact 24 (f := .glo "_law_covered") rfl), sc_f_law_covered, rfl, rfl, F.bindsN fun _ _ _ _ _ _ us hl => match us, hl with | [_, _, _, _], _ => rfl, fun base cdv A out s H E e n tb hc cal xs sl => dv_f_law_covered g cal xs sl⟩
theorem sc_f_law_within : FnScope ["box", "types", "heights", "name", "form", "rows", "row", "maker", "fields", "inner", "field", "k"] ["box", "types", "heights", "name", "form"] (defScope (top 30)) := ⟨rfl, rfl, rfl, by decide +kernel, rfl, by decide +kernel, by decide +kernel⟩
theorem dv_f_law_within {base : Heap} {a : Addr} {cdv : Value} {A : Around} {out : List Env} {s : Shared} {H : Hp} {E : XK} {e : En} {n : Nat} (g : Gx K mg)
    (cal : ∀ g d, P g = some d → Callee (cx Pg w K mg base ["box", "types", "heights", "name", "form", "rows", "row", "maker", "fields", "inner", "field", "k"] "_law_within" (defScope (top 30)) a cdv A out s H E) ca n (Ev.callN P n) g d.np) (xs : XS (cx Pg w K mg base ["box", "types", "heights", "name", "form", "rows", "row", "maker", "fields", "inner", "field", "k"] "_law_within" (defScope (top 30)) a cdv A out s H E) (wE E) n) (sl : Slk (cx Pg w K mg base ["box", "types", "heights", "name", "form", "rows", "row", "maker", "fields", "inner", "field", "k"] "_law_within" (defScope (top 30)) a cdv A out s H E) n) :
    PSs (cx Pg w K mg base ["box", "types", "heights", "name", "form", "rows", "row", "maker", "fields", "inner", "field", "k"] "_law_within" (defScope (top 30)) a cdv A out s H E) (defBody (top 30)) (tS (ct (cx Pg w K mg base ["box", "types", "heights", "name", "form", "rows", "row", "maker", "fields", "inner", "field", "k"] "_law_within" (defScope (top 30)) a cdv A out s H E) ca) (wE E) e (f_law_within.body (Ev.callN P n))) :=
  (ss_cons xs (s_if xs (st_cmp (opC_eq xs.u64) (SV (se_ix xs.u1 (SV (se_v rfl (by first | exact .inl rfl | exact .inr (.inl rfl) | exact .inr (.inr rfl)))) se_int)) (SV se_str) rfl) (ss_one (s_ret (se_call ⟨(cal "_law_value" _ rfl).at_⟩ xs rfl rfl (sa_cons (se_v rfl (by first | exact .inl rfl | exact .inr (.inl rfl) | exact .inr (.inr rfl))) (sa_cons (se_v rfl (by first | exact .inl rfl | exact .inr (.inl rfl) | exact .inr (.inr rfl))) (sa_cons (se_v rfl (by first | exact .inl rfl | exact .inr (.inl rfl) | exact .inr (.inr rfl))) (sa_cons (se_v rfl (by first | exact .inl rfl | exact .inr (.inl rfl) | exact .inr (.inr rfl))) (sa_cons se_int sa_nil))))) rfl))) ss_nil)
  (ss_cons xs (s_if xs (st_cmp (opC_eq xs.u64) (SV (se_ix xs.u1 (SV (se_v rfl (by first | exact .inl rfl | exact .inr (.inl rfl) | exact .inr (.inr rfl)))) se_int)) (SV se_str) rfl) (ss_one (s_ret (se_tup (sa_cons se_str (sa_cons (se_op opD_add (SV (se_ix xs.u1 (SV (se_v rfl (by first | exact .inl rfl | exact .inr (.inl rfl) | exact .inr (.inr rfl)))) se_int)) (SV (se_op opD_mod (SV (se_bi (pe_callTy cb_int rfl g.f_int rfl (sav_cons (SV (se_call ⟨(cal "_law_draw" _ rfl).at_⟩ xs rfl rfl (sa_cons (se_v rfl (by first | exact .inl rfl | exact .inr (.inl rfl) | exact .inr (.inr rfl))) (sa_cons se_int sa_nil)) rfl)) sav_nil)))) (SV (se_op opD_add (SV (se_op opD_sub (SV (se_ix xs.u1 (SV (se_v rfl (by first | exact .inl rfl | exact .inr (.inl rfl) | exact .inr (.inr rfl)))) se_int)) (SV (se_ix xs.u1 (SV (se_v rfl (by first | exact .inl rfl | exact .inr (.inl rfl) | exact .inr (.inr rfl)))) se_int)))) (SV se_int)))))) sa_nil))))) ss_nil)
  (ss_cons xs (s_asOf (SA (pa_comp1 (own := [("row", 6)]) xs rfl rfl (si_e (se_call ⟨(cal "_law_makers" _ rfl).at_⟩ xs rfl rfl (sa_cons (se_v rfl (by first | exact .inl rfl | exact .inr (.inl rfl) | exact .inr (.inr rfl))) (sa_cons (se_v rfl (by first | exact .inl rfl | exact .inr (.inl rfl) | exact .inr (.inr rfl))) sa_nil)) rfl)) (blkOk_by (by kernel_rfl)) (fun _ _ _ _ _ => (pg_name xs.blk.nd rfl (by first | exact .inl rfl | exact .inr rfl))) gok_name (by decide) (fun _ _ _ _ _ => (PW.pt (sw_or (PW.pt (sw_and (st_cmp (opC_eq xs.blk.u64) (SV (se_ix xs.blk.u1 (SV (se_v rfl (by first | exact .inl rfl | exact .inr (.inl rfl) | exact .inr (.inr rfl)))) se_int)) (SV se_str) rfl) (sw_and1 (st_cmp (opC_nin xs.blk.u65) (SV (se_ix xs.blk.u1 (SV (se_v rfl (by first | exact .inl rfl | exact .inr (.inl rfl) | exact .inr (.inr rfl)))) se_int)) (SV (se_ix xs.blk.u1 (SV (se_v rfl (by first | exact .inl rfl | exact .inr (.inl rfl) | exact .inr (.inr rfl)))) se_int)) rfl)))) (sw_or1 (st_cmp (opC_eq xs.blk.u64) (SV (se_ix xs.blk.u1 (SV (se_v rfl (by first | exact .inl rfl | exact .inr (.inl rfl) | exact .inr (.inr rfl)))) se_int)) (SV (se_ix xs.blk.u1 (SV (se_v rfl (by first | exact .inl rfl | exact .inr (.inl rfl) | exact .inr (.inr rfl)))) se_int)) rfl))))) (fun _ _ _ _ _ => (se_v rfl (by first | exact .inl rfl | exact .inr (.inl rfl) | exact .inr (.inr rfl)))))) gok_name)
  (ss_cons xs (s_asT (pg_seq xs.calm (pgs_cons (pg_name xs.nd rfl (by first | exact .inl rfl | exact .inr rfl)) (pgs_cons (pg_name xs.nd rfl (by first | exact .inl rfl | exact .inr rfl)) pgs_nil))) (gok_seq rfl (gsok_cons gok_name (gsok_cons gok_name gsok_nil))) (se_ix xs.u1 (SV (se_v rfl (by first | exact .inl rfl | exact .inr (.inl rfl) | exact .inr (.inr rfl)))) (se_op opD_mod (SV (se_bi (pe_callTy cb_int rfl g.f_int rfl (sav_cons (SV (se_call ⟨(cal "_law_draw" _ rfl).at_⟩ xs rfl rfl (sa_cons (se_v rfl (by first | exact .inl rfl | exact .inr (.inl rfl) | exact .inr (.inr rfl))) (sa_cons se_int sa_nil)) rfl)) sav_nil)))) (SV (se_bi (pe_callB cb_len rfl g.f_len rfl (sav_cons (SV (se_v rfl (by first | exact .inl rfl | exact .inr (.inl rfl) | exact .inr (.inr rfl)))) sav_nil)))))))
  (ss_cons xs (s_as xs.nd rfl (by first | exact .inl rfl | exact .inr rfl) (SN (sn_comp0 (own := [("field", 10)]) xs (si_e (se_v rfl (by first | exact .inl rfl | exact .inr (.inl rfl) | exact .inr (.inr rfl)))) (blkOk_by (by kernel_rfl)) (fun _ _ _ _ _ => (pg_name xs.blk.nd rfl (by first | exact .inl rfl | exact .inr rfl))) gok_name (by decide) (fun _ _ _ _ _ => (se_tup (sa_cons se_str sa_nil))))))
  (ss_cons xs (s_if xs (st_cmp (opC_eq xs.u64) (SV (se_ix xs.u1 (SV (se_v rfl (by first | exact .inl rfl | exact .inr (.inl rfl) | exact .inr (.inr rfl)))) se_int)) (SV se_str) rfl) (ss_one (s_as xs.nd rfl (by first | exact .inl rfl | exact .inr rfl) (se_ix xs.u1 (SV (se_v rfl (by first | exact .inl rfl | exact .inr (.inl rfl) | exact .inr (.inr rfl)))) se_int))) ss_nil)
  (ss_one (s_ret (se_tup (sa_cons se_str (sa_cons (se_v rfl (by first | exact .inl rfl | exact .inr (.inl rfl) | exact .inr (.inr rfl))) (sa_cons (se_bi (pe_callTy cb_tuple rfl g.f_tuple rfl (sav_cons (SV (SN (sn_comp0 (own := [("k", 11)]) xs (si_range1 rfl g.f_range (se_bi (pe_callB cb_len rfl g.f_len rfl (sav_cons (SV (se_v rfl (by first | exact .inl rfl | exact .inr (.inl rfl) | exact .inr (.inr rfl)))) sav_nil)))) (blkOk_by (by kernel_rfl)) (fun _ _ _ _ _ => (pg_name xs.blk.nd rfl (by first | exact .inl rfl | exact .inr rfl))) gok_name (by decide) (fun _ _ _ _ _ => (se_call ⟨(cal "_law_within" _ rfl).at_⟩ xs.blk rfl rfl (sa_cons (se_v rfl (by first | exact .inl rfl | exact .inr (.inl rfl) | exact .inr (.inr rfl))) (sa_cons (se_v rfl (by first | exact .inl rfl | exact .inr (.inl rfl) | exact .inr (.inr rfl))) (sa_cons (se_v rfl (by first | exact .inl rfl | exact .inr (.inl rfl) | exact .inr (.inr rfl))) (sa_cons (se_ix xs.blk.u1 (SV (se_v rfl (by first | exact .inl rfl | exact .inr (.inl rfl) | exact .inr (.inr rfl)))) (se_v rfl (by first | exact .inl rfl | exact .inr (.inl rfl) | exact .inr (.inr rfl)))) (sa_cons (se_ix xs.blk.u1 (SV (se_v rfl (by first | exact .inl rfl | exact .inr (.inl rfl) | exact .inr (.inr rfl)))) (se_v rfl (by first | exact .inl rfl | exact .inr (.inl rfl) | exact .inr (.inr rfl)))) sa_nil))))) rfl))))) sav_nil))) sa_nil))))))))))))
theorem dn_f_law_within (X : K.In h) (G : h.Ns mainGlobals mg) (c : He.SaysD fa fn K) (g : Gx K mg) : Dn Pg w K mg (caK K tf) P "_law_within" f_law_within := by
  obtain ⟨fd, F⟩ := c.def_ 25 (d := d_f_law_within) rfl
  exact ⟨_, _, _, _, _, _, fd, ["box", "types", "heights", "name", "form", "rows", "row", "maker", "fields", "inner", "field", "k"], ["box", "types", "heights", "name", "form"], F, He.glo_ok X G (c.fact 25 (f := .glo "_law_within") rfl), sc_f_law_within, rfl, rfl, F.bindsN fun _ _ _ _ _ _ us hl => match us, hl with | [_, _, _, _, _], _ => rfl, fun base cdv A out s H E e n tb hc cal xs sl => dv_f_law_within g cal xs sl⟩
theorem sc_f_law_twice : FnScope ["region", "one", "other", "first"] ["region", "one", "other"] (defScope (top 31)) := ⟨rfl, rfl, rfl, by decide +kernel, rfl, by decide +kernel, by decide +kernel⟩
theorem dv_f_law_twice {base : Heap} {a : Addr} {cdv : Value} {A : Around} {out : List Env} {s : Shared} {H : Hp} {E : XK} {e : En} {n : Nat} (g : Gx K mg)
    (cal : ∀ g d, P g = some d → Callee (cx Pg w K mg base ["region", "one", "other", "first"] "_law_twice" (defScope (top 31)) a cdv A out s H E) ca n (Ev.callN P n) g d.np) (xs : XS (cx Pg w K mg base ["region", "one", "other", "first"] "_law_twice" (defScope (top 31)) a cdv A out s H E) (wE E) n) (sl : Slk (cx Pg w K mg base ["region", "one", "other", "first"] "_law_twice" (defScope (top 31)) a cdv A out s H E) n) :
    PSs (cx Pg w K mg base ["region", "one", "other", "first"] "_law_twice" (defScope (top 31)) a cdv A out s H E) (defBody (top 31)) (tS (ct (cx Pg w K mg base ["region", "one", "other", "first"] "_law_twice" (defScope (top 31)) a cdv A out s H E) ca) (wE E) e (f_law_twice.body (Ev.callN P n))) :=
  (ss_cons xs (s_as xs.nd rfl (by first | exact .inl rfl | exact .inr rfl) (se_call ⟨(cal "cut" _ rfl).at_⟩ xs rfl rfl (sa_cons (se_v rfl (by first | exact .inl rfl | exact .inr (.inl rfl) | exact .inr (.inr rfl))) (sa_cons (se_v rfl (by first | exact .inl rfl | exact .inr (.inl rfl) | exact .inr (.inr rfl))) sa_nil)) rfl))
  (ss_cons xs (s_if xs (st_isN (SV (se_v rfl (by first | exact .inl rfl | exact .inr (.inl rfl) | exact .inr (.inr rfl))))) (ss_one (s_ret se_non)) ss_nil)
  (ss_one (s_ret (se_call ⟨(cal "cut" _ rfl).at_⟩ xs rfl rfl (sa_cons (se_v rfl (by first | exact .inl rfl | exact .inr (.inl rfl) | exact .inr (.inr rfl))) (sa_cons (se_v rfl (by first | exact .inl rfl | exact .inr (.inl rfl) | exact .inr (.inr rfl))) sa_nil)) rfl)))))
theorem dn_f_law_twice (X : K.In h) (G : h.Ns mainGlobals mg) (c : He.SaysD fa fn K) (g : Gx K mg) : Dn Pg w K mg (caK K tf) P "_law_twice" f_law_twice := by
  obtain ⟨fd, F⟩ := c.def_ 26 (d := d_f_law_twice) rfl
  exact ⟨_, _, _, _, _, _, fd, ["region", "one", "other", "first"], ["region", "one", "other"], F, He.glo_ok X G (c.fact 26 (f := .glo "_law_twice") rfl), sc_f_law_twice, rfl, rfl, F.bindsN fun _ _ _ _ _ _ us hl => match us, hl with | [_, _, _], _ => rfl, fun base cdv A out s H E e n tb hc cal xs sl => dv_f_law_twice g cal xs sl⟩
theorem sc_f_law_due_twice : FnScope ["region", "one", "other", "first"] ["region", "one", "other"] (defScope (top 32)) := ⟨rfl, rfl, rfl, by decide +kernel, rfl, by decide +kernel, by decide +kernel⟩
theorem dv_f_law_due_twice {base : Heap} {a : Addr} {cdv : Value} {A : Around} {out : List Env} {s : Shared} {H : Hp} {E : XK} {e : En} {n : Nat} (g : Gx K mg)
    (cal : ∀ g d, P g = some d → Callee (cx Pg w K mg base ["region", "one", "other", "first"] "_law_due_twice" (defScope (top 32)) a cdv A out s H E) ca n (Ev.callN P n) g d.np) (xs : XS (cx Pg w K mg base ["region", "one", "other", "first"] "_law_due_twice" (defScope (top 32)) a cdv A out s H E) (wE E) n) (sl : Slk (cx Pg w K mg base ["region", "one", "other", "first"] "_law_due_twice" (defScope (top 32)) a cdv A out s H E) n) :
    PSs (cx Pg w K mg base ["region", "one", "other", "first"] "_law_due_twice" (defScope (top 32)) a cdv A out s H E) (defBody (top 32)) (tS (ct (cx Pg w K mg base ["region", "one", "other", "first"] "_law_due_twice" (defScope (top 32)) a cdv A out s H E) ca) (wE E) e (f_law_due_twice.body (Ev.callN P n))) :=
  (ss_cons xs (s_as xs.nd rfl (by first | exact .inl rfl | exact .inr rfl) (se_call ⟨(cal "_law_cut" _ rfl).at_⟩ xs rfl rfl (sa_cons (se_v rfl (by first | exact .inl rfl | exact .inr (.inl rfl) | exact .inr (.inr rfl))) (sa_cons (se_v rfl (by first | exact .inl rfl | exact .inr (.inl rfl) | exact .inr (.inr rfl))) sa_nil)) rfl))
  (ss_one (s_ret (se_and (se_notN (SV (se_v rfl (by first | exact .inl rfl | exact .inr (.inl rfl) | exact .inr (.inr rfl))))) (se_one (se_notN (SV (se_call ⟨(cal "_law_cut" _ rfl).at_⟩ xs rfl rfl (sa_cons (se_v rfl (by first | exact .inl rfl | exact .inr (.inl rfl) | exact .inr (.inr rfl))) (sa_cons (se_v rfl (by first | exact .inl rfl | exact .inr (.inl rfl) | exact .inr (.inr rfl))) sa_nil)) rfl))))))))
theorem dn_f_law_due_twice (X : K.In h) (G : h.Ns mainGlobals mg) (c : He.SaysD fa fn K) (g : Gx K mg) : Dn Pg w K mg (caK K tf) P "_law_due_twice" f_law_due_twice := by
  obtain ⟨fd, F⟩ := c.def_ 27 (d := d_f_law_due_twice) rfl
  exact ⟨_, _, _, _, _, _, fd, ["region", "one", "other", "first"], ["region", "one", "other"], F, He.glo_ok X G (c.fact 27 (f := .glo "_law_due_twice") rfl), sc_f_law_due_twice, rfl, rfl, F.bindsN fun _ _ _ _ _ _ us hl => match us, hl with | [_, _, _], _ => rfl, fun base cdv A out s H E e n tb hc cal xs sl => dv_f_law_due_twice g cal xs sl⟩
theorem sc_f_law_forms : FnScope ["types", "name", "region", "one", "here", "away", "part"] ["types", "name", "region", "one", "here", "away"] (defScope (top 33)) := ⟨rfl, rfl, rfl, by decide +kernel, rfl, by decide +kernel, by decide +kernel⟩
theorem dv_f_law_forms {base : Heap} {a : Addr} {cdv : Value} {A : Around} {out : List Env} {s : Shared} {H : Hp} {E : XK} {e : En} {n : Nat} (g : Gx K mg)
    (cal : ∀ g d, P g = some d → Callee (cx Pg w K mg base ["types", "name", "region", "one", "here", "away", "part"] "_law_forms" (defScope (top 33)) a cdv A out s H E) ca n (Ev.callN P n) g d.np) (xs : XS (cx Pg w K mg base ["types", "name", "region", "one", "here", "away", "part"] "_law_forms" (defScope (top 33)) a cdv A out s H E) (wE E) n) (sl : Slk (cx Pg w K mg base ["types", "name", "region", "one", "here", "away", "part"] "_law_forms" (defScope (top 33)) a cdv A out s H E) n) :
    PSs (cx Pg w K mg base ["types", "name", "region", "one", "here", "away", "part"] "_law_forms" (defScope (top 33)) a cdv A out s H E) (defBody (top 33)) (tS (ct (cx Pg w K mg base ["types", "name", "region", "one", "here", "away", "part"] "_law_forms" (defScope (top 33)) a cdv A out s H E) ca) (wE E) e (f_law_forms.body (Ev.callN P n))) :=
  (ss_cons xs (s_if xs (PW.pt (sw_or (st_cmp (opC_ne xs.u64) (SV (se_isN (SV (se_v rfl (by first | exact .inl rfl | exact .inr (.inl rfl) | exact .inr (.inr rfl)))))) (SV (se_isN (SV (se_call ⟨(cal "_law_cut" _ rfl).at_⟩ xs rfl rfl (sa_cons (se_v rfl (by first | exact .inl rfl | exact .inr (.inl rfl) | exact .inr (.inr rfl))) (sa_cons (se_v rfl (by first | exact .inl rfl | exact .inr (.inl rfl) | exact .inr (.inr rfl))) sa_nil)) rfl)))) rfl) (sw_or1 (st_not (st_e (SV (se_isin (T := "list") (by decide +kernel) (SV (se_v rfl (by first | exact .inl rfl | exact .inr (.inl rfl) | exact .inr (.inr rfl)))) rfl g.f_isinstance rfl rfl g.f_list rfl))))))) (ss_one (s_ret se_bl)) ss_nil)
  (ss_cons xs (s_if xs (st_cmp (opC_ne xs.u64) (SV (se_cmp (opC_eq xs.u64) (SV (se_bi (pe_callB cb_len rfl g.f_len rfl (sav_cons (SV (se_v rfl (by first | exact .inl rfl | exact .inr (.inl rfl) | exact .inr (.inr rfl)))) sav_nil)))) (SV se_int) rfl)) (SV (se_call ⟨(cal "_law_covered" _ rfl).at_⟩ xs rfl rfl (sa_cons (se_v rfl (by first | exact .inl rfl | exact .inr (.inl rfl) | exact .inr (.inr rfl))) (sa_cons (se_v rfl (by first | exact .inl rfl | exact .inr (.inl rfl) | exact .inr (.inr rfl))) (sa_cons (se_v rfl (by first | exact .inl rfl | exact .inr (.inl rfl) | exact .inr (.inr rfl))) (sa_cons (se_v rfl (by first | exact .inl rfl | exact .inr (.inl rfl) | exact .inr (.inr rfl))) sa_nil)))) rfl)) rfl) (ss_one (s_ret se_bl)) ss_nil)
  (ss_cons xs (s_if xs (PW.pt (sw_and (st_notN (SV (se_v rfl (by first | exact .inl rfl | exact .inr (.inl rfl) | exact .inr (.inr rfl))))) (sw_and1 (st_not (st_e (SV (se_call ⟨(cal "_law_same" _ rfl).at_⟩ xs rfl rfl (sa_cons (se_call ⟨(cal "cut" _ rfl).at_⟩ xs rfl rfl (sa_cons (se_v rfl (by first | exact .inl rfl | exact .inr (.inl rfl) | exact .inr (.inr rfl))) (sa_cons (se_v rfl (by first | exact .inl rfl | exact .inr (.inl rfl) | exact .inr (.inr rfl))) sa_nil)) rfl) (sa_cons (se_v rfl (by first | exact .inl rfl | exact .inr (.inl rfl) | exact .inr (.inr rfl))) sa_nil)) rfl))))))) (ss_one (s_ret se_bl)) ss_nil)
  (ss_cons xs (s_for xs (si_e (se_v rfl (by first | exact .inl rfl | exact .inr (.inl rfl) | exact .inr (.inr rfl)))) (pg_name xs.nd rfl (by first | exact .inl rfl | exact .inr rfl)) gok_name (ss_one (s_if xs (PW.pt (sw_or (st_notN (SV (se_call ⟨(cal "cut" _ rfl).at_⟩ xs rfl rfl (sa_cons (se_v rfl (by first | exact .inl rfl | exact .inr (.inl rfl) | exact .inr (.inr rfl))) (sa_cons (se_v rfl (by first | exact .inl rfl | exact .inr (.inl rfl) | exact .inr (.inr rfl))) sa_nil)) rfl))) (sw_or1 (st_not (st_e (SV (se_call ⟨(cal "_law_same" _ rfl).at_⟩ xs rfl rfl (sa_cons (se_call ⟨(cal "rest" _ rfl).at_⟩ xs rfl rfl (sa_cons (se_v rfl (by first | exact .inl rfl | exact .inr (.inl rfl) | exact .inr (.inr rfl))) (sa_cons (se_v rfl (by first | exact .inl rfl | exact .inr (.inl rfl) | exact .inr (.inr rfl))) (sa_cons (se_v rfl (by first | exact .inl rfl | exact .inr (.inl rfl) | exact .inr (.inr rfl))) (sa_cons (se_v rfl (by first | exact .inl rfl | exact .inr (.inl rfl) | exact .inr (.inr rfl))) sa_nil)))) rfl) (sa_cons (SN (sn_lst (sa_cons (se_v rfl (by first | exact .inl rfl | exact .inr (.inl rfl) | exact .inr (.inr rfl))) sa_nil))) sa_nil)) rfl))))))) (ss_one (s_ret se_bl)) ss_nil)))
  (ss_one (s_ret se_bl))))))
theorem dn_f_law_forms (X : K.In h) (G : h.Ns mainGlobals mg) (c : He.SaysD fa fn K) (g : Gx K mg) : Dn Pg w K mg (caK K tf) P "_law_forms" f_law_forms := by
  obtain ⟨fd, F⟩ := c.def_ 28 (d := d_f_law_forms) rfl
  exact ⟨_, _, _, _, _, _, fd, ["types", "name", "region", "one", "here", "away", "part"], ["types", "name", "region", "one", "here", "away"], F, He.glo_ok X G (c.fact 28 (f := .glo "_law_forms") rfl), sc_f_law_forms, rfl, rfl, F.bindsN fun _ _ _ _ _ _ us hl => match us, hl with | [_, _, _, _, _, _], _ => rfl, fun base cdv A out s H E e n tb hc cal xs sl => dv_f_law_forms g cal xs sl⟩
theorem sc_f_law_held : FnScope ["regions", "value", "due", "told", "region", "yes", "answer"] ["regions", "value", "due"] (defScope (top 34)) := ⟨rfl, rfl, rfl, by decide +kernel, rfl, by decide +kernel, by decide +kernel⟩
theorem dv_f_law_held {base : Heap} {a : Addr} {cdv : Value} {A : Around} {out : List Env} {s : Shared} {H : Hp} {E : XK} {e : En} {n : Nat} (g : Gx K mg)
    (cal : ∀ g d, P g = some d → Callee (cx Pg w K mg base ["regions", "value", "due", "told", "region", "yes", "answer"] "_law_held" (defScope (top 34)) a cdv A out s H E) ca n (Ev.callN P n) g d.np) (xs : XS (cx Pg w K mg base ["regions", "value", "due", "told", "region", "yes", "answer"] "_law_held" (defScope (top 34)) a cdv A out s H E) (wE E) n) (sl : Slk (cx Pg w K mg base ["regions", "value", "due", "told", "region", "yes", "answer"] "_law_held" (defScope (top 34)) a cdv A out s H E) n) :
    PSs (cx Pg w K mg base ["regions", "value", "due", "told", "region", "yes", "answer"] "_law_held" (defScope (top 34)) a cdv A out s H E) (defBody (top 34)) (tS (ct (cx Pg w K mg base ["regions", "value", "due", "told", "region", "yes", "answer"] "_law_held" (defScope (top 34)) a cdv A out s H E) ca) (wE E) e (f_law_held.body (Ev.callN P n))) :=
  (ss_cons xs (s_asOf (SA (pa_comp1 (own := [("region", 4)]) xs rfl rfl (si_e (se_v rfl (by first | exact .inl rfl | exact .inr (.inl rfl) | exact .inr (.inr rfl)))) (blkOk_by (by kernel_rfl)) (fun _ _ _ _ _ => (pg_name xs.blk.nd rfl (by first | exact .inl rfl | exact .inr rfl))) gok_name (by decide) (fun _ _ _ _ _ => (st_notN (SV (se_v rfl (by first | exact .inl rfl | exact .inr (.inl rfl) | exact .inr (.inr rfl)))))) (fun _ _ _ _ _ => (se_call ⟨(cal "holds" _ rfl).at_⟩ xs.blk rfl rfl (sa_cons (se_v rfl (by first | exact .inl rfl | exact .inr (.inl rfl) | exact .inr (.inr rfl))) (sa_cons (se_v rfl (by first | exact .inl rfl | exact .inr (.inl rfl) | exact .inr (.inr rfl))) sa_nil)) rfl)))) gok_name)
  (ss_cons xs (s_as xs.nd rfl (by first | exact .inl rfl | exact .inr rfl) (se_bi (pe_callB cb_len rfl g.f_len rfl (sav_cons (SV (SN (sn_comp1 (own := [("answer", 6)]) xs (si_e (se_v rfl (by first | exact .inl rfl | exact .inr (.inl rfl) | exact .inr (.inr rfl)))) (blkOk_by (by kernel_rfl)) (fun _ _ _ _ _ => (pg_name xs.blk.nd rfl (by first | exact .inl rfl | exact .inr rfl))) gok_name (by decide) (fun _ _ _ _ _ => (st_cmp opC_is (SV (se_v rfl (by first | exact .inl rfl | exact .inr (.inl rfl) | exact .inr (.inr rfl)))) (SV se_bl) rfl)) (fun _ _ _ _ _ => (se_v rfl (by first | exact .inl rfl | exact .inr (.inl rfl) | exact .inr (.inr rfl))))))) sav_nil))))
  (ss_one (s_ret (se_and (se_cmp (opC_eq xs.u64) (SV (se_v rfl (by first | exact .inl rfl | exact .inr (.inl rfl) | exact .inr (.inr rfl)))) (SV (se_v rfl (by first | exact .inl rfl | exact .inr (.inl rfl) | exact .inr (.inr rfl)))) rfl) (se_one (se_cmp (opC_eq xs.u64) (SV (se_bi (pe_callB cb_len rfl g.f_len rfl (sav_cons (SV (SN (sn_comp1 (own := [("answer", 6)]) xs (si_e (se_v rfl (by first | exact .inl rfl | exact .inr (.inl rfl) | exact .inr (.inr rfl)))) (blkOk_by (by kernel_rfl)) (fun _ _ _ _ _ => (pg_name xs.blk.nd rfl (by first | exact .inl rfl | exact .inr rfl))) gok_name (by decide) (fun _ _ _ _ _ => (st_cmp opC_is (SV (se_v rfl (by first | exact .inl rfl | exact .inr (.inl rfl) | exact .inr (.inr rfl)))) (SV se_bl) rfl)) (fun _ _ _ _ _ => (se_v rfl (by first | exact .inl rfl | exact .inr (.inl rfl) | exact .inr (.inr rfl))))))) sav_nil)))) (SV (se_op opD_sub (SV (se_bi (pe_callB cb_len rfl g.f_len rfl (sav_cons (SV (se_v rfl (by first | exact .inl rfl | exact .inr (.inl rfl) | exact .inr (.inr rfl)))) sav_nil)))) (SV (se_v rfl (by first | exact .inl rfl | exact .inr (.inl rfl) | exact .inr (.inr rfl)))))) rfl)))))))
theorem dn_f_law_held (X : K.In h) (G : h.Ns mainGlobals mg) (c : He.SaysD fa fn K) (g : Gx K mg) : Dn Pg w K mg (caK K tf) P "_law_held" f_law_held := by
  obtain ⟨fd, F⟩ := c.def_ 29 (d := d_f_law_held) rfl
  exact ⟨_, _, _, _, _, _, fd, ["regions", "value", "due", "told", "region", "yes", "answer"], ["regions", "value", "due"], F, He.glo_ok X G (c.fact 29 (f := .glo "_law_held") rfl), sc_f_law_held, rfl, rfl, F.bindsN fun _ _ _ _ _ _ us hl => match us, hl with | [_, _, _], _ => rfl, fun base cdv A out s H E e n tb hc cal xs sl => dv_f_law_held g cal xs sl⟩
theorem sc_f_law_10 : FnScope ["script", "box", "types", "heights", "turn", "name", "row", "region", "one", "other", "here", "away", "twice", "part", "k", "value", "inside", "matched"] ["script"] (defScope (top 35)) := ⟨rfl, rfl, rfl, by decide +kernel, rfl, by decide +kernel, by decide +kernel⟩
theorem dv_f_law_10 {base : Heap} {a : Addr} {cdv : Value} {A : Around} {out : List Env} {s : Shared} {H : Hp} {E : XK} {e : En} {n : Nat} (g : Gx K mg)
    (cal : ∀ g d, P g = some d → Callee (cx Pg w K mg base ["script", "box", "types", "heights", "turn", "name", "row", "region", "one", "other", "here", "away", "twice", "part", "k", "value", "inside", "matched"] "law" (defScope (top 35)) a cdv A out s H E) ca n (Ev.callN P n) g d.np) (xs : XS (cx Pg w K mg base ["script", "box", "types", "heights", "turn", "name", "row", "region", "one", "other", "here", "away", "twice", "part", "k", "value", "inside", "matched"] "law" (defScope (top 35)) a cdv A out s H E) (wE E) n) (sl : Slk (cx Pg w K mg base ["script", "box", "types", "heights", "turn", "name", "row", "region", "one", "other", "here", "away", "twice", "part", "k", "value", "inside", "matched"] "law" (defScope (top 35)) a cdv A out s H E) n) :
    PSs (cx Pg w K mg base ["script", "box", "types", "heights", "turn", "name", "row", "region", "one", "other", "here", "away", "twice", "part", "k", "value", "inside", "matched"] "law" (defScope (top 35)) a cdv A out s H E) (defBody (top 35)) (tS (ct (cx Pg w K mg base ["script", "box", "types", "heights", "turn", "name", "row", "region", "one", "other", "here", "away", "twice", "part", "k", "value", "inside", "matched"] "law" (defScope (top 35)) a cdv A out s H E) ca) (wE E) e (f_law_10.body (Ev.callN P n))) :=
  (ss_cons xs (s_cell xs.nd rfl (by first | exact .inl rfl | exact .inr rfl) (sn_lst (sa_cons (se_call ⟨(cal "_law_digits" _ rfl).at_⟩ xs rfl rfl (sa_cons (se_v rfl (by first | exact .inl rfl | exact .inr (.inl rfl) | exact .inr (.inr rfl))) (sa_cons se_int (sa_cons se_int sa_nil))) rfl) (sa_cons se_int sa_nil))))
  (ss_cons xs (s_as xs.nd rfl (by first | exact .inl rfl | exact .inr rfl) (se_call ⟨(cal "_law_types" _ rfl).at_⟩ xs rfl rfl (sa_cons (se_v rfl (by first | exact .inl rfl | exact .inr (.inl rfl) | exact .inr (.inr rfl))) sa_nil) rfl))
  (ss_cons xs (s_as xs.nd rfl (by first | exact .inl rfl | exact .inr rfl) (se_call ⟨(cal "_law_heights" _ rfl).at_⟩ xs rfl rfl (sa_cons (se_v rfl (by first | exact .inl rfl | exact .inr (.inl rfl) | exact .inr (.inr rfl))) sa_nil) rfl))
  (ss_cons xs (s_for xs (si_range1 rfl g.f_range se_int) (pg_name xs.nd rfl (by first | exact .inl rfl | exact .inr rfl)) gok_name (ss_cons xs (s_as xs.nd rfl (by first | exact .inl rfl | exact .inr rfl) (se_ix xs.u1 (SV (se_op opD_add (SV (SN (sn_lst (sa_cons se_str sa_nil)))) (SV (se_op opD_mul (SV (SN (sn_comp0 (own := [("row", 6)]) xs (si_e (se_v rfl (by first | exact .inl rfl | exact .inr (.inl rfl) | exact .inr (.inr rfl)))) (blkOk_by (by kernel_rfl)) (fun _ _ _ _ _ => (pg_name xs.blk.nd rfl (by first | exact .inl rfl | exact .inr rfl))) gok_name (by decide) (fun _ _ _ _ _ => (se_ix xs.blk.u1 (SV (se_v rfl (by first | exact .inl rfl | exact .inr (.inl rfl) | exact .inr (.inr rfl)))) se_int))))) (SV se_int))))) (se_op opD_mod (SV (se_bi (pe_callTy cb_int rfl g.f_int rfl (sav_cons (SV (se_call ⟨(cal "_law_draw" _ rfl).at_⟩ xs rfl rfl (sa_cons (se_v rfl (by first | exact .inl rfl | exact .inr (.inl rfl) | exact .inr (.inr rfl))) (sa_cons se_int sa_nil)) rfl)) sav_nil)))) (SV (se_op opD_add (SV se_int) (SV (se_op opD_mul (SV se_int) (SV (se_bi (pe_callB cb_len rfl g.f_len rfl (sav_cons (SV (se_v rfl (by first | exact .inl rfl | exact .inr (.inl rfl) | exact .inr (.inr rfl)))) sav_nil)))))))))))
  (ss_cons xs (s_as xs.nd rfl (by first | exact .inl rfl | exact .inr rfl) (se_call ⟨(cal "_law_region" _ rfl).at_⟩ xs rfl rfl (sa_cons (se_v rfl (by first | exact .inl rfl | exact .inr (.inl rfl) | exact .inr (.inr rfl))) (sa_cons (se_v rfl (by first | exact .inl rfl | exact .inr (.inl rfl) | exact .inr (.inr rfl))) (sa_cons (se_v rfl (by first | exact .inl rfl | exact .inr (.inl rfl) | exact .inr (.inr rfl))) (sa_cons se_int sa_nil)))) rfl))
  (ss_cons xs (s_as xs.nd rfl (by first | exact .inl rfl | exact .inr rfl) (se_call ⟨(cal "_law_plain_simple" _ rfl).at_⟩ xs rfl rfl (sa_cons (se_v rfl (by first | exact .inl rfl | exact .inr (.inl rfl) | exact .inr (.inr rfl))) (sa_cons (se_v rfl (by first | exact .inl rfl | exact .inr (.inl rfl) | exact .inr (.inr rfl))) (sa_cons (se_v rfl (by first | exact .inl rfl | exact .inr (.inl rfl) | exact .inr (.inr rfl))) (sa_cons se_int sa_nil)))) rfl))
  (ss_cons xs (s_as xs.nd rfl (by first | exact .inl rfl | exact .inr rfl) (se_call ⟨(cal "_law_plain_simple" _ rfl).at_⟩ xs rfl rfl (sa_cons (se_v rfl (by first | exact .inl rfl | exact .inr (.inl rfl) | exact .inr (.inr rfl))) (sa_cons (se_v rfl (by first | exact .inl rfl | exact .inr (.inl rfl) | exact .inr (.inr rfl))) (sa_cons (se_v rfl (by first | exact .inl rfl | exact .inr (.inl rfl) | exact .inr (.inr rfl))) (sa_cons se_int sa_nil)))) rfl))
  (ss_cons xs (s_as xs.nd rfl (by first | exact .inl rfl | exact .inr rfl) (se_call ⟨(cal "cut" _ rfl).at_⟩ xs rfl rfl (sa_cons (se_v rfl (by first | exact .inl rfl | exact .inr (.inl rfl) | exact .inr (.inr rfl))) (sa_cons (se_v rfl (by first | exact .inl rfl | exact .inr (.inl rfl) | exact .inr (.inr rfl))) sa_nil)) rfl))
  (ss_cons xs (s_as xs.nd rfl (by first | exact .inl rfl | exact .inr rfl) (se_call ⟨(cal "rest" _ rfl).at_⟩ xs rfl rfl (sa_cons (se_v rfl (by first | exact .inl rfl | exact .inr (.inl rfl) | exact .inr (.inr rfl))) (sa_cons (se_v rfl (by first | exact .inl rfl | exact .inr (.inl rfl) | exact .inr (.inr rfl))) (sa_cons (se_v rfl (by first | exact .inl rfl | exact .inr (.inl rfl) | exact .inr (.inr rfl))) (sa_cons (se_v rfl (by first | exact .inl rfl | exact .inr (.inl rfl) | exact .inr (.inr rfl))) sa_nil)))) rfl))
  (ss_cons xs (s_as xs.nd rfl (by first | exact .inl rfl | exact .inr rfl) (SN (sn_lst (sa_cons (se_call ⟨(cal "_law_twice" _ rfl).at_⟩ xs rfl rfl (sa_cons (se_v rfl (by first | exact .inl rfl | exact .inr (.inl rfl) | exact .inr (.inr rfl))) (sa_cons (se_v rfl (by first | exact .inl rfl | exact .inr (.inl rfl) | exact .inr (.inr rfl))) (sa_cons (se_v rfl (by first | exact .inl rfl | exact .inr (.inl rfl) | exact .inr (.inr rfl))) sa_nil))) rfl) (sa_cons (se_call ⟨(cal "_law_twice" _ rfl).at_⟩ xs rfl rfl (sa_cons (se_v rfl (by first | exact .inl rfl | exact .inr (.inl rfl) | exact .inr (.inr rfl))) (sa_cons (se_v rfl (by first | exact .inl rfl | exact .inr (.inl rfl) | exact .inr (.inr rfl))) (sa_cons (se_v rfl (by first | exact .inl rfl | exact .inr (.inl rfl) | exact .inr (.inr rfl))) sa_nil))) rfl) sa_nil)))))
  (ss_cons xs (s_if xs (st_not (st_e (SV (se_call ⟨(cal "_law_forms" _ rfl).at_⟩ xs rfl rfl (sa_cons (se_v rfl (by first | exact .inl rfl | exact .inr (.inl rfl) | exact .inr (.inr rfl))) (sa_cons (se_v rfl (by first | exact .inl rfl | exact .inr (.inl rfl) | exact .inr (.inr rfl))) (sa_cons (se_v rfl (by first | exact .inl rfl | exact .inr (.inl rfl) | exact .inr (.inr rfl))) (sa_cons (se_v rfl (by first | exact .inl rfl | exact .inr (.inl rfl) | exact .inr (.inr rfl))) (sa_cons (se_v rfl (by first | exact .inl rfl | exact .inr (.inl rfl) | exact .inr (.inr rfl))) (sa_cons (se_v rfl (by first | exact .inl rfl | exact .inr (.inl rfl) | exact .inr (.inr rfl))) sa_nil)))))) rfl)))) (ss_one (s_ret se_bl)) ss_nil)
  (ss_cons xs (s_if xs (st_cmp (opC_ne xs.u64) (SV (SN (sn_comp0 (own := [("part", 13)]) xs (si_e (se_v rfl (by first | exact .inl rfl | exact .inr (.inl rfl) | exact .inr (.inr rfl)))) (blkOk_by (by kernel_rfl)) (fun _ _ _ _ _ => (pg_name xs.blk.nd rfl (by first | exact .inl rfl | exact .inr rfl))) gok_name (by decide) (fun _ _ _ _ _ => (se_notN (SV (se_v rfl (by first | exact .inl rfl | exact .inr (.inl rfl) | exact .inr (.inr rfl))))))))) (SV (se_op opD_mul (SV (SN (sn_lst (sa_cons (se_call ⟨(cal "_law_due_twice" _ rfl).at_⟩ xs rfl rfl (sa_cons (se_v rfl (by first | exact .inl rfl | exact .inr (.inl rfl) | exact .inr (.inr rfl))) (sa_cons (se_v rfl (by first | exact .inl rfl | exact .inr (.inl rfl) | exact .inr (.inr rfl))) (sa_cons (se_v rfl (by first | exact .inl rfl | exact .inr (.inl rfl) | exact .inr (.inr rfl))) sa_nil))) rfl) sa_nil)))) (SV se_int))) rfl) (ss_one (s_ret se_bl)) ss_nil)
  (ss_one (s_for xs (si_range1 rfl g.f_range se_int) (pg_name xs.nd rfl (by first | exact .inl rfl | exact .inr rfl)) gok_name (ss_cons xs (s_as xs.nd rfl (by first | exact .inl rfl | exact .inr rfl) (se_call ⟨(cal "_law_within" _ rfl).at_⟩ xs rfl rfl (sa_cons (se_v rfl (by first | exact .inl rfl | exact .inr (.inl rfl) | exact .inr (.inr rfl))) (sa_cons (se_v rfl (by first | exact .inl rfl | exact .inr (.inl rfl) | exact .inr (.inr rfl))) (sa_cons (se_v rfl (by first | exact .inl rfl | exact .inr (.inl rfl) | exact .inr (.inr rfl))) (sa_cons (se_v rfl (by first | exact .inl rfl | exact .inr (.inl rfl) | exact .inr (.inr rfl))) (sa_cons (se_ix xs.u1 (SV (SN (sn_lst (sa_cons (se_tup (sa_cons se_str sa_nil)) (sa_cons (se_v rfl (by first | exact .inl rfl | exact .inr (.inl rfl) | exact .inr (.inr rfl))) (sa_cons (se_v rfl (by first | exact .inl rfl | exact .inr (.inl rfl) | exact .inr (.inr rfl))) sa_nil)))))) (se_op opD_mod (SV (se_v rfl (by first | exact .inl rfl | exact .inr (.inl rfl) | exact .inr (.inr rfl)))) (SV se_int))) sa_nil))))) rfl))
  (ss_cons xs (s_as xs.nd rfl (by first | exact .inl rfl | exact .inr rfl) (se_call ⟨(cal "_law_holds" _ rfl).at_⟩ xs rfl rfl (sa_cons (se_v rfl (by first | exact .inl rfl | exact .inr (.inl rfl) | exact .inr (.inr rfl))) (sa_cons (se_v rfl (by first | exact .inl rfl | exact .inr (.inl rfl) | exact .inr (.inr rfl))) sa_nil)) rfl))
  (ss_cons xs (s_as xs.nd rfl (by first | exact .inl rfl | exact .inr rfl) (se_call ⟨(cal "_law_holds" _ rfl).at_⟩ xs rfl rfl (sa_cons (se_v rfl (by first | exact .inl rfl | exact .inr (.inl rfl) | exact .inr (.inr rfl))) (sa_cons (se_v rfl (by first | exact .inl rfl | exact .inr (.inl rfl) | exact .inr (.inr rfl))) sa_nil)) rfl))
  (ss_cons xs (s_if xs (PW.pt (sw_or (st_not (st_e (SV (se_call ⟨(cal "_law_held" _ rfl).at_⟩ xs rfl rfl (sa_cons (SN (sn_lst (sa_cons (se_v rfl (by first | exact .inl rfl | exact .inr (.inl rfl) | exact .inr (.inr rfl))) sa_nil))) (sa_cons (se_v rfl (by first | exact .inl rfl | exact .inr (.inl rfl) | exact .inr (.inr rfl))) (sa_cons (se_bi (pe_callTy cb_int rfl g.f_int rfl (sav_cons (SV (se_v rfl (by first | exact .inl rfl | exact .inr (.inl rfl) | exact .inr (.inr rfl)))) sav_nil))) sa_nil))) rfl)))) (sw_or1 (st_not (st_e (SV (se_call ⟨(cal "_law_held" _ rfl).at_⟩ xs rfl rfl (sa_cons (SN (sn_lst (sa_cons (se_v rfl (by first | exact .inl rfl | exact .inr (.inl rfl) | exact .inr (.inr rfl))) sa_nil))) (sa_cons (se_v rfl (by first | exact .inl rfl | exact .inr (.inl rfl) | exact .inr (.inr rfl))) (sa_cons (se_bi (pe_callTy cb_int rfl g.f_int rfl (sav_cons (SV (se_and (se_v rfl (by first | exact .inl rfl | exact .inr (.inl rfl) | exact .inr (.inr rfl))) (se_one (se_v rfl (by first | exact .inl rfl | exact .inr (.inl rfl) | exact .inr (.inr rfl)))))) sav_nil))) sa_nil))) rfl))))))) (ss_one (s_ret se_bl)) ss_nil)
  (ss_cons xs (s_if xs (st_not (st_e (SV (se_call ⟨(cal "_law_held" _ rfl).at_⟩ xs rfl rfl (sa_cons (se_v rfl (by first | exact .inl rfl | exact .inr (.inl rfl) | exact .inr (.inr rfl))) (sa_cons (se_v rfl (by first | exact .inl rfl | exact .inr (.inl rfl) | exact .inr (.inr rfl))) (sa_cons (se_bi (pe_callTy cb_int rfl g.f_int rfl (sav_cons (SV (se_and (se_v rfl (by first | exact .inl rfl | exact .inr (.inl rfl) | exact .inr (.inr rfl))) (se_one (se_not (se_v rfl (by first | exact .inl rfl | exact .inr (.inl rfl) | exact .inr (.inr rfl))))))) sav_nil))) sa_nil))) rfl)))) (ss_one (s_ret se_bl)) ss_nil)
  (ss_one (s_if xs (st_not (st_e (SV (se_call ⟨(cal "_law_held" _ rfl).at_⟩ xs rfl rfl (sa_cons (se_v rfl (by first | exact .inl rfl | exact .inr (.inl rfl) | exact .inr (.inr rfl))) (sa_cons (se_v rfl (by first | exact .inl rfl | exact .inr (.inl rfl) | exact .inr (.inr rfl))) (sa_cons (se_op opD_mul (SV se_int) (SV (se_bi (pe_callTy cb_int rfl g.f_int rfl (sav_cons (SV (se_and (se_v rfl (by first | exact .inl rfl | exact .inr (.inl rfl) | exact .inr (.inr rfl))) (se_and (se_v rfl (by first | exact .inl rfl | exact .inr (.inl rfl) | exact .inr (.inr rfl))) (se_one (se_call ⟨(cal "_law_holds" _ rfl).at_⟩ xs rfl rfl (sa_cons (se_v rfl (by first | exact .inl rfl | exact .inr (.inl rfl) | exact .inr (.inr rfl))) (sa_cons (se_v rfl (by first | exact .inl rfl | exact .inr (.inl rfl) | exact .inr (.inr rfl))) sa_nil)) rfl))))) sav_nil))))) sa_nil))) rfl)))) (ss_one (s_ret se_bl)) ss_nil)))))))))))))))))))
  (ss_one (s_ret se_bl))))))
theorem dn_f_law_10 (X : K.In h) (G : h.Ns mainGlobals mg) (c : He.SaysD fa fn K) (g : Gx K mg) : Dn Pg w K mg (caK K tf) P "law" f_law_10 := by
  obtain ⟨fd, F⟩ := c.def_ 30 (d := d_f_law_10) rfl
  exact ⟨_, _, _, _, _, _, fd, ["script", "box", "types", "heights", "turn", "name", "row", "region", "one", "other", "here", "away", "twice", "part", "k", "value", "inside", "matched"], ["script"], F, He.glo_ok X G (c.fact 30 (f := .glo "law") rfl), sc_f_law_10, rfl, rfl, F.bindsN fun _ _ _ _ _ _ us hl => match us, hl with | [_], _ => rfl, fun base cdv A out s H E e n tb hc cal xs sl => dv_f_law_10 g cal xs sl⟩
theorem dns (X : K.In h) (G : h.Ns mainGlobals mg) (c : He.SaysD fa fn K) (g : Gx K mg) : ∀ f d, P f = some d → Dn Pg w K mg (caK K tf) P f d := fun f d hp => by
  have hm := lookup_mem hp
  simp only [tbl, List.mem_cons, Prod.mk.injEq, List.not_mem_nil, or_false] at hm
  rcases hm with ⟨rfl, rfl⟩ | ⟨rfl, rfl⟩ | ⟨rfl, rfl⟩ | ⟨rfl, rfl⟩ | ⟨rfl, rfl⟩ | ⟨rfl, rfl⟩ | ⟨rfl, rfl⟩ | ⟨rfl, rfl⟩ | ⟨rfl, rfl⟩ | ⟨rfl, rfl⟩ | ⟨rfl, rfl⟩ | ⟨rfl, rfl⟩ | ⟨rfl, rfl⟩ | ⟨rfl, rfl⟩ | ⟨rfl, rfl⟩ | ⟨rfl, rfl⟩ | ⟨rfl, rfl⟩ | ⟨rfl, rfl⟩ | ⟨rfl, rfl⟩ | ⟨rfl, rfl⟩ | ⟨rfl, rfl⟩ | ⟨rfl, rfl⟩ | ⟨rfl, rfl⟩ | ⟨rfl, rfl⟩ | ⟨rfl, rfl⟩ | ⟨rfl, rfl⟩ | ⟨rfl, rfl⟩ | ⟨rfl, rfl⟩ | ⟨rfl, rfl⟩ | ⟨rfl, rfl⟩ | ⟨rfl, rfl⟩
  · exact dn_f_constructors X G c g
  · exact dn_f_fields_of X G c g
  · exact dn_f_cut X G c g
  · exact dn_f_cut_all X G c g
  · exact dn_f_rest_of_range X G c g
  · exact dn_f_left_out X G c g
  · exact dn_f_rest X G c g
  · exact dn_f_rest_all X G c g
  · exact dn_f_holds X G c g
  · exact dn_f_law_cell X G c g
  · exact dn_f_law_same X G c g
  · exact dn_f_law_digits X G c g
  · exact dn_f_law_draw X G c g
  · exact dn_f_law_types X G c g
  · exact dn_f_law_makers X G c g
  · exact dn_f_law_heights X G c g
  · exact dn_f_law_least X G c g
  · exact dn_f_law_value X G c g
  · exact dn_f_law_region X G c g
  · exact dn_f_law_holds X G c g
  · exact dn_f_law_plain_simple X G c g
  · exact dn_f_law_cut_2 X G c g
  · exact dn_f_law_cuts X G c g
  · exact dn_f_law_ends X G c g
  · exact dn_f_law_covered X G c g
  · exact dn_f_law_within X G c g
  · exact dn_f_law_twice X G c g
  · exact dn_f_law_due_twice X G c g
  · exact dn_f_law_forms X G c g
  · exact dn_f_law_held X G c g
  · exact dn_f_law_10 X G c g
end
abbrev R : PySem.W.OpenRow := PySem.W.OpenLaw.row PySem.Challenge.rw_matchgraph_k09_cuts_twice
abbrev hk : PySem.W.Hook := He.hookX 4 fa fn [] tf (fun K => gcs K cs)
def ob (s : PySem.W.SharedT) : He.AlX := He.obsX 4 fa fn [] tf (fun K => gcs K cs) (HandSHeadRun.getT s)
theorem ob_eq (s : PySem.W.SharedT) : ob s = hk.obs s.abs := He.obsX_eq (HandSHeadRun.getT_eq s)
def loose : List Str := ["ANY", "INTEGER_MOST", "_law_cell", "_law_covered", "_law_cut", "_law_cuts", "_law_digits", "_law_draw", "_law_due_twice", "_law_ends", "_law_forms", "_law_heights", "_law_held", "_law_holds", "_law_least", "_law_makers", "_law_plain_simple", "_law_region", "_law_same", "_law_twice", "_law_types", "_law_value", "_law_within", "constructors", "cut", "cut_all", "fields_of", "holds", "left_out", "rest", "rest_all", "rest_of_range"]
theorem run (w : World) : HandSHeadRun.RunEq R (PySem.W.view R.prog [35]) hk ob 20000 loose w := by
  intro os
  kernel_rfl
end K09
end

section
set_option maxHeartbeats 0
set_option Elab.async false
set_option linter.all false
set_option maxRecDepth 100000
set_option maxHeartbeats 0
open PySem PySem.W PySem.Calls PyProof.Rows
theorem PySem.Challenge.cw_matchgraph_k09_cuts_twice_holds : PySem.Challenge.rw_matchgraph_k09_cuts_twice.Holds := by
  w_on; o_law
  refine HandSHeadRun.head_any (r := OpenLaw.row PySem.Challenge.rw_matchgraph_k09_cuts_twice) (q := view (OpenLaw.row PySem.Challenge.rw_matchgraph_k09_cuts_twice).prog [35]) (H := K09.hk) (ob := K09.ob) (M := 20000) (loose := K09.loose) (d := HandSHeadRun.topDef (OpenLaw.row PySem.Challenge.rw_matchgraph_k09_cuts_twice).prog 35) (kwd := []) K09.ob_eq
    (by kernel_rfl) (fun s => by kernel_rfl) K09.run (by kernel_rfl) (by kernel_rfl) (by kernel_rfl) (by rfl) (by first | assumption | decide +kernel) (by decide +kernel) ⟨rfl, rfl, rfl, rfl, rfl, by decide +kernel⟩ ?hw ?hc
  case hw => w_witness2
  case hc =>
    refine EvS.walk_ev (l := PySem.Challenge.rw_matchgraph_k09_cuts_twice) (n := 63) (k := 200) (P := K09.P) (dl := K09.f_law_10) rfl (by decide) (by kernel_rfl) ⟨rfl, by decide, by decide⟩ (by kernel_rfl) rfl rfl ?F K09.plain
    intro w mg h Y G
    obtain ⟨K, KX, c⟩ := Y
    have cd : He.SaysD K09.fa K09.fn K := congrArg (fun z : He.AlT => z.1) c.t
    exact ⟨K, EvS.caK K K09.tf, KX, EvS.caK_all c.empty, EvS.caK_all c.out, EvS.caK_all fun p hp => PySem.W.codeHd_of_K KX (c.hd p hp), K09.dns KX G cd (K09.gx KX G cd c.more)⟩
end

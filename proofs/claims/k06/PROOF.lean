import PyProof.Rows.All
import Wide.All
import OpenK.AllK
import Wide.FinOn
import HandS.ForMost
import HandS.Exc
import HandS.Deep
import HandS.TupAny
import HandS.Walk
import HandS.IsInst
import HandS.NoneIn
import HandS.More
import HandS.AnyAll
import HandS.CallSlots
import HandS.ExcOwn
import HandS.Ends
import HandS.HeadEnd
import HandS.Flow
import HandS.RaiseMore
import HandS.WordsDict
import HandS.Zip
import KE.GoesEnum
import HandS.GenList
import HandS.EndTab
import HandS.HeadHook2
import HandS.EndBits
import HandS.HeadHook4
import HandS.Head2
import KE.SortData
import HandS.Text
import HandS.FStr
import HandS.Dict
import PySem.Challenge.RW_matchgraph_k06_least_in_regions
section
set_option maxHeartbeats 0
/-! EvCore: a small evaluator for the functional part of Python, in core Lean: data, cells, combinators. -/
set_option linter.all false
namespace Ev
/-- the longest list or text (2^24) -/
def SL : Nat := 16777216

/-- plain data -/
inductive D where
  | non | bl (b : Bool) | int (i : Int) | str (s : String) | tup (ds : List D) | lst (ds : List D)
deriving Inhabited

/-- a key of a dict -/
inductive Ky where
  | i (n : Int) | s (x : String)
deriving DecidableEq, Inhabited
/-- what an expression gives: plain data, a mutable cell, a dict that stays as it is, an instance that stays as it is, a list of such -/
inductive R where
  | d (x : D) | p (n : Nat) | dic (kvs : List (Ky × R)) | ins (c : String) (fs : List (String × R)) | ls (rs : List R) | scr (ns : List Int) | rep (x : D)
deriving Inhabited

inductive Cell where
  | lst (ds : List D) | dic (kvs : List (Ky × R)) | ins (c : String) (fs : List (String × R)) | dead
abbrev Mem := List Cell

/-- a slot of a frame: nothing yet; a value; a list or dict of the frame's own (nobody else has it) -/
inductive Sl where
  | un | v (r : R) | own (rs : List R) | odic (kvs : List (Ky × R))
abbrev Env := List Sl

structure Exn where
  cls : String
  fs : List (String × R)

inductive Out (α : Type) where
  | ok (a : α) (μ : Mem) | exn (x : Exn) (μ : Mem) | no

@[inline] def Out.bind {α β : Type} (o : Out α) (f : α → Mem → Out β) : Out β :=
  match o with
  | .ok a μ => f a μ
  | .exn x μ => .exn x μ
  | .no => .no
@[simp] theorem bind_ok {α β : Type} (a : α) (μ : Mem) (f : α → Mem → Out β) : (Out.ok a μ).bind f = f a μ := rfl
@[simp] theorem bind_exn {α β : Type} (x : Exn) (μ : Mem) (f : α → Mem → Out β) : (Out.exn x μ : Out α).bind f = .exn x μ := rfl
@[simp] theorem bind_no {α β : Type} (f : α → Mem → Out β) : (Out.no : Out α).bind f = .no := rfl
theorem bind_assoc {α β γ : Type} (o : Out α) (f : α → Mem → Out β) (g : β → Mem → Out γ) : (o.bind f).bind g = o.bind fun a μ => (f a μ).bind g := by cases o <;> rfl
theorem bind_eq_ok {α β : Type} {o : Out α} {f : α → Mem → Out β} {b : β} {μ : Mem} (h : o.bind f = .ok b μ) : ∃ a μ1, o = .ok a μ1 ∧ f a μ1 = .ok b μ := by
  cases o with
  | ok a μ1 => exact ⟨a, μ1, rfl, h⟩
  | exn x μ1 => cases h
  | no => cases h

/-! ### data -/
mutual
def D.eqv : D → D → Bool
  | .non, .non => true
  | .bl a, .bl b => a == b
  | .bl a, .int j => (if a then 1 else 0) == j
  | .int i, .bl b => i == (if b then 1 else 0)
  | .int i, .int j => i == j
  | .str x, .str y => x == y
  | .lst xs, .lst ys => D.eqvL xs ys
  | .tup xs, .tup ys => D.eqvL xs ys
  | .non, .bl _ | .non, .int _ | .non, .str _ | .non, .lst _ | .non, .tup _ => false
  | .bl _, .non | .bl _, .str _ | .bl _, .lst _ | .bl _, .tup _ => false
  | .int _, .non | .int _, .str _ | .int _, .lst _ | .int _, .tup _ => false
  | .str _, .non | .str _, .bl _ | .str _, .int _ | .str _, .lst _ | .str _, .tup _ => false
  | .lst _, .non | .lst _, .bl _ | .lst _, .int _ | .lst _, .str _ | .lst _, .tup _ => false
  | .tup _, .non | .tup _, .bl _ | .tup _, .int _ | .tup _, .str _ | .tup _, .lst _ => false
def D.eqvL : List D → List D → Bool
  | [], [] => true
  | x :: xs, y :: ys => D.eqv x y && D.eqvL xs ys
  | [], _ :: _ => false
  | _ :: _, [] => false
end
mutual
def D.dep : D → Nat
  | .tup xs => D.depL xs + 1
  | .lst xs => D.depL xs + 1
  | .non | .bl _ | .int _ | .str _ => 0
def D.depL : List D → Nat
  | [] => 0
  | x :: xs => max (D.dep x) (D.depL xs)
end
mutual
/-- as built: the same -/
def D.same : D → D → Bool
  | .non, .non => true
  | .bl a, .bl b => a == b
  | .int i, .int j => i == j
  | .str x, .str y => x == y
  | .lst xs, .lst ys => D.sameL xs ys
  | .tup xs, .tup ys => D.sameL xs ys
  | _, _ => false
def D.sameL : List D → List D → Bool
  | [], [] => true
  | x :: xs, y :: ys => D.same x y && D.sameL xs ys
  | _, _ => false
end
mutual
theorem D.eq_of_same : ∀ {x y : D}, D.same x y = true → x = y
  | .non, y, h => by cases y <;> simp [D.same] at h ⊢
  | .bl _, y, h => by cases y <;> simp [D.same] at h ⊢; exact h
  | .int _, y, h => by cases y <;> simp [D.same] at h ⊢; exact h
  | .str _, y, h => by cases y <;> simp [D.same] at h ⊢; exact h
  | .tup xs, y, h => by cases y <;> simp [D.same] at h ⊢; exact D.eqL_of_same h
  | .lst xs, y, h => by cases y <;> simp [D.same] at h ⊢; exact D.eqL_of_same h
theorem D.eqL_of_same : ∀ {xs ys : List D}, D.sameL xs ys = true → xs = ys
  | [], [], _ => rfl
  | [], _ :: _, h => by simp [D.sameL] at h
  | _ :: _, [], h => by simp [D.sameL] at h
  | x :: xs, y :: ys, h => by
    simp only [D.sameL, Bool.and_eq_true] at h
    rw [D.eq_of_same h.1, D.eqL_of_same h.2]
end
mutual
theorem D.same_self : ∀ x : D, D.same x x = true
  | .non => by simp [D.same]
  | .bl _ => by simp [D.same]
  | .int _ => by simp [D.same]
  | .str _ => by simp [D.same]
  | .tup xs => by simp only [D.same]; exact D.sameL_self xs
  | .lst xs => by simp only [D.same]; exact D.sameL_self xs
theorem D.sameL_self : ∀ xs : List D, D.sameL xs xs = true
  | [] => by simp [D.sameL]
  | x :: xs => by simp [D.sameL, D.same_self x, D.sameL_self xs]
end
mutual
/-- what repr writes is at most so long -/
def D.cost : D → Nat
  | .non => 4
  | .bl _ => 5
  | .int i => if i.natAbs < 1000000000000 then 13 else SL + 1
  | .str s => 10 * s.length + 2
  | .tup ds => D.costL ds + 3
  | .lst ds => D.costL ds + 3
def D.costL : List D → Nat
  | [] => 0
  | d :: ds => D.cost d + 2 + D.costL ds
end
/-- the most that two data may be deep when they are compared -/
def EqDep : Nat := 64
def eqD (x y : D) : Option Bool := if min x.dep y.dep ≤ EqDep then some (x.eqv y) else none

def valR : R → Option D
  | .d x => some x
  | _ => none
def valsR : List R → Option (List D)
  | [] => some []
  | .d x :: rs => (valsR rs).map (x :: ·)
  | _ :: _ => none
@[simp] theorem valsR_nil : valsR [] = some [] := rfl
@[simp] theorem valsR_cons (x : D) (rs : List R) : valsR (.d x :: rs) = (valsR rs).map (x :: ·) := rfl
@[simp] theorem valsR_map {α : Type} (f : α → D) : ∀ xs : List α, valsR (xs.map fun x => R.d (f x)) = some (xs.map f)
  | [] => rfl
  | x :: xs => by simp [valsR_map f xs]
/-- a list of values as a value -/
def mkL (rs : List R) : R := match valsR rs with
  | some ds => .d (.lst ds)
  | none => .ls rs
/-- a value as it may be read now -/
def vw (μ : Mem) : R → R
  | .p n => match μ[n]? with
    | some (.lst ds) => .d (.lst ds)
    | some (.dic kvs) => .dic kvs
    | _ => .p n
  | r => r
theorem vw_lst {μ : Mem} {n : Nat} {ds : List D} (h : μ[n]? = some (.lst ds)) : vw μ (.p n) = .d (.lst ds) := by simp only [vw, h]
theorem vw_cdic {μ : Mem} {n : Nat} {ds} (h : μ[n]? = some (.dic ds)) : vw μ (.p n) = .dic ds := by simp only [vw, h]
theorem vw_cins {μ : Mem} {n : Nat} {c fs} (h : μ[n]? = some (.ins c fs)) : vw μ (.p n) = .p n := by simp only [vw, h]
theorem vw_dead {μ : Mem} {n : Nat} (h : μ[n]? = some .dead) : vw μ (.p n) = .p n := by simp only [vw, h]
theorem vw_none {μ : Mem} {n : Nat} (h : μ[n]? = none) : vw μ (.p n) = .p n := by simp only [vw, h]
@[simp] theorem vw_ins (μ : Mem) (c fs) : vw μ (.ins c fs) = .ins c fs := rfl
@[simp] theorem vw_d (μ : Mem) (x : D) : vw μ (.d x) = .d x := rfl
@[simp] theorem vw_dic (μ : Mem) (x) : vw μ (.dic x) = .dic x := rfl
@[simp] theorem vw_rep (μ : Mem) (x) : vw μ (.rep x) = .rep x := rfl
@[simp] theorem vw_scr (μ : Mem) (x) : vw μ (.scr x) = .scr x := rfl
@[simp] theorem vw_ls (μ : Mem) (x) : vw μ (.ls x) = .ls x := rfl

def keyOf : D → Option Ky
  | .int i => some (.i i)
  | .str x => some (.s x)
  | _ => none
def valK (kvs : List (Ky × R)) (k : Ky) : Option R := (kvs.find? fun kv => decide (kv.1 = k)).map (·.2)
def putK (kvs : List (Ky × R)) (k : Ky) (v : R) : List (Ky × R) :=
  if kvs.any (fun kv => decide (kv.1 = k)) then kvs.map fun kv => if kv.1 = k then (kv.1, v) else kv else kvs ++ [(k, v)]
def lift {α : Type} (o : Option α) (μ : Mem) : Out α := match o with
  | some a => .ok a μ
  | none => .no
@[simp] theorem lift_some {α : Type} (a : α) (μ : Mem) : lift (some a) μ = .ok a μ := rfl
@[simp] theorem lift_none {α : Type} (μ : Mem) : lift (none : Option α) μ = .no := rfl

/-! ### operators on values -/
def small (i : Int) : Bool := decide (-18446744073709551616 < i) && decide (i < 18446744073709551616)
def addR : R → R → Option R
  | .d (.int a), .d (.int b) => some (.d (.int (a + b)))
  | .d (.str a), .d (.str b) => if a.length + b.length ≤ SL then some (.d (.str (a ++ b))) else none
  | .d (.lst a), .d (.lst b) => if a.length + b.length ≤ SL then some (.d (.lst (a ++ b))) else none
  | .d (.tup a), .d (.tup b) => if a.length + b.length ≤ SL then some (.d (.tup (a ++ b))) else none
  | _, _ => none
/-- two lists, a new one -/
def addL : R → R → Option R
  | .d (.lst a), .d (.lst b) => if a.length + b.length ≤ SL then some (.d (.lst (a ++ b))) else none
  | _, _ => none
def subR : R → R → Option R
  | .d (.int a), .d (.int b) => some (.d (.int (a - b)))
  | _, _ => none
def mulR : R → R → Option R
  | .d (.int a), .d (.int b) => if small a || small b then some (.d (.int (a * b))) else none
  | .d (.lst a), .d (.int k) => if small k && decide (-9223372036854775808 ≤ k) && decide (k < 9223372036854775808) && decide (a.length * k.toNat ≤ SL) then some (.d (.lst (List.replicate k.toNat a).flatten)) else none
  | _, _ => none
def modR : R → R → Option R
  | .d (.int a), .d (.int b) => if 0 < b then some (.d (.int (a % b))) else none
  | _, _ => none
def fdivR : R → R → Option R
  | .d (.int a), .d (.int b) => if 0 < b ∧ b < 1073741824 then some (.d (.int (a / b))) else none
  | _, _ => none
def powR : R → R → Option R
  | .d (.int a), .d (.int b) => if 0 ≤ b ∧ b ≤ 1000000 ∧ small a then some (.d (.int (a ^ b.toNat))) else none
  | _, _ => none
def cmpR (f : Int → Int → Bool) : R → R → Option Bool
  | .d (.int a), .d (.int b) => some (f a b)
  | _, _ => none
def ltR := cmpR fun a b => decide (a < b)
def leR := cmpR fun a b => decide (a ≤ b)
def gtR := cmpR fun a b => decide (b < a)
def geR := cmpR fun a b => decide (b ≤ a)
def eqR : R → R → Option Bool
  | .d x, .d y => eqD x y
  | .rep x, .rep y => if x.same y then some true else none
  | _, _ => none
def neR (x y : R) : Option Bool := (eqR x y).map not
/-- x is True, x is False -/
def isR : R → R → Option Bool
  | .d (.bl a), .d (.bl b) => some (a == b)
  | _, _ => none
def isNonR : R → Bool
  | .d .non => true
  | _ => false
/-- x in y: a list, a tuple -/
def inR : R → R → Option Bool
  | .d x, .d (.lst ys) => if min x.dep (D.depL ys) ≤ EqDep then some (ys.any fun y => y.eqv x) else none
  | .d x, .d (.tup ys) => if min x.dep (D.depL ys) ≤ EqDep then some (ys.any fun y => y.eqv x) else none
  | .d x, .dic kvs => (keyOf x).map fun k => (valK kvs k).isSome
  | _, _ => none
def ninR (x y : R) : Option Bool := (inR x y).map not
def truthR : R → Option Bool
  | .d .non => some false
  | .d (.bl b) => some b
  | .d (.int i) => some (i != 0)
  | .d (.str s) => if s.length ≤ SL then some ((s.length : Int) != 0) else none
  | .d (.tup ds) => some (!ds.isEmpty)
  | .d (.lst ds) => some (!ds.isEmpty)
  | .dic kvs => some (!kvs.isEmpty)
  | .ls rs => some (!rs.isEmpty)
  | .scr ns => some (!ns.isEmpty)
  | _ => none
/-- the place i of n, from the end where it is below nought -/
def ixN (n : Nat) (i : Int) : Option Nat := if 0 ≤ i then (if i < n then some i.toNat else none) else if -(n : Int) ≤ i then some (i + n).toNat else none
def atI {α : Type} (xs : List α) (i : Int) : Option α := (ixN xs.length i).bind fun j => xs[j]?
def idxR : R → R → Option R
  | .d (.tup ds), .d (.int i) => (atI ds i).map .d
  | .d (.lst ds), .d (.int i) => (atI ds i).map .d
  | .ls rs, .d (.int i) => atI rs i
  | .scr ns, .d (.int i) => (atI ns i).map fun n => .d (.int n)
  | .dic kvs, .d x => (keyOf x).bind (valK kvs)
  | .d (.str s), .d (.int i) => if s.length ≤ SL then (atI s.toList i).map fun c => .d (.str (String.ofList [c])) else none
  | _, _ => none
def sIx (n d : Nat) : Option Int → Nat
  | none => d
  | some k => if k < 0 then (k + n).toNat else min k.toNat n
def cut {α : Type} (xs : List α) (lo hi : Option Int) : List α := (xs.drop (sIx xs.length 0 lo)).take (sIx xs.length xs.length hi - sIx xs.length 0 lo)
def slcR (r : R) (lo hi : Option Int) : Option R := match r with
  | .d (.tup ds) => some (.d (.tup (cut ds lo hi)))
  | .d (.lst ds) => some (.d (.lst (cut ds lo hi)))
  | _ => none

/-! ### combinators: expressions -/
abbrev E := Env → Mem → Out R
abbrev T := Env → Mem → Out Bool
abbrev Fn := String → List R → Mem → Out R

@[irreducible] def eV (i : Nat) (ρ : Env) (μ : Mem) : Out R := match ρ[i]? with
  | some (.v r) => .ok r μ
  | _ => .no
/-- a list or dict of one's own, as it stands -/
@[irreducible] def eB (i : Nat) (ρ : Env) (μ : Mem) : Out R := match ρ[i]? with
  | some (.own rs) => .ok (mkL rs) μ
  | some (.odic kvs) => .ok (.dic kvs) μ
  | _ => .no
@[irreducible] def eC (x : D) (_ : Env) (μ : Mem) : Out R := .ok (.d x) μ
def evs : List E → Env → Mem → Out (List R)
  | [], _, μ => .ok [] μ
  | e :: es, ρ, μ => (e ρ μ).bind fun r μ => (evs es ρ μ).bind fun rs μ => .ok (r :: rs) μ
@[simp] theorem evs_nil (ρ : Env) (μ : Mem) : evs [] ρ μ = .ok [] μ := rfl
@[simp] theorem evs_cons (e : E) (es : List E) (ρ : Env) (μ : Mem) : evs (e :: es) ρ μ = (e ρ μ).bind fun r μ => (evs es ρ μ).bind fun rs μ => .ok (r :: rs) μ := rfl
theorem evs_len : ∀ {es : List E} {ρ : Env} {μ : Mem} {rs : List R} {μ' : Mem}, evs es ρ μ = .ok rs μ' → rs.length = es.length
  | [], _, _, _, _, h => by cases h; rfl
  | e :: es, ρ, μ, rs, μ', h => by
    rw [evs_cons] at h
    obtain ⟨r, μ1, h1, h2⟩ := bind_eq_ok h
    obtain ⟨rs', μ2, h3, h4⟩ := bind_eq_ok h2
    cases h4
    rw [List.length_cons, List.length_cons, evs_len h3]
@[irreducible] def eTup (es : List E) (ρ : Env) (μ : Mem) : Out R := (evs es ρ μ).bind fun rs μ => match valsR rs with
  | some ds => if ds.length ≤ SL then .ok (.d (.tup ds)) μ else .no
  | none => .no
@[irreducible] def eLst (es : List E) (ρ : Env) (μ : Mem) : Out R := (evs es ρ μ).bind fun rs μ => match valsR rs with
  | some ds => if ds.length ≤ SL then .ok (.d (.lst ds)) μ else .no
  | none => .no
@[irreducible] def eOp (f : R → R → Option R) (a b : E) (ρ : Env) (μ : Mem) : Out R := (a ρ μ).bind fun x μ => (b ρ μ).bind fun y μ => lift (f (vw μ x) (vw μ y)) μ
@[irreducible] def eNeg (a : E) (ρ : Env) (μ : Mem) : Out R := (a ρ μ).bind fun x μ => match x with
  | .d (.int i) => .ok (.d (.int (-i))) μ
  | _ => .no
/-- a comparison as a test -/
@[irreducible] def tCmp (f : R → R → Option Bool) (a b : E) (ρ : Env) (μ : Mem) : Out Bool := (a ρ μ).bind fun x μ => (b ρ μ).bind fun y μ => lift (f (vw μ x) (vw μ y)) μ
@[irreducible] def tCh (f g : R → R → Option Bool) (a b c : E) (ρ : Env) (μ : Mem) : Out Bool := (a ρ μ).bind fun x μ => (b ρ μ).bind fun y μ => (lift (f (vw μ x) (vw μ y)) μ).bind fun k μ =>
  if k then (c ρ μ).bind fun z μ => lift (g (vw μ y) (vw μ z)) μ else .ok false μ
@[irreducible] def tIsN (a : E) (ρ : Env) (μ : Mem) : Out Bool := (a ρ μ).bind fun x μ => .ok (isNonR x) μ
@[irreducible] def tNotN (a : E) (ρ : Env) (μ : Mem) : Out Bool := (a ρ μ).bind fun x μ => .ok (!isNonR x) μ
/-- a test as a value -/
@[irreducible] def eT (t : T) (ρ : Env) (μ : Mem) : Out R := (t ρ μ).bind fun b μ => .ok (.d (.bl b)) μ
/-- a value as a test -/
@[irreducible] def tE (e : E) (ρ : Env) (μ : Mem) : Out Bool := (e ρ μ).bind fun x μ => lift (truthR (vw μ x)) μ
@[irreducible] def tAnd (a b : T) (ρ : Env) (μ : Mem) : Out Bool := (a ρ μ).bind fun k μ => if k then b ρ μ else .ok false μ
@[irreducible] def tOr (a b : T) (ρ : Env) (μ : Mem) : Out Bool := (a ρ μ).bind fun k μ => if k then .ok true μ else b ρ μ
@[irreducible] def tNot (a : T) (ρ : Env) (μ : Mem) : Out Bool := (a ρ μ).bind fun k μ => .ok (!k) μ
/-- and, or as values -/
@[irreducible] def eAnd (a b : E) (ρ : Env) (μ : Mem) : Out R := (a ρ μ).bind fun x μ => match truthR (vw μ x) with
  | some true => b ρ μ
  | some false => .ok x μ
  | none => .no
@[irreducible] def eOr (a b : E) (ρ : Env) (μ : Mem) : Out R := (a ρ μ).bind fun x μ => match truthR (vw μ x) with
  | some false => b ρ μ
  | some true => .ok x μ
  | none => .no
@[irreducible] def eNot (a : E) (ρ : Env) (μ : Mem) : Out R := (a ρ μ).bind fun x μ => (lift (truthR (vw μ x)) μ).bind fun b μ => .ok (.d (.bl (!b))) μ
@[irreducible] def eIf (c : T) (a b : E) (ρ : Env) (μ : Mem) : Out R := (c ρ μ).bind fun k μ => if k then a ρ μ else b ρ μ
/-- an end of a slice -/
abbrev O := Env → Mem → Out (Option Int)
@[irreducible] def oN (_ : Env) (μ : Mem) : Out (Option Int) := .ok none μ
@[irreducible] def oE (e : E) (ρ : Env) (μ : Mem) : Out (Option Int) := (e ρ μ).bind fun x μ => match x with
  | .d (.int i) => .ok (some i) μ
  | _ => .no
@[irreducible] def eSlc (a : E) (lo hi : O) (ρ : Env) (μ : Mem) : Out R := (a ρ μ).bind fun x μ => (lo ρ μ).bind fun l μ => (hi ρ μ).bind fun h μ => lift (slcR (vw μ x) l h) μ
@[irreducible] def eIdx (a i : E) (ρ : Env) (μ : Mem) : Out R := eOp idxR a i ρ μ
/-- a def of the module -/
@[irreducible] def eCall (C : Fn) (f : String) (es : List E) (ρ : Env) (μ : Mem) : Out R := (evs es ρ μ).bind fun rs μ => C f rs μ
/-- a built-in by values -/
@[irreducible] def eBi (f : List R → Option R) (es : List E) (ρ : Env) (μ : Mem) : Out R := (evs es ρ μ).bind fun rs μ => lift (f (rs.map (vw μ))) μ

/-- a dict display: at most 15 written items -/
def pairsR : List R → Option (List (Ky × R))
  | [] => some []
  | .d k :: v :: rs => (keyOf k).bind fun k => (pairsR rs).map fun l => (k, v) :: l
  | _ => none
def mergeK (kvs more : List (Ky × R)) : List (Ky × R) := more.foldl (fun acc kv => putK acc kv.1 kv.2) kvs
/-- {k: v, ..}: the keys and values in turn -/
@[irreducible] def eDic (es : List E) (ρ : Env) (μ : Mem) : Out R := (evs es ρ μ).bind fun rs μ => match pairsR rs with
  | some kvs => if kvs.length ≤ 15 then .ok (.dic (mergeK [] kvs)) μ else .no
  | none => .no
/-- d.get(k), d.get(k, x) -/
def getR (kvs : List (Ky × R)) (y z : R) : Option R := match y with
  | .d y => (keyOf y).map fun k => (valK kvs k).getD z
  | _ => none
@[irreducible] def eGet1 (a k : E) (ρ : Env) (μ : Mem) : Out R := (a ρ μ).bind fun x μ => match x with
  | .dic kvs => (k ρ μ).bind fun y μ => lift (getR kvs y (.d .non)) μ
  | _ => .no
@[irreducible] def eGet2 (a k z : E) (ρ : Env) (μ : Mem) : Out R := (a ρ μ).bind fun x μ => match x with
  | .dic kvs => (k ρ μ).bind fun y μ => (z ρ μ).bind fun z μ => lift (getR kvs y z) μ
  | _ => .no

/-! ### built-ins -/
def lenR : List R → Option R
  | [.d (.tup ds)] => some (.d (.int ds.length))
  | [.d (.lst ds)] => some (.d (.int ds.length))
  | [.ls rs] => some (.d (.int rs.length))
  | [.scr ns] => some (.d (.int ns.length))
  | [.dic kvs] => some (.d (.int kvs.length))
  | [.d (.str s)] => if s.length ≤ SL then some (.d (.int s.length)) else none
  | _ => none
def intR : List R → Option R
  | [.d (.int i)] => some (.d (.int i))
  | [.d (.bl b)] => some (.d (.int (if b then 1 else 0)))
  | _ => none
def boolR : List R → Option R
  | [.d (.int i)] => some (.d (.bl (i != 0)))
  | [.d (.bl b)] => some (.d (.bl b))
  | _ => none
def tupleR : List R → Option R
  | [.d (.tup ds)] => some (.d (.tup ds))
  | [.d (.lst ds)] => some (.d (.tup ds))
  | _ => none
def listR : List R → Option R
  | [.d (.tup ds)] => some (.d (.lst ds))
  | [.d (.lst ds)] => some (.d (.lst ds))
  | _ => none
def dictR : List R → Option R
  | [.dic kvs] => some (.dic kvs)
  | _ => none
def intsD : List D → Option (List Int)
  | [] => some []
  | .int i :: ds => (intsD ds).map (i :: ·)
  | _ :: _ => none
def maxI (x : Int) : List Int → Int
  | [] => x
  | y :: ys => maxI (if y > x then y else x) ys
def minI (x : Int) : List Int → Int
  | [] => x
  | y :: ys => minI (if y < x then y else x) ys
def maxR : List R → Option R
  | [.d (.int a), .d (.int b)] => some (.d (.int (if b > a then b else a)))
  | [.d (.lst ds)] => match intsD ds with
    | some (x :: xs) => some (.d (.int (maxI x xs)))
    | _ => none
  | _ => none
def minR : List R → Option R
  | [.d (.int a), .d (.int b)] => some (.d (.int (if b < a then b else a)))
  | [.d (.lst ds)] => match intsD ds with
    | some (x :: xs) => some (.d (.int (minI x xs)))
    | _ => none
  | _ => none
def sumI : List Int → Int
  | [] => 0
  | x :: xs => x + sumI xs
def sumR : List R → Option R
  | [.d (.lst ds)] => (intsD ds).map fun ns => .d (.int (sumI ns))
  | _ => none
/-- numbers that str and repr may write -/
def shortInt (i : Int) : Bool := decide (i.natAbs.log2 < 1920)
def strR : List R → Option R
  | [.d (.int i)] => if shortInt i then some (.d (.str (toString i))) else none
  | [.d (.str s)] => some (.d (.str s))
  | _ => none
/-- isinstance(x, T) by the type's name -/
def tyN : R → Option String
  | .d .non => some "NoneType"
  | .d (.bl _) => some "bool"
  | .d (.int _) => some "int"
  | .d (.str _) => some "str"
  | .d (.tup _) => some "tuple"
  | .d (.lst _) => some "list"
  | .ls _ => some "list"
  | .dic _ => some "dict"
  | .rep _ => some "str"
  | _ => none
def isB (T a : String) : Bool := a == T || (a == "bool" && T == "int")
def isinR (T : String) : List R → Option R
  | [r] => (tyN r).map fun a => .d (.bl (isB T a))
  | _ => none

/-! ### repr -/
def reprR : List R → Option R
  | [.d x] => if x.dep ≤ EqDep ∧ x.cost ≤ SL then some (.rep x) else none
  | _ => none

/-! ### what is walked, targets -/
abbrev It := Env → Mem → Out (List R)
def itemsR : R → Option (List R)
  | .d (.tup ds) => some (ds.map .d)
  | .d (.lst ds) => some (ds.map .d)
  | .ls rs => some rs
  | .scr ns => some (ns.map fun n => .d (.int n))
  | _ => none
@[irreducible] def iE (e : E) (ρ : Env) (μ : Mem) : Out (List R) := (e ρ μ).bind fun x μ => lift (itemsR x) μ
def enumF (k : Nat) : List D → List R
  | [] => []
  | x :: xs => .d (.tup [.int k, x]) :: enumF (k + 1) xs
@[irreducible] def iEnum (e : E) (ρ : Env) (μ : Mem) : Out (List R) := (e ρ μ).bind fun x μ => match x with
  | .d (.tup ds) => .ok (enumF 0 ds) μ
  | .d (.lst ds) => .ok (enumF 0 ds) μ
  | _ => .no
def zipF : List D → List D → List R
  | x :: xs, y :: ys => .d (.tup [x, y]) :: zipF xs ys
  | _, _ => []
@[irreducible] def iZip (a b : E) (ρ : Env) (μ : Mem) : Out (List R) := (a ρ μ).bind fun x μ => (b ρ μ).bind fun y μ => match x, y with
  | .d (.lst xs), .d (.lst ys) => .ok (zipF xs ys) μ
  | .d (.tup xs), .d (.tup ys) => .ok (zipF xs ys) μ
  | _, _ => .no
def rangeF (lo : Int) : Nat → List R
  | 0 => []
  | n + 1 => .d (.int lo) :: rangeF (lo + 1) n
def inRange62 (i : Int) : Bool := decide (-4611686018427387904 ≤ i) && decide (i < 4611686018427387904)
@[irreducible] def iRange1 (a : E) (ρ : Env) (μ : Mem) : Out (List R) := (a ρ μ).bind fun x μ => match x with
  | .d (.int n) => if inRange62 n then .ok (rangeF 0 n.toNat) μ else .no
  | _ => .no
@[irreducible] def iRange2 (a b : E) (ρ : Env) (μ : Mem) : Out (List R) := (a ρ μ).bind fun x μ => (b ρ μ).bind fun y μ => match x, y with
  | .d (.int lo), .d (.int hi) => if inRange62 lo && inRange62 hi then .ok (rangeF lo (hi - lo).toNat) μ else .no
  | _, _ => .no

/-- a target -/
abbrev Tg := R → Env → Option Env
@[irreducible] def tgN (i : Nat) (r : R) (ρ : Env) : Option Env := some (ρ.set i (.v r))
def tgs : List Tg → List R → Env → Option Env
  | [], [], ρ => some ρ
  | t :: ts, r :: rs, ρ => (t r ρ).bind fun ρ => tgs ts rs ρ
  | _, _, _ => none
@[irreducible] def tgT (ts : List Tg) (r : R) (ρ : Env) : Option Env := match r with
  | .d (.tup ds) => tgs ts (ds.map .d) ρ
  | .d (.lst ds) => tgs ts (ds.map .d) ρ
  | _ => none

/-- what may not raise -/
def Out.nx {α : Type} : Out α → Out α
  | .ok a μ => .ok a μ
  | .exn _ _ => .no
  | .no => .no
@[simp] theorem nx_ok {α : Type} (a : α) (μ : Mem) : (Out.ok a μ).nx = .ok a μ := rfl
@[simp] theorem nx_exn {α : Type} (a : Exn) (μ : Mem) : (Out.exn a μ : Out α).nx = .no := rfl
@[simp] theorem nx_no {α : Type} : (Out.no : Out α).nx = .no := rfl
theorem nx_eq_ok {α : Type} {o : Out α} {a : α} {μ : Mem} (h : o.nx = .ok a μ) : o = .ok a μ := by
  cases o with
  | ok b ν => exact h
  | exn e ν => cases h
  | no => cases h
def compL (t : Tg) (c : T) (elt : E) : List R → Env → Mem → Out (List R)
  | [], _, μ => .ok [] μ
  | x :: xs, ρ, μ => match t x ρ with
    | none => .no
    | some ρ1 => (c ρ1 μ).nx.bind fun k μ =>
      if k then (elt ρ1 μ).nx.bind fun y μ => (compL t c elt xs ρ μ).bind fun ys μ => .ok (y :: ys) μ
      else compL t c elt xs ρ μ
@[simp] theorem compL_nil (t : Tg) (c : T) (elt : E) (ρ : Env) (μ : Mem) : compL t c elt [] ρ μ = .ok [] μ := rfl
theorem compL_cons (t : Tg) (c : T) (elt : E) (x : R) (xs : List R) (ρ : Env) (μ : Mem) : compL t c elt (x :: xs) ρ μ = match t x ρ with
    | none => .no
    | some ρ1 => (c ρ1 μ).nx.bind fun k μ =>
      if k then (elt ρ1 μ).nx.bind fun y μ => (compL t c elt xs ρ μ).bind fun ys μ => .ok (y :: ys) μ
      else compL t c elt xs ρ μ := rfl
theorem compL_exn (t : Tg) (c : T) (elt : E) : ∀ (xs : List R) (ρ : Env) (μ : Mem) (e : Exn) (μ' : Mem), compL t c elt xs ρ μ ≠ .exn e μ'
  | [], _, _, _, _, h => by cases h
  | x :: xs, ρ, μ, e, μ', h => by
    rw [compL_cons] at h
    cases ht : t x ρ with
    | none => rw [ht] at h; cases h
    | some ρ1 =>
      rw [ht] at h
      dsimp only at h
      cases hc : c ρ1 μ with
      | no => rw [hc] at h; cases h
      | exn => rw [hc] at h; cases h
      | ok k μ2 =>
        rw [hc] at h
        cases k with
        | false => exact compL_exn t c elt xs ρ μ2 e μ' h
        | true =>
          cases he : elt ρ1 μ2 with
          | no => simp [he] at h
          | exn => simp [he] at h
          | ok y μ3 =>
            simp [he] at h
            cases hr : compL t c elt xs ρ μ3 with
            | no => rw [hr] at h; cases h
            | exn e2 μ4 => exact compL_exn t c elt xs ρ μ3 e2 μ4 hr
            | ok ys μ4 => rw [hr] at h; cases h
@[irreducible] def tYes (_ : Env) (μ : Mem) : Out Bool := .ok true μ
/-- the block's own names forgotten -/
def wipeE (ρ : Env) : List Nat → Env
  | [] => ρ
  | v :: vs => (wipeE ρ vs).set v .un
/-- [elt for t in it if c]; own: the places of the block's own names -/
@[irreducible] def eComp (own : List Nat) (t : Tg) (it : It) (c : T) (elt : E) (ρ : Env) (μ : Mem) : Out R := (it ρ μ).bind fun xs μ => (compL t c elt xs (wipeE ρ own) μ).bind fun ys μ =>
  if ys.length ≤ SL then .ok (mkL ys) μ else .no

/-- all (k: true), any (k: false) of a generator expression whose items are truth values -/
def allL (k : Bool) (t : Tg) (elt : E) : List R → Env → Mem → Out Bool
  | [], _, μ => .ok k μ
  | x :: xs, ρ, μ => match t x ρ with
    | none => .no
    | some ρ1 => (elt ρ1 μ).nx.bind fun y μ => match y with
      | .d (.bl b) => if b = k then allL k t elt xs ρ μ else .ok b μ
      | _ => .no
@[simp] theorem allL_nil (k : Bool) (t : Tg) (elt : E) (ρ : Env) (μ : Mem) : allL k t elt [] ρ μ = .ok k μ := rfl
theorem allL_cons (k : Bool) (t : Tg) (elt : E) (x : R) (xs : List R) (ρ : Env) (μ : Mem) : allL k t elt (x :: xs) ρ μ = match t x ρ with
    | none => .no
    | some ρ1 => (elt ρ1 μ).nx.bind fun y μ => match y with
      | .d (.bl b) => if b = k then allL k t elt xs ρ μ else .ok b μ
      | _ => .no := rfl
@[irreducible] def eAll (k : Bool) (own : List Nat) (t : Tg) (it : It) (elt : E) (ρ : Env) (μ : Mem) : Out R := (it ρ μ).bind fun xs μ => (allL k t elt xs (wipeE ρ own) μ).nx.bind fun b μ => .ok (.d (.bl b)) μ

/-! ### statements -/
inductive Fl where
  | nx (ρ : Env) | rt (r : R) | bk (ρ : Env) | ct (ρ : Env)
abbrev S := Env → Mem → Out Fl
@[irreducible] def sNil (ρ : Env) (μ : Mem) : Out Fl := .ok (.nx ρ) μ
@[irreducible] def sq (a b : S) (ρ : Env) (μ : Mem) : Out Fl := (a ρ μ).bind fun f μ => match f with
  | .nx ρ => b ρ μ
  | f => .ok f μ
@[irreducible] def sX (e : E) (ρ : Env) (μ : Mem) : Out Fl := (e ρ μ).bind fun _ μ => .ok (.nx ρ) μ
@[irreducible] def sAs (t : Tg) (e : E) (ρ : Env) (μ : Mem) : Out Fl := (e ρ μ).bind fun r μ => match t r ρ with
  | some ρ => .ok (.nx ρ) μ
  | none => .no
/-- x op= e: intsD, texts -/
@[irreducible] def sAug (i : Nat) (f : R → R → Option R) (e : E) (ρ : Env) (μ : Mem) : Out Fl := match ρ[i]? with
  | some (.v x) => (e ρ μ).bind fun y μ => (lift (f x y) μ).bind fun z μ => .ok (.nx (ρ.set i (.v z))) μ
  | _ => .no
/-- x, y = a, b -/
@[irreducible] def sPar (i j : Nat) (a b : E) (ρ : Env) (μ : Mem) : Out Fl := (a ρ μ).bind fun x μ => (b ρ μ).bind fun y μ => .ok (.nx ((ρ.set i (.v x)).set j (.v y))) μ
def iaddR : R → R → Option R
  | .d (.int a), .d (.int b) => some (.d (.int (a + b)))
  | .d (.str a), .d (.str b) => if a.length + b.length ≤ SL then some (.d (.str (a ++ b))) else none
  | _, _ => none
/-- name = a new list (dict), the frame's own -/
@[irreducible] def sOwn (i : Nat) (e : E) (ρ : Env) (μ : Mem) : Out Fl := (e ρ μ).bind fun r μ => match r with
  | .d (.lst ds) => .ok (.nx (ρ.set i (.own (ds.map .d)))) μ
  | .ls rs => .ok (.nx (ρ.set i (.own rs))) μ
  | .dic kvs => .ok (.nx (ρ.set i (.odic kvs))) μ
  | _ => .no
/-- name = a new list, in a cell that others may have too -/
@[irreducible] def sCell (i : Nat) (e : E) (ρ : Env) (μ : Mem) : Out Fl := (e ρ μ).bind fun r μ => match r with
  | .d (.lst ds) => .ok (.nx (ρ.set i (.v (.p μ.length)))) (μ ++ [.lst ds])
  | _ => .no
/-- from here on the list of one's own stays as it is -/
@[irreducible] def sFrz (i : Nat) (ρ : Env) (μ : Mem) : Out Fl := match ρ[i]? with
  | some (.own rs) => .ok (.nx (ρ.set i (.v (mkL rs)))) μ
  | some (.odic kvs) => .ok (.nx (ρ.set i (.v (.dic kvs)))) μ
  | _ => .no
/-- x.append(e), x.extend(e), x.reverse(), x a list of one's own -/
@[irreducible] def sApp (i : Nat) (e : E) (ρ : Env) (μ : Mem) : Out Fl := match ρ[i]? with
  | some (.own xs) => (e ρ μ).bind fun r μ => if xs.length < SL then .ok (.nx (ρ.set i (.own (xs ++ [r])))) μ else .no
  | _ => .no
def extR : R → Option (List R)
  | .d (.lst ds) => some (ds.map .d)
  | .d (.tup ds) => some (ds.map .d)
  | .ls ys => some ys
  | _ => none
@[irreducible] def sExt (i : Nat) (e : E) (ρ : Env) (μ : Mem) : Out Fl := match ρ[i]? with
  | some (.own xs) => (e ρ μ).bind fun r μ => match extR (vw μ r) with
    | some ys => if xs.length + ys.length ≤ SL then .ok (.nx (ρ.set i (.own (xs ++ ys)))) μ else .no
    | none => .no
  | _ => .no
@[irreducible] def sRev (i : Nat) (ρ : Env) (μ : Mem) : Out Fl := match ρ[i]? with
  | some (.own xs) => .ok (.nx (ρ.set i (.own xs.reverse))) μ
  | _ => .no
/-- a[i] = e, a a cell's list -/
@[irreducible] def sSet (a i e : E) (ρ : Env) (μ : Mem) : Out Fl := (e ρ μ).bind fun z μ => (a ρ μ).bind fun x μ => (i ρ μ).bind fun k μ => match x, k, z with
  | .p n, .d (.int k), .d z => (match μ[n]? with
    | some (.lst ds) => (match ixN ds.length k with
      | some j => .ok (.nx ρ) (μ.set n (.lst (ds.set j z)))
      | none => .no)
    | _ => .no)
  | _, _, _ => .no
/-- x[i] = e, x a dict of one's own, a list of one's own -/
@[irreducible] def sSetD (a : Nat) (i e : E) (ρ : Env) (μ : Mem) : Out Fl := (e ρ μ).bind fun z μ => match ρ[a]? with
  | some (.odic kvs) => (i ρ μ).bind fun k μ => match k with
    | .d k => (match keyOf k with
      | some k => if kvs.length < SL then .ok (.nx (ρ.set a (.odic (putK kvs k z)))) μ else .no
      | none => .no)
    | _ => .no
  | _ => .no
@[irreducible] def sSetI (a : Nat) (i e : E) (ρ : Env) (μ : Mem) : Out Fl := (e ρ μ).bind fun z μ => match ρ[a]? with
  | some (.own rs) => (i ρ μ).bind fun k μ => match k with
    | .d (.int k) => (match ixN rs.length k with
      | some j => .ok (.nx (ρ.set a (.own (rs.set j z)))) μ
      | none => .no)
    | _ => .no
  | _ => .no
@[irreducible] def sRet (e : E) (ρ : Env) (μ : Mem) : Out Fl := (e ρ μ).bind fun r μ => .ok (.rt r) μ
@[irreducible] def sRetN (_ : Env) (μ : Mem) : Out Fl := .ok (.rt (.d .non)) μ
@[irreducible] def sIf (c : T) (a b : S) (ρ : Env) (μ : Mem) : Out Fl := (c ρ μ).bind fun k μ => if k then a ρ μ else b ρ μ
@[irreducible] def sBrk (ρ : Env) (μ : Mem) : Out Fl := .ok (.bk ρ) μ
@[irreducible] def sCnt (ρ : Env) (μ : Mem) : Out Fl := .ok (.ct ρ) μ
def forL (t : Tg) (b : S) : List R → S
  | [], ρ, μ => .ok (.nx ρ) μ
  | x :: xs, ρ, μ => match t x ρ with
    | none => .no
    | some ρ1 => (b ρ1 μ).bind fun f μ => match f with
      | .nx ρ => forL t b xs ρ μ
      | .ct ρ => forL t b xs ρ μ
      | .bk ρ => .ok (.nx ρ) μ
      | .rt r => .ok (.rt r) μ
@[irreducible] def sFor (t : Tg) (it : It) (b : S) (ρ : Env) (μ : Mem) : Out Fl := (it ρ μ).bind fun xs μ => forL t b xs ρ μ
def whL (c : T) (b : S) : Nat → S
  | 0, _, _ => .no
  | n + 1, ρ, μ => (c ρ μ).bind fun k μ => if k then (b ρ μ).bind fun f μ => match f with
      | .nx ρ => whL c b n ρ μ
      | .ct ρ => whL c b n ρ μ
      | .bk ρ => .ok (.nx ρ) μ
      | .rt r => .ok (.rt r) μ
    else .ok (.nx ρ) μ
/-- a while: at most W turns -/
@[irreducible] def sWhile (W : Nat) (c : T) (b : S) (ρ : Env) (μ : Mem) : Out Fl := whL c b W ρ μ

/-! ### defs -/
mutual
def okR (m : Nat) : R → Bool
  | .p n => decide (n < m)
  | .dic kvs => okKs m kvs
  | .ins _ fs => okFs m fs
  | .ls rs => okRs m rs
  | .d _ => true
  | .scr _ => true
  | .rep _ => true
def okRs (m : Nat) : List R → Bool
  | [] => true
  | r :: rs => okR m r && okRs m rs
def okKs (m : Nat) : List (Ky × R) → Bool
  | [] => true
  | (_, r) :: rs => okR m r && okKs m rs
def okFs (m : Nat) : List (String × R) → Bool
  | [] => true
  | (_, r) :: rs => okR m r && okFs m rs
end
def okCell (m : Nat) : Cell → Bool
  | .ins _ fs => okFs m fs
  | .dic kvs => okKs m kvs
  | .lst _ => true
  | .dead => true
/-- a def ends: its own cells go -/
def fin (m : Nat) (r : R) (μ : Mem) : Out R :=
  if μ.length = m then .ok r μ
  else if okR m r && (μ.take m).all (okCell m) then .ok r (μ.take m) else .no
structure Def where
  /-- how many parameters, how many names -/
  np : Nat
  nl : Nat
  body : Fn → S
def runB (nl : Nat) (b : S) (args : List R) (μ : Mem) : Out R :=
  (b (args.map .v ++ List.replicate (nl - args.length) .un) μ).bind fun f μ' => match f with
    | .rt r => fin μ.length r μ'
    | .nx _ => fin μ.length (.d .non) μ'
    | _ => .no
def callN (P : String → Option Def) : Nat → Fn
  | 0, _, _, _ => .no
  | n + 1, f, args, μ => match P f with
    | some d => if args.length = d.np then runB d.nl (d.body (callN P n)) args μ else .no
    | none => .no
end Ev
end

section
set_option maxHeartbeats 0
set_option linter.all false
/-! EvPls: a comprehension with two for clauses; sorted. -/
namespace Ev
def compL2 (t : Tg) (c : T) (own1 : List Nat) (t1 : Tg) (it1 : It) (c1 : T) (elt : E) : List R → Env → Mem → Out (List R)
  | [], _, μ => .ok [] μ
  | x :: xs, ρ, μ => match t x ρ with
    | none => .no
    | some ρ1 => (c ρ1 μ).nx.bind fun k μ =>
      if k then (it1 ρ1 μ).nx.bind fun ys μ => (compL t1 c1 elt ys (wipeE ρ1 own1) μ).bind fun zs μ => (compL2 t c own1 t1 it1 c1 elt xs ρ μ).bind fun ws μ => .ok (zs ++ ws) μ
      else compL2 t c own1 t1 it1 c1 elt xs ρ μ
@[simp] theorem compL2_nil (t : Tg) (c : T) (own1 : List Nat) (t1 : Tg) (it1 : It) (c1 : T) (elt : E) (ρ : Env) (μ : Mem) : compL2 t c own1 t1 it1 c1 elt [] ρ μ = .ok [] μ := rfl
theorem compL2_cons (t : Tg) (c : T) (own1 : List Nat) (t1 : Tg) (it1 : It) (c1 : T) (elt : E) (x : R) (xs : List R) (ρ : Env) (μ : Mem) : compL2 t c own1 t1 it1 c1 elt (x :: xs) ρ μ = match t x ρ with
    | none => .no
    | some ρ1 => (c ρ1 μ).nx.bind fun k μ =>
      if k then (it1 ρ1 μ).nx.bind fun ys μ => (compL t1 c1 elt ys (wipeE ρ1 own1) μ).bind fun zs μ => (compL2 t c own1 t1 it1 c1 elt xs ρ μ).bind fun ws μ => .ok (zs ++ ws) μ
      else compL2 t c own1 t1 it1 c1 elt xs ρ μ := rfl
theorem compL2_exn (t : Tg) (c : T) (own1 : List Nat) (t1 : Tg) (it1 : It) (c1 : T) (elt : E) : ∀ (xs : List R) (ρ : Env) (μ : Mem) (e : Exn) (μ' : Mem), compL2 t c own1 t1 it1 c1 elt xs ρ μ ≠ .exn e μ'
  | [], _, _, _, _, h => by cases h
  | x :: xs, ρ, μ, e, μ', h => by
    rw [compL2_cons] at h
    cases ht : t x ρ with
    | none => rw [ht] at h; cases h
    | some ρ1 =>
      rw [ht] at h
      dsimp only at h
      cases hc : c ρ1 μ with
      | no => rw [hc] at h; cases h
      | exn => rw [hc] at h; cases h
      | ok k μ2 =>
        rw [hc] at h
        cases k with
        | false => exact compL2_exn t c own1 t1 it1 c1 elt xs ρ μ2 e μ' h
        | true =>
          cases he : it1 ρ1 μ2 with
          | no => simp [he] at h
          | exn => simp [he] at h
          | ok ys μ3 =>
            simp [he] at h
            cases hz : compL t1 c1 elt ys (wipeE ρ1 own1) μ3 with
            | no => rw [hz] at h; cases h
            | exn e2 μ4 => exact compL_exn _ _ _ _ _ _ _ _ hz
            | ok zs μ4 =>
              simp [hz] at h
              cases hr : compL2 t c own1 t1 it1 c1 elt xs ρ μ4 with
              | no => rw [hr] at h; cases h
              | exn e2 μ5 => exact compL2_exn t c own1 t1 it1 c1 elt xs ρ μ4 e2 μ5 hr
              | ok ws μ5 => rw [hr] at h; cases h
@[irreducible] def eComp2 (own : List Nat) (t : Tg) (it : It) (c : T) (own1 : List Nat) (t1 : Tg) (it1 : It) (c1 : T) (elt : E) (ρ : Env) (μ : Mem) : Out R := (it ρ μ).bind fun xs μ => (compL2 t c own1 t1 it1 c1 elt xs (wipeE ρ own) μ).bind fun ys μ =>
  if ys.length ≤ SL then .ok (mkL ys) μ else .no
/-! ### the order of data of one kind -/
mutual
def D.toks : D → List (Int ⊕ List Nat)
  | .non => []
  | .bl b => [.inl (if b = true then 1 else 0)]
  | .int n => [.inl n]
  | .str x => [.inr (x.toList.map Char.toNat)]
  | .lst xs => D.toksL xs
  | .tup xs => D.toksL xs
def D.toksL : List D → List (Int ⊕ List Nat)
  | [] => [.inl 0]
  | x :: xs => .inl 1 :: (D.toks x ++ D.toksL xs)
end
def tkLt : Int ⊕ List Nat → Int ⊕ List Nat → Bool
  | .inl a, .inl b => decide (a < b)
  | .inl _, .inr _ => true
  | .inr _, .inl _ => false
  | .inr a, .inr b => decide (a < b)
def tksLt : List (Int ⊕ List Nat) → List (Int ⊕ List Nat) → Bool
  | [], [] => false
  | [], _ :: _ => true
  | _ :: _, [] => false
  | x :: r, y :: t => tkLt x y || (!tkLt y x && tksLt r t)
/-- x not above y -/
def D.leK (x y : D) : Bool := !tksLt y.toks x.toks
mutual
def D.alike : D → D → Bool
  | .non, .non => true
  | .bl _, .bl _ => true
  | .int _, .int _ => true
  | .str _, .str _ => true
  | .lst xs, .lst ys => D.alikeL xs ys
  | .tup xs, .tup ys => D.alikeL xs ys
  | _, _ => false
def D.alikeL : List D → List D → Bool
  | x :: xs, y :: ys => D.alike x y && D.alikeL xs ys
  | [], _ => true
  | _ :: _, [] => true
end
def isT1 : D → Bool
  | .tup (_ :: _) => true
  | _ => false
def isT0 : D → Bool
  | .non | .tup _ => false
  | _ => true
def canSort (ds : List D) : Bool := (ds.all fun x => ds.all fun y => D.alike x y) && (ds.all isT1 || ds.all isT0) && (ds.all fun x => decide (x.dep ≤ 64)) && decide (ds.length ≤ SL)
/-- sorted(..) of a list or a tuple -/
def sortR : List R → Option R
  | [.d (.lst ds)] => if canSort ds then some (.d (.lst (ds.mergeSort D.leK))) else none
  | [.d (.tup ds)] => if canSort ds then some (.d (.lst (ds.mergeSort D.leK))) else none
  | _ => none
/-! ### texts -/
def strsD : List D → Option (List String)
  | [] => some []
  | .str s :: ds => (strsD ds).map (s :: ·)
  | _ :: _ => none
def joinS (a : String) : List String → String
  | [] => ""
  | [x] => x
  | x :: y :: r => x ++ a ++ joinS a (y :: r)
def joinOk (a : String) (ss : List String) : Bool := decide ((ss.map (·.length)).sum + ss.length * a.length ≤ SL)
/-- a.join(texts) -/
def joinR : R → R → Option R
  | .d (.str a), .d (.lst ds) => (strsD ds).bind fun ss => if joinOk a ss then some (.d (.str (joinS a ss))) else none
  | .d (.str a), .d (.tup ds) => (strsD ds).bind fun ss => if joinOk a ss then some (.d (.str (joinS a ss))) else none
  | _, _ => none
@[irreducible] def eJoin (o e : E) : E := fun ρ μ => (o ρ μ).bind fun x μ => match x with
  | .d (.str a) => (e ρ μ).bind fun y μ => lift (joinR (.d (.str a)) (vw μ y)) μ
  | _ => .no
/-- {x} of an f-string -/
def fmtR : R → Option R
  | .d (.int i) => if shortInt i then some (.d (.str (toString i))) else none
  | .d (.str s) => if s.length ≤ SL then some (.d (.str s)) else none
  | _ => none
@[irreducible] def eFmt (e : E) : E := fun ρ μ => (e ρ μ).bind fun r μ => lift (fmtR r) μ
def jsR : List E → String → Env → Mem → Out String
  | [], acc, _, μ => .ok acc μ
  | e :: es, acc, ρ, μ => (e ρ μ).bind fun r μ => match r with
    | .d (.str s) => if (acc ++ s).length ≤ SL then jsR es (acc ++ s) ρ μ else .no
    | _ => .no
/-- an f-string of two parts or more -/
@[irreducible] def eJs (es : List E) : E := fun ρ μ => (jsR es "" ρ μ).bind fun s μ => .ok (.d (.str s)) μ
end Ev
end

section
set_option maxHeartbeats 0
set_option Elab.async false
set_option linter.all false
set_option maxRecDepth 100000
/-! EvRep: what the evaluator's data are in the layer's heap. -/
namespace EvS
open PySem PySem.Spec PyProof.Rows L2

/-! ### data -/
abbrev St8 (s : String) : Str := Str.ofString s
mutual
def toPy : Ev.D → PyData
  | .non => .none
  | .bl b => .bool b
  | .int i => .int i
  | .str s => .str (Str.ofString s)
  | .tup ds => .tuple (toPyL ds)
  | .lst ds => .list (toPyL ds)
def toPyL : List Ev.D → List PyData
  | [] => []
  | d :: ds => toPy d :: toPyL ds
end
theorem toPyL_map : ∀ ds : List Ev.D, toPyL ds = ds.map toPy
  | [] => rfl
  | d :: ds => by rw [toPyL, toPyL_map ds, List.map_cons]

theorem ofString_inj {a b : String} (h : Str.ofString a = Str.ofString b) : a = b := by
  rw [Str.ofString_eq_toList, Str.ofString_eq_toList] at h
  have h1 : (a.toList.map Char.toNat).toArray = (b.toList.map Char.toNat).toArray := congrArg Str.cps h
  have h2 : a.toList.map Char.toNat = b.toList.map Char.toNat := by simpa using congrArg Array.toList h1
  have h3 : a.toList = b.toList := by
    refine List.map_inj_right (f := Char.toNat) (fun x y e => ?_) |>.mp h2
    exact Char.toNat_inj.mp e
  exact String.toList_injective h3
theorem ofString_eq (a b : String) : (Str.ofString a == Str.ofString b) = (a == b) := by
  by_cases e : a = b
  · subst e; simp
  · have h : ¬ Str.ofString a = Str.ofString b := fun q => e (ofString_inj q)
    rw [beq_eq_false_iff_ne.mpr e]
    exact beq_eq_false_iff_ne.mpr h
theorem cps_ofString (a : String) : (Str.ofString a).cps.toList = a.toList.map Char.toNat := by rw [Str.ofString_eq_toList]
theorem len_ofString (a : String) : (Str.ofString a).length = a.length := by
  rw [Str.ofString_eq_toList]
  show (a.toList.map Char.toNat).toArray.size = a.length
  simp [String.length_toList]
theorem ofString_append (a b : String) : Str.ofString (a ++ b) = Str.ofString a ++ Str.ofString b := by
  rw [Str.ofString_eq_toList, Str.ofString_eq_toList, Str.ofString_eq_toList]
  show _ = Str.mk ((a.toList.map Char.toNat).toArray ++ (b.toList.map Char.toNat).toArray)
  simp
theorem strOk_ofString (a : String) : PyData.strOk (Str.ofString a) = true := by
  unfold PyData.strOk
  rw [Str.ofString_eq_toList]
  simp only [List.all_toArray, List.all_map, List.all_eq_true, Function.comp, decide_eq_true_eq]
  intro c _
  have h := c.valid
  have h2 : c.toNat = c.val.toNat := rfl
  simp only [UInt32.isValidChar, Nat.isValidChar] at h
  omega

mutual
theorem eqv_toPy : ∀ x y : Ev.D, PyData.eqv (toPy x) (toPy y) = Ev.D.eqv x y
  | .non, y => by cases y <;> simp [toPy, PyData.eqv, Ev.D.eqv]
  | .bl b, y => by cases y <;> simp [toPy, PyData.eqv, Ev.D.eqv]
  | .int b, y => by cases y <;> simp [toPy, PyData.eqv, Ev.D.eqv]
  | .str b, y => by cases y <;> simp [toPy, PyData.eqv, Ev.D.eqv, ofString_eq]
  | .tup xs, y => by
    cases y with
    | tup ys => simp only [toPy, PyData.eqv, Ev.D.eqv]; exact eqvL_toPy xs ys
    | _ => simp [toPy, PyData.eqv, Ev.D.eqv]
  | .lst xs, y => by
    cases y with
    | lst ys => simp only [toPy, PyData.eqv, Ev.D.eqv]; exact eqvL_toPy xs ys
    | _ => simp [toPy, PyData.eqv, Ev.D.eqv]
theorem eqvL_toPy : ∀ xs ys : List Ev.D, PyData.eqvAll (toPyL xs) (toPyL ys) = Ev.D.eqvL xs ys
  | [], [] => by simp [toPyL, PyData.eqvAll, Ev.D.eqvL]
  | [], _ :: _ => by simp [toPyL, PyData.eqvAll, Ev.D.eqvL]
  | _ :: _, [] => by simp [toPyL, PyData.eqvAll, Ev.D.eqvL]
  | x :: xs, y :: ys => by simp only [toPyL, PyData.eqvAll, Ev.D.eqvL]; rw [eqv_toPy x y, eqvL_toPy xs ys]
end
mutual
theorem canLay_toPy : ∀ x : Ev.D, (toPy x).canLay0 = true
  | .non => by simp [toPy, PyData.canLay0]
  | .bl b => by simp [toPy, PyData.canLay0]
  | .int b => by simp [toPy, PyData.canLay0]
  | .str b => by simp only [toPy, PyData.canLay0]; exact strOk_ofString b
  | .tup xs => by simp only [toPy, PyData.canLay0]; exact canLayL_toPy xs
  | .lst xs => by simp only [toPy, PyData.canLay0]; exact canLayL_toPy xs
theorem canLayL_toPy : ∀ xs : List Ev.D, PyData.canLayAll0 (toPyL xs) = true
  | [] => by simp [toPyL, PyData.canLayAll0]
  | x :: xs => by simp only [toPyL, PyData.canLayAll0]; rw [canLay_toPy x, canLayL_toPy xs]; rfl
end
mutual
theorem dep_toPy : ∀ x : Ev.D, (toPy x).depth = x.dep
  | .non => by simp [toPy, PyData.depth, Ev.D.dep]
  | .bl b => by simp [toPy, PyData.depth, Ev.D.dep]
  | .int b => by simp [toPy, PyData.depth, Ev.D.dep]
  | .str b => by simp [toPy, PyData.depth, Ev.D.dep]
  | .tup xs => by simp only [toPy, PyData.depth, Ev.D.dep]; rw [depL_toPy xs]
  | .lst xs => by simp only [toPy, PyData.depth, Ev.D.dep]; rw [depL_toPy xs]
theorem depL_toPy : ∀ xs : List Ev.D, PyData.depthAll (toPyL xs) = Ev.D.depL xs
  | [] => by simp [toPyL, PyData.depthAll, Ev.D.depL]
  | x :: xs => by simp only [toPyL, PyData.depthAll, Ev.D.depL]; rw [dep_toPy x, depL_toPy xs]
end
theorem SL_eq : Ev.SL = sizeLine := by rw [sizeLine_eq]; rfl

/-! ### heaps -/
theorem Same.seqT {K : PySem.W.Frag} {H H' : Hp} {a : Addr} {xs : List V} (e : Same H H') (h : SqT K H a xs) : SqT K H' a xs := by
  rcases h with (h | ⟨o, h⟩) | h
  · exact .inl (.inl (e _ _ h))
  · exact .inl (.inr ⟨o, e _ _ h⟩)
  · exact .inr h
mutual
theorem Dp.mono {K : PySem.W.Frag} {H H' : Hp} (e : Same H H') : ∀ {v : V} {d : PyData}, Dp K H v d → Dp K H' v d
  | _, _, .non => .non
  | _, _, .bl b => .bl b
  | _, _, .int i => .int i
  | _, _, .str x => .str x
  | _, _, .lst h h2 => .lst (e.seq h) (DpAll.mono e h2)
  | _, _, .tup h h2 => .tup (Same.seqT e h) (DpAll.mono e h2)
theorem DpAll.mono {K : PySem.W.Frag} {H H' : Hp} (e : Same H H') : ∀ {vs : List V} {ds : List PyData}, DpAll K H vs ds → DpAll K H' vs ds
  | _, _, .nil => .nil
  | _, _, .cons h h2 => .cons (Dp.mono e h) (DpAll.mono e h2)
end
/-! plain data at a value: tuples, lists that stay as they are -/
mutual
inductive DR (K : PySem.W.Frag) (G : Hp) : V → Ev.D → Prop
  | non : DR K G .non .non
  | bl (b : Bool) : DR K G (.bl b) (.bl b)
  | int (i : Int) : DR K G (.int i) (.int i)
  | str (s : String) : DR K G (.str (Str.ofString s)) (.str s)
  | tup {a : Addr} {xs : List V} {ds : List Ev.D} : SqT K G a xs → DRs K G xs ds → DR K G (.ref a) (.tup ds)
  | lst {a : Addr} {xs : List V} {ds : List Ev.D} : G a = some (.lst xs) → DRs K G xs ds → DR K G (.ref a) (.lst ds)
inductive DRs (K : PySem.W.Frag) (G : Hp) : List V → List Ev.D → Prop
  | nil : DRs K G [] []
  | cons {v : V} {vs : List V} {d : Ev.D} {ds : List Ev.D} : DR K G v d → DRs K G vs ds → DRs K G (v :: vs) (d :: ds)
end
mutual
theorem DR.mono {K : PySem.W.Frag} {H H' : Hp} (e : Same H H') : ∀ {v : V} {d : Ev.D}, DR K H v d → DR K H' v d
  | _, _, .non => .non
  | _, _, .bl b => .bl b
  | _, _, .int i => .int i
  | _, _, .str x => .str x
  | _, _, .lst h h2 => .lst (e _ _ h) (DRs.mono e h2)
  | _, _, .tup h h2 => .tup (Same.seqT e h) (DRs.mono e h2)
theorem DRs.mono {K : PySem.W.Frag} {H H' : Hp} (e : Same H H') : ∀ {vs : List V} {ds : List Ev.D}, DRs K H vs ds → DRs K H' vs ds
  | _, _, .nil => .nil
  | _, _, .cons h h2 => .cons (DR.mono e h) (DRs.mono e h2)
end
mutual
theorem DR.dp {K : PySem.W.Frag} {H : Hp} : ∀ {v : V} {d : Ev.D}, DR K H v d → Dp K H v (toPy d)
  | _, _, .non => by simp only [toPy]; exact .non
  | _, _, .bl b => by simp only [toPy]; exact .bl b
  | _, _, .int i => by simp only [toPy]; exact .int i
  | _, _, .str x => by simp only [toPy]; exact .str _
  | _, _, .lst h h2 => by simp only [toPy]; exact .lst (.inl (.inl h)) (DRs.dp h2)
  | _, _, .tup h h2 => by simp only [toPy]; exact .tup h (DRs.dp h2)
theorem DRs.dp {K : PySem.W.Frag} {H : Hp} : ∀ {vs : List V} {ds : List Ev.D}, DRs K H vs ds → DpAll K H vs (toPyL ds)
  | _, _, .nil => .nil
  | _, _, .cons h h2 => by simp only [toPyL]; exact .cons (DR.dp h) (DRs.dp h2)
end
theorem DRs.len {K : PySem.W.Frag} {H : Hp} : ∀ {vs : List V} {ds : List Ev.D}, DRs K H vs ds → vs.length = ds.length
  | _, _, .nil => rfl
  | _, _, .cons _ h2 => by simp [DRs.len h2]
theorem DRs.get {K : PySem.W.Frag} {H : Hp} : ∀ {vs : List V} {ds : List Ev.D} {i : Nat} {d : Ev.D}, DRs K H vs ds → ds[i]? = some d → ∃ v, vs[i]? = some v ∧ DR K H v d
  | _, _, _, _, .nil, e => by simp at e
  | _, _, 0, _, .cons h _, e => by simp at e; subst e; exact ⟨_, rfl, h⟩
  | _, _, i + 1, _, .cons _ h2, e => by
    obtain ⟨v, h3, h4⟩ := DRs.get (i := i) h2 (by simpa using e)
    exact ⟨v, by simpa using h3, h4⟩
theorem DRs.append {K : PySem.W.Frag} {H : Hp} : ∀ {vs ws : List V} {ds es : List Ev.D}, DRs K H vs ds → DRs K H ws es → DRs K H (vs ++ ws) (ds ++ es)
  | _, _, _, _, .nil, h => h
  | _, _, _, _, .cons a b, h => .cons a (DRs.append b h)
theorem DRs.take {K : PySem.W.Frag} {H : Hp} : ∀ {vs : List V} {ds : List Ev.D} (n : Nat), DRs K H vs ds → DRs K H (vs.take n) (ds.take n)
  | _, _, 0, _ => .nil
  | _, _, _ + 1, .nil => .nil
  | _, _, n + 1, .cons a b => .cons a (DRs.take n b)
theorem DRs.drop {K : PySem.W.Frag} {H : Hp} : ∀ {vs : List V} {ds : List Ev.D} (n : Nat), DRs K H vs ds → DRs K H (vs.drop n) (ds.drop n)
  | _, _, 0, h => h
  | _, _, _ + 1, .nil => .nil
  | _, _, n + 1, .cons _ b => DRs.drop n b
theorem DRs.set {K : PySem.W.Frag} {H : Hp} {v : V} {d : Ev.D} (h : DR K H v d) : ∀ {vs : List V} {ds : List Ev.D} (n : Nat), DRs K H vs ds → DRs K H (vs.set n v) (ds.set n d)
  | _, _, _, .nil => .nil
  | _, _, 0, .cons _ b => .cons h b
  | _, _, n + 1, .cons a b => .cons a (DRs.set h n b)
theorem DRs.rep {K : PySem.W.Frag} {H : Hp} {vs : List V} {ds : List Ev.D} (h : DRs K H vs ds) : ∀ n : Nat, DRs K H (List.replicate n vs).flatten (List.replicate n ds).flatten
  | 0 => .nil
  | n + 1 => by rw [List.replicate_succ, List.replicate_succ, List.flatten_cons, List.flatten_cons]; exact DRs.append h (DRs.rep h n)

/-- the module's facts that data lean on: the written part; where a class of the module stands -/
-- the classes by their names; the code objects of the defs that hold generator expressions, with their tables
structure Cn where
  cls : String → Addr
  tabs : List (Addr × Addr)
structure Ct where
  K : PySem.W.Frag
  ca : Cn
def kyK : Ev.Ky → Key
  | .i n => .inl n
  | .s x => .inr (Str.ofString x)
theorem kyK_inj {a b : Ev.Ky} (h : kyK a = kyK b) : a = b := by
  cases a <;> cases b <;> simp [kyK] at h
  · rw [h]
  · rw [ofString_inj h]

mutual
inductive RR (Γ : Ct) (φ : List Addr) (G : Hp) : V → Ev.R → Prop
  | d {v : V} {x : Ev.D} : DR Γ.K G v x → RR Γ φ G v (.d x)
  | p {n : Nat} {a : Addr} : φ[n]? = some a → RR Γ φ G (.ref a) (.p n)
  | dic {a : Addr} {ks : List (Key × V)} {kvs : List (Ev.Ky × Ev.R)} : G a = some (.dK ks) → RKs Γ φ G ks kvs → RR Γ φ G (.ref a) (.dic kvs)
  | ins {a dx : Addr} {c : String} {fs : List (Str × V)} {gs : List (String × Ev.R)} : G a = some (.ins (Γ.ca.cls c) dx fs) → G dx = some (.own a) → RFs Γ φ G fs gs → RR Γ φ G (.ref a) (.ins c gs)
  | ls {a : Addr} {xs : List V} {rs : List Ev.R} : G a = some (.lst xs) → RRs Γ φ G xs rs → RR Γ φ G (.ref a) (.ls rs)
  | scr {a : Addr} {ns : List Int} : SqL Γ.K G a (ns.map V.int) → RR Γ φ G (.ref a) (.scr ns)
  | rep {x : Ev.D} : RR Γ φ G (.str (toPy x).shown) (.rep x)
inductive RRs (Γ : Ct) (φ : List Addr) (G : Hp) : List V → List Ev.R → Prop
  | nil : RRs Γ φ G [] []
  | cons {v : V} {vs : List V} {r : Ev.R} {rs : List Ev.R} : RR Γ φ G v r → RRs Γ φ G vs rs → RRs Γ φ G (v :: vs) (r :: rs)
inductive RKs (Γ : Ct) (φ : List Addr) (G : Hp) : List (Key × V) → List (Ev.Ky × Ev.R) → Prop
  | nil : RKs Γ φ G [] []
  | cons {k : Ev.Ky} {v : V} {ks : List (Key × V)} {r : Ev.R} {rs : List (Ev.Ky × Ev.R)} : RR Γ φ G v r → RKs Γ φ G ks rs → RKs Γ φ G ((kyK k, v) :: ks) ((k, r) :: rs)
inductive RFs (Γ : Ct) (φ : List Addr) (G : Hp) : List (Str × V) → List (String × Ev.R) → Prop
  | nil : RFs Γ φ G [] []
  | cons {k : String} {v : V} {ks : List (Str × V)} {r : Ev.R} {rs : List (String × Ev.R)} : RR Γ φ G v r → RFs Γ φ G ks rs → RFs Γ φ G ((Str.ofString k, v) :: ks) ((k, r) :: rs)
end
section
variable {Γ : Ct} {φ φ' : List Addr} {G G' : Hp}
mutual
theorem RR.mono (e : Same G G') (hp : ∀ (n : Nat) (a : Addr), φ[n]? = some a → φ'[n]? = some a) : ∀ {v : V} {r : Ev.R}, RR Γ φ G v r → RR Γ φ' G' v r
  | _, _, .d h => .d (DR.mono e h)
  | _, _, .p h => .p (hp _ _ h)
  | _, _, .dic h h2 => .dic (e _ _ h) (RKs.mono e hp h2)
  | _, _, .ins h h1 h2 => .ins (e _ _ h) (e _ _ h1) (RFs.mono e hp h2)
  | _, _, .ls h h2 => .ls (e _ _ h) (RRs.mono e hp h2)
  | _, _, .scr h => .scr (e.seq h)
  | _, _, .rep => .rep
theorem RRs.mono (e : Same G G') (hp : ∀ (n : Nat) (a : Addr), φ[n]? = some a → φ'[n]? = some a) : ∀ {v : List V} {r : List Ev.R}, RRs Γ φ G v r → RRs Γ φ' G' v r
  | _, _, .nil => .nil
  | _, _, .cons h h2 => .cons (RR.mono e hp h) (RRs.mono e hp h2)
theorem RKs.mono (e : Same G G') (hp : ∀ (n : Nat) (a : Addr), φ[n]? = some a → φ'[n]? = some a) : ∀ {v : List (Key × V)} {r : List (Ev.Ky × Ev.R)}, RKs Γ φ G v r → RKs Γ φ' G' v r
  | _, _, .nil => .nil
  | _, _, .cons h h2 => .cons (RR.mono e hp h) (RKs.mono e hp h2)
theorem RFs.mono (e : Same G G') (hp : ∀ (n : Nat) (a : Addr), φ[n]? = some a → φ'[n]? = some a) : ∀ {v : List (Str × V)} {r : List (String × Ev.R)}, RFs Γ φ G v r → RFs Γ φ' G' v r
  | _, _, .nil => .nil
  | _, _, .cons h h2 => .cons (RR.mono e hp h) (RFs.mono e hp h2)
end
theorem RRs.len : ∀ {vs : List V} {rs : List Ev.R}, RRs Γ φ G vs rs → vs.length = rs.length
  | _, _, .nil => rfl
  | _, _, .cons _ h => by simp [RRs.len h]
theorem RRs.get : ∀ {vs : List V} {rs : List Ev.R} {i : Nat} {r : Ev.R}, RRs Γ φ G vs rs → rs[i]? = some r → ∃ v, vs[i]? = some v ∧ RR Γ φ G v r
  | _, _, _, _, .nil, e => by simp at e
  | _, _, 0, _, .cons h _, e => by simp at e; subst e; exact ⟨_, rfl, h⟩
  | _, _, i + 1, _, .cons _ h2, e => by
    obtain ⟨v, h3, h4⟩ := RRs.get (i := i) h2 (by simpa using e)
    exact ⟨v, by simpa using h3, h4⟩
theorem RRs.append : ∀ {vs ws : List V} {rs ss : List Ev.R}, RRs Γ φ G vs rs → RRs Γ φ G ws ss → RRs Γ φ G (vs ++ ws) (rs ++ ss)
  | _, _, _, _, .nil, h => h
  | _, _, _, _, .cons a b, h => .cons a (RRs.append b h)
theorem RRs.reverse : ∀ {vs : List V} {rs : List Ev.R}, RRs Γ φ G vs rs → RRs Γ φ G vs.reverse rs.reverse
  | _, _, .nil => .nil
  | _, _, .cons a b => by rw [List.reverse_cons, List.reverse_cons]; exact RRs.append (RRs.reverse b) (.cons a .nil)
theorem RRs.set {v : V} {r : Ev.R} (h : RR Γ φ G v r) : ∀ {vs : List V} {rs : List Ev.R} (n : Nat), RRs Γ φ G vs rs → RRs Γ φ G (vs.set n v) (rs.set n r)
  | _, _, _, .nil => .nil
  | _, _, 0, .cons _ b => .cons h b
  | _, _, n + 1, .cons a b => .cons a (RRs.set h n b)
theorem RR.inv_d {v : V} {x : Ev.D} (h : RR Γ φ G v (.d x)) : DR Γ.K G v x := by cases h; assumption
theorem RRs.vals : ∀ {vs : List V} {rs : List Ev.R} {ds : List Ev.D}, RRs Γ φ G vs rs → Ev.valsR rs = some ds → DRs Γ.K G vs ds
  | _, _, _, .nil, e => by cases e; exact .nil
  | _, _, _, .cons (r := r) h h2, e => by
    cases r with
    | d x =>
      rw [Ev.valsR_cons] at e
      obtain ⟨ds', e1, e2⟩ := Option.map_eq_some_iff.mp e
      subst e2
      exact .cons h.inv_d (RRs.vals h2 e1)
    | p n => cases e
    | dic k => cases e
    | ins c f => cases e
    | ls l => cases e
    | scr l => cases e
    | rep l => cases e
theorem RRs.ofD : ∀ {vs : List V} {ds : List Ev.D}, DRs Γ.K G vs ds → RRs Γ φ G vs (ds.map .d)
  | vs, [], h => by cases h; exact .nil
  | vs, d :: ds, h => by
    cases h with
    | cons a b => exact .cons (.d a) (RRs.ofD b)
theorem RRs.toD : ∀ {vs : List V} {ds : List Ev.D}, RRs Γ φ G vs (ds.map .d) → DRs Γ.K G vs ds
  | vs, [], h => by cases h; exact .nil
  | vs, d :: ds, h => by
    cases h with
    | cons a b => exact .cons a.inv_d (RRs.toD b)
theorem valsR_some : ∀ {rs : List Ev.R} {ds : List Ev.D}, Ev.valsR rs = some ds → rs = ds.map .d
  | [], _, h => by cases h; rfl
  | .d x :: rs, ds, h => by
    rw [Ev.valsR_cons] at h
    obtain ⟨ds', e1, e2⟩ := Option.map_eq_some_iff.mp h
    subst e2
    rw [valsR_some e1]; rfl
  | .p _ :: _, _, h => by cases h
  | .dic _ :: _, _, h => by cases h
  | .ins _ _ :: _, _, h => by cases h
  | .ls _ :: _, _, h => by cases h
  | .scr _ :: _, _, h => by cases h
  | .rep _ :: _, _, h => by cases h
/-- a list of values, as mkL says it -/
theorem RR.mkL {a : Addr} {xs : List V} {rs : List Ev.R} (h : G a = some (.lst xs)) (h2 : RRs Γ φ G xs rs) : RR Γ φ G (.ref a) (Ev.mkL rs) := by
  unfold Ev.mkL
  split
  · rename_i ds e
    exact .d (.lst h (h2.vals e))
  · exact .ls h h2
end

/-! ### the state -/
inductive CellR (Γ : Ct) (φ : List Addr) (G H : Hp) (a : Addr) : Ev.Cell → Prop
  | lst {xs : List V} {ds : List Ev.D} : H a = some (.lst xs) → DRs Γ.K G xs ds → CellR Γ φ G H a (.lst ds)
  | dic {ks : List (Key × V)} {kvs : List (Ev.Ky × Ev.R)} : H a = some (.dK ks) → RKs Γ φ G ks kvs → CellR Γ φ G H a (.dic kvs)
  | ins {dx : Addr} {c : String} {fs : List (Str × V)} {gs : List (String × Ev.R)} : H a = some (.ins (Γ.ca.cls c) dx fs) → H dx = some (.own a) → RFs Γ φ G fs gs → CellR Γ φ G H a (.ins c gs)
  | dead : CellR Γ φ G H a .dead
structure Ok (Γ : Ct) (φ : List Addr) (G H : Hp) (μ : Ev.Mem) : Prop where
  le : Same G H
  nd : φ.Nodup
  len : φ.length = μ.length
  fre : ∀ a ∈ φ, G a = none
  thr : ∀ a ∈ φ, ∃ o, H a = some o
  cell : ∀ (n : Nat) (a : Addr) (c : Ev.Cell), φ[n]? = some a → μ[n]? = some c → CellR Γ φ G H a c
  tb : ∀ p ∈ Γ.ca.tabs, GxR.TabG H p.2 ∧ p.2 ∉ φ ∧ G p.2 = none
structure Ext (φ : List Addr) (G H : Hp) (φ' : List Addr) (G' H' : Hp) : Prop where
  g : Same G G'
  gn : ∀ a, G' a ≠ none → G a ≠ none ∨ H a = none ∨ a ∈ φ
  p : ∃ ψ, φ' = φ ++ ψ ∧ ∀ a ∈ ψ, H a = none ∧ a ∉ φ
  f : ∀ a o, H a = some o → a ∉ φ → H' a = some o ∨ ∃ ps qs, o = .tbl ps ∧ H' a = some (.tbl qs)
section
variable {Γ : Ct} {φ φ' φ1 φ2 : List Addr} {G G' G1 G2 H H' H1 H2 : Hp} {μ μ' : Ev.Mem}
theorem Ext.refl : Ext φ G H φ G H := ⟨Same.refl _, fun _ h => .inl h, ⟨[], by simp, by simp⟩, fun _ _ h _ => .inl h⟩
theorem Ext.fo (a : Ext φ G H φ' G' H') {c : Addr} {o : HO} (h : H c = some o) (hn : c ∉ φ) (ht : ∀ q, o ≠ .tbl q := by intro q z; cases z) : H' c = some o := by
  rcases a.f c o h hn with z | ⟨ps, qs, z, _⟩
  · exact z
  · exact absurd z (ht ps)
theorem Ext.fs (a : Ext φ G H φ' G' H') {c : Addr} {o : HO} (h : H c = some o) (hn : c ∉ φ) : ∃ o', H' c = some o' := by
  rcases a.f c o h hn with z | ⟨ps, qs, _, z⟩
  · exact ⟨_, z⟩
  · exact ⟨_, z⟩
theorem Ext.trans (a : Ext φ G H φ1 G1 H1) (b : Ext φ1 G1 H1 φ2 G2 H2) : Ext φ G H φ2 G2 H2 := by
  obtain ⟨ψ1, e1, q1⟩ := a.p
  obtain ⟨ψ2, e2, q2⟩ := b.p
  have key : ∀ c, H1 c = none → c ∉ φ → H c = none := fun c hc hn => by
    cases q : H c with
    | none => rfl
    | some o =>
      obtain ⟨o2, z⟩ := a.fs q hn
      rw [z] at hc; cases hc
  refine ⟨a.g.trans b.g, fun c hc => ?_, ⟨ψ1 ++ ψ2, by rw [e2, e1, List.append_assoc], fun c hc => ?_⟩, fun c o hc hn => ?_⟩
  · rcases b.gn c hc with h | h | h
    · exact a.gn c h
    · by_cases hm : c ∈ φ
      · exact .inr (.inr hm)
      · exact .inr (.inl (key c h hm))
    · rw [e1] at h
      rcases List.mem_append.mp h with h | h
      · exact .inr (.inr h)
      · exact .inr (.inl (q1 c h).1)
  · rcases List.mem_append.mp hc with h | h
    · exact q1 c h
    · obtain ⟨h1, h2⟩ := q2 c h
      have hn : c ∉ φ := fun z => h2 (by rw [e1]; exact List.mem_append_left _ z)
      exact ⟨key c h1 hn, hn⟩
  · have hn1 : c ∉ φ1 := fun z => by
      rw [e1] at z
      rcases List.mem_append.mp z with z | z
      · exact hn z
      · rw [(q1 c z).1] at hc; cases hc
    rcases a.f c o hc hn with z | ⟨ps, qs, z1, z2⟩
    · exact b.f c o z hn1
    · rcases b.f c _ z2 hn1 with y | ⟨ps2, qs2, y1, y2⟩
      · exact .inr ⟨ps, qs, z1, y⟩
      · exact .inr ⟨ps, qs2, z1, y2⟩
theorem Ext.ix (a : Ext φ G H φ' G' H') : ∀ (n : Nat) (c : Addr), φ[n]? = some c → φ'[n]? = some c := fun n c h => by
  obtain ⟨ψ, e, _⟩ := a.p
  rw [e, List.getElem?_append_left (by have := List.getElem?_eq_some_iff.mp h; exact this.1)]
  exact h
theorem Ext.rr (a : Ext φ G H φ' G' H') {v : V} {r : Ev.R} (h : RR Γ φ G v r) : RR Γ φ' G' v r := h.mono a.g a.ix
theorem Ext.rrs (a : Ext φ G H φ' G' H') {v : List V} {r : List Ev.R} (h : RRs Γ φ G v r) : RRs Γ φ' G' v r := h.mono a.g a.ix
/-- an object that nobody else has stays, and stays apart -/
theorem Ext.keep (a : Ext φ G H φ' G' H') {c : Addr} {o : HO} (h : H c = some o) (hp : c ∉ φ) (hg : G c = none) (ht : ∀ q, o ≠ .tbl q := by intro q z; cases z) : H' c = some o ∧ c ∉ φ' ∧ G' c = none := by
  obtain ⟨ψ, e, q⟩ := a.p
  refine ⟨a.fo h hp ht, fun z => ?_, ?_⟩
  · rw [e] at z
    rcases List.mem_append.mp z with z | z
    · exact hp z
    · rw [(q c z).1] at h; cases h
  · cases r : G' c with
    | none => rfl
    | some u =>
      rcases a.gn c (by rw [r]; intro z; cases z) with z | z | z
      · exact absurd hg z
      · rw [z] at h; cases h
      · exact absurd z hp
/-- nothing is left behind but new objects: the heap as it was at φ, G -/
theorem Ext.of_same (h : Same H H') : Ext φ G H φ G H' := ⟨Same.refl _, fun _ h => .inl h, ⟨[], by simp, by simp⟩, fun a o e _ => .inl (h a o e)⟩
theorem same_upd {H : Hp} {p : Addr} {o : HO} (h : H p = none) : Same H (upd H p o) := fun b x e => by
  rw [upd_ne (ne_of_none e h)]
  exact e
theorem CellR.keep {a : Addr} {c : Ev.Cell} (h : CellR Γ φ G H a c) (hg : Same G G') (hix : ∀ (n : Nat) (c : Addr), φ[n]? = some c → φ'[n]? = some c) (ha : ∀ o, H a = some o → H' a = some o)
    (hd : ∀ d, H d = some (.own a) → H' d = some (.own a)) : CellR Γ φ' G' H' a c := by
  cases h with
  | lst h1 h2 => exact .lst (ha _ h1) (DRs.mono hg h2)
  | dic h1 h2 => exact .dic (ha _ h1) (h2.mono hg hix)
  | ins h1 h2 h3 => exact .ins (ha _ h1) (hd _ h2) (h3.mono hg hix)
  | dead => exact .dead
/-- objects only came -/
theorem Ok.grow (k : Ok Γ φ G H μ) (h : Same H H') (hg : Same G G') (hle : Same G' H') (hf : ∀ a ∈ φ, G' a = none) (hf2 : ∀ a o, H a = some (.tbl o) → G a = none → G' a = none) : Ok Γ φ G' H' μ :=
  ⟨hle, k.nd, k.len, hf, fun a ha => let ⟨o, e⟩ := k.thr a ha; ⟨o, h a o e⟩, fun n a c h1 h2 => (k.cell n a c h1 h2).keep hg (fun _ _ z => z) (fun o e => h a o e) fun d e => h d _ e, fun p hp => by
    obtain ⟨⟨ps, e, t⟩, h2, h3⟩ := k.tb p hp
    exact ⟨⟨ps, h _ _ e, t⟩, h2, hf2 _ _ e h3⟩⟩
theorem Ok.nphi (k : Ok Γ φ G H μ) {p : Addr} (hp : H p = none) : p ∉ φ := fun z => by
  obtain ⟨o, e⟩ := k.thr p z
  rw [e] at hp; cases hp
theorem Ok.ng (k : Ok Γ φ G H μ) {p : Addr} (hp : H p = none) : G p = none := by
  cases q : G p with
  | none => rfl
  | some o => rw [k.le p o q] at hp; cases hp
/-- a new object that stays as it is -/
theorem Ok.new (k : Ok Γ φ G H μ) {p : Addr} {o : HO} (hp : H p = none) : Ok Γ φ (upd G p o) (upd H p o) μ := by
  refine k.grow (same_upd hp) (same_upd (k.ng hp)) (fun b x e => ?_) (fun a ha => ?_) fun a o e h => by rw [upd_ne (fun z => by rw [z, hp] at e; cases e)]; exact h
  · by_cases hb : b = p
    · subst hb; rw [upd_same] at e ⊢; exact e
    · rw [upd_ne hb] at e ⊢; exact k.le b x e
  · rw [upd_ne (show a ≠ p from fun z => k.nphi hp (by rw [← z]; exact ha))]
    exact k.fre a ha
theorem Ext.new (k : Ok Γ φ G H μ) {p : Addr} {o : HO} (hp : H p = none) : Ext φ G H φ (upd G p o) (upd H p o) := by
  refine ⟨same_upd (k.ng hp), fun a ha => ?_, ⟨[], by simp, by simp⟩, fun a o e _ => .inl (same_upd hp a o e)⟩
  by_cases hb : a = p
  · subst hb; exact .inr (.inl hp)
  · rw [upd_ne hb] at ha; exact .inl ha
/-- a new object that is not yet said to stay -/
theorem Ok.new0 (k : Ok Γ φ G H μ) {p : Addr} {o : HO} (hp : H p = none) : Ok Γ φ G (upd H p o) μ :=
  k.grow (same_upd hp) (Same.refl _) (k.le.trans (same_upd hp)) k.fre fun _ _ _ h => h
end

/-! ### what is read -/
section
variable (Γ : Ct) (φ : List Addr) (G H : Hp)
/-- a value, or a list or dict of the frame's own as it stands -/
inductive PV : V → Ev.R → Prop
  | rr {v : V} {r : Ev.R} : RR Γ φ G v r → PV v r
  | own {a : Addr} {xs : List V} {rs : List Ev.R} : H a = some (.lst xs) → a ∉ φ → G a = none → RRs Γ φ G xs rs → PV (.ref a) (Ev.mkL rs)
  | odic {a : Addr} {ks : List (Key × V)} {kvs : List (Ev.Ky × Ev.R)} : H a = some (.dK ks) → a ∉ φ → G a = none → RKs Γ φ G ks kvs → PV (.ref a) (.dic kvs)
/-- a value as it may be read now -/
inductive Vw : V → Ev.R → Prop
  | rr {v : V} {r : Ev.R} : RR Γ φ G v r → Vw v r
  | own {a : Addr} {xs : List V} {rs : List Ev.R} : H a = some (.lst xs) → RRs Γ φ G xs rs → Vw (.ref a) (Ev.mkL rs)
  | odic {a : Addr} {ks : List (Key × V)} {kvs : List (Ev.Ky × Ev.R)} : H a = some (.dK ks) → RKs Γ φ G ks kvs → Vw (.ref a) (.dic kvs)
end
section
variable {Γ : Ct} {φ φ' : List Addr} {G G' H H' : Hp} {μ : Ev.Mem} {v : V} {r : Ev.R}
theorem PV.ext (h : PV Γ φ G H v r) (a : Ext φ G H φ' G' H') : PV Γ φ' G' H' v r := by
  cases h with
  | rr h => exact .rr (a.rr h)
  | own h1 h2 h3 h4 =>
    obtain ⟨k1, k2, k3⟩ := a.keep h1 h2 h3
    exact .own k1 k2 k3 (a.rrs h4)
  | odic h1 h2 h3 h4 =>
    obtain ⟨k1, k2, k3⟩ := a.keep h1 h2 h3
    exact .odic k1 k2 k3 (h4.mono a.g a.ix)
theorem vw_mkL (μ : Ev.Mem) (rs : List Ev.R) : Ev.vw μ (Ev.mkL rs) = Ev.mkL rs := by
  unfold Ev.mkL; split <;> rfl
theorem PV.vw (h : PV Γ φ G H v r) (k : Ok Γ φ G H μ) : Vw Γ φ G H v (Ev.vw μ r) := by
  cases h with
  | own h1 h2 h3 h4 => rw [vw_mkL]; exact .own h1 h4
  | odic h1 h2 h3 h4 => exact .odic h1 h4
  | rr h =>
    cases r with
    | d x => exact .rr h
    | dic x => exact .rr h
    | ins c x => exact .rr h
    | ls x => exact .rr h
    | scr x => exact .rr h
    | rep x => exact .rr h
    | p n =>
      cases h with
      | p hn =>
        rename_i a
        cases q : μ[n]? with
        | none => rw [Ev.vw_none q]; exact .rr (.p hn)
        | some c =>
          have hc := k.cell n a c hn q
          cases hc with
          | lst h1 h2 =>
            rename_i xs ds
            have e : (Ev.R.d (.lst ds)) = Ev.mkL (ds.map .d) := by
              unfold Ev.mkL
              have := Ev.valsR_map (fun x : Ev.D => x) ds
              simp only [List.map_id'] at this
              rw [this]
            rw [Ev.vw_lst q, e]
            exact .own h1 (RRs.ofD h2)
          | dic h1 h2 => rw [Ev.vw_cdic q]; exact .odic h1 h2
          | ins h1 h2 h3 => rw [Ev.vw_cins q]; exact .rr (.p hn)
          | dead => rw [Ev.vw_dead q]; exact .rr (.p hn)
/-- what is plain data is so in the heap -/
theorem Vw.dr {x : Ev.D} (h : Vw Γ φ G H v (.d x)) (le : Same G H) : DR Γ.K H v x := by
  generalize e : Ev.R.d x = r at h
  cases h with
  | rr h => subst e; exact DR.mono le h.inv_d
  | own h1 h2 =>
    rename_i a xs rs
    unfold Ev.mkL at e
    split at e
    · rename_i ds e2
      cases e
      exact .lst h1 (DRs.mono le (h2.vals e2))
    · cases e
  | odic => cases e
theorem Vw.dp {x : Ev.D} (h : Vw Γ φ G H v (.d x)) (le : Same G H) : Dp Γ.K H v (toPy x) := (h.dr le).dp
/-- .. for a value that is handed on -/
theorem Vw.rrOf {x : Ev.D} (h : Vw Γ φ G H v (.d x)) (hl : ∀ ds, x ≠ .lst ds) : DR Γ.K G v x := by
  generalize e : Ev.R.d x = r at h
  cases h with
  | rr h => subst e; exact h.inv_d
  | own h1 h2 =>
    unfold Ev.mkL at e
    split at e
    · cases e; exact absurd rfl (hl _)
    · cases e
  | odic => cases e
theorem Vw.list {ds : List Ev.D} (h : Vw Γ φ G H v (.d (.lst ds))) (le : Same G H) : ∃ a xs, v = .ref a ∧ H a = some (.lst xs) ∧ DRs Γ.K G xs ds := by
  generalize e : Ev.R.d (.lst ds) = r at h
  cases h with
  | rr h =>
    subst e
    cases h.inv_d with
    | lst h1 h2 => exact ⟨_, _, rfl, le _ _ h1, h2⟩
  | own h1 h2 =>
    unfold Ev.mkL at e
    split at e
    · rename_i ds' e2
      cases e
      exact ⟨_, _, rfl, h1, h2.vals e2⟩
    · cases e
  | odic => cases e
theorem Vw.tuple {ds : List Ev.D} (h : Vw Γ φ G H v (.d (.tup ds))) : ∃ a xs, v = .ref a ∧ SqT Γ.K G a xs ∧ DRs Γ.K G xs ds := by
  cases h.rrOf (fun _ z => by cases z) with
  | tup h1 h2 => exact ⟨_, _, rfl, h1, h2⟩
theorem Vw.int {i : Int} (h : Vw Γ φ G H v (.d (.int i))) : v = .int i := by
  cases h.rrOf (fun _ z => by cases z); rfl
theorem Vw.str {i : String} (h : Vw Γ φ G H v (.d (.str i))) : v = .str (Str.ofString i) := by
  cases h.rrOf (fun _ z => by cases z); rfl
theorem Vw.bl {i : Bool} (h : Vw Γ φ G H v (.d (.bl i))) : v = .bl i := by
  cases h.rrOf (fun _ z => by cases z); rfl
theorem Vw.non (h : Vw Γ φ G H v (.d .non)) : v = .non := by
  cases h.rrOf (fun _ z => by cases z); rfl
theorem Vw.scr {ns : List Int} (h : Vw Γ φ G H v (.scr ns)) (le : Same G H) : ∃ a, v = .ref a ∧ SqL Γ.K H a (ns.map V.int) := by
  generalize e : Ev.R.scr ns = r at h
  cases h with
  | rr h =>
    subst e
    cases h with
    | scr h1 => exact ⟨_, rfl, le.seq h1⟩
  | own h1 h2 =>
    unfold Ev.mkL at e
    split at e <;> cases e
  | odic => cases e
theorem Vw.rep {x : Ev.D} (h : Vw Γ φ G H v (.rep x)) : v = .str (toPy x).shown := by
  generalize e : Ev.R.rep x = r at h
  cases h with
  | rr h =>
    subst e
    cases h with
    | rep => rfl
  | own h1 h2 =>
    unfold Ev.mkL at e
    split at e <;> cases e
  | odic => cases e
theorem Vw.ls {rs : List Ev.R} (h : Vw Γ φ G H v (.ls rs)) (le : Same G H) : ∃ a xs, v = .ref a ∧ H a = some (.lst xs) ∧ RRs Γ φ G xs rs := by
  generalize e : Ev.R.ls rs = r at h
  cases h with
  | rr h =>
    subst e
    cases h with
    | ls h1 h2 => exact ⟨_, _, rfl, le _ _ h1, h2⟩
  | own h1 h2 =>
    unfold Ev.mkL at e
    split at e
    · cases e
    · cases e; exact ⟨_, _, rfl, h1, h2⟩
  | odic => cases e
theorem Vw.dic {kvs : List (Ev.Ky × Ev.R)} (h : Vw Γ φ G H v (.dic kvs)) (le : Same G H) : ∃ a ks, v = .ref a ∧ H a = some (.dK ks) ∧ RKs Γ φ G ks kvs := by
  generalize e : Ev.R.dic kvs = r at h
  cases h with
  | rr h =>
    subst e
    cases h with
    | dic h1 h2 => exact ⟨_, _, rfl, le _ _ h1, h2⟩
  | own h1 h2 =>
    unfold Ev.mkL at e
    split at e <;> cases e
  | odic h1 h2 => cases e; exact ⟨_, _, rfl, h1, h2⟩
theorem RR.vw (h : RR Γ φ G v r) (k : Ok Γ φ G H μ) : Vw Γ φ G H v (Ev.vw μ r) := (PV.rr h).vw k
theorem RR.int {i : Int} (h : RR Γ φ G v (.d (.int i))) : v = .int i := (Vw.rr (H := G) h).int
theorem RR.bl {i : Bool} (h : RR Γ φ G v (.d (.bl i))) : v = .bl i := (Vw.rr (H := G) h).bl
theorem RR.str {i : String} (h : RR Γ φ G v (.d (.str i))) : v = .str (Str.ofString i) := (Vw.rr (H := G) h).str
theorem RR.non (h : RR Γ φ G v (.d .non)) : v = .non := (Vw.rr (H := G) h).non
end

/-! ### frames -/
inductive SlotR (Γ : Ct) (φ : List Addr) (G H : Hp) : Option V → Ev.Sl → Prop
  | un {o : Option V} : SlotR Γ φ G H o .un
  | v {v : V} {r : Ev.R} : RR Γ φ G v r → SlotR Γ φ G H (some v) (.v r)
  | own {a : Addr} {xs : List V} {rs : List Ev.R} : H a = some (.lst xs) → a ∉ φ → G a = none → RRs Γ φ G xs rs → SlotR Γ φ G H (some (.ref a)) (.own rs)
  | odic {a : Addr} {ks : List (Key × V)} {kvs : List (Ev.Ky × Ev.R)} : H a = some (.dK ks) → a ∉ φ → G a = none → RKs Γ φ G ks kvs → SlotR Γ φ G H (some (.ref a)) (.odic kvs)
def isOwn : Ev.Sl → Bool
  | .own _ => true
  | .odic _ => true
  | _ => false
structure EnvR (Γ : Ct) (φ : List Addr) (G H : Hp) (σ : L2.St) (ρ : Ev.Env) : Prop where
  len : σ.length = ρ.length
  at_ : ∀ (i : Nat) (s : Ev.Sl), ρ[i]? = some s → ∃ o, σ[i]? = some o ∧ SlotR Γ φ G H o s
  ap : ∀ (i j : Nat) (a : Addr) (s t : Ev.Sl), ρ[i]? = some s → ρ[j]? = some t → isOwn s = true → isOwn t = true → σ[i]? = some (some (V.ref a)) → σ[j]? = some (some (V.ref a)) → i = j
section
variable {Γ : Ct} {φ φ' : List Addr} {G G' H H' : Hp} {σ : L2.St} {ρ : Ev.Env}
theorem SlotR.ext {o : Option V} {s : Ev.Sl} (h : SlotR Γ φ G H o s) (a : Ext φ G H φ' G' H') : SlotR Γ φ' G' H' o s := by
  cases h with
  | un => exact .un
  | v h => exact .v (a.rr h)
  | own h1 h2 h3 h4 =>
    obtain ⟨k1, k2, k3⟩ := a.keep h1 h2 h3
    exact .own k1 k2 k3 (a.rrs h4)
  | odic h1 h2 h3 h4 =>
    obtain ⟨k1, k2, k3⟩ := a.keep h1 h2 h3
    exact .odic k1 k2 k3 (h4.mono a.g a.ix)
theorem EnvR.ext (h : EnvR Γ φ G H σ ρ) (a : Ext φ G H φ' G' H') : EnvR Γ φ' G' H' σ ρ :=
  ⟨h.len, fun i s e => let ⟨o, e1, e2⟩ := h.at_ i s e; ⟨o, e1, e2.ext a⟩, h.ap⟩
/-- a slot gets a value -/
theorem EnvR.set (h : EnvR Γ φ G H σ ρ) {i : Nat} {v : V} {r : Ev.R} (hr : RR Γ φ G v r) : EnvR Γ φ G H (σ.set i (some v)) (ρ.set i (.v r)) := by
  refine ⟨by simp [h.len], fun j s e => ?_, fun j k a s t e1 e2 o1 o2 q1 q2 => ?_⟩
  · by_cases hj : i = j
    · subst hj
      by_cases hl : i < ρ.length
      · rw [List.getElem?_set_self hl] at e
        cases e
        exact ⟨some v, List.getElem?_set_self (by rw [h.len]; exact hl), .v hr⟩
      · rw [List.getElem?_eq_none (by simpa using hl)] at e; cases e
    · rw [List.getElem?_set_ne hj] at e ⊢
      exact h.at_ j s e
  · by_cases hj : i = j
    · subst hj
      by_cases hl : i < ρ.length
      · rw [List.getElem?_set_self hl] at e1
        cases e1; cases o1
      · rw [List.getElem?_eq_none (by simpa using hl)] at e1; cases e1
    · by_cases hk : i = k
      · subst hk
        by_cases hl : i < ρ.length
        · rw [List.getElem?_set_self hl] at e2
          cases e2; cases o2
        · rw [List.getElem?_eq_none (by simpa using hl)] at e2; cases e2
      · rw [List.getElem?_set_ne hj] at e1 q1
        rw [List.getElem?_set_ne hk] at e2 q2
        exact h.ap j k a s t e1 e2 o1 o2 q1 q2
/-- a slot is forgotten -/
theorem EnvR.un (h : EnvR Γ φ G H σ ρ) {i : Nat} : EnvR Γ φ G H (σ.set i none) (ρ.set i .un) := by
  refine ⟨by simp [h.len], fun j s e => ?_, fun j k a s t e1 e2 o1 o2 q1 q2 => ?_⟩
  · by_cases hj : i = j
    · subst hj
      by_cases hl : i < ρ.length
      · rw [List.getElem?_set_self hl] at e
        cases e
        exact ⟨none, List.getElem?_set_self (by rw [h.len]; exact hl), .un⟩
      · rw [List.getElem?_eq_none (by simpa using hl)] at e; cases e
    · rw [List.getElem?_set_ne hj] at e ⊢
      exact h.at_ j s e
  · by_cases hj : i = j
    · subst hj
      by_cases hl : i < ρ.length
      · rw [List.getElem?_set_self hl] at e1
        cases e1; cases o1
      · rw [List.getElem?_eq_none (by simpa using hl)] at e1; cases e1
    · by_cases hk : i = k
      · subst hk
        by_cases hl : i < ρ.length
        · rw [List.getElem?_set_self hl] at e2
          cases e2; cases o2
        · rw [List.getElem?_eq_none (by simpa using hl)] at e2; cases e2
      · rw [List.getElem?_set_ne hj] at e1 q1
        rw [List.getElem?_set_ne hk] at e2 q2
        exact h.ap j k a s t e1 e2 o1 o2 q1 q2
theorem EnvR.wipe (h : EnvR Γ φ G H σ ρ) : ∀ vs : List Nat, EnvR Γ φ G H (wipe σ vs) (Ev.wipeE ρ vs)
  | [] => h
  | v :: vs => (EnvR.wipe h vs).un
end
end EvS
end

section
set_option maxHeartbeats 0
set_option Elab.async false
set_option linter.all false
set_option maxRecDepth 100000
/-! EvRule: the evaluator's combinators are sound: readings of the layer. -/
namespace EvS
open PySem PySem.Spec PyProof.Rows L2

/-- an exception: its class, its fields -/
def ExR (Γ : Ct) (φ : List Addr) (G H : Hp) (c : Value) (od : Option Addr) (e : Ev.Exn) : Prop :=
  c = .ref (Γ.ca.cls e.cls) ∧ (e.fs = [] ∨ ∃ d fs, od = some d ∧ H d = some (.xd fs) ∧ RFs Γ φ G fs e.fs)

section
variable (Γ : Ct) (E : XK) (φ : List Addr) (G H : Hp)
/-- what is wanted behind an outcome of the evaluator -/
def post {α β : Type} (o : Ev.Out α) (Rel : List Addr → Hp → Hp → β → α → Prop) (Q : β → Hp → Prop) : Prop := match o with
  | .ok x μ => ∀ v φ' G' H', Ext φ G H φ' G' H' → Ok Γ φ' G' H' μ → Rel φ' G' H' v x → Q v H'
  | .exn e μ => ∀ c od φ' G' H', Ext φ G H φ' G' H' → Ok Γ φ' G' H' μ → ExR Γ φ' G' H' c od e → E c od H'
  | .no => False
end
section
variable {Γ : Ct} {E : XK} {φ : List Addr} {G H : Hp}
theorem post_mono {α β : Type} {o : Ev.Out α} {Rel : List Addr → Hp → Hp → β → α → Prop} {Q Q' : β → Hp → Prop} (h : post Γ E φ G H o Rel Q) (hq : ∀ v H, Q v H → Q' v H) : post Γ E φ G H o Rel Q' := by
  cases o with
  | ok x μ => exact fun v φ' G' H' a b c => hq _ _ (h v φ' G' H' a b c)
  | exn e μ => exact h
  | no => exact h
theorem post_ext {α β : Type} {φ1 : List Addr} {G1 H1 : Hp} {o : Ev.Out α} {Rel : List Addr → Hp → Hp → β → α → Prop} {Q : β → Hp → Prop} (x : Ext φ G H φ1 G1 H1) (h : post Γ E φ G H o Rel Q) : post Γ E φ1 G1 H1 o Rel Q := by
  cases o with
  | ok _ μ => exact fun v φ' G' H' a b c => h v φ' G' H' (x.trans a) b c
  | exn e μ => exact fun c od φ' G' H' a b d => h c od φ' G' H' (x.trans a) b d
  | no => exact h
theorem post_bind {α γ β δ : Type} {o : Ev.Out α} {k : α → Ev.Mem → Ev.Out γ} {Rel1 : List Addr → Hp → Hp → δ → α → Prop} {Rel : List Addr → Hp → Hp → β → γ → Prop} {Q : β → Hp → Prop} {Q1 : δ → Hp → Prop}
    (h : post Γ E φ G H (o.bind k) Rel Q)
    (hk : ∀ v1 φ1 G1 H1 x μ1, o = .ok x μ1 → Ext φ G H φ1 G1 H1 → Ok Γ φ1 G1 H1 μ1 → Rel1 φ1 G1 H1 v1 x → post Γ E φ1 G1 H1 (k x μ1) Rel Q → Q1 v1 H1) : post Γ E φ G H o Rel1 Q1 := by
  cases o with
  | ok x μ => exact fun v φ' G' H' a b c => hk v φ' G' H' x μ rfl a b c (post_ext a h)
  | exn e μ => exact h
  | no => exact h
theorem post_ok {α β : Type} {x : α} {μ : Ev.Mem} {Rel : List Addr → Hp → Hp → β → α → Prop} {Q : β → Hp → Prop} {v : β} (h : post Γ E φ G H (.ok x μ) Rel Q) (k : Ok Γ φ G H μ) (r : Rel φ G H v x) : Q v H := h v φ G H Ext.refl k r
theorem post_lift {α β : Type} {o : Option α} {μ : Ev.Mem} {Rel : List Addr → Hp → Hp → β → α → Prop} {Q : β → Hp → Prop} (h : post Γ E φ G H (Ev.lift o μ) Rel Q) : ∃ x, o = some x ∧ post Γ E φ G H (.ok x μ) Rel Q := by
  cases o with
  | some x => exact ⟨x, rfl, h⟩
  | none => exact h.elim
end
abbrev rRR (Γ : Ct) : List Addr → Hp → Hp → V → Ev.R → Prop := fun φ G _ v r => RR Γ φ G v r
abbrev rPV (Γ : Ct) : List Addr → Hp → Hp → V → Ev.R → Prop := fun φ G H v r => PV Γ φ G H v r
abbrev rB : List Addr → Hp → Hp → Bool → Bool → Prop := fun _ _ _ b k => b = k
abbrev rRRs (Γ : Ct) : List Addr → Hp → Hp → List V → List Ev.R → Prop := fun φ G _ v r => RRs Γ φ G v r
inductive PVs (Γ : Ct) (φ : List Addr) (G H : Hp) : List V → List Ev.R → Prop
  | nil : PVs Γ φ G H [] []
  | cons {v : V} {vs : List V} {r : Ev.R} {rs : List Ev.R} : PV Γ φ G H v r → PVs Γ φ G H vs rs → PVs Γ φ G H (v :: vs) (r :: rs)
inductive Vws (Γ : Ct) (φ : List Addr) (G H : Hp) : List V → List Ev.R → Prop
  | nil : Vws Γ φ G H [] []
  | cons {v : V} {vs : List V} {r : Ev.R} {rs : List Ev.R} : Vw Γ φ G H v r → Vws Γ φ G H vs rs → Vws Γ φ G H (v :: vs) (r :: rs)
abbrev rPVs (Γ : Ct) : List Addr → Hp → Hp → List V → List Ev.R → Prop := fun φ G H v r => PVs Γ φ G H v r
theorem PVs.ext {Γ : Ct} {φ φ' : List Addr} {G G' H H' : Hp} (a : Ext φ G H φ' G' H') : ∀ {vs : List V} {rs : List Ev.R}, PVs Γ φ G H vs rs → PVs Γ φ' G' H' vs rs
  | _, _, .nil => .nil
  | _, _, .cons h t => .cons (h.ext a) (PVs.ext a t)
theorem PVs.vws {Γ : Ct} {φ : List Addr} {G H : Hp} {μ : Ev.Mem} (k : Ok Γ φ G H μ) : ∀ {vs : List V} {rs : List Ev.R}, PVs Γ φ G H vs rs → Vws Γ φ G H vs (rs.map (Ev.vw μ))
  | _, _, .nil => .nil
  | _, _, .cons h t => .cons (h.vw k) (PVs.vws k t)

/-! ### readings -/
section
variable (Γ : Ct) (W : WX)
/-- an expression; one that is only read; a test; arguments -/
def tE (f : Ev.E) : TE := fun σ H Q => ∃ φ G ρ μ, Ok Γ φ G H μ ∧ EnvR Γ φ G H σ ρ ∧ post Γ (WE W σ) φ G H (f ρ μ) (rRR Γ) Q
def tV (f : Ev.E) : TE := fun σ H Q => ∃ φ G ρ μ, Ok Γ φ G H μ ∧ EnvR Γ φ G H σ ρ ∧ post Γ (WE W σ) φ G H (f ρ μ) (rPV Γ) Q
def tT (f : Ev.T) : TT := fun σ H Q => ∃ φ G ρ μ, Ok Γ φ G H μ ∧ EnvR Γ φ G H σ ρ ∧ post Γ (WE W σ) φ G H (f ρ μ) rB Q
def tA (fs : List Ev.E) : TA := fun σ H Q => ∃ φ G ρ μ, Ok Γ φ G H μ ∧ EnvR Γ φ G H σ ρ ∧ post Γ (WE W σ) φ G H (Ev.evs fs ρ μ) (rRRs Γ) Q
def tAV (fs : List Ev.E) : TA := fun σ H Q => ∃ φ G ρ μ, Ok Γ φ G H μ ∧ EnvR Γ φ G H σ ρ ∧ post Γ (WE W σ) φ G H (Ev.evs fs ρ μ) (rPVs Γ) Q
end
abbrev ct (X : Cx) (ca : Cn) : Ct := ⟨X.K, ca⟩
theorem PE.imp {X : Cx} {e : Expr} {t t' : TE} (h : PE X e t) (i : ∀ σ H Q, t' σ H Q → t σ H Q) : PE X e t' := ⟨fun pins s σ H Q I q => h.run pins s σ H Q I (i σ H Q q)⟩
theorem PT.imp {X : Cx} {e : Expr} {t t' : TT} (h : PT X e t) (i : ∀ σ H Q, t' σ H Q → t σ H Q) : PT X e t' := ⟨fun pins s σ H Q I q => h.run pins s σ H Q I (i σ H Q q)⟩
theorem PW.imp {X : Cx} {e : Expr} {t t' : TT} (h : PW X e t) (i : ∀ σ H Q, t' σ H Q → t σ H Q) : PW X e t' := ⟨fun wh pins s σ H Q I q => h.run wh pins s σ H Q I (i σ H Q q)⟩
theorem PA.imp {X : Cx} {e : List Expr} {t t' : TA} (h : PA X e t) (i : ∀ σ H Q, t' σ H Q → t σ H Q) : PA X e t' := ⟨fun pos pins s σ H Q I q => h.run pos pins s σ H Q I (i σ H Q q)⟩
theorem PS.imp {X : Cx} {e : Stmt} {t t' : TS} (h : PS X e t) (i : ∀ D σ H, t' D σ H → t D σ H) : PS X e t' := ⟨fun pins s σ H D I q => h.run pins s σ H D I (i D σ H q)⟩
theorem PSs.imp {X : Cx} {e : List Stmt} {t t' : TS} (h : PSs X e t) (i : ∀ D σ H, t' D σ H → t D σ H) : PSs X e t' := ⟨fun pins s σ H D I q => h.run pins s σ H D I (i D σ H q)⟩
theorem PI.imp {X : Cx} {tg e : Expr} {t t' : TI} (h : PI X tg e t) (i : ∀ σ H Q, t' σ H Q → t σ H Q) : PI X tg e t' := ⟨fun pins s σ H Q I q => h.run pins s σ H Q I (i σ H Q q)⟩

/-- room for k calls, no repr under way -/
structure RoomG (k : Nat) (A : Around) : Prop where
  r : Room k A
  g : A.guards = some []
/-- the frame's standing -/
structure XS (X : Cx) (W : WX) (k : Nat) : Prop where
  calm : X.calm = true
  nd : X.N.Nodup
  room : RoomG k X.A
  tk : Takes X W
  po : PassesOwn (model X.prog X.w) X.A X.env X.xe
  fw : ∀ (c : Value) (d : Option Addr) (σ σ' : L2.St) (H : Hp), W c d σ H → W c d σ' H

/-- room for a generator's frame above that -/
structure Slk (X : Cx) (k : Nat) : Prop where
  dp : X.A.depth + 3 * k + 7 < recursionLimit
  un : X.A.units + 16 * k + 213 < cLine
/-- the running def's code object, its table -/
def Tbx (X : Cx) (ca : Cn) : Prop := ∃ c P, X.env.code = .ref c ∧ (c, P) ∈ ca.tabs ∧ GxR.TabB X.base X.mg c P
section
variable {X : Cx} {W : WX} {ca : Cn} {k : Nat}

/-! ### names, constants, displays -/
theorem se_v {i : Nat} {x : Str} {pos : Pos} (hN : X.N[i]? = some x) (hv : Vis X.env.scope x) (hd : (x == ("__debug__" : Str)) = false := by decide) (hcd : (x == ("__classdict__" : Str)) = false := by decide) : PE X (.Name x pos) (tE (ct X ca) W (Ev.eV i)) := by
  refine PE.imp (pe_var hN hv hd hcd) fun σ H Q h => ?_
  obtain ⟨φ, G, ρ, μ, ok, en, h⟩ := h
  unfold Ev.eV at h
  split at h
  · rename_i r e
    obtain ⟨o, e1, e2⟩ := en.at_ i _ e
    cases e2 with
    | v hr => exact ⟨_, e1, post_ok h ok hr⟩
  · exact h.elim
theorem sv_b {i : Nat} {x : Str} {pos : Pos} (hN : X.N[i]? = some x) (hv : Vis X.env.scope x) (hd : (x == ("__debug__" : Str)) = false := by decide) (hcd : (x == ("__classdict__" : Str)) = false := by decide) : PE X (.Name x pos) (tV (ct X ca) W (Ev.eB i)) := by
  refine PE.imp (pe_var hN hv hd hcd) fun σ H Q h => ?_
  obtain ⟨φ, G, ρ, μ, ok, en, h⟩ := h
  unfold Ev.eB at h
  split at h
  · rename_i r e
    obtain ⟨o, e1, e2⟩ := en.at_ i _ e
    cases e2 with
    | own h1 h2 h3 h4 => exact ⟨_, e1, post_ok h ok (.own h1 h2 h3 h4)⟩
  · rename_i r e
    obtain ⟨o, e1, e2⟩ := en.at_ i _ e
    cases e2 with
    | odic h1 h2 h3 h4 => exact ⟨_, e1, post_ok h ok (.odic h1 h2 h3 h4)⟩
  · exact h.elim
/-- what is a value may be read -/
theorem SV {e : Expr} {f : Ev.E} (h : PE X e (tE (ct X ca) W f)) : PE X e (tV (ct X ca) W f) := PE.imp h fun σ H Q q => by
  obtain ⟨φ, G, ρ, μ, ok, en, q⟩ := q
  refine ⟨φ, G, ρ, μ, ok, en, ?_⟩
  generalize f ρ μ = o at q
  cases o with
  | ok x μ => exact fun v φ' G' H' a b c => q v φ' G' H' a b (.rr c)
  | exn e μ => exact q
  | no => exact q
theorem se_c {e : Expr} {v : V} {x : Ev.D} (h : PE X e (tC v)) (r : ∀ G, DR X.K G v x) : PE X e (tE (ct X ca) W (Ev.eC x)) := PE.imp h fun σ H Q q => by
  obtain ⟨φ, G, ρ, μ, ok, en, q⟩ := q
  unfold Ev.eC at q
  exact post_ok q ok (.d (r G))
theorem se_int {i j pos} : PE X (.Constant (.int i) j pos) (tE (ct X ca) W (Ev.eC (.int i))) := se_c pe_int fun _ => .int i
theorem se_bl {i j pos} : PE X (.Constant (.bool i) j pos) (tE (ct X ca) W (Ev.eC (.bl i))) := se_c pe_bl fun _ => .bl i
theorem se_non {j pos} : PE X (.Constant .none j pos) (tE (ct X ca) W (Ev.eC .non)) := se_c pe_non fun _ => .non
theorem se_str {s : String} {x : Str} {j pos} (e : x = Str.ofString s := by rfl) : PE X (.Constant (.str x) j pos) (tE (ct X ca) W (Ev.eC (.str s))) := se_c (v := .str (Str.ofString s)) (by rw [e]; exact pe_str) fun _ => .str s
/-- a module's constant -/
theorem se_g {x : Str} {v : V} {u : Value} {d : Ev.D} {pos : Pos} (hg : Gl X x) (hm : X.mg x = some u) (r : RelV v u) (q : ∀ G, DR X.K G v d) (hd : (x == ("__debug__" : Str)) = false := by decide) : PE X (.Name x pos) (tE (ct X ca) W (Ev.eC d)) := se_c (pe_glob hg hm r hd) q
/-- a step of an evaluation -/
theorem tE_of {f : Ev.E} {σ : L2.St} {H : Hp} {Q : VK} {φ : List Addr} {G : Hp} {ρ : Ev.Env} {μ : Ev.Mem} {Γ : Ct} (ok : Ok Γ φ G H μ) (en : EnvR Γ φ G H σ ρ) (h : post Γ (WE W σ) φ G H (f ρ μ) (rRR Γ) Q) : tE Γ W f σ H Q := ⟨φ, G, ρ, μ, ok, en, h⟩
theorem sa_nil : PA X [] (tA (ct X ca) W []) := PA.imp pa_nil fun σ H Q q => by
  obtain ⟨φ, G, ρ, μ, ok, en, q⟩ := q
  exact post_ok q ok .nil
theorem sa_cons {e : Expr} {es : List Expr} {f : Ev.E} {fs : List Ev.E} (h1 : PE X e (tE (ct X ca) W f)) (h2 : PA X es (tA (ct X ca) W fs)) (hs : starEach (e :: es) X.env = (false, eval e X.env) :: starEach es X.env := by rfl) :
    PA X (e :: es) (tA (ct X ca) W (f :: fs)) := PA.imp (pa_cons h1 h2 hs) fun σ H Q q => by
  obtain ⟨φ, G, ρ, μ, ok, en, q⟩ := q
  rw [Ev.evs_cons] at q
  refine ⟨φ, G, ρ, μ, ok, en, post_bind q fun v1 φ1 G1 H1 x μ1 _ ext ok1 r1 q1 => ?_⟩
  refine ⟨φ1, G1, ρ, μ1, ok1, en.ext ext, post_bind q1 fun v2 φ2 G2 H2 xs μ2 _ ext2 ok2 r2 q2 => ?_⟩
  exact post_ok q2 ok2 (.cons (ext2.rr r1) r2)
theorem sav_nil : PA X [] (tAV (ct X ca) W []) := PA.imp pa_nil fun σ H Q q => by
  obtain ⟨φ, G, ρ, μ, ok, en, q⟩ := q
  exact post_ok q ok .nil
theorem sav_cons {e : Expr} {es : List Expr} {f : Ev.E} {fs : List Ev.E} (h1 : PE X e (tV (ct X ca) W f)) (h2 : PA X es (tAV (ct X ca) W fs)) (hs : starEach (e :: es) X.env = (false, eval e X.env) :: starEach es X.env := by rfl) :
    PA X (e :: es) (tAV (ct X ca) W (f :: fs)) := PA.imp (pa_cons h1 h2 hs) fun σ H Q q => by
  obtain ⟨φ, G, ρ, μ, ok, en, q⟩ := q
  rw [Ev.evs_cons] at q
  refine ⟨φ, G, ρ, μ, ok, en, post_bind q fun v1 φ1 G1 H1 x μ1 _ ext ok1 r1 q1 => ?_⟩
  refine ⟨φ1, G1, ρ, μ1, ok1, en.ext ext, post_bind q1 fun v2 φ2 G2 H2 xs μ2 _ ext2 ok2 r2 q2 => ?_⟩
  exact post_ok q2 ok2 (.cons (r1.ext ext2) r2)
theorem se_tup {es : List Expr} {fs : List Ev.E} {x1 pos} (h : PA X es (tA (ct X ca) W fs)) : PE X (.Tuple es x1 pos) (tE (ct X ca) W (Ev.eTup fs)) := PE.imp (pe_tup h) fun σ H Q q => by
  obtain ⟨φ, G, ρ, μ, ok, en, q⟩ := q
  unfold Ev.eTup at q
  refine ⟨φ, G, ρ, μ, ok, en, post_bind q fun vs φ1 G1 H1 x μ1 _ ext ok1 r1 q1 => ?_⟩
  split at q1
  · rename_i ds e
    have hl : vs.length = ds.length := (r1.vals e).len
    split at q1
    · rename_i hz
      rw [SL_eq] at hz
      refine ⟨by omega, fun p hp => ?_⟩
      refine q1 _ φ1 _ _ (Ext.new ok1 hp) (ok1.new hp) (.d (.tup (.inl (.inl upd_same)) ?_))
      exact (r1.vals e).mono (same_upd (ok1.ng hp))
    · exact q1.elim
  · exact q1.elim
/-- a new list or dict at a -/
inductive Nw (Γ : Ct) (φ : List Addr) (G H : Hp) (a : Addr) : Ev.R → Prop
  | lst {xs : List V} {rs : List Ev.R} : H a = some (.lst xs) → RRs Γ φ G xs rs → Nw Γ φ G H a (Ev.mkL rs)
  | dic {ks : List (Key × V)} {kvs : List (Ev.Ky × Ev.R)} : H a = some (.dK ks) → RKs Γ φ G ks kvs → Nw Γ φ G H a (.dic kvs)
def postN (Γ : Ct) (E : XK) (φ : List Addr) (G H : Hp) (o : Ev.Out Ev.R) (Q : VK) : Prop := match o with
  | .ok x μ => ∀ a φ' G' H', Ext φ G H φ' G' H' → Ok Γ φ' G' H' μ → H a = none → G' a = none → a ∉ φ' → Nw Γ φ' G' H' a x → Q (.ref a) H'
  | .exn e μ => ∀ c od φ' G' H', Ext φ G H φ' G' H' → Ok Γ φ' G' H' μ → ExR Γ φ' G' H' c od e → E c od H'
  | .no => False
theorem Ext.back {Γ : Ct} {φ φ1 : List Addr} {G G1 H H1 : Hp} {μ : Ev.Mem} (a : Ext φ G H φ1 G1 H1) (k : Ok Γ φ1 G1 H1 μ) {p : Addr} (hp : H1 p = none) : H p = none := by
  cases q : H p with
  | none => rfl
  | some o =>
    by_cases hm : p ∈ φ
    · obtain ⟨ψ, e, _⟩ := a.p
      obtain ⟨u, hu⟩ := k.thr p (by rw [e]; exact List.mem_append_left _ hm)
      rw [hu] at hp; cases hp
    · obtain ⟨o2, z⟩ := a.fs q hm
      rw [z] at hp; cases hp
theorem postN_bind {Γ : Ct} {E : XK} {φ : List Addr} {G H : Hp} {α δ : Type} {o : Ev.Out α} {k : α → Ev.Mem → Ev.Out Ev.R} {Rel1 : List Addr → Hp → Hp → δ → α → Prop} {Q : VK} {Q1 : δ → Hp → Prop}
    (h : postN Γ E φ G H (o.bind k) Q)
    (hk : ∀ v1 φ1 G1 H1 x μ1, o = .ok x μ1 → Ext φ G H φ1 G1 H1 → Ok Γ φ1 G1 H1 μ1 → Rel1 φ1 G1 H1 v1 x → postN Γ E φ1 G1 H1 (k x μ1) Q → Q1 v1 H1) : post Γ E φ G H o Rel1 Q1 := by
  cases o with
  | ok x μ =>
    refine fun v φ' G' H' a b c => hk v φ' G' H' x μ rfl a b c ?_
    have h : postN Γ E φ G H (k x μ) Q := h
    generalize k x μ = o2 at h
    cases o2 with
    | ok y μ2 => exact fun p φ2 G2 H2 a2 b2 c2 => h p φ2 G2 H2 (a.trans a2) b2 (a.back b c2)
    | exn e μ2 => exact fun c od φ2 G2 H2 a2 b2 => h c od φ2 G2 H2 (a.trans a2) b2
    | no => exact h
  | exn e μ => exact h
  | no => exact h
/-- a new list: it may stay, or be one's own -/
def tN (Γ : Ct) (W : WX) (f : Ev.E) : TE := fun σ H Q => ∃ φ G ρ μ, Ok Γ φ G H μ ∧ EnvR Γ φ G H σ ρ ∧ postN Γ (WE W σ) φ G H (f ρ μ) Q
/-- what nobody else has may be said to stay -/
theorem freeze {Γ : Ct} {φ φ' : List Addr} {G G' H H' : Hp} {μ : Ev.Mem} {a : Addr} {o : HO} (ext : Ext φ G H φ' G' H') (ok : Ok Γ φ' G' H' μ) (hn : H a = none ∨ a ∈ φ) (ng : G' a = none) (na : a ∉ φ') (ho : H' a = some o) (hot : ∀ q, o ≠ .tbl q := by intro q z; cases z) :
    Ext φ G H φ' (upd G' a o) H' ∧ Ok Γ φ' (upd G' a o) H' μ := by
  refine ⟨⟨ext.g.trans (same_upd ng), fun c hc => ?_, ext.p, ext.f⟩, ⟨fun c u hc => ?_, ok.nd, ok.len, fun c hc => ?_, ok.thr, fun n c d h1 h2 => (ok.cell n c d h1 h2).keep (same_upd ng) (fun _ _ z => z) (fun _ z => z) fun _ z => z, fun p hp => ?_⟩⟩
  · by_cases hca : c = a
    · subst hca; exact .inr hn
    · rw [upd_ne hca] at hc
      exact ext.gn c hc
  · by_cases hca : c = a
    · subst hca; rw [upd_same] at hc; cases hc; exact ho
    · rw [upd_ne hca] at hc; exact ok.le c u hc
  · rw [upd_ne (show c ≠ a from fun z => na (by rw [← z]; exact hc))]; exact ok.fre c hc
  · obtain ⟨⟨ps, e, t⟩, h2, h3⟩ := ok.tb p hp
    refine ⟨⟨ps, e, t⟩, h2, ?_⟩
    rw [upd_ne (fun z => by rw [z, ho] at e; exact hot ps (Option.some.inj e))]; exact h3
theorem tN_of {Γ : Ct} {f : Ev.E} {σ : L2.St} {H : Hp} {Q : VK} (q : tE Γ W f σ H Q) : tN Γ W f σ H Q := by
  obtain ⟨φ, G, ρ, μ, ok, en, q⟩ := q
  refine ⟨φ, G, ρ, μ, ok, en, ?_⟩
  generalize f ρ μ = o at q
  cases o with
  | exn e μ => exact q
  | no => exact q
  | ok x μ =>
    intro a φ' G' H' ext ok' hn ng na r
    cases r with
    | lst h1 h2 =>
      obtain ⟨e1, e2⟩ := freeze ext ok' (.inl hn) ng na h1
      exact q _ _ _ _ e1 e2 (RR.mkL upd_same (h2.mono (same_upd ng) fun _ _ z => z))
    | dic h1 h2 =>
      obtain ⟨e1, e2⟩ := freeze ext ok' (.inl hn) ng na h1
      exact q _ _ _ _ e1 e2 (.dic upd_same (h2.mono (same_upd ng) fun _ _ z => z))
theorem SN {e : Expr} {f : Ev.E} (h : PE X e (tN (ct X ca) W f)) : PE X e (tE (ct X ca) W f) := PE.imp h fun σ H Q q => tN_of q
/-- .. in an assignment -/
theorem SA {st : Stmt} {f : Ev.E} {g : TG} (h : PS X st (tAsg (tN (ct X ca) W f) g)) : PS X st (tAsg (tE (ct X ca) W f) g) := PS.imp h fun D σ H q => tN_of q
/-- a new list laid at p -/
theorem postN_lst {Γ : Ct} {E : XK} {φ : List Addr} {G H : Hp} {μ : Ev.Mem} {rs : List Ev.R} {xs : List V} {p : Addr} {Q : VK} (h : postN Γ E φ G H (.ok (Ev.mkL rs) μ) Q) (ok : Ok Γ φ G H μ) (hp : H p = none) (r : RRs Γ φ G xs rs) :
    Q (.ref p) (upd H p (.lst xs)) := by
  have h : ∀ a φ' G' H', Ext φ G H φ' G' H' → Ok Γ φ' G' H' μ → H a = none → G' a = none → a ∉ φ' → Nw Γ φ' G' H' a (Ev.mkL rs) → Q (.ref a) H' := h
  exact h p φ G _ (Ext.of_same (same_upd hp)) (ok.new0 hp) hp (ok.ng hp) (ok.nphi hp) (.lst upd_same r)
theorem mkL_d (ds : List Ev.D) : Ev.mkL (ds.map .d) = .d (.lst ds) := by
  unfold Ev.mkL
  have := Ev.valsR_map (fun x : Ev.D => x) ds
  simp only [List.map_id'] at this
  rw [this]
theorem sn_lst {es : List Expr} {fs : List Ev.E} {pos} (h : PA X es (tA (ct X ca) W fs)) : PE X (.List es pos) (tN (ct X ca) W (Ev.eLst fs)) := PE.imp (pe_lst h) fun σ H Q q => by
  obtain ⟨φ, G, ρ, μ, ok, en, q⟩ := q
  unfold Ev.eLst at q
  refine ⟨φ, G, ρ, μ, ok, en, postN_bind q fun vs φ1 G1 H1 x μ1 _ ext ok1 r1 q1 => ?_⟩
  split at q1
  · rename_i ds e
    have hl : vs.length = ds.length := (r1.vals e).len
    split at q1
    · rename_i hz
      rw [SL_eq] at hz
      refine ⟨by omega, fun p hp => ?_⟩
      rw [← mkL_d] at q1
      exact postN_lst q1 ok1 hp (RRs.ofD (r1.vals e))
    · exact q1.elim
  · exact q1.elim

/-! ### operators by values -/
/-- what an operation on two values gives -/
def rD (Γ : Ct) (f : Ev.R → Ev.R → Option Ev.R) : R2 := fun v u H Q => ∃ φ G μ x y z, Ok Γ φ G H μ ∧ Vw Γ φ G H v x ∧ Vw Γ φ G H u y ∧ f x y = some z ∧ ∀ r φ' G' H', Ext φ G H φ' G' H' → Ok Γ φ' G' H' μ → RR Γ φ' G' r z → Q r H'
/-- .. a new list -/
def rDN (Γ : Ct) (f : Ev.R → Ev.R → Option Ev.R) : R2 := fun v u H Q => ∃ φ G μ x y z, Ok Γ φ G H μ ∧ Vw Γ φ G H v x ∧ Vw Γ φ G H u y ∧ f x y = some z ∧ ∀ E, postN Γ E φ G H (.ok z μ) Q
/-- a comparison -/
def rC (Γ : Ct) (f : Ev.R → Ev.R → Option Bool) : R2 := fun v u H Q => ∃ φ G μ x y b, Ok Γ φ G H μ ∧ Vw Γ φ G H v x ∧ Vw Γ φ G H u y ∧ f x y = some b ∧ Q (.bl b) H
theorem se_op {op : Operator} {f : Ev.R → Ev.R → Option Ev.R} {a b : Expr} {fa fb : Ev.E} {pos : Pos} (ho : OpR X (binaryOp op) (rD (ct X ca) f)) (ha : PE X a (tV (ct X ca) W fa)) (hb : PE X b (tV (ct X ca) W fb)) :
    PE X (.BinOp a op b pos) (tE (ct X ca) W (Ev.eOp f fa fb)) := PE.imp (pe_op ho ha hb) fun σ H Q q => by
  obtain ⟨φ, G, ρ, μ, ok, en, q⟩ := q
  unfold Ev.eOp at q
  refine ⟨φ, G, ρ, μ, ok, en, post_bind q fun v1 φ1 G1 H1 x μ1 _ ext ok1 r1 q1 => ?_⟩
  refine ⟨φ1, G1, ρ, μ1, ok1, en.ext ext, post_bind q1 fun v2 φ2 G2 H2 y μ2 _ ext2 ok2 r2 q2 => ?_⟩
  obtain ⟨z, e, q2⟩ := post_lift q2
  exact ⟨φ2, G2, μ2, _, _, z, ok2, (r1.ext ext2).vw ok2, r2.vw ok2, e, q2⟩
theorem sn_op {op : Operator} {f : Ev.R → Ev.R → Option Ev.R} {a b : Expr} {fa fb : Ev.E} {pos : Pos} (ho : OpR X (binaryOp op) (rDN (ct X ca) f)) (ha : PE X a (tV (ct X ca) W fa)) (hb : PE X b (tV (ct X ca) W fb)) :
    PE X (.BinOp a op b pos) (tN (ct X ca) W (Ev.eOp f fa fb)) := PE.imp (pe_op ho ha hb) fun σ H Q q => by
  obtain ⟨φ, G, ρ, μ, ok, en, q⟩ := q
  unfold Ev.eOp at q
  refine ⟨φ, G, ρ, μ, ok, en, postN_bind q fun v1 φ1 G1 H1 x μ1 _ ext ok1 r1 q1 => ?_⟩
  have q1 := (postN_bind (Rel1 := rPV (ct X ca)) q1 fun v2 φ2 G2 H2 y μ2 _ ext2 ok2 r2 q2 => (show rDN (ct X ca) f v1 v2 H2 Q from ?_))
  · exact ⟨φ1, G1, ρ, μ1, ok1, en.ext ext, q1⟩
  · cases e : f (Ev.vw μ2 x) (Ev.vw μ2 y) with
    | none => rw [e] at q2; exact q2.elim
    | some z =>
      rw [e] at q2
      exact ⟨φ2, G2, μ2, _, _, z, ok2, (r1.ext ext2).vw ok2, r2.vw ok2, e, fun E => by
        have q2 : ∀ a φ' G' H', Ext φ2 G2 H2 φ' G' H' → Ok (ct X ca) φ' G' H' μ2 → H2 a = none → G' a = none → a ∉ φ' → Nw (ct X ca) φ' G' H' a z → Q (.ref a) H' := q2
        exact q2⟩
theorem st_cmp {op : CmpOp} {f : Ev.R → Ev.R → Option Bool} {a b : Expr} {fa fb : Ev.E} {pos : Pos} (ho : OpR X (compareOp op) (rC (ct X ca) f)) (ha : PE X a (tV (ct X ca) W fa)) (hb : PE X b (tV (ct X ca) W fb)) (hm : behindInMarks op b = false) :
    PT X (.Compare a [op] [b] pos) (tT (ct X ca) W (Ev.tCmp f fa fb)) := PT.imp (pt_cmpR ho ha hb hm) fun σ H Q q => by
  obtain ⟨φ, G, ρ, μ, ok, en, q⟩ := q
  unfold Ev.tCmp at q
  refine ⟨φ, G, ρ, μ, ok, en, post_bind q fun v1 φ1 G1 H1 x μ1 _ ext ok1 r1 q1 => ?_⟩
  refine ⟨φ1, G1, ρ, μ1, ok1, en.ext ext, post_bind q1 fun v2 φ2 G2 H2 y μ2 _ ext2 ok2 r2 q2 => ?_⟩
  obtain ⟨z, e, q2⟩ := post_lift q2
  exact ⟨φ2, G2, μ2, _, _, z, ok2, (r1.ext ext2).vw ok2, r2.vw ok2, e, z, rfl, post_ok q2 ok2 rfl⟩
/-- a comparison as a value -/
theorem se_cmp {op : CmpOp} {f : Ev.R → Ev.R → Option Bool} {a b : Expr} {fa fb : Ev.E} {pos : Pos} (ho : OpR X (compareOp op) (rC (ct X ca) f)) (ha : PE X a (tV (ct X ca) W fa)) (hb : PE X b (tV (ct X ca) W fb)) (hm : behindInMarks op b = false) :
    PE X (.Compare a [op] [b] pos) (tE (ct X ca) W (Ev.eT (Ev.tCmp f fa fb))) := PE.imp (pe_cmpR ho ha hb hm) fun σ H Q q => by
  obtain ⟨φ, G, ρ, μ, ok, en, q⟩ := q
  unfold Ev.eT Ev.tCmp at q
  simp only [Ev.bind_assoc] at q
  refine ⟨φ, G, ρ, μ, ok, en, post_bind q fun v1 φ1 G1 H1 x μ1 _ ext ok1 r1 q1 => ?_⟩
  refine ⟨φ1, G1, ρ, μ1, ok1, en.ext ext, post_bind q1 fun v2 φ2 G2 H2 y μ2 _ ext2 ok2 r2 q2 => ?_⟩
  cases e : f (Ev.vw μ2 x) (Ev.vw μ2 y) with
  | none => rw [e] at q2; exact q2.elim
  | some z =>
    rw [e] at q2
    exact ⟨φ2, G2, μ2, _, _, z, ok2, (r1.ext ext2).vw ok2, r2.vw ok2, e, post_ok q2 ok2 (.d (.bl z))⟩
end
end EvS
end

section
set_option maxHeartbeats 0
set_option Elab.async false
set_option linter.all false
set_option maxRecDepth 100000
/-! EvOps: the evaluator's operators, subscripts and built-ins are those of the layer. -/
namespace EvS
open PySem PySem.Spec PyProof.Rows L2
section
variable {X : Cx} {W : WX} {ca : Cn} {k : Nat}

theorem cat_ne {α : Type} {xs : List α} (h : xs ≠ []) : ∃ x r, xs = x :: r := by
  cases xs with
  | nil => exact absurd rfl h
  | cons x r => exact ⟨x, r, rfl⟩
theorem DRs.nil_iff {K : PySem.W.Frag} {G : Hp} {xs : List V} {ds : List Ev.D} (h : DRs K G xs ds) : xs = [] ↔ ds = [] := by
  cases h with
  | nil => simp
  | cons => simp
theorem opD_add : OpR X (binaryOp .Add) (rD (ct X ca) Ev.addR) := by
  intro pins s σ H v u vv uu Q I rv ru h
  obtain ⟨φ, G, μ, x, y, z, ok, hx, hy, e, q⟩ := h
  unfold Ev.addR at e
  split at e
  · cases e
    have e1 := hx.int; have e2 := hy.int
    subst e1 e2
    exact op_add pins s σ H _ _ vv uu Q I rv ru ⟨_, _, rfl, rfl, q _ φ G H Ext.refl ok (.d (.int _))⟩
  · split at e
    · rename_i hz
      cases e
      have e1 := hx.str; have e2 := hy.str
      subst e1 e2
      refine op_add_str pins s σ H _ _ vv uu Q I rv ru ⟨_, _, rfl, rfl, by rw [len_ofString, len_ofString, ← SL_eq]; exact hz, ?_⟩
      rw [← ofString_append]
      exact q _ φ G H Ext.refl ok (.d (.str _))
    · cases e
  · split at e
    · rename_i hz
      cases e
      obtain ⟨a, xs, e1, h1, r1⟩ := hx.list ok.le
      obtain ⟨b, ys, e2, h2, r2⟩ := hy.list ok.le
      subst e1 e2
      refine op_cat pins s σ H _ _ vv uu Q I rv ru ⟨a, b, xs, ys, rfl, rfl, h1, h2, by rw [r1.len, r2.len, ← SL_eq]; exact hz, fun p hp => ?_⟩
      exact q _ φ _ _ (Ext.new ok hp) (ok.new hp) (.d (.lst upd_same ((r1.append r2).mono (same_upd (ok.ng hp)))))
    · cases e
  · split at e
    · rename_i hz
      cases e
      obtain ⟨a, xs, e1, h1, r1⟩ := hx.tuple
      obtain ⟨b, ys, e2, h2, r2⟩ := hy.tuple
      subst e1 e2
      refine op_catA pins s σ H _ _ vv uu Q I rv ru ⟨a, b, xs, ys, rfl, rfl, Same.seqT ok.le h1, Same.seqT ok.le h2, by rw [r1.len, r2.len, ← SL_eq]; exact hz, fun e0 => ?_, fun n0 e0 => ?_, fun n0 n1 p hp => ?_⟩
      · rw [r1.nil_iff.mp e0, List.nil_append] at q
        exact q _ φ G H Ext.refl ok (.d (.tup h2 r2))
      · rw [r2.nil_iff.mp e0, List.append_nil] at q
        exact q _ φ G H Ext.refl ok (.d (.tup h1 r1))
      · exact q _ φ _ _ (Ext.new ok hp) (ok.new hp) (.d (.tup (.inl (.inl upd_same)) ((r1.append r2).mono (same_upd (ok.ng hp)))))
    · cases e
  · cases e
theorem opD_addL : OpR X (binaryOp .Add) (rDN (ct X ca) Ev.addL) := by
  intro pins s σ H v u vv uu Q I rv ru h
  obtain ⟨φ, G, μ, x, y, z, ok, hx, hy, e, q⟩ := h
  unfold Ev.addL at e
  split at e
  · split at e
    · rename_i hz
      cases e
      obtain ⟨a, xs, e1, h1, r1⟩ := hx.list ok.le
      obtain ⟨b, ys, e2, h2, r2⟩ := hy.list ok.le
      subst e1 e2
      refine op_cat pins s σ H _ _ vv uu Q I rv ru ⟨a, b, xs, ys, rfl, rfl, h1, h2, by rw [r1.len, r2.len, ← SL_eq]; exact hz, fun p hp => ?_⟩
      have q := q (fun _ _ _ => False)
      rw [← mkL_d] at q
      exact postN_lst q ok hp (RRs.ofD (r1.append r2))
    · cases e
  · cases e
theorem opD_sub : OpR X (binaryOp .Sub) (rD (ct X ca) Ev.subR) := by
  intro pins s σ H v u vv uu Q I rv ru h
  obtain ⟨φ, G, μ, x, y, z, ok, hx, hy, e, q⟩ := h
  unfold Ev.subR at e
  split at e
  · cases e
    have e1 := hx.int; have e2 := hy.int
    subst e1 e2
    exact op_sub pins s σ H _ _ vv uu Q I rv ru ⟨_, _, rfl, rfl, q _ φ G H Ext.refl ok (.d (.int _))⟩
  · cases e
theorem small_iff {i : Int} (h : Ev.small i = true) : -(2 ^ 64) < i ∧ i < 2 ^ 64 := by
  unfold Ev.small at h
  simp only [Bool.and_eq_true, decide_eq_true_eq] at h
  omega
theorem opD_mul : OpR X (binaryOp .Mult) (rD (ct X ca) Ev.mulR) := by
  intro pins s σ H v u vv uu Q I rv ru h
  obtain ⟨φ, G, μ, x, y, z, ok, hx, hy, e, q⟩ := h
  unfold Ev.mulR at e
  split at e
  · split at e
    · rename_i hs
      cases e
      have e1 := hx.int; have e2 := hy.int
      subst e1 e2
      refine op_mul pins s σ H _ _ vv uu Q I rv ru ⟨_, _, rfl, rfl, ?_, q _ φ G H Ext.refl ok (.d (.int _))⟩
      rcases Bool.or_eq_true_iff.mp hs with hs | hs
      · exact .inl (small_iff hs)
      · exact .inr (small_iff hs)
    · cases e
  · split at e
    · rename_i hs
      cases e
      simp only [Bool.and_eq_true, decide_eq_true_eq] at hs
      obtain ⟨⟨⟨_, hs1⟩, hs2⟩, hs3⟩ := hs
      obtain ⟨a, xs, e1, h1, r1⟩ := hx.list ok.le
      have e2 := hy.int
      subst e1 e2
      refine op_rep pins s σ H _ _ vv uu Q I rv ru ⟨a, _, xs, rfl, rfl, h1, by omega, by omega, by rw [r1.len, ← SL_eq]; exact hs3, fun p hp => ?_⟩
      exact q _ φ _ _ (Ext.new ok hp) (ok.new hp) (.d (.lst upd_same ((r1.rep _).mono (same_upd (ok.ng hp)))))
    · cases e
  · cases e
theorem opD_mod : OpR X (binaryOp .Mod) (rD (ct X ca) Ev.modR) := by
  intro pins s σ H v u vv uu Q I rv ru h
  obtain ⟨φ, G, μ, x, y, z, ok, hx, hy, e, q⟩ := h
  unfold Ev.modR at e
  split at e
  · split at e
    · rename_i hs
      cases e
      have e1 := hx.int; have e2 := hy.int
      subst e1 e2
      exact op_mod pins s σ H _ _ vv uu Q I rv ru ⟨_, _, rfl, rfl, hs, q _ φ G H Ext.refl ok (.d (.int _))⟩
    · cases e
  · cases e
theorem opD_fdiv : OpR X (binaryOp .FloorDiv) (rD (ct X ca) Ev.fdivR) := by
  intro pins s σ H v u vv uu Q I rv ru h
  obtain ⟨φ, G, μ, x, y, z, ok, hx, hy, e, q⟩ := h
  unfold Ev.fdivR at e
  split at e
  · split at e
    · rename_i hs
      cases e
      have e1 := hx.int; have e2 := hy.int
      subst e1 e2
      exact op_fdiv pins s σ H _ _ vv uu Q I rv ru ⟨_, _, rfl, rfl, hs, q _ φ G H Ext.refl ok (.d (.int _))⟩
    · cases e
  · cases e
theorem opD_pow : OpR X (binaryOp .Pow) (rD (ct X ca) Ev.powR) := by
  intro pins s σ H v u vv uu Q I rv ru h
  obtain ⟨φ, G, μ, x, y, z, ok, hx, hy, e, q⟩ := h
  unfold Ev.powR at e
  split at e
  · split at e
    · rename_i hs
      cases e
      have e1 := hx.int; have e2 := hy.int
      subst e1 e2
      have hb := small_iff hs.2.2
      exact op_pow pins s σ H _ _ vv uu Q I rv ru ⟨_, _, rfl, rfl, ⟨hs.1, hs.2.1, by omega⟩, q _ φ G H Ext.refl ok (.d (.int _))⟩
    · cases e
  · cases e
theorem opC_int {op : CmpOp} {f : Int → Int → Bool} (ho : OpR X (compareOp op) (rI0 fun i j => .bl (f i j))) : OpR X (compareOp op) (rC (ct X ca) (Ev.cmpR f)) := by
  intro pins s σ H v u vv uu Q I rv ru h
  obtain ⟨φ, G, μ, x, y, z, ok, hx, hy, e, q⟩ := h
  unfold Ev.cmpR at e
  split at e
  · cases e
    have e1 := hx.int; have e2 := hy.int
    subst e1 e2
    exact ho pins s σ H _ _ vv uu Q I rv ru ⟨_, _, rfl, rfl, q⟩
  · cases e
theorem opC_is : OpR X (compareOp .Is) (rC (ct X ca) Ev.isR) := by
  intro pins s σ H v u vv uu Q I rv ru h
  obtain ⟨φ, G, μ, x, y, z, ok, hx, hy, e, q⟩ := h
  unfold Ev.isR at e
  split at e
  · rename_i a b
    cases e
    have e1 := hx.bl; have e2 := hy.bl
    subst e1 e2
    have rv : vv = .bool a := rv
    have ru : uu = .bool b := ru
    subst rv ru
    refine wpAny_is_plain rfl ?_
    have eb : ((Value.bool a) == (Value.bool b)) = (a == b) := by cases a <;> cases b <;> rfl
    rw [eb]
    exact ⟨.bl _, H, I, rfl, q⟩
  · cases e
theorem opC_lt : OpR X (compareOp .Lt) (rC (ct X ca) Ev.ltR) := opC_int op_lt
theorem opC_le : OpR X (compareOp .LtE) (rC (ct X ca) Ev.leR) := opC_int op_le
theorem opC_gt : OpR X (compareOp .Gt) (rC (ct X ca) Ev.gtR) := opC_int op_gt
theorem opC_ge : OpR X (compareOp .GtE) (rC (ct X ca) Ev.geR) := opC_int op_ge
theorem room_min {A : Around} {a b : Ev.D} (hu : A.units + 64 < cLine) (h : min a.dep b.dep ≤ Ev.EqDep) : A.units + min (toPy a).depth (toPy b).depth < cLine := by
  rw [dep_toPy, dep_toPy]
  have : min a.dep b.dep ≤ 64 := h
  omega
theorem opC_eq (hu : X.A.units + 64 < cLine) : OpR X (compareOp .Eq) (rC (ct X ca) Ev.eqR) := by
  intro pins s σ H v u vv uu Q I rv ru h
  obtain ⟨φ, G, μ, x, y, z, ok, hx, hy, e, q⟩ := h
  unfold Ev.eqR at e
  split at e
  · rename_i x y
    unfold Ev.eqD at e
    split at e
    · rename_i hz
      cases e
      obtain ⟨as, r1⟩ := Dp.reads I _ _ _ (hx.dp ok.le) rv
      obtain ⟨bs, r2⟩ := Dp.reads I _ _ _ (hy.dp ok.le) ru
      refine SeqAt.compareEq_reads r1 r2 (canLay_toPy x) (canLay_toPy y) (room_min hu hz) ?_
      rw [eqv_toPy]
      exact ⟨.bl _, H, I, rfl, q⟩
    · cases e
  · split at e
    · rename_i hz
      cases e
      have hz := Ev.D.eq_of_same hz
      subst hz
      have e1 := hx.rep; have e2 := hy.rep
      subst e1 e2
      obtain ⟨t1, rfl⟩ := rv
      obtain ⟨t2, rfl⟩ := ru
      exact eq_str (fin_bl I q (by simp))
    · cases e
  · cases e
theorem opC_ne (hu : X.A.units + 64 < cLine) : OpR X (compareOp .NotEq) (rC (ct X ca) Ev.neR) := by
  intro pins s σ H v u vv uu Q I rv ru h
  obtain ⟨φ, G, μ, x, y, z, ok, hx, hy, e, q⟩ := h
  unfold Ev.neR Ev.eqR at e
  split at e
  · rename_i x y
    unfold Ev.eqD at e
    split at e
    · rename_i hz
      cases e
      obtain ⟨as, r1⟩ := Dp.reads I _ _ _ (hx.dp ok.le) rv
      obtain ⟨bs, r2⟩ := Dp.reads I _ _ _ (hy.dp ok.le) ru
      refine SeqAt.compareNe_reads r1 r2 (canLay_toPy x) (canLay_toPy y) (room_min hu hz) ?_
      rw [eqv_toPy]
      exact ⟨.bl _, H, I, rfl, q⟩
    · cases e
  · split at e
    · rename_i hz
      cases e
      have hz := Ev.D.eq_of_same hz
      subst hz
      have e1 := hx.rep; have e2 := hy.rep
      subst e1 e2
      obtain ⟨t1, rfl⟩ := rv
      obtain ⟨t2, rfl⟩ := ru
      exact ne_str (fin_bl I q (by simp))
    · cases e
  · cases e
theorem any_toPy (x : Ev.D) : ∀ ys : List Ev.D, ((toPyL ys).any fun z => PyData.eqv z (toPy x)) = ys.any fun y => y.eqv x
  | [] => rfl
  | y :: ys => by rw [toPyL, List.any_cons, List.any_cons, any_toPy x ys, eqv_toPy]
theorem valKV {Γ : Ct} {φ : List Addr} {G : Hp} : ∀ {ks : List (Key × V)} {kvs : List (Ev.Ky × Ev.R)} (k : Ev.Ky), RKs Γ φ G ks kvs →
    (∃ v r, L2.valV ks (kyK k) = some v ∧ Ev.valK kvs k = some r ∧ RR Γ φ G v r) ∨ (L2.valV ks (kyK k) = none ∧ Ev.valK kvs k = none)
  | _, _, k, .nil => .inr ⟨rfl, rfl⟩
  | _, _, k, .cons (k := j) (v := v) (r := r) (rs := rs) h t => by
    by_cases e : j = k
    · subst e
      exact .inl ⟨v, r, valV_pos rfl, by simp [Ev.valK], h⟩
    · have e2 : ¬ kyK j = kyK k := fun z => e (kyK_inj z)
      have e3 : Ev.valK ((j, r) :: rs) k = Ev.valK rs k := by simp [Ev.valK, List.find?_cons, e]
      rw [valV_neg (p := (kyK j, v)) e2, e3]
      exact valKV k t
theorem keyOf_kV {K : PySem.W.Frag} {G : Hp} {v : V} {x : Ev.D} {k : Ev.Ky} (h : DR K G v x) (e : Ev.keyOf x = some k) : v = kV (kyK k) := by
  cases h <;> simp only [Ev.keyOf] at e <;> cases e
  · rfl
  · rfl
theorem keyOf_nl {x : Ev.D} {k : Ev.Ky} (e : Ev.keyOf x = some k) : ∀ ds, x ≠ .lst ds := fun ds z => by subst z; cases e
theorem in_core (neg : Bool) (hu : X.A.units + 65 < cLine) {pins : List (Addr × Obj)} {s : Shared} {σ : L2.St} {H : Hp} {v u : V} {vv uu : Value} {Q : VK} (I : Inv X pins σ H s) (rv : RelV v vv) (ru : RelV u uu) {φ : List Addr} {G : Hp} {μ : Ev.Mem} {x y : Ev.R} {b : Bool}
    (ok : Ok (ct X ca) φ G H μ) (hx : Vw (ct X ca) φ G H v x) (hy : Vw (ct X ca) φ G H u y) (e : Ev.inR x y = some b) (q : Q (.bl (if neg then !b else b)) H) :
    wpAny (model X.prog X.w) X.A (compareOp (if neg then .NotIn else .In) vv uu) (EP X pins σ Q) X.xe s := by
  unfold Ev.inR at e
  split at e
  · rename_i x ys
    split at e
    · rename_i hz
      cases e
      obtain ⟨as, r1⟩ := Dp.reads I _ _ _ (hx.dp ok.le) rv
      have hy' := hy.dp ok.le
      obtain ⟨bs, r2⟩ := Dp.reads I _ _ _ hy' ru
      have hr : X.A.units + 1 + min (PyData.depthAll (toPyL ys)) (toPy x).depth < cLine := by
        rw [depL_toPy, dep_toPy]
        have : min x.dep (Ev.D.depL ys) ≤ 64 := hz
        omega
      simp only [toPy] at r2
      cases neg with
      | false => exact SeqAt.in_list_reads r2 r1 (canLayL_toPy ys) (canLay_toPy x) hr ⟨.bl _, H, I, rfl, by rw [any_toPy]; exact q⟩
      | true => exact SeqAt.notIn_list_reads r2 r1 (canLayL_toPy ys) (canLay_toPy x) hr ⟨.bl _, H, I, rfl, by rw [any_toPy]; exact q⟩
    · cases e
  · rename_i x ys
    split at e
    · rename_i hz
      cases e
      obtain ⟨as, r1⟩ := Dp.reads I _ _ _ (hx.dp ok.le) rv
      have hy' := hy.dp ok.le
      obtain ⟨bs, r2⟩ := Dp.reads I _ _ _ hy' ru
      have hr : X.A.units + 1 + min (PyData.depthAll (toPyL ys)) (toPy x).depth < cLine := by
        rw [depL_toPy, dep_toPy]
        have : min x.dep (Ev.D.depL ys) ≤ 64 := hz
        omega
      simp only [toPy] at r2
      cases neg with
      | false => exact SeqAt.in_tuple_reads r2 r1 (canLayL_toPy ys) (canLay_toPy x) hr ⟨.bl _, H, I, rfl, by rw [any_toPy]; exact q⟩
      | true => exact SeqAt.notIn_tuple_reads r2 r1 (canLayL_toPy ys) (canLay_toPy x) hr ⟨.bl _, H, I, rfl, by rw [any_toPy]; exact q⟩
    · cases e
  · rename_i x kvs
    obtain ⟨k, ek, e⟩ := Option.map_eq_some_iff.mp e
    obtain ⟨a, ks, e1, h1, r1⟩ := hy.dic ok.le
    have e2 : v = kV (kyK k) := keyOf_kV (hx.rrOf (keyOf_nl ek)) ek
    subst e1 e2
    cases ru
    have hb : (L2.valV ks (kyK k)).isSome = b := by
      rw [← e]
      rcases valKV k r1 with ⟨v, r, z1, z2, _⟩ | ⟨z1, z2⟩
      · rw [z1, z2]; rfl
      · rw [z1, z2]; rfl
    cases neg with
    | false => exact d_in (by omega) I (DGet.k h1) rv fun s' I' => ⟨.bl _, H, I', rfl, by rw [hb]; exact q⟩
    | true => exact d_notIn (by omega) I (DGet.k h1) rv fun s' I' => ⟨.bl _, H, I', rfl, by rw [hb]; exact q⟩
  · cases e
theorem opC_in (hu : X.A.units + 65 < cLine) : OpR X (compareOp .In) (rC (ct X ca) Ev.inR) := by
  intro pins s σ H v u vv uu Q I rv ru h
  obtain ⟨φ, G, μ, x, y, z, ok, hx, hy, e, q⟩ := h
  exact in_core false hu I rv ru ok hx hy e q
theorem opC_nin (hu : X.A.units + 65 < cLine) : OpR X (compareOp .NotIn) (rC (ct X ca) Ev.ninR) := by
  intro pins s σ H v u vv uu Q I rv ru h
  obtain ⟨φ, G, μ, x, y, z, ok, hx, hy, e, q⟩ := h
  unfold Ev.ninR at e
  obtain ⟨b, e1, e2⟩ := Option.map_eq_some_iff.mp e
  subst e2
  exact in_core true hu I rv ru ok hx hy e1 q

theorem pv_non {Γ : Ct} {φ : List Addr} {G H : Hp} {v : V} {r : Ev.R} (h : PV Γ φ G H v r) : decide (v = .non) = Ev.isNonR r := by
  cases h with
  | own => unfold Ev.mkL; split <;> rfl
  | odic => rfl
  | rr h =>
    cases h with
    | d h => cases h <;> rfl
    | _ => rfl
/-! ### subscripts -/
theorem atI_map {α β : Type} (f : α → β) (xs : List α) (i : Int) : Ev.atI (xs.map f) i = (Ev.atI xs i).map f := by
  unfold Ev.atI
  rw [List.length_map]
  cases Ev.ixN xs.length i <;> simp
theorem DRs.atI {K : PySem.W.Frag} {G : Hp} {vs : List V} {ds : List Ev.D} {i : Int} {d : Ev.D} (h : DRs K G vs ds) (e : Ev.atI ds i = some d) : ∃ v, L2.atI vs i = some v ∧ DR K G v d := by
  unfold Ev.atI at e
  obtain ⟨j, e1, e2⟩ := Option.bind_eq_some_iff.mp e
  obtain ⟨v, h1, h2⟩ := h.get e2
  refine ⟨v, ?_, h2⟩
  show (L2.ixN vs.length i).bind _ = _
  rw [h.len]
  have : L2.ixN ds.length i = some j := e1
  rw [this]
  exact h1
theorem RRs.atI {Γ : Ct} {φ : List Addr} {G : Hp} {vs : List V} {ds : List Ev.R} {i : Int} {d : Ev.R} (h : RRs Γ φ G vs ds) (e : Ev.atI ds i = some d) : ∃ v, L2.atI vs i = some v ∧ RR Γ φ G v d := by
  unfold Ev.atI at e
  obtain ⟨j, e1, e2⟩ := Option.bind_eq_some_iff.mp e
  obtain ⟨v, h1, h2⟩ := h.get e2
  refine ⟨v, ?_, h2⟩
  show (L2.ixN vs.length i).bind _ = _
  rw [h.len]
  have : L2.ixN ds.length i = some j := e1
  rw [this]
  exact h1
/-- a[i]: a list, a tuple, a text -/
theorem ixD : IxR X (rD (ct X ca) fun x y => match x with
    | .dic _ => none
    | x => Ev.idxR x y) := by
  intro value slice pins s σ H v u vv uu Q I rv ru h hs
  obtain ⟨φ, G, μ, x, y, z, ok, hx, hy, e, q⟩ := h
  cases x with
  | dic kvs => cases e
  | p n => cases y <;> cases e
  | rep n => cases y <;> cases e
  | ins c fs => cases y <;> cases e
  | scr ns =>
    cases y with
    | d y =>
      cases y with
      | int i =>
        obtain ⟨n, e1, e2⟩ := Option.map_eq_some_iff.mp (show (Ev.atI ns i).map _ = some z from e)
        subst e2
        obtain ⟨a, ea, h1⟩ := hx.scr ok.le
        have eu := hy.int
        subst ea eu
        have e3 : L2.atI (ns.map V.int) i = some (.int n) := by
          have := atI_map V.int ns i
          rw [e1] at this
          exact this
        exact ix_list value slice pins s σ H _ _ vv uu Q I rv ru ⟨a, _, i, _, rfl, rfl, h1, e3, q _ φ G H Ext.refl ok (.d (.int n))⟩ hs
      | _ => cases e
    | _ => cases e
  | ls rs =>
    cases y with
    | d y =>
      cases y with
      | int i =>
        have e : Ev.atI rs i = some z := e
        obtain ⟨a, xs, ea, h1, r1⟩ := hx.ls ok.le
        have eu := hy.int
        subst ea eu
        obtain ⟨w, e3, r3⟩ := r1.atI e
        exact ix_list value slice pins s σ H _ _ vv uu Q I rv ru ⟨a, _, i, _, rfl, rfl, .inl (.inl h1), e3, q _ φ G H Ext.refl ok r3⟩ hs
      | _ => cases e
    | _ => cases e
  | d x =>
    cases y with
    | d y =>
      cases y with
      | int i =>
        have eu := hy.int
        subst eu
        cases x with
        | tup ds =>
          obtain ⟨n, e1, e2⟩ := Option.map_eq_some_iff.mp (show (Ev.atI ds i).map _ = some z from e)
          subst e2
          obtain ⟨a, xs, ea, h1, r1⟩ := hx.tuple
          subst ea
          obtain ⟨w, e3, r3⟩ := r1.atI e1
          exact ix_tup value slice pins s σ H _ _ vv uu Q I rv ru ⟨a, _, i, _, rfl, rfl, Same.seqT ok.le h1, e3, q _ φ G H Ext.refl ok (.d r3)⟩ hs
        | lst ds =>
          obtain ⟨n, e1, e2⟩ := Option.map_eq_some_iff.mp (show (Ev.atI ds i).map _ = some z from e)
          subst e2
          obtain ⟨a, xs, ea, h1, r1⟩ := hx.list ok.le
          subst ea
          obtain ⟨w, e3, r3⟩ := r1.atI e1
          exact ix_list value slice pins s σ H _ _ vv uu Q I rv ru ⟨a, _, i, _, rfl, rfl, .inl (.inl h1), e3, q _ φ G H Ext.refl ok (.d r3)⟩ hs
        | str t =>
          have e : (if t.length ≤ Ev.SL then (Ev.atI t.toList i).map fun c => Ev.R.d (.str (String.ofList [c])) else none) = some z := e
          split at e
          · rename_i hz
            obtain ⟨c, e1, e2⟩ := Option.map_eq_some_iff.mp e
            subst e2
            have ea := hx.str
            subst ea
            refine ix_str value slice pins s σ H _ _ vv uu Q I rv ru ⟨_, i, c.toNat, rfl, rfl, by rw [len_ofString, ← SL_eq]; exact hz, ?_, ?_⟩ hs
            · rw [cps_ofString]
              have := atI_map Char.toNat t.toList i
              rw [e1] at this
              exact this
            · have e5 : (⟨#[c.toNat]⟩ : Str) = Str.ofString (String.ofList [c]) := by
                rw [Str.ofString_eq_toList]
                simp
              rw [e5]
              exact q _ φ G H Ext.refl ok (.d (.str _))
          · cases e
        | non => cases e
        | bl b => cases e
        | int j => cases e
      | non => cases x <;> cases e
      | bl b => cases x <;> cases e
      | str t => cases x <;> cases e
      | tup t => cases x <;> cases e
      | lst t => cases x <;> cases e
    | _ => cases x <;> cases e
/-- behind both parts of a subscription -/
theorem tail_of {prog : Program} {w : World} {A : Around} {E : Value → Shared → Prop} {s : Shared} {value slice : Expr} {T id : String} {o i : Value} {Q : Value → Shared → Prop}
    (hl : typeLookup (.type T) "__getitem__" = pure (some (.builtin id))) (hs : subscripted slice false o i = operate [o, i] (getItem o i)) (hT : s.TypeIs o T)
    (h : wpAny (model prog w) A (getItem o i) Q E s) : wpAny (model prog w) A (subscriptTail value slice o i) Q E s := by
  unfold subscriptTail
  refine wpAny_bind ?_
  rw [getitemInPython_of_ne hT.not_modules]
  refine wpAny_bind (wpAny_specialOf hT hl ?_)
  have fin : wpAny (model prog w) A (subscripted slice false o i) (fun r s₃ => wpAny (model prog w) A (letTemporaryGo value o r >>= fun _ => pure r) Q E s₃) E s := by
    rw [hs]
    exact wpAny_operating (wpAny_mono h (fun r s₃ h₃ => wpAny_bind (wpAny_letTemporaryGo (wpAny_pure h₃))) fun _ _ x => x)
  first
    | exact wpAny_pure (wpAny_bind fin)
    | exact wpAny_bind (wpAny_pure (wpAny_bind fin))
    | exact wpAny_bind fin
theorem ixDic (hu : X.A.units + 1 < cLine) : IxR X (rD (ct X ca) fun x y => match x with
    | .dic k => Ev.idxR (.dic k) y
    | _ => none) := by
  intro value slice pins s σ H v u vv uu Q I rv ru h hs
  obtain ⟨φ, G, μ, x, y, z, ok, hx, hy, e, q⟩ := h
  cases x with
  | dic kvs =>
    cases y with
    | d y =>
      obtain ⟨k, ek, e⟩ := Option.bind_eq_some_iff.mp (show (Ev.keyOf y).bind (Ev.valK kvs) = some z from e)
      obtain ⟨a, ks, e1, h1, r1⟩ := hx.dic ok.le
      have e2 : u = kV (kyK k) := keyOf_kV (hy.rrOf (keyOf_nl ek)) ek
      subst e1 e2
      cases rv
      rcases valKV k r1 with ⟨w, r, z1, z2, z3⟩ | ⟨z1, z2⟩
      · rw [e] at z2
        cases z2
        have g : DGet H a (kV (kyK k)) (some w) := by rw [← z1]; exact DGet.k h1
        exact tail_of PySem.F.slot_dict_getitem.lookup hs (dict_typeIs I g) (d_getItem hu I g ru fun w' s3 I3 rw' => ⟨w, H, I3, rw', q _ φ G H Ext.refl ok z3⟩)
      · rw [e] at z2; cases z2
    | _ => cases e
  | _ => cases e
theorem ixR (hu : X.A.units + 1 < cLine) : IxR X (rD (ct X ca) Ev.idxR) := by
  intro value slice pins s σ H v u vv uu Q I rv ru h hs
  obtain ⟨φ, G, μ, x, y, z, ok, hx, hy, e, q⟩ := h
  cases x with
  | dic kvs => exact ixDic hu value slice pins s σ H v u vv uu Q I rv ru ⟨φ, G, μ, _, y, z, ok, hx, hy, e, q⟩ hs
  | p n => exact ixD value slice pins s σ H v u vv uu Q I rv ru ⟨φ, G, μ, _, y, z, ok, hx, hy, e, q⟩ hs
  | d n => exact ixD value slice pins s σ H v u vv uu Q I rv ru ⟨φ, G, μ, _, y, z, ok, hx, hy, e, q⟩ hs
  | ins n m => exact ixD value slice pins s σ H v u vv uu Q I rv ru ⟨φ, G, μ, _, y, z, ok, hx, hy, e, q⟩ hs
  | ls n => exact ixD value slice pins s σ H v u vv uu Q I rv ru ⟨φ, G, μ, _, y, z, ok, hx, hy, e, q⟩ hs
  | scr n => exact ixD value slice pins s σ H v u vv uu Q I rv ru ⟨φ, G, μ, _, y, z, ok, hx, hy, e, q⟩ hs
  | rep n => exact ixD value slice pins s σ H v u vv uu Q I rv ru ⟨φ, G, μ, _, y, z, ok, hx, hy, e, q⟩ hs
theorem se_ix {a b : Expr} {fa fb : Ev.E} {pos : Pos} (hu : X.A.units + 1 < cLine) (ha : PE X a (tV (ct X ca) W fa)) (hb : PE X b (tE (ct X ca) W fb)) (hs : PlainIx b := by intro _ _; rfl) :
    PE X (.Subscript a b pos) (tE (ct X ca) W (Ev.eIdx fa fb)) := PE.imp (pe_ix (ixR (ca := ca) hu) ha (SV hb) hs) fun σ H Q q => by
  obtain ⟨φ, G, ρ, μ, ok, en, q⟩ := q
  unfold Ev.eIdx Ev.eOp at q
  refine ⟨φ, G, ρ, μ, ok, en, post_bind q fun v1 φ1 G1 H1 x μ1 _ ext ok1 r1 q1 => ?_⟩
  refine ⟨φ1, G1, ρ, μ1, ok1, en.ext ext, post_bind q1 fun v2 φ2 G2 H2 y μ2 _ ext2 ok2 r2 q2 => ?_⟩
  obtain ⟨z, e, q2⟩ := post_lift q2
  exact ⟨φ2, G2, μ2, _, _, z, ok2, (r1.ext ext2).vw ok2, r2.vw ok2, e, q2⟩

/-! ### slices -/
theorem DRs.cut {K : PySem.W.Frag} {G : Hp} {vs : List V} {ds : List Ev.D} (h : DRs K G vs ds) (lo hi : Option Int) : DRs K G (cutV vs lo hi) (Ev.cut ds lo hi) := by
  have e : cutV vs lo hi = (vs.drop (Ev.sIx ds.length 0 lo)).take (Ev.sIx ds.length ds.length hi - Ev.sIx ds.length 0 lo) := by
    rw [← h.len]; rfl
  rw [e]
  exact (h.drop _).take _
theorem cut_whole {α : Type} {xs : List α} {lo hi : Option Int} (h1 : Ev.sIx xs.length 0 lo = 0) (h2 : Ev.sIx xs.length xs.length hi = xs.length) : Ev.cut xs lo hi = xs := by
  unfold Ev.cut
  rw [h1, h2]
  simp
def rS (Γ : Ct) (f : Ev.R → Option Int → Option Int → Option Ev.R) : V → Option Int → Option Int → Hp → VK → Prop := fun v lo hi H Q => ∃ φ G μ x z, Ok Γ φ G H μ ∧ Vw Γ φ G H v x ∧ f x lo hi = some z ∧ ∀ r φ' G' H', Ext φ G H φ' G' H' → Ok Γ φ' G' H' μ → RR Γ φ' G' r z → Q r H'
theorem slR : SlR X (rS (ct X ca) Ev.slcR) := by
  intro pins s σ H v vv vl vu lo hi sl Q I rv hs pl pu h
  obtain ⟨φ, G, μ, x, z, ok, hx, e, q⟩ := h
  unfold Ev.slcR at e
  split at e
  · rename_i ds
    cases e
    obtain ⟨a, xs, e1, h1, r1⟩ := hx.tuple
    subst e1
    refine sl_tupA pins s σ H _ vv vl vu lo hi sl Q I rv hs pl pu ⟨a, xs, rfl, Same.seqT ok.le h1, fun hw => ?_, fun hw p hp => ?_⟩
    · have e2 : Ev.cut ds lo hi = ds := cut_whole (by rw [← r1.len]; exact hw.1) (by rw [← r1.len]; exact hw.2)
      rw [e2] at q
      exact q _ φ G H Ext.refl ok (.d (.tup h1 r1))
    · exact q _ φ _ _ (Ext.new ok hp) (ok.new hp) (.d (.tup (.inl (.inl upd_same)) ((r1.cut lo hi).mono (same_upd (ok.ng hp)))))
  · rename_i ds
    cases e
    obtain ⟨a, xs, e1, h1, r1⟩ := hx.list ok.le
    subst e1
    refine sl_list pins s σ H _ vv vl vu lo hi sl Q I rv hs pl pu ⟨a, xs, rfl, .inl (.inl h1), fun p hp => ?_⟩
    exact q _ φ _ _ (Ext.new ok hp) (ok.new hp) (.d (.lst upd_same ((r1.cut lo hi).mono (same_upd (ok.ng hp)))))
  · cases e
def tO (Γ : Ct) (W : WX) (f : Ev.O) : TO := fun σ H Q => ∃ φ G ρ μ, Ok Γ φ G H μ ∧ EnvR Γ φ G H σ ρ ∧ post Γ (WE W σ) φ G H (f ρ μ) (fun _ _ _ a b => a = b) Q
theorem PO.imp {e : Option Expr} {t t' : TO} (h : PO X e t) (i : ∀ σ H Q, t' σ H Q → t σ H Q) : PO X e t' := ⟨fun pins s σ H Q I q => h.run pins s σ H Q I (i σ H Q q)⟩
theorem so_n : PO X none (tO (ct X ca) W Ev.oN) := PO.imp po_none fun σ H Q q => by
  obtain ⟨φ, G, ρ, μ, ok, en, q⟩ := q
  unfold Ev.oN at q
  exact post_ok q ok rfl
theorem so_e {e : Expr} {f : Ev.E} (h : PE X e (tE (ct X ca) W f)) : PO X (some e) (tO (ct X ca) W (Ev.oE f)) := PO.imp (po_some h) fun σ H Q q => by
  obtain ⟨φ, G, ρ, μ, ok, en, q⟩ := q
  unfold Ev.oE at q
  refine ⟨φ, G, ρ, μ, ok, en, post_bind q fun v1 φ1 G1 H1 x μ1 _ ext ok1 r1 q1 => ?_⟩
  split at q1
  · exact ⟨_, r1.int, post_ok q1 ok1 rfl⟩
  · exact q1.elim
theorem se_slc {a : Expr} {fa : Ev.E} {lo hi : Option Expr} {fl fh : Ev.O} {p2 pos : Pos} (ha : PE X a (tV (ct X ca) W fa)) (hl : PO X lo (tO (ct X ca) W fl)) (hh : PO X hi (tO (ct X ca) W fh)) :
    PE X (.Subscript a (.Slice lo hi none p2) pos) (tE (ct X ca) W (Ev.eSlc fa fl fh)) := PE.imp (pe_slice (slR (ca := ca)) ha hl hh) fun σ H Q q => by
  obtain ⟨φ, G, ρ, μ, ok, en, q⟩ := q
  unfold Ev.eSlc at q
  refine ⟨φ, G, ρ, μ, ok, en, post_bind q fun v1 φ1 G1 H1 x μ1 _ ext ok1 r1 q1 => ?_⟩
  refine ⟨φ1, G1, ρ, μ1, ok1, en.ext ext, post_bind q1 fun l φ2 G2 H2 y μ2 _ ext2 ok2 r2 q2 => ?_⟩
  subst r2
  refine ⟨φ2, G2, ρ, μ2, ok2, (en.ext ext).ext ext2, post_bind q2 fun h φ3 G3 H3 y μ3 _ ext3 ok3 r3 q3 => ?_⟩
  subst r3
  obtain ⟨z, e, q3⟩ := post_lift q3
  exact ⟨φ3, G3, μ3, _, z, ok3, ((r1.ext ext2).ext ext3).vw ok3, e, q3⟩

/-! ### tests -/
theorem st_isN {a : Expr} {fa : Ev.E} {j pos pos'} (ha : PE X a (tV (ct X ca) W fa)) : PT X (.Compare a [.Is] [.Constant .none j pos'] pos) (tT (ct X ca) W (Ev.tIsN fa)) := PT.imp (pt_cmp (pc_isN ha)) fun σ H Q q => by
  obtain ⟨φ, G, ρ, μ, ok, en, q⟩ := q
  unfold Ev.tIsN at q
  refine ⟨φ, G, ρ, μ, ok, en, post_bind q fun v1 φ1 G1 H1 x μ1 _ ext ok1 r1 q1 => ?_⟩
  exact ⟨_, rfl, post_ok q1 ok1 (pv_non r1)⟩
theorem st_notN {a : Expr} {fa : Ev.E} {j pos pos'} (ha : PE X a (tV (ct X ca) W fa)) : PT X (.Compare a [.IsNot] [.Constant .none j pos'] pos) (tT (ct X ca) W (Ev.tNotN fa)) := PT.imp (pt_cmp (pc_notN ha)) fun σ H Q q => by
  obtain ⟨φ, G, ρ, μ, ok, en, q⟩ := q
  unfold Ev.tNotN at q
  refine ⟨φ, G, ρ, μ, ok, en, post_bind q fun v1 φ1 G1 H1 x μ1 _ ext ok1 r1 q1 => ?_⟩
  exact ⟨_, rfl, post_ok q1 ok1 (by show (!decide (v1 = .non)) = !Ev.isNonR x; rw [pv_non r1])⟩
theorem se_isN {a : Expr} {fa : Ev.E} {j pos pos'} (ha : PE X a (tV (ct X ca) W fa)) : PE X (.Compare a [.Is] [.Constant .none j pos'] pos) (tE (ct X ca) W (Ev.eT (Ev.tIsN fa))) := PE.imp (pe_cmp (pc_isN ha)) fun σ H Q q => by
  obtain ⟨φ, G, ρ, μ, ok, en, q⟩ := q
  unfold Ev.eT Ev.tIsN at q
  simp only [Ev.bind_assoc, Ev.bind_ok] at q
  refine ⟨φ, G, ρ, μ, ok, en, post_bind q fun v1 φ1 G1 H1 x μ1 _ ext ok1 r1 q1 => ?_⟩
  exact post_ok q1 ok1 (by rw [pv_non r1]; exact .d (.bl _))
theorem se_notN {a : Expr} {fa : Ev.E} {j pos pos'} (ha : PE X a (tV (ct X ca) W fa)) : PE X (.Compare a [.IsNot] [.Constant .none j pos'] pos) (tE (ct X ca) W (Ev.eT (Ev.tNotN fa))) := PE.imp (pe_cmp (pc_notN ha)) fun σ H Q q => by
  obtain ⟨φ, G, ρ, μ, ok, en, q⟩ := q
  unfold Ev.eT Ev.tNotN at q
  simp only [Ev.bind_assoc, Ev.bind_ok] at q
  refine ⟨φ, G, ρ, μ, ok, en, post_bind q fun v1 φ1 G1 H1 x μ1 _ ext ok1 r1 q1 => ?_⟩
  exact post_ok q1 ok1 (by rw [pv_non r1]; exact .d (.bl _))
theorem sw_and1 {a : Expr} {f : Ev.T} {pos} (h : PT X a (tT (ct X ca) W f)) : PW X (.BoolOp .And [a] pos) (tT (ct X ca) W f) := pw_and1 h
theorem sw_or1 {a : Expr} {f : Ev.T} {pos} (h : PT X a (tT (ct X ca) W f)) : PW X (.BoolOp .Or [a] pos) (tT (ct X ca) W f) := pw_or1 h
theorem sw_and {a b : Expr} {rest : List Expr} {f g : Ev.T} {pos} (h : PT X a (tT (ct X ca) W f)) (h2 : PW X (.BoolOp .And (b :: rest) pos) (tT (ct X ca) W g)) : PW X (.BoolOp .And (a :: b :: rest) pos) (tT (ct X ca) W (Ev.tAnd f g)) := PW.imp (pw_and h h2) fun σ H Q q => by
  obtain ⟨φ, G, ρ, μ, ok, en, q⟩ := q
  unfold Ev.tAnd at q
  refine ⟨φ, G, ρ, μ, ok, en, post_bind q fun c φ1 G1 H1 x μ1 _ ext ok1 r1 q1 => ?_⟩
  subst r1
  cases c with
  | true => exact ⟨φ1, G1, ρ, μ1, ok1, en.ext ext, q1⟩
  | false => exact post_ok (Rel := rB) q1 ok1 rfl
theorem sw_or {a b : Expr} {rest : List Expr} {f g : Ev.T} {pos} (h : PT X a (tT (ct X ca) W f)) (h2 : PW X (.BoolOp .Or (b :: rest) pos) (tT (ct X ca) W g)) : PW X (.BoolOp .Or (a :: b :: rest) pos) (tT (ct X ca) W (Ev.tOr f g)) := PW.imp (pw_or h h2) fun σ H Q q => by
  obtain ⟨φ, G, ρ, μ, ok, en, q⟩ := q
  unfold Ev.tOr at q
  refine ⟨φ, G, ρ, μ, ok, en, post_bind q fun c φ1 G1 H1 x μ1 _ ext ok1 r1 q1 => ?_⟩
  subst r1
  cases c with
  | false => exact ⟨φ1, G1, ρ, μ1, ok1, en.ext ext, q1⟩
  | true => exact post_ok (Rel := rB) q1 ok1 rfl
theorem st_not {a : Expr} {f : Ev.T} {pos} (h : PT X a (tT (ct X ca) W f)) : PT X (.UnaryOp .Not a pos) (tT (ct X ca) W (Ev.tNot f)) := PT.imp (pt_not h) fun σ H Q q => by
  obtain ⟨φ, G, ρ, μ, ok, en, q⟩ := q
  unfold Ev.tNot at q
  refine ⟨φ, G, ρ, μ, ok, en, post_bind q fun c φ1 G1 H1 x μ1 _ ext ok1 r1 q1 => ?_⟩
  subst r1
  exact post_ok (Rel := rB) q1 ok1 rfl
theorem st_ch {op op' : CmpOp} {f g : Ev.R → Ev.R → Option Bool} {a b c : Expr} {fa fb fc : Ev.E} {pos : Pos} (ho : OpR X (compareOp op) (rC (ct X ca) f)) (ho' : OpR X (compareOp op') (rC (ct X ca) g)) (ha : PE X a (tV (ct X ca) W fa)) (hb : PE X b (tV (ct X ca) W fb)) (hc : PE X c (tV (ct X ca) W fc))
    (hm : lastMarks [op, op'] [b, c] = false := by with_unfolding_all rfl) : PT X (.Compare a [op, op'] [b, c] pos) (tT (ct X ca) W (Ev.tCh f g fa fb fc)) := PT.imp (pt_chain ho ho' ha hb hc hm) fun σ H Q q => by
  obtain ⟨φ, G, ρ, μ, ok, en, q⟩ := q
  unfold Ev.tCh at q
  refine ⟨φ, G, ρ, μ, ok, en, post_bind q fun v1 φ1 G1 H1 x μ1 _ ext ok1 r1 q1 => ?_⟩
  refine ⟨φ1, G1, ρ, μ1, ok1, en.ext ext, post_bind q1 fun v2 φ2 G2 H2 y μ2 _ ext2 ok2 r2 q2 => ?_⟩
  cases e : f (Ev.vw μ2 x) (Ev.vw μ2 y) with
  | none => rw [e] at q2; exact q2.elim
  | some z =>
    rw [e] at q2
    refine ⟨φ2, G2, μ2, _, _, z, ok2, (r1.ext ext2).vw ok2, r2.vw ok2, e, z, rfl, ?_⟩
    cases z with
    | false => exact ⟨false, rfl, post_ok (Rel := rB) q2 ok2 rfl⟩
    | true =>
      refine ⟨φ2, G2, ρ, μ2, ok2, (en.ext ext).ext ext2, post_bind (show post (ct X ca) (WE W σ) φ2 G2 H2 ((fc ρ μ2).bind fun z μ => Ev.lift (g (Ev.vw μ y) (Ev.vw μ z)) μ) rB Q from q2) fun v3 φ3 G3 H3 w μ3 _ ext3 ok3 r3 q3 => ?_⟩
      obtain ⟨b, e3, q3⟩ := post_lift q3
      exact ⟨φ3, G3, μ3, _, _, b, ok3, (r2.ext ext3).vw ok3, r3.vw ok3, e3, b, rfl, post_ok (Rel := rB) q3 ok3 rfl⟩
theorem se_ch {op op' : CmpOp} {f g : Ev.R → Ev.R → Option Bool} {a b c : Expr} {fa fb fc : Ev.E} {pos : Pos} (ho : OpR X (compareOp op) (rC (ct X ca) f)) (ho' : OpR X (compareOp op') (rC (ct X ca) g)) (ha : PE X a (tV (ct X ca) W fa)) (hb : PE X b (tV (ct X ca) W fb)) (hc : PE X c (tV (ct X ca) W fc))
    (hm : lastMarks [op, op'] [b, c] = false := by with_unfolding_all rfl) : PE X (.Compare a [op, op'] [b, c] pos) (tE (ct X ca) W (Ev.eT (Ev.tCh f g fa fb fc))) := PE.imp (pe_chain ho ho' ha hb hc hm) fun σ H Q q => by
  obtain ⟨φ, G, ρ, μ, ok, en, q⟩ := q
  unfold Ev.eT Ev.tCh at q
  simp only [Ev.bind_assoc] at q
  refine ⟨φ, G, ρ, μ, ok, en, post_bind q fun v1 φ1 G1 H1 x μ1 _ ext ok1 r1 q1 => ?_⟩
  refine ⟨φ1, G1, ρ, μ1, ok1, en.ext ext, post_bind q1 fun v2 φ2 G2 H2 y μ2 _ ext2 ok2 r2 q2 => ?_⟩
  cases e : f (Ev.vw μ2 x) (Ev.vw μ2 y) with
  | none => rw [e] at q2; exact q2.elim
  | some z =>
    rw [e] at q2
    refine ⟨φ2, G2, μ2, _, _, z, ok2, (r1.ext ext2).vw ok2, r2.vw ok2, e, z, rfl, ?_⟩
    cases z with
    | false => exact post_ok q2 ok2 (.d (.bl false))
    | true =>
      have q2 : post (ct X ca) (WE W σ) φ2 G2 H2 (((fc ρ μ2).bind fun z μ => Ev.lift (g (Ev.vw μ y) (Ev.vw μ z)) μ).bind fun b μ => .ok (.d (.bl b)) μ) (rRR (ct X ca)) Q := q2
      rw [Ev.bind_assoc] at q2
      refine ⟨φ2, G2, ρ, μ2, ok2, (en.ext ext).ext ext2, post_bind q2 fun v3 φ3 G3 H3 w μ3 _ ext3 ok3 r3 q3 => ?_⟩
      cases e3 : g (Ev.vw μ3 y) (Ev.vw μ3 w) with
      | none => rw [e3] at q3; exact q3.elim
      | some b =>
        rw [e3] at q3
        exact ⟨φ3, G3, μ3, _, _, b, ok3, (r2.ext ext3).vw ok3, r3.vw ok3, e3, post_ok q3 ok3 (.d (.bl b))⟩
end
end EvS
end

section
set_option maxHeartbeats 0
set_option Elab.async false
set_option linter.all false
set_option maxRecDepth 100000
/-! EvCall: defs of the module, called; a def's body keeps the evaluator's promise; the law's own call. -/
namespace EvS
open PySem PySem.Spec PyProof.Rows L2

/-- a def's promise, told of arounds in which no repr is under way -/
structure FnG (P : Program) (w : World) (K : PySem.W.Frag) (mg : Str → Option Value) (base : Heap) (k : Nat) (f : Addr) (fd : FuncData) (ps : List Str) (sp : Sp) : Prop where
  len : ∀ vs H Q E, sp vs H Q E → vs.length = ps.length
  go : ∀ (A : Around) (out : List Env) (s : Shared) (H : Hp) (args : Args) (us : List Value) (vs : List V) (Q : VK) (E : XK), RoomG k A → Env0 P w K mg base A out s H → BindsTo s fd args (ps.zip us) → Vals vs us → sp vs H Q E →
    codeAny (model P w) A (.call (.ref f) args) (CR (CX P w) out P w H s Q E) s
section
variable {X : Cx} {W : WX} {ca : Cn} {k : Nat}
theorem run_g {pins : List (Addr × Obj)} {σ : L2.St} {H : Hp} {s : Shared} {Q : VK} {us : List Value} {vs : List V} {f : Addr} {fd : FuncData} {ps : List Str} {sp : Sp} (F : FnG X.prog X.w X.K X.mg X.base k f fd ps sp) (hr : RoomG k X.A) (tk : Takes X W)
    (hb : Binds X.K fd ps []) (I : Inv X pins σ H s) (r : Vals vs us) (h : sp vs H Q (WE W σ)) : wpAny (model X.prog X.w) X.A (call (.ref f) us) (EP X pins σ Q) X.xe s := by
  have hl : us.length = ps.length := r.length.symm.trans (F.len _ _ _ _ h)
  have bt : BindsTo s fd ⟨us, []⟩ (ps.zip us) := by
    have q := hb s us I.kIn ((List.append_nil us).symm ▸ hl)
    rwa [List.append_nil] at q
  refine wpAny_call (codeAny_mono (F.go X.A X.stack s H ⟨us, []⟩ us vs Q (WE W σ) hr I.env0 bt r h) fun res s2 hq => ?_)
  match res, hq with
  | .error e, hq => exact passAt tk σ pins H s e s2 I hq
  | .ok (.ret u), hq => exact I.after hq

/-- what the evaluator's def c promises -/
def spF (Γ : Ct) (np : Nat) (c : List Ev.R → Ev.Mem → Ev.Out Ev.R) : Sp := fun vs H Q E => ∃ φ G rs μ, Ok Γ φ G H μ ∧ RRs Γ φ G vs rs ∧ rs.length = np ∧ post Γ E φ G H (c rs μ) (rRR Γ) Q
/-- a def of the module, as a callee: where it stands -/
structure Callee (X : Cx) (ca : Cn) (k : Nat) (C : Ev.Fn) (f : String) (np : Nat) : Prop where
  at_ : ∃ (a : Addr) (fd : FuncData) (ps : List Str), ps.length = np ∧ X.mg (Str.ofString f) = some (.ref a) ∧ PySem.W.keepIn X.K (.ref a) = true ∧ Binds X.K fd ps [] ∧ FnG X.prog X.w X.K X.mg X.base k a fd ps (spF (ct X ca) np (C f))
theorem se_call {C : Ev.Fn} {f : String} {np : Nat} {x : Str} {p pos : Pos} {e : Expr} {es : List Expr} {fs : List Ev.E} (F : Callee X ca k C f np) (xs : XS X W k) (hx : x = Str.ofString f) (hg : Gl X x) (ha : PA X (e :: es) (tA (ct X ca) W fs)) (hn : fs.length = np)
    (hdb : (x == ("__debug__" : Str)) = false := by decide) (he : starEach (e :: es) X.env = (false, eval e X.env) :: starEach es X.env := by rfl) (hpl : (backTo pos (starEach es X.env)).any (·.1) = false := by rfl) :
    PE X (.Call (.Name x p) (e :: es) [] pos) (tE (ct X ca) W (Ev.eCall C f fs)) := by
  obtain ⟨a, fd, ps, hps, hm, hk, hb, G⟩ := F.at_
  refine ⟨fun pins s σ H Q I q => ?_⟩
  subst hx
  refine wpAny_Call_Name_kw (ld_glob I hg hm ?_ hdb)
  refine PySem.W.callWith_K (h₀ := X.base) I.ok.mod.kin hk (thn (ha.run pos pins s σ H (fun vs H1 => spF (ct X ca) np (C f) vs H1 Q (WE W σ)) I ?_) fun us s1 ⟨vs, H1, I1, r, q⟩ => ⟨I1.kIn, run_g G xs.room xs.tk hb I1 r q⟩) he hpl
  obtain ⟨φ, G1, ρ, μ, ok, en, q⟩ := q
  unfold Ev.eCall at q
  refine ⟨φ, G1, ρ, μ, ok, en, post_bind (Rel1 := rRRs (ct X ca)) (show post (ct X ca) (WE W σ) φ G1 H ((Ev.evs fs ρ μ).bind fun rs μ => C f rs μ) (rRR _) Q from q) fun vs φ2 G2 H2 rs μ2 e2 ext ok2 r2 q2 => ?_⟩
  exact ⟨φ2, G2, rs, μ2, ok2, r2, (Ev.evs_len e2).trans hn, q2⟩
/-- a def without parameters -/
theorem se_call0 {C : Ev.Fn} {f : String} {x : Str} {p pos : Pos} (F : Callee X ca k C f 0) (xs : XS X W k) (hx : x = Str.ofString f) (hg : Gl X x) (hdb : (x == ("__debug__" : Str)) = false := by decide) :
    PE X (.Call (.Name x p) [] [] pos) (tE (ct X ca) W (Ev.eCall C f [])) := by
  obtain ⟨a, fd, ps, hps, hm, hk, hb, G⟩ := F.at_
  refine ⟨fun pins s σ H Q I q => ?_⟩
  subst hx
  refine wpAny_Call_Name_kw (ld_glob I hg hm ?_ hdb)
  obtain ⟨φ, G1, ρ, μ, ok, en, q⟩ := q
  unfold Ev.eCall at q
  exact PySem.W.callWith_K0 I.kIn hk (run_g (us := []) G xs.room xs.tk hb I .nil ⟨φ, G1, [], μ, ok, .nil, rfl, q⟩)
end

/-! ### a def's body -/
/-- the entry of a def: what the caller knows -/
structure En where
  φ : List Addr
  G : Hp
  H : Hp
/-- what the frame owns came behind the entry -/
def Fresh (H0 : Hp) (σ : L2.St) (ρ : Ev.Env) : Prop := ∀ (i : Nat) (s : Ev.Sl) (a : Addr), ρ[i]? = some s → isOwn s = true → σ[i]? = some (some (V.ref a)) → H0 a = none
/-- the state of a def's body -/
structure BS (Γ : Ct) (e : En) (φ : List Addr) (G H : Hp) (σ : L2.St) (ρ : Ev.Env) (μ : Ev.Mem) : Prop where
  ext : Ext e.φ e.G e.H φ G H
  ok : Ok Γ φ G H μ
  en : EnvR Γ φ G H σ ρ
  fr : Fresh e.H σ ρ
/-- what stays, stays -/
structure Lq (φ : List Addr) (G : Hp) (φ' : List Addr) (G' : Hp) : Prop where
  g : Same G G'
  ix : ∀ (n : Nat) (c : Addr), φ[n]? = some c → φ'[n]? = some c
theorem Lq.refl {φ : List Addr} {G : Hp} : Lq φ G φ G := ⟨Same.refl _, fun _ _ h => h⟩
theorem Lq.trans {φ φ1 φ2 : List Addr} {G G1 G2 : Hp} (a : Lq φ G φ1 G1) (b : Lq φ1 G1 φ2 G2) : Lq φ G φ2 G2 := ⟨a.g.trans b.g, fun n c h => b.ix n c (a.ix n c h)⟩
theorem Ext.lq {φ φ' : List Addr} {G G' H H' : Hp} (a : Ext φ G H φ' G' H') : Lq φ G φ' G' := ⟨a.g, a.ix⟩
def postS (Γ : Ct) (W : WX) (e : En) (φ : List Addr) (G : Hp) (σ0 : L2.St) (o : Ev.Out Ev.Fl) (D : Ends) : Prop := match o with
  | .ok (.nx ρ) μ => ∀ σ φ' G' H, BS Γ e φ' G' H σ ρ μ → Lq φ G φ' G' → D.nx σ H
  | .ok (.bk ρ) μ => ∀ σ φ' G' H, BS Γ e φ' G' H σ ρ μ → Lq φ G φ' G' → D.bk σ H
  | .ok (.ct ρ) μ => ∀ σ φ' G' H, BS Γ e φ' G' H σ ρ μ → Lq φ G φ' G' → D.ct σ H
  | .ok (.rt r) μ => ∀ v φ G H, Ext e.φ e.G e.H φ G H → Ok Γ φ G H μ → RR Γ φ G v r → D.rt v H
  | .exn x μ => ∀ c od φ G H, Ext e.φ e.G e.H φ G H → Ok Γ φ G H μ → ExR Γ φ G H c od x → W c od σ0 H
  | .no => False
/-- a statement, a block. (In a def without a try the wish about exceptions does not look at the slots: hW) -/
def tS (Γ : Ct) (W : WX) (e : En) (f : Ev.S) : TS := fun D σ H => ∃ φ G ρ μ, BS Γ e φ G H σ ρ μ ∧ postS Γ W e φ G σ (f ρ μ) D

section
variable {Γ : Ct} {φ ψ : List Addr} {G : Hp} {m : Nat}
mutual
theorem RR.down (hm : φ.length = m) : ∀ {v : V} {r : Ev.R}, Ev.okR m r = true → RR Γ (φ ++ ψ) G v r → RR Γ φ G v r
  | _, _, _, .d h => .d h
  | _, .p n, o, .p h => by
    have hn : n < m := by simpa [Ev.okR] using o
    rw [List.getElem?_append_left (by omega)] at h
    exact .p h
  | _, _, o, .dic h h2 => .dic h (RKs.down hm (by simpa [Ev.okR] using o) h2)
  | _, _, o, .ins h h1 h2 => .ins h h1 (RFs.down hm (by simpa [Ev.okR] using o) h2)
  | _, _, o, .ls h h2 => .ls h (RRs.down hm (by simpa [Ev.okR] using o) h2)
  | _, _, _, .scr h => .scr h
  | _, _, _, .rep => .rep
theorem RRs.down (hm : φ.length = m) : ∀ {v : List V} {r : List Ev.R}, Ev.okRs m r = true → RRs Γ (φ ++ ψ) G v r → RRs Γ φ G v r
  | _, _, _, .nil => .nil
  | _, _, o, .cons h h2 => by
    simp only [Ev.okRs, Bool.and_eq_true] at o
    exact .cons (RR.down hm o.1 h) (RRs.down hm o.2 h2)
theorem RKs.down (hm : φ.length = m) : ∀ {v : List (Key × V)} {r : List (Ev.Ky × Ev.R)}, Ev.okKs m r = true → RKs Γ (φ ++ ψ) G v r → RKs Γ φ G v r
  | _, _, _, .nil => .nil
  | _, _, o, .cons h h2 => by
    simp only [Ev.okKs, Bool.and_eq_true] at o
    exact .cons (RR.down hm o.1 h) (RKs.down hm o.2 h2)
theorem RFs.down (hm : φ.length = m) : ∀ {v : List (Str × V)} {r : List (String × Ev.R)}, Ev.okFs m r = true → RFs Γ (φ ++ ψ) G v r → RFs Γ φ G v r
  | _, _, _, .nil => .nil
  | _, _, o, .cons h h2 => by
    simp only [Ev.okFs, Bool.and_eq_true] at o
    exact .cons (RR.down hm o.1 h) (RFs.down hm o.2 h2)
end
end
/-- the cells beyond m go -/
theorem Ok.cut {Γ : Ct} {φ ψ : List Addr} {G H : Hp} {μ : Ev.Mem} {m : Nat} (k : Ok Γ (φ ++ ψ) G H μ) (hm : φ.length = m) (hc : (μ.take m).all (Ev.okCell m) = true) : Ok Γ φ G H (μ.take m) := by
  have hlen := k.len
  rw [List.length_append] at hlen
  refine ⟨k.le, (List.nodup_append.mp k.nd).1, by rw [List.length_take]; omega, fun a ha => k.fre a (List.mem_append_left _ ha), fun a ha => k.thr a (List.mem_append_left _ ha), fun n a c h1 h2 => ?_, fun p hp => let ⟨h1, h2, h3⟩ := k.tb p hp; ⟨h1, fun z => h2 (List.mem_append_left _ z), h3⟩⟩
  have hn : n < φ.length := (List.getElem?_eq_some_iff.mp h1).1
  have h1' : (φ ++ ψ)[n]? = some a := by rw [List.getElem?_append_left hn]; exact h1
  have h2' : μ[n]? = some c := by rw [List.getElem?_take_of_lt (by omega)] at h2; exact h2
  have hcell := k.cell n a c h1' h2'
  have hok := List.all_eq_true.mp hc c (List.mem_of_getElem? h2)
  cases hcell with
  | lst a1 a2 => exact .lst a1 a2
  | dead => exact .dead
  | dic a1 a2 => exact .dic a1 (RKs.down hm (by simpa [Ev.okCell] using hok) a2)
  | ins a1 a2 a3 => exact .ins a1 a2 (RFs.down hm (by simpa [Ev.okCell] using hok) a3)
theorem Ext.cut {φ φ' : List Addr} {G G' H H' : Hp} (a : Ext φ G H φ' G' H') : Ext φ G H φ G' H' := ⟨a.g, a.gn, ⟨[], by simp, by simp⟩, a.f⟩
/-- the end of a def -/
theorem post_fin {Γ : Ct} {E : XK} {φ φ' : List Addr} {G G' H H' : Hp} {μ μ' : Ev.Mem} {r : Ev.R} {v : V} {Q : VK} (k0 : φ.length = μ.length) (h : post Γ E φ G H (Ev.fin μ.length r μ') (rRR Γ) Q) (ext : Ext φ G H φ' G' H') (ok : Ok Γ φ' G' H' μ') (hr : RR Γ φ' G' v r) : Q v H' := by
  unfold Ev.fin at h
  split at h
  · exact h v φ' G' H' ext ok hr
  · split at h
    · rename_i hc
      simp only [Bool.and_eq_true] at hc
      obtain ⟨ψ, e, _⟩ := ext.p
      subst e
      exact h v φ G' H' ext.cut (ok.cut k0 hc.2) (RR.down k0 hc.1 hr)
    · exact h.elim
theorem start_env {Γ : Ct} {φ : List Addr} {G H : Hp} {N : List Str} {vs : List V} {rs : List Ev.R} {nl : Nat} (h : RRs Γ φ G vs rs) (hl : N.length = nl) : EnvR Γ φ G H (L2.start N vs) (rs.map .v ++ List.replicate (nl - rs.length) .un) := by
  have hlen := h.len
  subst hl
  have noown : ∀ (i : Nat) (s : Ev.Sl), (rs.map Ev.Sl.v ++ List.replicate (N.length - rs.length) Ev.Sl.un)[i]? = some s → isOwn s = false := fun i s e => by
    have hm := List.mem_of_getElem? e
    rcases List.mem_append.mp hm with z | z
    · obtain ⟨r, _, e2⟩ := List.mem_map.mp z
      rw [← e2]; rfl
    · rw [(List.mem_replicate.mp z).2]; rfl
  refine ⟨by unfold L2.start; simp [hlen], fun i s e => ?_, fun i j a s t e1 _ o1 _ _ _ => by rw [noown i s e1] at o1; cases o1⟩
  unfold L2.start
  by_cases hi : i < rs.length
  · rw [List.getElem?_append_left (by simpa using hi), List.getElem?_map] at e
    obtain ⟨r, hr, e2⟩ := Option.map_eq_some_iff.mp e
    subst e2
    obtain ⟨v, hv, rv⟩ := h.get hr
    refine ⟨some v, ?_, .v rv⟩
    rw [List.getElem?_append_left (by simpa [hlen] using hi), List.getElem?_map, hv]
    rfl
  · rw [List.getElem?_append_right (by simpa using hi)] at e
    rw [List.length_map] at e
    have e3 := List.getElem?_replicate (a := Ev.Sl.un) (n := N.length - rs.length) (i := i - rs.length)
    rw [e] at e3
    split at e3
    · cases e3
      rename_i hk
      refine ⟨none, ?_, .un⟩
      rw [List.getElem?_append_right (by simpa [hlen] using hi), List.length_map, List.getElem?_replicate, hlen, if_pos hk]
    · cases e3
/-- a def of the text keeps the promise of its body -/
theorem fn_body {P : Program} {w : World} {K : PySem.W.Frag} {mg : Str → Option Value} {base : Heap} {k np nl : Nat} {ca : Cn} {f : Addr} {name qual : Str} {params : Arguments} {body : List Stmt} {scope : Scope} {dV kV doc pm cdv ct0 oc : Value} {an od : Option Addr}
    {osl : Array (Option Value)} {N ps : List Str} {b : Ev.S} (lk : K.lookup f = some ⟨oc, od, .func (PySem.W.fnOf name qual params body scope dV kV doc pm an cdv ct0), osl⟩) (hcd : PySem.W.codeIn K cdv qual = true) (S : FnScope N ps scope)
    (hnp : ps.length = np) (hnl : N.length = nl)
    (hb : ∀ (A : Around) (out : List Env) (s : Shared) (H : Hp) (E : XK) (e : En), XS (cxOf (CX P w) P w K mg base N qual scope f cdv A out s H E) (fun c d _ H => E c d H) k → Slk (cxOf (CX P w) P w K mg base N qual scope f cdv A out s H E) k →
      PSs (cxOf (CX P w) P w K mg base N qual scope f cdv A out s H E) body (tS ⟨K, ca⟩ (fun c d _ H => E c d H) e b)) :
    FnG P w K mg base (k + 1) f (PySem.W.fnOf name qual params body scope dV kV doc pm an cdv ct0) ps (spF ⟨K, ca⟩ np (Ev.runB nl b)) := by
  have hlen : ∀ vs H Q E, spF ⟨K, ca⟩ np (Ev.runB nl b) vs H Q E → vs.length = ps.length := fun vs H Q E q => by
    obtain ⟨φ, G, rs, μ, ok, r, h1, _⟩ := q
    rw [r.len, h1, hnp]
  refine ⟨hlen, fun A out s H args us vs Q E hr e0 hbt r hsp => ?_⟩
  have hl := hlen _ _ _ _ hsp
  have KX : K.In s.heap := e0.mod.kin.keeps fun b o e => (e0.bs b o e).1
  have hkind : ∀ y ∈ ps.zip us, scope.names.lookup y.1 = some .local ∨ (scope.names.lookup y.1 = some .cell ∧ ((cellsFrom (s.heap.objs.size + 1) scope.names []).lookup y.1).isSome = true) := by
    rintro ⟨n, v⟩ hy
    exact (S.par n (List.of_mem_zip hy).1).imp id fun q => ⟨q, PySem.W.cellsFrom_some _ _ _ (.inl q)⟩
  refine codeAny_call_function hr.r.depth (KX _ _ lk) rfl S.co S.gen rfl (PySem.W.codeRec_of KX hcd) (hbt _ _ _ _ ?_)
  refine wpAny_newFunctionEnv_cells S.kind hkind fun env he s1 x => ?_
  subst he
  have lim : s.heap.NoLimit := e0.mod.nolimit.keeps fun b o e => (e0.bs b o e).1
  refine ⟨lim.keeps x.toInCall.keep, codeAny_func ?_⟩
  have I : Inv (cxOf (CX P w) P w K mg base N qual scope f cdv A out s H E) [] (L2.start N vs) H s1 := inv_start S hr.r.hd e0 hl r x
  obtain ⟨φ, G, rs, μ, ok, rr, h1, h2⟩ := hsp
  have xs : XS (cxOf (CX P w) P w K mg base N qual scope f cdv A out s H E) (fun c d _ H => E c d H) k :=
    ⟨rfl, S.nd, ⟨hr.r.deeper _, hr.g⟩, takes_of rfl rfl rfl rfl, passes_of rfl, fun _ _ _ _ _ h => h⟩
  have sl : Slk (cxOf (CX P w) P w K mg base N qual scope f cdv A out s H E) k := by
    have h1 := hr.r.dp
    have h2 := hr.r.un
    exact ⟨by show A.depth + 1 + 3 * k + 7 < _; omega, by show A.units + 3 + 16 * k + 213 < _; omega⟩
  have ht := hb A out s H E ⟨φ, G, H⟩ xs sl
  refine wpAny_mono (ht.run [] s1 (L2.start N vs) H { nx := fun _ H' => Q .non H', rt := Q } I ?_) (fun fl s2 hs => ?_) fun e s2 hs => hs
  · refine ⟨φ, G, _, μ, ⟨Ext.refl, ok, start_env rr hnl, fun i s a e o _ => ?_⟩, ?_⟩
    · exfalso
      have hm := List.mem_of_getElem? e
      rcases List.mem_append.mp hm with z | z
      · obtain ⟨r, _, e2⟩ := List.mem_map.mp z
        rw [← e2] at o; cases o
      · rw [(List.mem_replicate.mp z).2] at o; cases o
    · unfold Ev.runB at h2
      generalize b (rs.map .v ++ List.replicate (nl - rs.length) .un) μ = o at h2
      cases o with
      | no => exact h2
      | exn x μ1 => exact h2
      | ok fl μ1 =>
        cases fl with
        | nx ρ => exact fun σ φ' G' H' bs _ => post_fin (v := .non) ok.len h2 bs.ext bs.ok (.d .non)
        | rt r => exact fun v φ' G' H' ext ok' hr => post_fin ok.len h2 ext ok' hr
        | bk ρ => exact h2.elim
        | ct ρ => exact h2.elim
  · have fin : ∀ {σ' : L2.St} {H' : Hp} {v : V} {u : Value}, Inv (cxOf (CX P w) P w K mg base N qual scope f cdv A out s H E) [] σ' H' s2 → RelV v u → Q v H' → CE out P w H s Q u s2 :=
      fun J rv q => ⟨_, _, J.os, J.bare, J.base, J.hok, rv, q⟩
    match fl, hs with
    | .ret u, ⟨v, σ', H', J, rv, q⟩ => exact fin J rv q
    | .next, ⟨σ', H', J, q⟩ => exact fin (v := V.non) (u := Value.none) J rfl q
    | .brk, ⟨_, _, _, q⟩ => exact q.elim
    | .cont, ⟨_, _, _, q⟩ => exact q.elim
end EvS
end

section
set_option maxHeartbeats 0
set_option Elab.async false
set_option linter.all false
set_option maxRecDepth 100000
/-! EvBi: truth, and/or/not, the built-ins, repr, dicts. -/
namespace EvS
open PySem PySem.Spec PyProof.Rows L2

/-! ### what repr writes -/
theorem len_ofS (s : String) : (Str.ofString s).length = s.length := len_ofString s
theorem strLen_ofString (s : String) : (Str.ofString s).cps.toList.length = s.length := by rw [cps_ofString]; simp [String.length_toList]
theorem cp_small (s : String) : ∀ c ∈ (Str.ofString s).cps.toList, c < 16 ^ 8 := by
  intro c hc
  rw [cps_ofString] at hc
  obtain ⟨a, _, rfl⟩ := List.mem_map.mp hc
  have h := a.valid
  have h2 : a.toNat = a.val.toNat := rfl
  simp only [UInt32.isValidChar, Nat.isValidChar] at h
  omega
mutual
theorem shown_cost : ∀ x : Ev.D, x.cost ≤ Ev.SL → (toPy x).shown.length ≤ x.cost
  | .non, _ => by simp only [toPy, Ev.D.cost]; decide
  | .bl b, _ => by
    simp only [toPy, Ev.D.cost]
    cases b <;> decide
  | .int i, h => by
    simp only [toPy, Ev.D.cost] at h ⊢
    split at h
    · rename_i hi
      rw [if_pos hi]
      exact PyData.shown_int_le hi
    · simp [Ev.SL] at h
  | .str s, _ => by
    simp only [toPy, Ev.D.cost, PyData.shown_str]
    have e := PySem.StrLaws.reprText_len (Str.ofString s) (cp_small s)
    rw [len_ofString] at e
    exact e
  | .tup ds, h => by
    simp only [toPy, Ev.D.cost] at h ⊢
    have h1 := shown_costL ds (by omega)
    have h2 := tupleText_len_le (PyData.shownAll (toPyL ds))
    have h3 := PyData.shownAll_length (toPyL ds)
    simp only [PyData.shown]
    omega
  | .lst ds, h => by
    simp only [toPy, Ev.D.cost] at h ⊢
    have h1 := shown_costL ds (by omega)
    have h2 := listText_len_le (PyData.shownAll (toPyL ds))
    have h3 := PyData.shownAll_length (toPyL ds)
    simp only [PyData.shown]
    omega
theorem shown_costL : ∀ xs : List Ev.D, Ev.D.costL xs ≤ Ev.SL → ((PyData.shownAll (toPyL xs)).map (·.length)).sum + 2 * (toPyL xs).length ≤ Ev.D.costL xs
  | [], _ => by simp [toPyL, PyData.shownAll, Ev.D.costL]
  | x :: xs, h => by
    simp only [Ev.D.costL] at h
    have h1 := shown_cost x (by omega)
    have h2 := shown_costL xs (by omega)
    simp only [toPyL, PyData.shownAll, Ev.D.costL, List.map_cons, List.sum_cons, List.length_cons]
    omega
end
theorem log2_small {n : Nat} (h : n < 1000000000000) : n.log2 < 1920 := by
  by_cases h0 : n = 0
  · subst h0; decide
  · refine (Nat.log2_lt h0).mpr (Nat.lt_trans h ?_)
    exact Nat.lt_of_lt_of_le (show 1000000000000 < 2 ^ 40 by decide) (Nat.pow_le_pow_right (by decide) (by decide))
mutual
theorem showable_cost : ∀ x : Ev.D, x.cost ≤ Ev.SL → (toPy x).showable = true
  | .non, _ => by simp [toPy, PyData.showable]
  | .bl b, _ => by simp [toPy, PyData.showable]
  | .int i, h => by
    simp only [toPy, PyData.showable, decide_eq_true_eq]
    simp only [Ev.D.cost] at h
    split at h
    · rename_i hi; exact log2_small hi
    · simp [Ev.SL] at h
  | .str s, _ => by simp [toPy, PyData.showable]
  | .tup ds, h => by
    simp only [Ev.D.cost] at h
    simp only [toPy, PyData.showable]
    exact showable_costL ds (by omega)
  | .lst ds, h => by
    simp only [Ev.D.cost] at h
    simp only [toPy, PyData.showable]
    exact showable_costL ds (by omega)
theorem showable_costL : ∀ xs : List Ev.D, Ev.D.costL xs ≤ Ev.SL → PyData.showableAll (toPyL xs) = true
  | [], _ => by simp [toPyL, PyData.showableAll]
  | x :: xs, h => by
    simp only [Ev.D.costL] at h
    simp only [toPyL, PyData.showableAll, Bool.and_eq_true]
    exact ⟨showable_cost x (by omega), showable_costL xs (by omega)⟩
end

section
variable {X : Cx} {W : WX} {ca : Cn} {k : Nat}

/-! ### truth -/
theorem isEmpty_len {α β : Type} {xs : List α} {ys : List β} (h : xs.length = ys.length) : xs.isEmpty = ys.isEmpty := by
  cases xs <;> cases ys <;> simp at h ⊢
theorem RKs.len {Γ : Ct} {φ : List Addr} {G : Hp} : ∀ {ks : List (Key × V)} {kvs : List (Ev.Ky × Ev.R)}, RKs Γ φ G ks kvs → ks.length = kvs.length
  | _, _, .nil => rfl
  | _, _, .cons _ h => by simp [RKs.len h]
theorem tru_of {Γ : Ct} {φ : List Addr} {G H : Hp} {v : V} {x : Ev.R} {b : Bool} (h : Vw Γ φ G H v x) (le : Same G H) (e : Ev.truthR x = some b) : TruV Γ.K v H b := by
  cases x with
  | d x =>
    cases x with
    | non => cases e; rw [h.non]; rfl
    | bl c => cases e; rw [h.bl]; rfl
    | int i => cases e; rw [h.int]; rfl
    | str s =>
      simp only [Ev.truthR] at e
      split at e
      · rename_i hz
        cases e
        rw [h.str]
        exact ⟨by rw [len_ofString, ← SL_eq]; exact hz, by rw [len_ofString]⟩
      · cases e
    | tup ds =>
      cases e
      obtain ⟨a, xs, e1, h1, r1⟩ := h.tuple
      subst e1
      exact .inr (.inl ⟨xs, Same.seqT le h1, by rw [isEmpty_len r1.len]⟩)
    | lst ds =>
      cases e
      obtain ⟨a, xs, e1, h1, r1⟩ := h.list le
      subst e1
      exact .inl ⟨xs, .inl (.inl h1), by rw [isEmpty_len r1.len]⟩
  | dic kvs =>
    cases e
    obtain ⟨a, ks, e1, h1, r1⟩ := h.dic le
    subst e1
    exact .inr (.inr ⟨ks, h1, by rw [isEmpty_len r1.len]⟩)
  | ls rs =>
    cases e
    obtain ⟨a, xs, e1, h1, r1⟩ := h.ls le
    subst e1
    exact .inl ⟨xs, .inl (.inl h1), by rw [isEmpty_len r1.len]⟩
  | scr ns =>
    cases e
    obtain ⟨a, e1, h1⟩ := h.scr le
    subst e1
    exact .inl ⟨_, h1, by rw [isEmpty_len (List.length_map _)]⟩
  | p n => cases e
  | ins c fs => cases e
  | rep x => cases e
theorem st_e {a : Expr} {f : Ev.E} (ha : PE X a (tV (ct X ca) W f)) (he : ∀ whole, isTrue a X.env whole = (do let v ← whole; standAt a.pos; holding [v] (truthy v)) := by intro _; rfl) : PT X a (tT (ct X ca) W (Ev.tE f)) :=
  PT.imp (pt_truth ha he) fun σ H Q q => by
    obtain ⟨φ, G, ρ, μ, ok, en, q⟩ := q
    unfold Ev.tE at q
    refine ⟨φ, G, ρ, μ, ok, en, post_bind q fun v1 φ1 G1 H1 x μ1 _ ext ok1 r1 q1 => ?_⟩
    obtain ⟨z, e, q2⟩ := post_lift q1
    exact ⟨z, tru_of (r1.vw ok1) ok1.le e, post_ok q2 ok1 rfl⟩
theorem se_one {op} {a : Expr} {f : Ev.E} {pos : Pos} (h : PE X a (tE (ct X ca) W f)) : PE X (.BoolOp op [a] pos) (tE (ct X ca) W f) := pe_one h
theorem se_and {a b : Expr} {rest : List Expr} {f g : Ev.E} {pos : Pos} (h : PE X a (tE (ct X ca) W f)) (h2 : PE X (.BoolOp .And (b :: rest) pos) (tE (ct X ca) W g)) : PE X (.BoolOp .And (a :: b :: rest) pos) (tE (ct X ca) W (Ev.eAnd f g)) :=
  PE.imp (pe_andT h h2) fun σ H Q q => by
    obtain ⟨φ, G, ρ, μ, ok, en, q⟩ := q
    unfold Ev.eAnd at q
    refine ⟨φ, G, ρ, μ, ok, en, post_bind q fun v1 φ1 G1 H1 x μ1 _ ext ok1 r1 q1 => ?_⟩
    split at q1
    · rename_i e
      exact ⟨true, tru_of (r1.vw ok1) ok1.le e, by rw [if_pos rfl]; exact ⟨φ1, G1, ρ, μ1, ok1, en.ext ext, q1⟩⟩
    · rename_i e
      exact ⟨false, tru_of (r1.vw ok1) ok1.le e, by rw [if_neg (by decide)]; exact post_ok q1 ok1 r1⟩
    · exact q1.elim
theorem se_or {a b : Expr} {rest : List Expr} {f g : Ev.E} {pos : Pos} (h : PE X a (tE (ct X ca) W f)) (h2 : PE X (.BoolOp .Or (b :: rest) pos) (tE (ct X ca) W g)) : PE X (.BoolOp .Or (a :: b :: rest) pos) (tE (ct X ca) W (Ev.eOr f g)) :=
  PE.imp (pe_orT h h2) fun σ H Q q => by
    obtain ⟨φ, G, ρ, μ, ok, en, q⟩ := q
    unfold Ev.eOr at q
    refine ⟨φ, G, ρ, μ, ok, en, post_bind q fun v1 φ1 G1 H1 x μ1 _ ext ok1 r1 q1 => ?_⟩
    split at q1
    · rename_i e
      exact ⟨false, tru_of (r1.vw ok1) ok1.le e, by rw [if_neg (by decide)]; exact ⟨φ1, G1, ρ, μ1, ok1, en.ext ext, q1⟩⟩
    · rename_i e
      exact ⟨true, tru_of (r1.vw ok1) ok1.le e, by rw [if_pos rfl]; exact post_ok q1 ok1 r1⟩
    · exact q1.elim
theorem se_not {a : Expr} {f : Ev.E} {pos : Pos} (h : PE X a (tE (ct X ca) W f)) : PE X (.UnaryOp .Not a pos) (tE (ct X ca) W (Ev.eNot f)) :=
  PE.imp (pe_notT h) fun σ H Q q => by
    obtain ⟨φ, G, ρ, μ, ok, en, q⟩ := q
    unfold Ev.eNot at q
    refine ⟨φ, G, ρ, μ, ok, en, post_bind q fun v1 φ1 G1 H1 x μ1 _ ext ok1 r1 q1 => ?_⟩
    cases e : Ev.truthR (Ev.vw μ1 x) with
    | none => rw [e] at q1; exact q1.elim
    | some b => rw [e] at q1; exact ⟨b, tru_of (r1.vw ok1) ok1.le e, post_ok q1 ok1 (.d (.bl (!b)))⟩
theorem se_if {c a b : Expr} {t : Ev.T} {f g : Ev.E} {pos : Pos} (hc : PT X c (tT (ct X ca) W t)) (ha : PE X a (tE (ct X ca) W f)) (hb : PE X b (tE (ct X ca) W g)) : PE X (.IfExp c a b pos) (tE (ct X ca) W (Ev.eIf t f g)) :=
  PE.imp (pe_ifExp hc ha hb) fun σ H Q q => by
    obtain ⟨φ, G, ρ, μ, ok, en, q⟩ := q
    unfold Ev.eIf at q
    refine ⟨φ, G, ρ, μ, ok, en, post_bind q fun v1 φ1 G1 H1 x μ1 _ ext ok1 r1 q1 => ?_⟩
    cases r1
    cases v1 with
    | true => rw [if_pos rfl] at q1 ⊢; exact ⟨φ1, G1, ρ, μ1, ok1, en.ext ext, q1⟩
    | false => rw [if_neg (by decide)] at q1 ⊢; exact ⟨φ1, G1, ρ, μ1, ok1, en.ext ext, q1⟩
theorem se_neg {a : Expr} {f : Ev.E} {pos : Pos} (h : PE X a (tE (ct X ca) W f)) : PE X (.UnaryOp .USub a pos) (tE (ct X ca) W (Ev.eNeg f)) :=
  PE.imp (pe_un un_neg h) fun σ H Q q => by
    obtain ⟨φ, G, ρ, μ, ok, en, q⟩ := q
    unfold Ev.eNeg at q
    refine ⟨φ, G, ρ, μ, ok, en, post_bind q fun v1 φ1 G1 H1 x μ1 _ ext ok1 r1 q1 => ?_⟩
    split at q1
    · exact ⟨_, r1.int, post_ok q1 ok1 (.d (.int _))⟩
    · exact q1.elim

/-! ### built-ins by values -/
/-- what a built-in gives -/
def rBi (Γ : Ct) (f : List Ev.R → Option Ev.R) : List V → Hp → VK → Prop := fun vs H Q => ∃ φ G μ rs z, Ok Γ φ G H μ ∧ Vws Γ φ G H vs rs ∧ f rs = some z ∧ ∀ r φ' G' H', Ext φ G H φ' G' H' → Ok Γ φ' G' H' μ → RR Γ φ' G' r z → Q r H'
/-- .. a new list -/
def rBiN (Γ : Ct) (f : List Ev.R → Option Ev.R) : List V → Hp → VK → Prop := fun vs H Q => ∃ φ G μ rs z, Ok Γ φ G H μ ∧ Vws Γ φ G H vs rs ∧ f rs = some z ∧ ∀ E, postN Γ E φ G H (.ok z μ) Q
theorem se_bi {e : Expr} {f : List Ev.R → Option Ev.R} {fs : List Ev.E} (h : PE X e (tCB (rBi (ct X ca) f) (tAV (ct X ca) W fs))) : PE X e (tE (ct X ca) W (Ev.eBi f fs)) := PE.imp h fun σ H Q q => by
  obtain ⟨φ, G, ρ, μ, ok, en, q⟩ := q
  unfold Ev.eBi at q
  refine ⟨φ, G, ρ, μ, ok, en, post_bind q fun v1 φ1 G1 H1 x μ1 _ ext ok1 r1 q1 => ?_⟩
  obtain ⟨z, e, q2⟩ := post_lift q1
  exact ⟨φ1, G1, μ1, _, z, ok1, PVs.vws ok1 r1, e, q2⟩
theorem sn_bi {e : Expr} {f : List Ev.R → Option Ev.R} {fs : List Ev.E} (h : PE X e (tCB (rBiN (ct X ca) f) (tAV (ct X ca) W fs))) : PE X e (tN (ct X ca) W (Ev.eBi f fs)) := PE.imp h fun σ H Q q => by
  obtain ⟨φ, G, ρ, μ, ok, en, q⟩ := q
  unfold Ev.eBi at q
  refine ⟨φ, G, ρ, μ, ok, en, postN_bind q fun v1 φ1 G1 H1 x μ1 _ ext ok1 r1 q1 => ?_⟩
  cases e : f (x.map (Ev.vw μ1)) with
  | none => rw [e] at q1; exact q1.elim
  | some z =>
    rw [e] at q1
    refine ⟨φ1, G1, μ1, _, z, ok1, PVs.vws ok1 r1, e, fun E => ?_⟩
    have q1 : ∀ a φ' G' H', Ext φ1 G1 H1 φ' G' H' → Ok (ct X ca) φ' G' H' μ1 → H1 a = none → G' a = none → a ∉ φ' → Nw (ct X ca) φ' G' H' a z → Q (.ref a) H' := q1
    exact q1
theorem Vws.one {Γ : Ct} {φ : List Addr} {G H : Hp} {vs : List V} {r : Ev.R} (h : Vws Γ φ G H vs [r]) : ∃ v, vs = [v] ∧ Vw Γ φ G H v r := by
  cases h with
  | cons a b => cases b; exact ⟨_, rfl, a⟩
theorem Vws.two {Γ : Ct} {φ : List Addr} {G H : Hp} {vs : List V} {r s : Ev.R} (h : Vws Γ φ G H vs [r, s]) : ∃ v w, vs = [v, w] ∧ Vw Γ φ G H v r ∧ Vw Γ φ G H w s := by
  cases h with
  | cons a b =>
    cases b with
    | cons c d => cases d; exact ⟨_, _, rfl, a, c⟩
theorem cb_len : CallR X (.builtin "len") (rBi (ct X ca) Ev.lenR) := by
  intro pins s σ H vs us Q I rs h
  obtain ⟨φ, G, μ, xs, z, ok, r, e, q⟩ := h
  unfold Ev.lenR at e
  have fin : ∀ n : Nat, Q (.int n) H ↔ Q (.int (n : Int)) H := fun n => Iff.rfl
  split at e
  · cases e
    obtain ⟨v, e1, r1⟩ := r.one
    obtain ⟨a, ys, e2, h2, r2⟩ := r1.tuple
    subst e1 e2
    refine call_len pins s σ H _ us Q I rs ⟨_, _, rfl, .inr ⟨ys, Same.seqT ok.le h2, rfl⟩, ?_⟩
    rw [r2.len]
    exact q _ φ G H Ext.refl ok (.d (.int _))
  · cases e
    obtain ⟨v, e1, r1⟩ := r.one
    obtain ⟨a, ys, e2, h2, r2⟩ := r1.list ok.le
    subst e1 e2
    refine call_len pins s σ H _ us Q I rs ⟨_, _, rfl, .inl ⟨ys, .inl (.inl h2), rfl⟩, ?_⟩
    rw [r2.len]
    exact q _ φ G H Ext.refl ok (.d (.int _))
  · cases e
    obtain ⟨v, e1, r1⟩ := r.one
    obtain ⟨a, ys, e2, h2, r2⟩ := r1.ls ok.le
    subst e1 e2
    refine call_len pins s σ H _ us Q I rs ⟨_, _, rfl, .inl ⟨ys, .inl (.inl h2), rfl⟩, ?_⟩
    rw [r2.len]
    exact q _ φ G H Ext.refl ok (.d (.int _))
  · cases e
    obtain ⟨v, e1, r1⟩ := r.one
    obtain ⟨a, e2, h2⟩ := r1.scr ok.le
    subst e1 e2
    refine call_len pins s σ H _ us Q I rs ⟨_, _, rfl, .inl ⟨_, h2, rfl⟩, ?_⟩
    rw [List.length_map]
    exact q _ φ G H Ext.refl ok (.d (.int _))
  · cases e
    obtain ⟨v, e1, r1⟩ := r.one
    obtain ⟨a, ks, e2, h2, r2⟩ := r1.dic ok.le
    subst e1 e2
    refine call_lenD pins s σ H _ us Q I rs ⟨a, ks, rfl, h2, ?_⟩
    rw [r2.len]
    exact q _ φ G H Ext.refl ok (.d (.int _))
  · split at e
    · rename_i hz
      cases e
      obtain ⟨v, e1, r1⟩ := r.one
      have e2 := r1.str
      subst e1 e2
      refine call_len pins s σ H _ us Q I rs ⟨_, _, rfl, ⟨by rw [len_ofString, ← SL_eq]; exact hz, rfl⟩, ?_⟩
      rw [len_ofString]
      exact q _ φ G H Ext.refl ok (.d (.int _))
    · cases e
  · cases e
theorem cb_int : CallR X (.type "int") (rBi (ct X ca) Ev.intR) := by
  intro pins s σ H vs us Q I rs h
  obtain ⟨φ, G, μ, xs, z, ok, r, e, q⟩ := h
  unfold Ev.intR at e
  split at e
  · cases e
    obtain ⟨v, e1, r1⟩ := r.one
    have e2 := r1.int
    subst e1 e2
    exact call_int1 pins s σ H _ us Q I rs (.inl ⟨_, rfl, q _ φ G H Ext.refl ok (.d (.int _))⟩)
  · cases e
    obtain ⟨v, e1, r1⟩ := r.one
    have e2 := r1.bl
    subst e1 e2
    exact call_int1 pins s σ H _ us Q I rs (.inr ⟨_, rfl, q _ φ G H Ext.refl ok (.d (.int _))⟩)
  · cases e
theorem cb_bool : CallR X (.type "bool") (rBi (ct X ca) Ev.boolR) := by
  intro pins s σ H vs us Q I rs h
  obtain ⟨φ, G, μ, xs, z, ok, r, e, q⟩ := h
  unfold Ev.boolR at e
  split at e
  · cases e
    obtain ⟨v, e1, r1⟩ := r.one
    have e2 := r1.int
    subst e1 e2
    exact call_bool1 pins s σ H _ us Q I rs (.inl ⟨_, rfl, q _ φ G H Ext.refl ok (.d (.bl _))⟩)
  · cases e
    obtain ⟨v, e1, r1⟩ := r.one
    have e2 := r1.bl
    subst e1 e2
    exact call_bool1 pins s σ H _ us Q I rs (.inr ⟨_, rfl, q _ φ G H Ext.refl ok (.d (.bl _))⟩)
  · cases e
theorem cb_tuple : CallR X (.type "tuple") (rBi (ct X ca) Ev.tupleR) := by
  intro pins s σ H vs us Q I rs h
  obtain ⟨φ, G, μ, xs, z, ok, r, e, q⟩ := h
  unfold Ev.tupleR at e
  split at e
  · cases e
    obtain ⟨v, e1, r1⟩ := r.one
    obtain ⟨a, ys, e2, h2, r2⟩ := r1.tuple
    subst e1 e2
    exact call_tuple_of pins s σ H _ us Q I rs ⟨a, ys, rfl, .inr ⟨Same.seqT ok.le h2, q _ φ G H Ext.refl ok (.d (.tup h2 r2))⟩⟩
  · cases e
    obtain ⟨v, e1, r1⟩ := r.one
    obtain ⟨a, ys, e2, h2, r2⟩ := r1.list ok.le
    subst e1 e2
    refine call_tuple_of pins s σ H _ us Q I rs ⟨a, ys, rfl, .inl ⟨.inl (.inl h2), fun l hl => ?_⟩⟩
    exact q _ φ _ _ (Ext.new ok hl) (ok.new hl) (.d (.tup (.inl (.inl upd_same)) (r2.mono (same_upd (ok.ng hl)))))
  · cases e
theorem cb_list : CallR X (.type "list") (rBiN (ct X ca) Ev.listR) := by
  intro pins s σ H vs us Q I rs h
  obtain ⟨φ, G, μ, xs, z, ok, r, e, q⟩ := h
  unfold Ev.listR at e
  split at e
  · cases e
    obtain ⟨v, e1, r1⟩ := r.one
    obtain ⟨a, ys, e2, h2, r2⟩ := r1.tuple
    subst e1 e2
    refine call_list_of pins s σ H _ us Q I rs ⟨a, ys, rfl, .inr (Same.seqT ok.le h2), fun l hl => ?_⟩
    have q := q (fun _ _ _ => True)
    rw [← mkL_d] at q
    exact postN_lst q ok hl (RRs.ofD r2)
  · cases e
    obtain ⟨v, e1, r1⟩ := r.one
    obtain ⟨a, ys, e2, h2, r2⟩ := r1.list ok.le
    subst e1 e2
    refine call_list_of pins s σ H _ us Q I rs ⟨a, ys, rfl, .inl (.inl (.inl h2)), fun l hl => ?_⟩
    have q := q (fun _ _ _ => True)
    rw [← mkL_d] at q
    exact postN_lst q ok hl (RRs.ofD r2)
  · cases e
theorem ints_some : ∀ {ds : List Ev.D} {ns : List Int}, Ev.intsD ds = some ns → ds = ns.map .int
  | [], _, h => by cases h; rfl
  | .int i :: ds, ns, h => by
    obtain ⟨ms, e1, e2⟩ := Option.map_eq_some_iff.mp (show (Ev.intsD ds).map _ = some ns from h)
    subst e2
    rw [ints_some e1]; rfl
  | .non :: _, _, h => by cases h
  | .bl _ :: _, _, h => by cases h
  | .str _ :: _, _, h => by cases h
  | .tup _ :: _, _, h => by cases h
  | .lst _ :: _, _, h => by cases h
theorem DRs.intsD {K : PySem.W.Frag} {G : Hp} : ∀ {vs : List V} {ns : List Int}, DRs K G vs (ns.map Ev.D.int) → vs = ns.map V.int
  | _, [], h => by cases h; rfl
  | _, n :: ns, h => by
    cases h with
    | cons a b =>
      cases a
      rw [DRs.intsD b]; rfl
theorem maxI_mem : ∀ (xs : List Int) (x : Int), Ev.maxI x xs ∈ x :: xs
  | [], x => by simp [Ev.maxI]
  | y :: ys, x => by
    have h := maxI_mem ys (if y > x then y else x)
    simp only [Ev.maxI, List.mem_cons] at h ⊢
    split at h <;> rename_i c <;> simp only [c, if_true, if_false] <;> rcases h with h | h <;> simp [h]
theorem maxI_ge : ∀ (xs : List Int) (x : Int), ∀ y ∈ x :: xs, y ≤ Ev.maxI x xs
  | [], x, y, h => by simp at h; simp [Ev.maxI, h]
  | z :: zs, x, y, h => by
    have h1 := maxI_ge zs (if z > x then z else x)
    simp only [Ev.maxI]
    have h0 := h1 (if z > x then z else x) (by simp)
    rcases List.mem_cons.mp h with h | h
    · subst h
      split at h0 <;> rename_i c <;> simp only [c, if_true, if_false] <;> omega
    · rcases List.mem_cons.mp h with h | h
      · subst h
        split at h0 <;> rename_i c <;> simp only [c, if_true, if_false] <;> omega
      · exact h1 y (List.mem_cons_of_mem _ h)
theorem minI_mem : ∀ (xs : List Int) (x : Int), Ev.minI x xs ∈ x :: xs
  | [], x => by simp [Ev.minI]
  | y :: ys, x => by
    have h := minI_mem ys (if y < x then y else x)
    simp only [Ev.minI, List.mem_cons] at h ⊢
    split at h <;> rename_i c <;> simp only [c, if_true, if_false] <;> rcases h with h | h <;> simp [h]
theorem minI_le : ∀ (xs : List Int) (x : Int), ∀ y ∈ x :: xs, Ev.minI x xs ≤ y
  | [], x, y, h => by simp at h; simp [Ev.minI, h]
  | z :: zs, x, y, h => by
    have h1 := minI_le zs (if z < x then z else x)
    simp only [Ev.minI]
    have h0 := h1 (if z < x then z else x) (by simp)
    rcases List.mem_cons.mp h with h | h
    · subst h
      split at h0 <;> rename_i c <;> simp only [c, if_true, if_false] <;> omega
    · rcases List.mem_cons.mp h with h | h
      · subst h
        split at h0 <;> rename_i c <;> simp only [c, if_true, if_false] <;> omega
      · exact h1 y (List.mem_cons_of_mem _ h)
theorem sumI_eq : ∀ xs : List Int, Ev.sumI xs = xs.sum
  | [] => rfl
  | x :: xs => by rw [Ev.sumI, sumI_eq xs, List.sum_cons]
theorem cb_max (hc : X.calm = true) : CallR X (.builtin "max") (rBi (ct X ca) Ev.maxR) := by
  intro pins s σ H vs us Q I rs h
  obtain ⟨φ, G, μ, xs, z, ok, r, e, q⟩ := h
  unfold Ev.maxR at e
  split at e
  · cases e
    obtain ⟨v, w, e1, r1, r2⟩ := r.two
    have e2 := r1.int; have e3 := r2.int
    subst e1 e2 e3
    exact call_max2 hc pins s σ H _ us Q I rs ⟨_, _, rfl, q _ φ G H Ext.refl ok (.d (.int _))⟩
  · split at e
    · rename_i ds x xs e0
      cases e
      obtain ⟨v, e1, r1⟩ := r.one
      obtain ⟨a, ys, e2, h2, r2⟩ := r1.list ok.le
      have e3 := ints_some e0
      subst e1 e2 e3
      have e4 := r2.intsD
      subst e4
      refine cr_max hc pins s σ H _ us Q I rs ⟨a, x :: xs, rfl, .inl (.inl h2), by simp, fun m hm hb => ?_⟩
      have e5 : m = Ev.maxI x xs := Int.le_antisymm (maxI_ge xs x m hm) (hb _ (maxI_mem xs x))
      rw [e5]
      exact q _ φ G H Ext.refl ok (.d (.int _))
    · cases e
  · cases e
theorem cb_min (hc : X.calm = true) : CallR X (.builtin "min") (rBi (ct X ca) Ev.minR) := by
  intro pins s σ H vs us Q I rs h
  obtain ⟨φ, G, μ, xs, z, ok, r, e, q⟩ := h
  unfold Ev.minR at e
  split at e
  · cases e
    obtain ⟨v, w, e1, r1, r2⟩ := r.two
    have e2 := r1.int; have e3 := r2.int
    subst e1 e2 e3
    exact call_min2 hc pins s σ H _ us Q I rs ⟨_, _, rfl, q _ φ G H Ext.refl ok (.d (.int _))⟩
  · split at e
    · rename_i ds x xs e0
      cases e
      obtain ⟨v, e1, r1⟩ := r.one
      obtain ⟨a, ys, e2, h2, r2⟩ := r1.list ok.le
      have e3 := ints_some e0
      subst e1 e2 e3
      have e4 := r2.intsD
      subst e4
      refine cr_min hc pins s σ H _ us Q I rs ⟨a, x :: xs, rfl, .inl (.inl h2), by simp, fun m hm hb => ?_⟩
      have e5 : m = Ev.minI x xs := Int.le_antisymm (hb _ (minI_mem xs x)) (minI_le xs x m hm)
      rw [e5]
      exact q _ φ G H Ext.refl ok (.d (.int _))
    · cases e
  · cases e
theorem cb_sum (hc : X.calm = true) : CallR X (.builtin "sum") (rBi (ct X ca) Ev.sumR) := by
  intro pins s σ H vs us Q I rs h
  obtain ⟨φ, G, μ, xs, z, ok, r, e, q⟩ := h
  unfold Ev.sumR at e
  split at e
  · obtain ⟨ns, e0, e⟩ := Option.map_eq_some_iff.mp e
    subst e
    obtain ⟨v, e1, r1⟩ := r.one
    obtain ⟨a, ys, e2, h2, r2⟩ := r1.list ok.le
    have e3 := ints_some e0
    subst e1 e2 e3
    have e4 := r2.intsD
    subst e4
    refine cr_sum hc pins s σ H _ us Q I rs ⟨a, ns, rfl, .inl (.inl h2), ?_⟩
    rw [← sumI_eq]
    exact q _ φ G H Ext.refl ok (.d (.int _))
  · cases e
theorem cb_str : CallR X (.type "str") (rBi (ct X ca) Ev.strR) := by
  intro pins s σ H vs us Q I rs h
  obtain ⟨φ, G, μ, xs, z, ok, r, e, q⟩ := h
  unfold Ev.strR at e
  split at e
  · split at e
    · rename_i hz
      cases e
      obtain ⟨v, e1, r1⟩ := r.one
      have e2 := r1.int
      subst e1 e2
      exact call_str_int pins s σ H _ us Q I rs ⟨_, rfl, by simpa [Ev.shortInt] using hz, q _ φ G H Ext.refl ok (.d (.str _))⟩
    · cases e
  · cases e
    obtain ⟨v, e1, r1⟩ := r.one
    have e2 := r1.str
    subst e1 e2
    exact SkE.call_str_str pins s σ H _ us Q I rs ⟨_, rfl, q _ φ G H Ext.refl ok (.d (.str _))⟩
  · cases e
/-- repr of data -/
theorem cb_repr (hg : X.A.guards = some []) (hu : X.A.units + 65 < cLine) : CallR X (.builtin "repr") (rBi (ct X ca) Ev.reprR) := by
  intro pins s σ H vs us Q I rs h
  obtain ⟨φ, G, μ, xs, z, ok, r, e, q⟩ := h
  unfold Ev.reprR at e
  split at e
  · rename_i x
    split at e
    · rename_i hz
      cases e
      obtain ⟨v, e1, r1⟩ := r.one
      subst e1
      obtain ⟨u, e2, rv⟩ := vals1 rs
      subst e2
      have hl : (toPy x).shown.length ≤ sizeLine := Nat.le_trans (shown_cost x hz.2) (by rw [← SL_eq]; exact hz.2)
      have hd : x.dep ≤ 64 := hz.1
      have q0 : Q (.str (toPy x).shown) H := q _ φ G H Ext.refl ok .rep
      obtain ⟨as, r2⟩ := Dp.reads I _ _ _ (r1.dp ok.le) rv
      cases x with
      | non =>
        have e := r1.non; subst e
        cases (show u = Value.none from rv)
        exact PySem.P.repr_of_none ⟨.str (toPy .non).shown, H, I.tok _, ⟨s.toks, by simp only [toPy, PyData.shown_none]⟩, q0⟩
      | bl b =>
        have e := r1.bl; subst e
        cases (show u = Value.bool b from rv)
        refine PySem.P.repr_of_bool ⟨.str (toPy (.bl b)).shown, H, I.tok _, ⟨s.toks, ?_⟩, q0⟩
        simp only [toPy, PyData.shown_bool]
      | int i =>
        have e := r1.int; subst e
        obtain ⟨t, rfl⟩ := rv
        have hs := showable_cost (.int i) hz.2
        simp only [toPy, PyData.showable, decide_eq_true_eq] at hs
        exact PySem.P.repr_of_int hs ⟨.str (toPy (.int i)).shown, H, I.tok _, ⟨s.toks, by simp only [toPy, PyData.shown_int]⟩, q0⟩
      | str y =>
        have e := r1.str; subst e
        obtain ⟨t, rfl⟩ := rv
        simp only [toPy, PyData.shown_str] at q0 hl
        exact PySem.P.repr_of_str ⟨.str _, H, I.tok _, ⟨_, rfl⟩, q0⟩ hl
      | tup ds =>
        obtain ⟨a, ys, e2, h2, _⟩ := r1.tuple
        subst e2
        cases (show u = Value.ref a from rv)
        refine repr_of_reads' r2 (showable_cost _ hz.2) (PyData.noDict_hsm (PyData.hasDict_of_canLay _ (canLay_toPy _))) hg (by rw [dep_toPy]; omega) (fun b o e => e) (fun h' u tk hk => ?_) hl
        exact ⟨.str _, H, I.kept hk, ⟨_, rfl⟩, q0⟩
      | lst ds =>
        obtain ⟨a, ys, e2, h2, _⟩ := r1.list ok.le
        subst e2
        cases (show u = Value.ref a from rv)
        refine repr_of_reads' r2 (showable_cost _ hz.2) (PyData.noDict_hsm (PyData.hasDict_of_canLay _ (canLay_toPy _))) hg (by rw [dep_toPy]; omega) (fun b o e => e) (fun h' u tk hk => ?_) hl
        exact ⟨.str _, H, I.kept hk, ⟨_, rfl⟩, q0⟩
    · cases e
  · cases e

/-! ### isinstance -/
theorem ty_seqT {K : PySem.W.Frag} {H : Hp} {a : Addr} {xs : List V} (h : SqT K H a xs) : TyX K H (.ref a) (.type "tuple") := by
  rcases h with (h | ⟨o, h⟩) | ⟨o, its, n, h1, h2, _⟩
  · exact .base (.tup h)
  · exact .fTuple h
  · exact .kTuple h1 h2
theorem ty_of {Γ : Ct} {φ : List Addr} {G H : Hp} {v : V} {x : Ev.R} {t : String} (h : Vw Γ φ G H v x) (le : Same G H) (e : Ev.tyN x = some t) : TyX Γ.K H v (.type t) := by
  cases x with
  | d x =>
    cases x with
    | non => cases e; rw [h.non]; exact .base .non
    | bl c => cases e; rw [h.bl]; exact .base (.bl _)
    | int i => cases e; rw [h.int]; exact .base (.int _)
    | str s => cases e; rw [h.str]; exact .base (.str _)
    | tup ds =>
      cases e
      obtain ⟨a, xs, e1, h1, r1⟩ := h.tuple
      subst e1
      exact ty_seqT (Same.seqT le h1)
    | lst ds =>
      cases e
      obtain ⟨a, xs, e1, h1, r1⟩ := h.list le
      subst e1
      exact .base (.lst h1)
  | dic kvs =>
    cases e
    obtain ⟨a, ks, e1, h1, r1⟩ := h.dic le
    subst e1
    exact .base (.dK h1)
  | ls rs =>
    cases e
    obtain ⟨a, xs, e1, h1, r1⟩ := h.ls le
    subst e1
    exact .base (.lst h1)
  | rep x => cases e; rw [h.rep]; exact .base (.str _)
  | scr ns => cases e
  | p n => cases e
  | ins c fs => cases e
def tyNames : List String := ["NoneType", "bool", "int", "str", "tuple", "list", "dict"]
theorem tyN_mem {x : Ev.R} {t : String} (e : Ev.tyN x = some t) : t ∈ tyNames := by
  cases x with
  | d x => cases x <;> cases e <;> simp [tyNames]
  | _ => cases e <;> simp [tyNames]
def isT (T : String) : Bool := tyNames.all fun a => kitB a T == some (Ev.isB T a)
/-- isinstance(x, T), T a built-in type -/
theorem se_isin {a : Expr} {f : Ev.E} {T : String} {x y : Str} {p p2 pos : Pos} (hT : isT T = true) (ha : PE X a (tV (ct X ca) W f)) (hg : Gl X x) (hm : X.mg x = none) (hx : x = "isinstance") (hg2 : Gl X y) (hm2 : X.mg y = none) (hv2 : bootBuiltins y = some (.type T))
    (hn2 : y ≠ "__name__" := by decide) (hdb2 : (y == ("__debug__" : Str)) = false := by decide)
    (hs : starEach [a, .Name y p2] X.env = (false, eval a X.env) :: starEach [.Name y p2] X.env := by rfl) (hs2 : starEach [.Name y p2] X.env = (false, eval (.Name y p2) X.env) :: starEach [] X.env := by rfl)
    (hpl : (backTo pos (starEach [.Name y p2] X.env)).any (·.1) = false := by rfl) :
    PE X (.Call (.Name x p) [a, .Name y p2] [] pos) (tE (ct X ca) W (Ev.eBi (Ev.isinR T) [f])) := by
  subst hx
  have h := pe_callB (e := a) (es := [.Name y p2]) (p := p) (pos := pos) (call_isi (X := X)) hg hm rfl (pa_cons ha (pa_cons (pe_bltn (v := .ty T) hg2 hm2 hv2 rfl hn2 hdb2) pa_nil hs2) hs) (by decide) (by decide) hs hpl
  refine PE.imp h fun σ H Q q => ?_
  obtain ⟨φ, G, ρ, μ, ok, en, q⟩ := q
  unfold Ev.eBi at q
  simp only [Ev.evs_cons, Ev.evs_nil, Ev.bind_ok, Ev.bind_assoc] at q
  refine ⟨φ, G, ρ, μ, ok, en, post_bind q fun v1 φ1 G1 H1 r μ1 _ ext ok1 r1 q1 => ?_⟩
  obtain ⟨z, e, q2⟩ := post_lift q1
  obtain ⟨t, e1, e2⟩ := Option.map_eq_some_iff.mp (show (Ev.tyN (Ev.vw μ1 r)).map _ = some z from e)
  subst e2
  have hb := List.all_eq_true.mp hT t (tyN_mem e1)
  have hb : kitB t T = some (Ev.isB T t) := by simpa using hb
  exact ⟨v1, .ty T, _, _, _, rfl, .ty T, ty_of (r1.vw ok1) ok1.le e1, kit_ty hb, post_ok q2 ok1 (.d (.bl _))⟩

/-! ### dicts -/
theorem RKs.any {Γ : Ct} {φ : List Addr} {G : Hp} (k : Ev.Ky) : ∀ {ks : List (Key × V)} {kvs : List (Ev.Ky × Ev.R)}, RKs Γ φ G ks kvs → (ks.any fun kv => decide (kv.1 = kyK k)) = kvs.any fun kv => decide (kv.1 = k)
  | _, _, .nil => rfl
  | _, _, .cons (k := j) _ h => by
    rw [List.any_cons, List.any_cons, RKs.any k h]
    congr 1
    by_cases e : j = k
    · subst e; simp
    · have : ¬ kyK j = kyK k := fun z => e (kyK_inj z)
      simp [e, this]
theorem RKs.map {Γ : Ct} {φ : List Addr} {G : Hp} {v : V} {r : Ev.R} (k : Ev.Ky) (h : RR Γ φ G v r) : ∀ {ks : List (Key × V)} {kvs : List (Ev.Ky × Ev.R)}, RKs Γ φ G ks kvs →
    RKs Γ φ G (ks.map fun kv => if kv.1 = kyK k then (kv.1, v) else kv) (kvs.map fun kv => if kv.1 = k then (kv.1, r) else kv)
  | _, _, .nil => .nil
  | _, _, .cons (k := j) h1 h2 => by
    rw [List.map_cons, List.map_cons]
    by_cases e : j = k
    · subst e
      rw [if_pos rfl, if_pos rfl]
      exact .cons h (RKs.map _ h h2)
    · have : ¬ kyK j = kyK k := fun z => e (kyK_inj z)
      rw [if_neg this, if_neg e]
      exact .cons h1 (RKs.map _ h h2)
theorem RKs.snoc {Γ : Ct} {φ : List Addr} {G : Hp} {v : V} {r : Ev.R} (k : Ev.Ky) (h : RR Γ φ G v r) : ∀ {ks : List (Key × V)} {kvs : List (Ev.Ky × Ev.R)}, RKs Γ φ G ks kvs → RKs Γ φ G (ks ++ [(kyK k, v)]) (kvs ++ [(k, r)])
  | _, _, .nil => .cons h .nil
  | _, _, .cons h1 h2 => .cons h1 (RKs.snoc k h h2)
theorem RKs.put {Γ : Ct} {φ : List Addr} {G : Hp} {v : V} {r : Ev.R} {ks : List (Key × V)} {kvs : List (Ev.Ky × Ev.R)} (k : Ev.Ky) (h : RR Γ φ G v r) (q : RKs Γ φ G ks kvs) : RKs Γ φ G (L2.putK ks (kyK k) v) (Ev.putK kvs k r) := by
  unfold L2.putK Ev.putK
  rw [q.any k]
  split
  · exact q.map k h
  · exact q.snoc k h
theorem RKs.merge {Γ : Ct} {φ : List Addr} {G : Hp} : ∀ {ks : List (Key × V)} {kvs : List (Ev.Ky × Ev.R)} {js : List (Key × V)} {jvs : List (Ev.Ky × Ev.R)}, RKs Γ φ G js jvs → RKs Γ φ G ks kvs → RKs Γ φ G (L2.mergeK js ks) (Ev.mergeK jvs kvs)
  | _, _, _, _, q, .nil => q
  | _, _, _, _, q, .cons h1 h2 => by
    unfold L2.mergeK Ev.mergeK
    rw [List.foldl_cons, List.foldl_cons]
    exact RKs.merge (q.put _ h1) h2
theorem PV.isD {Γ : Ct} {φ : List Addr} {G H : Hp} {v : V} {kvs : List (Ev.Ky × Ev.R)} {μ : Ev.Mem} (h : PV Γ φ G H v (.dic kvs)) (ok : Ok Γ φ G H μ) : ∃ a ks, v = .ref a ∧ H a = some (.dK ks) ∧ RKs Γ φ G ks kvs := (h.vw ok).dic ok.le
theorem get_of {Γ : Ct} {φ : List Addr} {G H : Hp} {a : Addr} {ks : List (Key × V)} {kvs : List (Ev.Ky × Ev.R)} {y z : V} {yr zr r : Ev.R} (ha : H a = some (.dK ks)) (q : RKs Γ φ G ks kvs) (hy : RR Γ φ G y yr) (hz : RR Γ φ G z zr) (e : Ev.getR kvs yr zr = some r) :
    ∃ o, DGet H a y o ∧ RR Γ φ G (o.getD z) r := by
  unfold Ev.getR at e
  split at e
  · obtain ⟨k, e1, e2⟩ := Option.map_eq_some_iff.mp e
    subst e2
    have ey := keyOf_kV hy.inv_d e1
    subst ey
    refine ⟨_, DGet.k ha, ?_⟩
    rcases valKV k q with h1 | h1
    · obtain ⟨w, r, z1, z2, z3⟩ := h1
      rw [z1, z2]
      exact z3
    · obtain ⟨z1, z2⟩ := h1
      rw [z1, z2]
      exact hz
  · cases e
theorem se_get1 {o e : Expr} {fo fe : Ev.E} {apos cpos : Pos} (hu : X.A.units + 1 < cLine) (ho : PE X o (tV (ct X ca) W fo)) (he : PE X e (tE (ct X ca) W fe)) (m : M1 X o "get" apos e cpos) : PE X (.Call (.Attribute o "get" apos) [e] [] cpos) (tE (ct X ca) W (Ev.eGet1 fo fe)) :=
  PE.imp (pe_dget1 hu ho he m) fun σ H Q q => by
    obtain ⟨φ, G, ρ, μ, ok, en, q⟩ := q
    unfold Ev.eGet1 at q
    refine ⟨φ, G, ρ, μ, ok, en, post_bind q fun v1 φ1 G1 H1 x μ1 _ ext ok1 r1 q1 => ?_⟩
    split at q1
    · obtain ⟨a, ks, e1, h1, _⟩ := r1.isD ok1
      subst e1
      refine ⟨a, rfl, .inl ⟨ks, .inl h1⟩, φ1, G1, ρ, μ1, ok1, en.ext ext, post_bind q1 fun v2 φ2 G2 H2 y μ2 _ ext2 ok2 r2 q2 => ?_⟩
      obtain ⟨z, e, q3⟩ := post_lift q2
      obtain ⟨b, ls, e1, h2, r3⟩ := (r1.ext ext2).isD ok2
      cases e1
      obtain ⟨ov, g, rr⟩ := get_of h2 r3 r2 (.d .non) e
      exact ⟨ov, g, post_ok q3 ok2 rr⟩
    · exact q1.elim
theorem se_get2 {o e f : Expr} {fo fe ff : Ev.E} {apos cpos : Pos} (hu : X.A.units + 1 < cLine) (ho : PE X o (tV (ct X ca) W fo)) (he : PE X e (tE (ct X ca) W fe)) (hf : PE X f (tE (ct X ca) W ff)) (m : M2 X o "get" apos e f cpos) : PE X (.Call (.Attribute o "get" apos) [e, f] [] cpos) (tE (ct X ca) W (Ev.eGet2 fo fe ff)) :=
  PE.imp (pe_dget2 hu ho he hf m) fun σ H Q q => by
    obtain ⟨φ, G, ρ, μ, ok, en, q⟩ := q
    unfold Ev.eGet2 at q
    refine ⟨φ, G, ρ, μ, ok, en, post_bind q fun v1 φ1 G1 H1 x μ1 _ ext ok1 r1 q1 => ?_⟩
    split at q1
    · obtain ⟨a, ks, e1, h1, _⟩ := r1.isD ok1
      subst e1
      refine ⟨a, rfl, .inl ⟨ks, .inl h1⟩, φ1, G1, ρ, μ1, ok1, en.ext ext, post_bind q1 fun v2 φ2 G2 H2 y μ2 _ ext2 ok2 r2 q2 => ?_⟩
      refine ⟨φ2, G2, ρ, μ2, ok2, (en.ext ext).ext ext2, post_bind q2 fun v3 φ3 G3 H3 z μ3 _ ext3 ok3 r4 q4 => ?_⟩
      obtain ⟨z, e, q3⟩ := post_lift q4
      obtain ⟨b, ls, e1, h2, r3⟩ := (r1.ext (ext2.trans ext3)).isD ok3
      cases e1
      obtain ⟨ov, g, rr⟩ := get_of h2 r3 (ext3.rr r2) r4 e
      exact ⟨ov, g, post_ok q3 ok3 rr⟩
    · exact q1.elim
/-- a frame's own object gets another content -/
theorem Ok.upd {Γ : Ct} {φ : List Addr} {G H : Hp} {μ : Ev.Mem} {p : Addr} {o : HO} (k : Ok Γ φ G H μ) (hp : p ∉ φ) (hg : G p = none) (hno : ∀ a, H p ≠ some (.own a)) (hnt : ∀ a, H p ≠ some (.tbl a)) : Ok Γ φ G (upd H p o) μ := by
  have ne : ∀ {b : Addr} {x : HO}, G b = some x → b ≠ p := fun {b x} e z => by subst z; rw [hg] at e; cases e
  refine ⟨fun b x e => by rw [upd_ne (ne e)]; exact k.le b x e, k.nd, k.len, k.fre, fun a ha => ?_, fun n a c h1 h2 => ?_, fun q hq => ?_⟩
  · rw [upd_ne (show a ≠ p from fun z => hp (by rw [← z]; exact ha))]; exact k.thr a ha
  · have ha : a ≠ p := fun z => hp (by rw [← z]; exact List.mem_of_getElem? h1)
    refine (k.cell n a c h1 h2).keep (Same.refl _) (fun _ _ z => z) (fun o e => by rw [upd_ne ha]; exact e) fun d e => ?_
    rw [upd_ne (show d ≠ p from fun z => hno a (by rw [← z]; exact e))]; exact e
  · obtain ⟨⟨ps, e, t⟩, h2, h3⟩ := k.tb q hq
    exact ⟨⟨ps, by rw [upd_ne (fun z => hnt ps (by rw [← z]; exact e))]; exact e, t⟩, h2, h3⟩
theorem Ext.upd {φ φ' : List Addr} {G G' H H' : Hp} {p : Addr} {o : HO} (a : Ext φ G H φ' G' H') (hp : H p = none) : Ext φ G H φ' G' (upd H' p o) :=
  ⟨a.g, a.gn, a.p, fun b x e hn => by rw [upd_ne (show b ≠ p from fun z => by rw [z, hp] at e; cases e)]; exact a.f b x e hn⟩
/-- what was done while p stood there, though p was not there before -/
theorem Ext.from_new {φ φ' : List Addr} {G G' H H' : Hp} {p : Addr} {o : HO} (hp : H p = none) (a : Ext φ G (L2.upd H p o) φ' G' H') : Ext φ G H φ' G' H' := by
  have back : ∀ {b : Addr}, (L2.upd H p o) b = none → H b = none := fun {b} h => by
    by_cases hb : b = p
    · subst hb; rw [upd_same] at h; cases h
    · rw [upd_ne hb] at h; exact h
  refine ⟨a.g, fun b hb => ?_, ?_, fun b x e hn => ?_⟩
  · rcases a.gn b hb with z | z | z
    · exact .inl z
    · exact .inr (.inl (back z))
    · exact .inr (.inr z)
  · obtain ⟨ψ, e, q⟩ := a.p
    exact ⟨ψ, e, fun b hb => ⟨back (q b hb).1, (q b hb).2⟩⟩
  · exact a.f b x (by rw [upd_ne (show b ≠ p from fun z => by rw [z, hp] at e; cases e)]; exact e) hn
/-- .. and the frame -/
theorem EnvR.new0 {Γ : Ct} {φ : List Addr} {G H : Hp} {σ : L2.St} {ρ : Ev.Env} {p : Addr} {o : HO} (h : EnvR Γ φ G H σ ρ) (hp : H p = none) : EnvR Γ φ G (L2.upd H p o) σ ρ := h.ext (Ext.of_same (same_upd hp))
def flat {α : Type} : List (α × α) → List α
  | [] => []
  | (a, b) :: r => a :: b :: flat r
def tPs (Γ : Ct) (W : WX) (fps : List (Ev.E × Ev.E)) : List (TE × TE) := fps.map fun p => (tE Γ W p.1, tE Γ W p.2)
theorem sps_nil {pos : Pos} : PPs X pos [] [] (tPs (ct X ca) W []) := pps_nil
theorem sps_cons {pos : Pos} {a b : Expr} {ks : List (Option Expr)} {vs : List Expr} {fa fb : Ev.E} {fps : List (Ev.E × Ev.E)} (ha : PE X a (tE (ct X ca) W fa)) (hb : PE X b (tE (ct X ca) W fb)) (hr : PPs X pos ks vs (tPs (ct X ca) W fps)) :
    PPs X pos (some a :: ks) (b :: vs) (tPs (ct X ca) W ((fa, fb) :: fps)) := pps_cons ha hb hr
theorem tPairs_of {Γ : Ct} {σ : L2.St} {ρ : Ev.Env} : ∀ {fps : List (Ev.E × Ev.E)} {φ : List Addr} {G H : Hp} {μ : Ev.Mem} {Q : List (V × V) → Hp → Prop}, Ok Γ φ G H μ → EnvR Γ φ G H σ ρ →
    post Γ (WE W σ) φ G H (Ev.evs (flat fps) ρ μ) (rRRs Γ) (fun vs H' => ∀ ps, flat ps = vs → Q ps H') → tPairs (tPs Γ W fps) σ H Q
  | [], φ, G, H, μ, Q, ok, en, q => post_ok q ok .nil [] rfl
  | (a, b) :: r, φ, G, H, μ, Q, ok, en, q => by
    refine ⟨φ, G, ρ, μ, ok, en, post_bind (show post Γ (WE W σ) φ G H ((a ρ μ).bind _) _ _ from q) fun v1 φ1 G1 H1 x1 μ1 _ ext ok1 r1 q1 => ?_⟩
    have q1 : post Γ (WE W σ) φ1 G1 H1 (((b ρ μ1).bind fun r2 μ => (Ev.evs (flat r) ρ μ).bind fun rs μ => .ok (r2 :: rs) μ).bind fun rs μ => .ok (x1 :: rs) μ) _ _ := q1
    rw [Ev.bind_assoc] at q1
    refine ⟨φ1, G1, ρ, μ1, ok1, en.ext ext, post_bind q1 fun v2 φ2 G2 H2 x2 μ2 _ ext2 ok2 r2 q2 => ?_⟩
    refine tPairs_of ok2 ((en.ext ext).ext ext2) ?_
    rw [Ev.bind_assoc] at q2
    refine post_bind q2 fun vs φ3 G3 H3 xs μ3 _ ext3 ok3 r3 q3 => ?_
    intro ps e
    exact post_ok q3 ok3 (.cons (ext3.rr (ext2.rr r1)) (.cons (ext3.rr r2) r3)) ((v1, v2) :: ps) (by rw [← e]; rfl)
theorem pairs_of {Γ : Ct} {φ : List Addr} {G : Hp} : ∀ {ps : List (V × V)} {rs : List Ev.R} {kvs : List (Ev.Ky × Ev.R)}, RRs Γ φ G (flat ps) rs → Ev.pairsR rs = some kvs →
    ∃ ks : List (Key × V), ps = ks.map (fun kv => (kV kv.1, kv.2)) ∧ RKs Γ φ G ks kvs
  | [], rs, kvs, h, e => by
    cases h
    cases e
    exact ⟨[], rfl, .nil⟩
  | (a, b) :: ps, rs, kvs, h, e => by
    cases h with
    | cons h1 h2 =>
      cases h2 with
      | cons h3 h4 =>
        rename_i r1 r2 rs'
        cases r1 with
        | d x =>
          obtain ⟨k, e1, e2⟩ := Option.bind_eq_some_iff.mp (show (Ev.keyOf x).bind _ = some kvs from e)
          obtain ⟨l, e3, e4⟩ := Option.map_eq_some_iff.mp e2
          subst e4
          obtain ⟨ks, e5, q⟩ := pairs_of h4 e3
          have ey := keyOf_kV h1.inv_d e1
          exact ⟨(kyK k, b) :: ks, by rw [List.map_cons, ← e5, ey], .cons h3 q⟩
        | _ => cases e
/-- a written dict -/
theorem sn_dic {pos : Pos} {keys : List (Option Expr)} {values : List Expr} {fps : List (Ev.E × Ev.E)} (h : PPs X pos keys values (tPs (ct X ca) W fps)) (hall : keys.all (·.isSome) = true := by rfl) (hl : keys.length = values.length := by rfl) (h0 : keys ≠ [] := by simp) (h15 : keys.length ≤ 15 := by decide) :
    PE X (.Dict keys values pos) (tN (ct X ca) W (Ev.eDic (flat fps))) := PE.imp (pe_disp h hall hl h0 h15) fun σ H Q q => by
  obtain ⟨φ, G, ρ, μ, ok, en, q⟩ := q
  unfold Ev.eDic at q
  intro p hp
  refine tPairs_of (ok.new0 hp) (en.new0 hp) ?_
  generalize Ev.evs (flat fps) ρ μ = o at q
  cases o with
  | no => exact q
  | exn x μ1 => exact fun c od φ' G' H' ext ok' r => q c od φ' G' H' (Ext.from_new hp ext) ok' r
  | ok rs μ1 =>
    intro vs φ' G' H' ext ok' r ps e
    subst e
    have hn := ok.nphi hp
    obtain ⟨k1, k2, k3⟩ := ext.keep (c := p) (o := .dK []) upd_same hn (ok.ng hp)
    refine ⟨k1, ?_⟩
    have q : postN _ _ φ G H (match Ev.pairsR rs with
      | some kvs => if kvs.length ≤ 15 then .ok (.dic (Ev.mergeK [] kvs)) μ1 else .no
      | none => .no) Q := q
    split at q
    · rename_i kvs ep
      split at q
      · rename_i hz
        obtain ⟨ks, e2, rk⟩ := pairs_of r ep
        refine ⟨ks, e2, by rw [rk.len]; exact hz, ?_⟩
        have q : ∀ a φ' G' H', Ext φ G H φ' G' H' → Ok (ct X ca) φ' G' H' μ1 → H a = none → G' a = none → a ∉ φ' → Nw (ct X ca) φ' G' H' a (.dic (Ev.mergeK [] kvs)) → Q (.ref a) H' := q
        exact q p φ' G' _ ((Ext.from_new hp ext).upd hp) (ok'.upd k2 k3 (fun a z => by rw [k1] at z; cases z) fun a z => by rw [k1] at z; cases z) hp k3 k2 (.dic upd_same (RKs.merge .nil rk))
      · exact q.elim
    · exact q.elim
end
end EvS
end

section
set_option maxHeartbeats 0
set_option Elab.async false
set_option linter.all false
set_option maxRecDepth 100000
/-! EvFor: what is walked, targets, comprehensions. -/
namespace EvS
open PySem PySem.Spec PyProof.Rows L2

/-! ### enumerate over a tuple -/
set_option maxHeartbeats 1000000 in
theorem enum_makes {v : Value} {o : Obj} {H : Heap → Prop} (B : Begins v o H) :
    Meets (Builtin.«enumerate.__new__» ⟨[.type "enumerate", v], []⟩) (fun _ R st => H st.heap ∧
      R (.ok (.ret (.ref (st.heap.push o).objs.size)))
        { st with heap := (st.heap.push o).push { cls := .type "enumerate", data := .fields #[.none, .bool false, .ref st.heap.objs.size, rawInt 0, .none, .none] } }) :=
  .of_wp fun prog w A R st h => by
    obtain ⟨hp, g, d, tk, os⟩ := st
    obtain ⟨h1, h⟩ := h
    have hsub := sub_enumerate
    have step : ∀ {A' : Around} {E : Value → Shared → Prop} {Q : Value → Shared → Prop}, Q (.ref hp.objs.size) ⟨hp.push o, g, d, tk, os⟩ → wpAny (model prog w) A' (pyIter v) Q E ⟨hp, g, d, tk, os⟩ :=
      fun q => B.iter prog w _ _ ⟨hp, g, d, tk, os⟩ _ h1 q
    wp_walk using step
    refine wpAny_stack_any fun _ => wpAny_pure ?_
    split
    · rename_i cl _ _ _ _ _
      cases hcl : (cl == Value.type "enumerate") <;> (wp_walk using step) <;> exact ⟨_, rfl, h⟩
    · wp_walk using step
      exact ⟨_, rfl, h⟩
theorem enum_call {prog : Program} {w : World} {A : Around} {E : Value → Shared → Prop} {s : Shared} {v : Value} {o : Obj} {H : Heap → Prop} {Q : Value → Shared → Prop} (B : Begins v o H) (h1 : H s.heap)
    (h : ∀ h', IsEnum h' (s.heap.objs.size + 1) s.heap.objs.size 0 .none → h'.get? s.heap.objs.size = some o → (∀ b o, s.heap.get? b = some o → h'.get? b = some o) → Q (.ref (s.heap.objs.size + 1)) { s with heap := h' }) :
    wpAny (model prog w) A (call (.type "enumerate") [v]) Q E s := by
  refine callType_new F.called_enumerate (by decide) (F.typeCall_enumerate_1 _) (F.newCall_enumerate_1 _) (fun x => F.args_object_init_2 x _) F.entry_enumerate_new (enum_makes B) ⟨h1, ?_⟩
  have sz : (s.heap.push o).objs.size = s.heap.objs.size + 1 := Heap.size_push ..
  rw [sz]
  have he : IsEnum ((s.heap.push o).push { cls := .type "enumerate", data := .fields #[.none, .bool false, .ref s.heap.objs.size, rawInt 0, .none, .none] }) (s.heap.objs.size + 1) s.heap.objs.size 0 .none := by
    have z := Heap.get?_push_size (s.heap.push o) (o := { cls := .type "enumerate", data := .fields #[.none, .bool false, .ref s.heap.objs.size, rawInt 0, .none, .none] }) rfl
    rwa [sz] at z
  refine ⟨⟨_, he, rfl⟩, h _ he ?_ fun b u e => ?_⟩
  · exact Heap.get?_push_of_some _ (Heap.get?_push_size _ B.free)
  · exact Heap.get?_push_of_some _ (Heap.get?_push_of_some _ e)
/-- the tuple at a, each item in a new pair with its place -/
def IteT (K : PySem.W.Frag) (a : Addr) : It where
  go := fun i H => ∃ (xs : List V) (x : V), SqT K H a xs ∧ xs[i]? = some x
  yld := fun i H v H' => ∃ T x, v = .ref T ∧ H T = none ∧ H' = upd H T (.tup [.int (i : Nat), x]) ∧ ∀ xs, SqT K H a xs → xs[i]? = some x
  stop := fun i H => ∃ xs : List V, SqT K H a xs ∧ xs.length ≤ i
theorem turn_enumT {P : Program} {w : World} {K : PySem.W.Frag} {elts : List Expr} {kk : Nat} {tpos : Pos} (a e it : Addr) :
    Turn P w K (.Tuple elts kk tpos) (IteT K a) [e, it] e (fun i h => (∃ old, IsEnum h e it ((i : Nat) : Int) old) ∧ h.IsTupleIter it a i ∧ e ≠ it ∧ a ≠ it ∧ e ≠ a) where
  mem := by simp
  obj := fun i h st b hb => by
    obtain ⟨⟨old, he⟩, ⟨o, ho, hc, hd⟩, _⟩ := st
    rcases List.mem_cons.mp hb with z | z
    · rw [z]; exact ⟨_, he, fun v q => nomatch q⟩
    · rw [List.mem_singleton.mp z]; exact ⟨o, ho, fun v q => by rw [hd] at q; cases q⟩
  keep := fun i h h' st k => let ⟨⟨old, he⟩, hi, hne⟩ := st; ⟨⟨old, k e (by simp) _ he⟩, hi.at fun o q => k it (by simp) o q, hne⟩
  item := by
    intro X hP hw hK hc i pins s σ H E I hf st hg
    subst hP hw hK
    obtain ⟨⟨old, he⟩, hit, hne, hat, hea⟩ := st
    obtain ⟨xs, x, hq, hx⟩ := hg
    obtain ⟨its, rv, p, hz⟩ := I.tuple hq
    obtain ⟨u, hu, ru⟩ := rv.get hx
    have pt : s.heap.IsTuple a its.toArray := p
    have hel : e < s.heap.objs.size := Heap.lt_size he
    have hil : it < s.heap.objs.size := by obtain ⟨_, q, _⟩ := hit; exact Heap.lt_size q
    have hlt : i < its.toArray.size := by
      have := (List.getElem?_eq_some_iff.mp hu).1
      simpa using this
    have D := Draws.tuple (prog := X.prog) (w := X.w) (A := X.A.in1) (I.ok.hd hc) it a hat its.toArray
    refine wpAny_pyNext_enum_itemD D he ⟨hit, pt⟩ hlt hne (by simp [hne, hea]) fun y h' tk hy ho hs' hT hsz hk => ?_
    have ey : y = u := by
      have h1 : its[i]? = some y := by simpa using hy
      rw [hu] at h1
      exact (Option.some.inj h1).symm
    subst ey
    refine ⟨_, rfl, wpAny_letOwnedTupleGo_enum (s := { s with heap := h', toks := tk + 1 }) ho fun h'' he' sb => ?_⟩
    have hT2 := (sb.2 _ (Nat.ne_of_gt hel)).trans hT
    have new : ObjOk X.prog X.w (upd H s.heap.objs.size (.tup [.int (i : Nat), x])) h'' s.heap.objs.size (.tup [.int (i : Nat), x]) :=
      ⟨by show 2 ≤ sizeLine; decide, [.int i tk, y], .cons ⟨_, rfl⟩ (.cons ru .nil), ⟨_, hT2, rfl, _, rfl⟩⟩
    have kp : ∀ b ob, b ∉ [e, it] → s.heap.get? b = some ob → h''.get? b = some ob := fun b ob hb q =>
      (sb.2 b (fun z => hb (by simp [z]))).trans (hk b ob (fun z => hb (by simp [z])) (fun z => hb (by simp [z])) q)
    have I1 : Inv X pins σ (upd H s.heap.objs.size (.tup [.int (i : Nat), x])) { s with heap := h'', toks := tk + 1 } := I.turnedNew (ch := [e, it]) kp hf (Nat.le_refl _) new
    refine ⟨.ref s.heap.objs.size, _, I1, rfl, ⟨_, x, rfl, I.hok.fresh (Nat.le_refl _), rfl, fun ys hy => by rw [I.tuple_inj hy hq]; exact hx⟩, ⟨⟨y, ?_⟩, hs'.1.at fun o q => (sb.2 it (Ne.symm hne)).trans q, hne, hat, hea⟩, fun b hb => ?_⟩
    · have e1 : ((i + 1 : Nat) : Int) = (i : Int) + 1 := by omega
      rw [e1]; exact he'
    · have hb' : b < s.heap.objs.size := by
        rcases List.mem_cons.mp hb with z | z
        · rw [z]; exact hel
        · rw [List.mem_singleton.mp z]; exact hil
      rw [upd_ne (Nat.ne_of_lt hb')]
      exact (hf b hb).1
  done := by
    intro X hP hw hK hc i pins s σ H E I hf st hg
    subst hP hw hK
    obtain ⟨⟨old, he⟩, hit, hne, hat, hea⟩ := st
    obtain ⟨xs, hq, hx⟩ := hg
    obtain ⟨its, rv, p, hz⟩ := I.tuple hq
    have pt : s.heap.IsTuple a its.toArray := p
    obtain ⟨f0, f1, f2, f3, f4, f5⟩ := hf it (by simp)
    have hl := rv.length
    have DE : ∀ (s' : Shared) (Q : Value → Shared → Prop) (E : Value → Shared → Prop), (s'.heap.IsTupleIter it a i ∧ s'.heap.IsTuple a its.toArray) →
        (∀ h' e, Heap.ExtBut it s'.heap h' → (∃ o, h'.get? e = some o ∧ o.cls = .type "StopIteration") → E (.ref e) { s' with heap := h' }) → wpAny (model X.prog X.w) X.A.in1 (Builtin.SmallTypes.nextOf (.ref it)) Q E s' :=
      fun s' Q E q k => wpAny_nextOf_tuple_end (I.ok.hd hc) q.1 q.2 (by simp; omega) k
    have hTy : s.TypeIs (.ref e) "enumerate" := ⟨_, he, rfl⟩
    unfold pyNext
    refine wpAny_bind (wpAny_attempt (wpAny_callSpecial?_slot (name := Str.ofString "__next__") hTy F.slot_enumerate_next (wpAny_call_entry F.slot_enumerate_next hTy F.entry_enumerate_next ?_ (F.args_enumerate_next_1 _))))
    show wpAny _ _ (field (.ref e) 2 >>= _) _ _ _
    refine wpAny_bind (wpAny_field he rfl (x := .ref it) rfl ?_)
    refine wpAny_bind (DE _ _ _ ⟨hit, pt⟩ fun h' x eb hx' => ?_)
    obtain ⟨o, ho, hc'⟩ := hx'
    refine wpAny_bind (wpAny_isInstance (T := "StopIteration") (b := true) ⟨o, ho, hc'⟩ isSubtype_stop ?_)
    exact wpAny_pure ⟨rfl, I.turned (t' := s.toks) (fun b o hb q => eb b o hb q) f0 f1 f3 f4 f5⟩
  self := fun A i s Q E st h => let ⟨⟨_, he⟩, _⟩ := st; wpAny_pyIter_enum he h
def iEnumA (K : PySem.W.Frag) (ta : TA) : TI := fun σ H R => ta σ H fun vs H1 => ∃ a xs, vs = [.ref a] ∧ ((SqL K H1 a xs ∧ R (Ite K a) H1) ∨ (SqT K H1 a xs ∧ R (IteT K a) H1))
theorem pi_enumA {X : Cx} {e : Expr} {ta : TA} {p pos tpos : Pos} {elts : List Expr} {kk : Nat} (hg : Gl X "enumerate") (hm : X.mg "enumerate" = none) (ha : PA X [e] ta) (hs : starEach [e] X.env = [(false, eval e X.env)] := by rfl) :
    PI X (.Tuple elts kk tpos) (.Call (.Name "enumerate" p) [e] [] pos) (iEnumA X.K ta) := by
  refine ⟨fun pins s σ H R I h => Call_ (ld_blt I hg hm boot_enumerate (PyProof.Rows.callWith_type1 (thn (ha.run pos pins s σ H _ I h) fun us s1 ⟨vs, H1, I1, r1, q1⟩ => ?_) hs rfl))⟩
  obtain ⟨a, xs, ex, q1⟩ := q1
  subst ex
  obtain ⟨u, eu, ru⟩ := vals1 r1
  subst eu
  cases (show u = Value.ref a from ru)
  have fresh2 : ∀ b, b ∈ [s1.heap.objs.size + 1, s1.heap.objs.size] → FpOk X pins H1 b := fun b hb => by
    have hle : s1.heap.objs.size ≤ b := by
      rcases List.mem_cons.mp hb with z | z
      · rw [z]; exact Nat.le_add_right _ _
      · rw [List.mem_singleton.mp z]; exact Nat.le_refl _
    exact I1.fpOk hle (I1.hok.fresh hle)
  rcases q1 with ⟨hq, q⟩ | ⟨hq, q⟩
  · obtain ⟨its, rv, p', hz⟩ := I1.list hq
    refine enum_call (begins_list a its.toArray) p'.isList fun h' he hit hk => wpAny_pyIter_enum he ?_
    have I2 : Inv X pins σ H1 { s1 with heap := h' } := I1.kept (t' := s1.toks) hk
    exact ⟨_, _, _, _, H1, rfl, I2, turn_enum a (s1.heap.objs.size + 1) s1.heap.objs.size, ⟨⟨.none, he⟩, ⟨_, hit, rfl, rfl⟩, Nat.succ_ne_self _⟩, fresh2, q⟩
  · obtain ⟨its, rv, p', hz⟩ := I1.tuple hq
    have pt : s1.heap.IsTuple a its.toArray := p'
    obtain ⟨o1, ho1, _⟩ := id pt
    have hal : a < s1.heap.objs.size := Heap.lt_size ho1
    refine enum_call (begins_tuple a its.toArray) pt fun h' he hit hk => wpAny_pyIter_enum he ?_
    have I2 : Inv X pins σ H1 { s1 with heap := h' } := I1.kept (t' := s1.toks) hk
    exact ⟨_, _, _, _, H1, rfl, I2, turn_enumT a (s1.heap.objs.size + 1) s1.heap.objs.size, ⟨⟨.none, he⟩, ⟨_, hit, rfl, rfl⟩, Nat.succ_ne_self _, Nat.ne_of_lt hal, Nat.ne_of_gt (Nat.lt_succ_of_lt hal)⟩, fresh2, q⟩

/-! ### what is walked -/
/-- the iterator J gives the values rs, one after another -/
structure ItR (Γ : Ct) (φ : List Addr) (G : Hp) (J : It) (rs : List Ev.R) : Prop where
  goes : ∀ i H, i < rs.length → Same G H → J.go i H
  stops : ∀ H, Same G H → J.stop rs.length H
  yields : ∀ i H x H' r, rs[i]? = some r → Same G H → J.yld i H x H' → (H' = H ∧ RR Γ φ G x r) ∨ ∃ T xs ds, x = .ref T ∧ H T = none ∧ H' = upd H T (.tup xs) ∧ r = .d (.tup ds) ∧ DRs Γ.K G xs ds
theorem ItR.ext {Γ : Ct} {φ φ' : List Addr} {G G' H H' : Hp} {J : It} {rs : List Ev.R} (h : ItR Γ φ G J rs) (a : Ext φ G H φ' G' H') : ItR Γ φ' G' J rs := by
  refine ⟨fun i H hi s => h.goes i H hi (a.g.trans s), fun H s => h.stops H (a.g.trans s), fun i H x H' r e s y => ?_⟩
  rcases h.yields i H x H' r e (a.g.trans s) y with ⟨z, q⟩ | ⟨T, xs, ds, h1, h2, h3, h4, h5⟩
  · exact .inl ⟨z, a.rr q⟩
  · exact .inr ⟨T, xs, ds, h1, h2, h3, h4, h5.mono a.g⟩
theorem ItR.walk {Γ : Ct} {φ : List Addr} {G : Hp} {J : It} {rs : List Ev.R} (h : ItR Γ φ G J rs) : Walk J rs.length (Same G) J.yld := ⟨h.goes, h.stops, fun _ _ _ _ _ _ y => y⟩
/-- a turn -/
theorem ItR.turn {Γ : Ct} {φ : List Addr} {G H H' : Hp} {μ : Ev.Mem} {J : It} {rs : List Ev.R} {i : Nat} {x : V} {r : Ev.R} (h : ItR Γ φ G J rs) (ok : Ok Γ φ G H μ) (e : rs[i]? = some r) (y : J.yld i H x H') :
    ∃ G', Ext φ G H φ G' H' ∧ Ok Γ φ G' H' μ ∧ RR Γ φ G' x r := by
  rcases h.yields i H x H' r e ok.le y with ⟨z, q⟩ | ⟨T, xs, ds, h1, h2, h3, h4, h5⟩
  · subst z; exact ⟨G, Ext.refl, ok, q⟩
  · subst h1 h3 h4
    exact ⟨_, Ext.new ok h2, ok.new h2, .d (.tup (.inl (.inl upd_same)) (h5.mono (same_upd (ok.ng h2))))⟩
def tI (Γ : Ct) (W : WX) (f : Ev.It) : TI := fun σ H R => ∃ φ G ρ μ, Ok Γ φ G H μ ∧ EnvR Γ φ G H σ ρ ∧ post Γ (WE W σ) φ G H (f ρ μ) (fun φ G _ J rs => ItR Γ φ G J rs) R
theorem RRs.at_ {Γ : Ct} {φ : List Addr} {G : Hp} {vs : List V} {rs : List Ev.R} {i : Nat} {r : Ev.R} {x : V} (h : RRs Γ φ G vs rs) (e : rs[i]? = some r) (e2 : vs[i]? = some x) : RR Γ φ G x r := by
  obtain ⟨v, h1, h2⟩ := h.get e
  rw [e2] at h1; cases h1; exact h2
theorem DRs.at_ {K : PySem.W.Frag} {G : Hp} {vs : List V} {ds : List Ev.D} {i : Nat} {d : Ev.D} {x : V} (h : DRs K G vs ds) (e : ds[i]? = some d) (e2 : vs[i]? = some x) : DR K G x d := by
  obtain ⟨v, h1, h2⟩ := h.get e
  rw [e2] at h1; cases h1; exact h2
theorem itR_list {Γ : Ct} {φ : List Addr} {G : Hp} {a : Addr} {vs : List V} {rs : List Ev.R} (h : SqL Γ.K G a vs) (r : RRs Γ φ G vs rs) : ItR Γ φ G (Itl Γ.K a) rs := by
  refine ⟨fun i H hi s => ⟨vs, vs[i]'(by rw [r.len]; exact hi), s.seq h, by simp [r.len, hi]⟩, fun H s => ⟨vs, s.seq h, by rw [r.len]; exact Nat.le_refl _⟩, fun i H x H' q e s y => .inl ⟨y.1, r.at_ e (y.2 vs (s.seq h))⟩⟩
theorem itR_tup {Γ : Ct} {φ : List Addr} {G : Hp} {a : Addr} {vs : List V} {rs : List Ev.R} (h : SqT Γ.K G a vs) (r : RRs Γ φ G vs rs) : ItR Γ φ G (Itt Γ.K a) rs := by
  refine ⟨fun i H hi s => ⟨vs, vs[i]'(by rw [r.len]; exact hi), Same.seqT s h, by simp [r.len, hi]⟩, fun H s => ⟨vs, Same.seqT s h, by rw [r.len]; exact Nat.le_refl _⟩, fun i H x H' q e s y => .inl ⟨y.1, r.at_ e (y.2 vs (Same.seqT s h))⟩⟩
theorem enumF_at : ∀ (ds : List Ev.D) (k i : Nat) (r : Ev.R), (Ev.enumF k ds)[i]? = some r → ∃ d, ds[i]? = some d ∧ r = .d (.tup [.int ((k + i : Nat) : Int), d])
  | [], k, i, r, h => by simp [Ev.enumF] at h
  | d :: ds, k, 0, r, h => by
    simp [Ev.enumF] at h
    exact ⟨d, rfl, by rw [← h]; simp⟩
  | d :: ds, k, i + 1, r, h => by
    obtain ⟨d', h1, h2⟩ := enumF_at ds (k + 1) i r (by simpa [Ev.enumF] using h)
    exact ⟨d', by simpa using h1, by rw [h2, show k + 1 + i = k + (i + 1) by omega]⟩
theorem enumF_len : ∀ (ds : List Ev.D) (k : Nat), (Ev.enumF k ds).length = ds.length
  | [], _ => rfl
  | d :: ds, k => by simp [Ev.enumF, enumF_len ds]
theorem itR_enum {Γ : Ct} {φ : List Addr} {G : Hp} {a : Addr} {vs : List V} {ds : List Ev.D} (h : SqL Γ.K G a vs) (r : DRs Γ.K G vs ds) : ItR Γ φ G (Ite Γ.K a) (Ev.enumF 0 ds) := by
  refine ⟨fun i H hi s => ⟨vs, vs[i]'(by rw [r.len, ← enumF_len ds 0]; exact hi), s.seq h, by rw [enumF_len] at hi; simp [r.len, hi]⟩, fun H s => ⟨vs, s.seq h, by rw [r.len, enumF_len]; exact Nat.le_refl _⟩, fun i H x H' q e s y => ?_⟩
  obtain ⟨d, e1, e2⟩ := enumF_at ds 0 i q e
  obtain ⟨T, z, h1, h2, h3, h4⟩ := y
  refine .inr ⟨T, _, [.int ((i : Nat) : Int), d], h1, h2, h3, by rw [e2, Nat.zero_add], .cons (.int _) (.cons (r.at_ e1 (h4 vs (s.seq h))) .nil)⟩
theorem itR_enumT {Γ : Ct} {φ : List Addr} {G : Hp} {a : Addr} {vs : List V} {ds : List Ev.D} (h : SqT Γ.K G a vs) (r : DRs Γ.K G vs ds) : ItR Γ φ G (IteT Γ.K a) (Ev.enumF 0 ds) := by
  refine ⟨fun i H hi s => ⟨vs, vs[i]'(by rw [r.len, ← enumF_len ds 0]; exact hi), Same.seqT s h, by rw [enumF_len] at hi; simp [r.len, hi]⟩, fun H s => ⟨vs, Same.seqT s h, by rw [r.len, enumF_len]; exact Nat.le_refl _⟩, fun i H x H' q e s y => ?_⟩
  obtain ⟨d, e1, e2⟩ := enumF_at ds 0 i q e
  obtain ⟨T, z, h1, h2, h3, h4⟩ := y
  refine .inr ⟨T, _, [.int ((i : Nat) : Int), d], h1, h2, h3, by rw [e2, Nat.zero_add], .cons (.int _) (.cons (r.at_ e1 (h4 vs (Same.seqT s h))) .nil)⟩
theorem zipF_at : ∀ (xs ys : List Ev.D) (i : Nat) (r : Ev.R), (Ev.zipF xs ys)[i]? = some r → ∃ x y, xs[i]? = some x ∧ ys[i]? = some y ∧ r = .d (.tup [x, y])
  | [], _, i, r, h => by simp [Ev.zipF] at h
  | _ :: _, [], i, r, h => by simp [Ev.zipF] at h
  | x :: xs, y :: ys, 0, r, h => by
    simp [Ev.zipF] at h
    exact ⟨x, y, rfl, rfl, h.symm⟩
  | x :: xs, y :: ys, i + 1, r, h => by
    obtain ⟨x', y', h1, h2, h3⟩ := zipF_at xs ys i r (by simpa [Ev.zipF] using h)
    exact ⟨x', y', by simpa using h1, by simpa using h2, h3⟩
theorem zipF_len : ∀ xs ys : List Ev.D, (Ev.zipF xs ys).length = min xs.length ys.length
  | [], _ => by simp [Ev.zipF]
  | _ :: _, [] => by simp [Ev.zipF]
  | x :: xs, y :: ys => by simp only [Ev.zipF, List.length_cons, zipF_len xs ys]; omega
theorem itR_zip {Γ : Ct} {φ : List Addr} {G : Hp} {a b : Addr} {us vs : List V} {cs ds : List Ev.D} (h : SqL Γ.K G a us) (h' : SqL Γ.K G b vs) (r : DRs Γ.K G us cs) (r' : DRs Γ.K G vs ds) : ItR Γ φ G (Itz Γ.K a b) (Ev.zipF cs ds) := by
  have l1 := r.len; have l2 := r'.len; have l3 := zipF_len cs ds
  refine ⟨fun i H hi s => ?_, fun H s => ⟨us, vs, s.seq h, s.seq h', by omega⟩, fun i H x H' q e s y => ?_⟩
  · have h1 : i < us.length := by omega
    have h2 : i < vs.length := by omega
    exact ⟨us, vs, us[i], vs[i], s.seq h, s.seq h', by simp [h1], by simp [h2]⟩
  · obtain ⟨c, d, e1, e2, e3⟩ := zipF_at cs ds i q e
    obtain ⟨T, z, w, h1, h2, h3, h4, h5⟩ := y
    exact .inr ⟨T, _, [c, d], h1, h2, h3, e3, .cons (r.at_ e1 (h4 us (s.seq h))) (.cons (r'.at_ e2 (h5 vs (s.seq h'))) .nil)⟩
theorem itR_zipT {Γ : Ct} {φ : List Addr} {G : Hp} {a b : Addr} {us vs : List V} {cs ds : List Ev.D} (h : SqT Γ.K G a us) (h' : SqT Γ.K G b vs) (r : DRs Γ.K G us cs) (r' : DRs Γ.K G vs ds) : ItR Γ φ G (RZ.ItzT Γ.K a b) (Ev.zipF cs ds) := by
  have l1 := r.len; have l2 := r'.len; have l3 := zipF_len cs ds
  refine ⟨fun i H hi s => ?_, fun H s => ⟨us, vs, Same.seqT s h, Same.seqT s h', by omega⟩, fun i H x H' q e s y => ?_⟩
  · have h1 : i < us.length := by omega
    have h2 : i < vs.length := by omega
    exact ⟨us, vs, us[i], vs[i], Same.seqT s h, Same.seqT s h', by simp [h1], by simp [h2]⟩
  · obtain ⟨c, d, e1, e2, e3⟩ := zipF_at cs ds i q e
    obtain ⟨T, z, w, h1, h2, h3, h4, h5⟩ := y
    exact .inr ⟨T, _, [c, d], h1, h2, h3, e3, .cons (r.at_ e1 (h4 us (Same.seqT s h))) (.cons (r'.at_ e2 (h5 vs (Same.seqT s h'))) .nil)⟩
theorem rangeF_at : ∀ (n : Nat) (lo : Int) (i : Nat) (r : Ev.R), (Ev.rangeF lo n)[i]? = some r → r = .d (.int (lo + i))
  | 0, lo, i, r, h => by simp [Ev.rangeF] at h
  | n + 1, lo, 0, r, h => by simp [Ev.rangeF] at h; rw [← h]; simp
  | n + 1, lo, i + 1, r, h => by
    rw [rangeF_at n (lo + 1) i r (by simpa [Ev.rangeF] using h)]
    congr 2; omega
theorem rangeF_len : ∀ (n : Nat) (lo : Int), (Ev.rangeF lo n).length = n
  | 0, _ => rfl
  | n + 1, lo => by simp [Ev.rangeF, rangeF_len n]
theorem itR_range {Γ : Ct} {φ : List Addr} {G : Hp} {lo : Int} {n : Nat} : ItR Γ φ G (Itr lo n) (Ev.rangeF lo n) :=
  ⟨fun i H hi s => by rw [rangeF_len] at hi; exact hi, fun H s => by rw [rangeF_len]; exact Nat.le_refl n, fun i H x H' q e s y => .inl ⟨y.1, by rw [y.2, rangeF_at n lo i q e]; exact .d (.int _)⟩⟩
/-- a list or a tuple, walked -/
def iAny (K : PySem.W.Frag) (te : TE) : TI := fun σ H R => te σ H fun x H1 => ∃ a, x = .ref a ∧ (((∃ xs, SqL K H1 a xs) ∧ R (Itl K a) H1) ∨ ((∃ xs, SqT K H1 a xs) ∧ R (Itt K a) H1))
theorem pi_any {X : Cx} {tg l : Expr} {tl : TE} (hl : PE X l tl) : PI X tg l (iAny X.K tl) := by
  refine ⟨fun pins s σ H R I h => thn (hl.run pins s σ H _ I h) fun v s1 ⟨x, H1, I1, r1, a, ex, q1⟩ => ?_⟩
  subst ex
  cases (show v = Value.ref a from r1)
  have fr : ∀ b, b ∈ [s1.heap.objs.size] → FpOk X pins H1 b := fun b hb => by
    rw [List.mem_singleton.mp hb]
    exact I1.fpOk (Nat.le_refl _) (I1.hok.fresh (Nat.le_refl _))
  rcases q1 with ⟨⟨xs, hq⟩, q⟩ | ⟨⟨xs, hq⟩, q⟩
  · obtain ⟨its, rv, p, _⟩ := I1.list hq
    have J : Inv X pins σ H1 { s1 with heap := s1.heap.push { cls := .type "list_iterator", data := .fields #[.ref a, .int 0 0] } } := I1.kept (t' := s1.toks) fun _ _ e => Heap.get?_push_of_some _ e
    exact wpAny_pyIter_list p.isList ⟨_, _, _, _, H1, rfl, J, turn_list a _, ⟨_, Heap.get?_push_size _ rfl, rfl, rfl⟩, fr, q⟩
  · obtain ⟨its, rv, p, _⟩ := I1.tuple hq
    have J : Inv X pins σ H1 { s1 with heap := s1.heap.push { cls := .type "tuple_iterator", data := .fields #[.ref a, .int 0 0] } } := I1.kept (t' := s1.toks) fun _ _ e => Heap.get?_push_of_some _ e
    exact wpAny_pyIter_tuple (show s1.heap.IsTuple a its.toArray from p) ⟨_, _, _, _, H1, rfl, J, turn_tuple a _, ⟨_, Heap.get?_push_size _ rfl, rfl, rfl⟩, fr, q⟩
section
variable {X : Cx} {W : WX} {ca : Cn} {k : Nat}
theorem si_e {tg e : Expr} {f : Ev.E} (h : PE X e (tE (ct X ca) W f)) : PI X tg e (tI (ct X ca) W (Ev.iE f)) := PI.imp (pi_any h) fun σ H Q q => by
  obtain ⟨φ, G, ρ, μ, ok, en, q⟩ := q
  unfold Ev.iE at q
  refine ⟨φ, G, ρ, μ, ok, en, post_bind q fun v1 φ1 G1 H1 x μ1 _ ext ok1 r1 q1 => ?_⟩
  obtain ⟨rs, e, q1⟩ := post_lift q1
  have fin : ∀ {J : It}, ItR (ct X ca) φ1 G1 J rs → Q J H1 := fun i => post_ok q1 ok1 i
  cases x with
  | d d =>
    cases d with
    | tup ds =>
      cases e
      cases r1.inv_d with
      | tup h1 h2 => exact ⟨_, rfl, .inr ⟨⟨_, Same.seqT ok1.le h1⟩, fin (itR_tup h1 (RRs.ofD h2))⟩⟩
    | lst ds =>
      cases e
      cases r1.inv_d with
      | lst h1 h2 => exact ⟨_, rfl, .inl ⟨⟨_, ok1.le.seq (.inl (.inl h1))⟩, fin (itR_list (.inl (.inl h1)) (RRs.ofD h2))⟩⟩
    | _ => cases e
  | ls ss =>
    cases e
    cases r1 with
    | ls h1 h2 => exact ⟨_, rfl, .inl ⟨⟨_, ok1.le.seq (.inl (.inl h1))⟩, fin (itR_list (.inl (.inl h1)) h2)⟩⟩
  | scr ns =>
    cases e
    cases r1 with
    | scr h1 =>
      refine ⟨_, rfl, .inl ⟨⟨_, ok1.le.seq h1⟩, fin (itR_list h1 ?_)⟩⟩
      have : ∀ ns : List Int, RRs (ct X ca) φ1 G1 (ns.map V.int) (ns.map fun n => Ev.R.d (.int n)) := fun ns => by
        induction ns with
        | nil => exact .nil
        | cons n ns ih => exact .cons (.d (.int n)) ih
      exact this ns
  | _ => cases e
theorem si_range1 {tg a : Expr} {f : Ev.E} {p pos : Pos} (hg : Gl X "range") (hm : X.mg "range" = none) (ha : PE X a (tE (ct X ca) W f)) (hs : starEach [a] X.env = [(false, eval a X.env)] := by rfl) :
    PI X tg (.Call (.Name "range" p) [a] [] pos) (tI (ct X ca) W (Ev.iRange1 f)) := PI.imp (pi_range1 hg hm (pa_cons ha pa_nil hs) hs) fun σ H Q q => by
  obtain ⟨φ, G, ρ, μ, ok, en, q⟩ := q
  unfold Ev.iRange1 at q
  refine ⟨φ, G, ρ, μ, ok, en, post_bind q fun v1 φ1 G1 H1 x μ1 _ ext ok1 r1 q1 => ?_⟩
  split at q1
  · split at q1
    · rename_i hz
      simp only [Ev.inRange62, Bool.and_eq_true, decide_eq_true_eq] at hz
      have := r1.int
      subst this
      exact ⟨_, rfl, by omega, by omega, post_ok q1 ok1 itR_range⟩
    · exact q1.elim
  · exact q1.elim
theorem si_range2 {tg a b : Expr} {f g : Ev.E} {p pos : Pos} (hg : Gl X "range") (hm : X.mg "range" = none) (ha : PE X a (tE (ct X ca) W f)) (hb : PE X b (tE (ct X ca) W g))
    (hs : starEach [a, b] X.env = [(false, eval a X.env), (false, eval b X.env)] := by rfl) (hs2 : starEach [b] X.env = [(false, eval b X.env)] := by rfl) :
    PI X tg (.Call (.Name "range" p) [a, b] [] pos) (tI (ct X ca) W (Ev.iRange2 f g)) := PI.imp (pi_range2 hg hm (pa_cons ha (pa_cons hb pa_nil hs2) (by rw [hs, hs2])) hs hs2) fun σ H Q q => by
  obtain ⟨φ, G, ρ, μ, ok, en, q⟩ := q
  unfold Ev.iRange2 at q
  refine ⟨φ, G, ρ, μ, ok, en, post_bind q fun v1 φ1 G1 H1 x μ1 _ ext ok1 r1 q1 => ?_⟩
  refine ⟨φ1, G1, ρ, μ1, ok1, en.ext ext, post_bind q1 fun v2 φ2 G2 H2 y μ2 _ ext2 ok2 r2 q2 => ?_⟩
  split at q2
  · split at q2
    · rename_i hz
      simp only [Ev.inRange62, Bool.and_eq_true, decide_eq_true_eq] at hz
      have := r1.int
      have := r2.int
      subst v1 v2
      exact ⟨_, _, rfl, by omega, post_ok q2 ok2 itR_range⟩
    · exact q2.elim
  · exact q2.elim
theorem si_enum {e : Expr} {f : Ev.E} {p pos tpos : Pos} {elts : List Expr} {kk : Nat} (hg : Gl X "enumerate") (hm : X.mg "enumerate" = none) (h : PE X e (tE (ct X ca) W f)) (hs : starEach [e] X.env = [(false, eval e X.env)] := by rfl) :
    PI X (.Tuple elts kk tpos) (.Call (.Name "enumerate" p) [e] [] pos) (tI (ct X ca) W (Ev.iEnum f)) := PI.imp (pi_enumA hg hm (pa_cons h pa_nil hs) hs) fun σ H Q q => by
  obtain ⟨φ, G, ρ, μ, ok, en, q⟩ := q
  unfold Ev.iEnum at q
  refine ⟨φ, G, ρ, μ, ok, en, post_bind q fun v1 φ1 G1 H1 x μ1 _ ext ok1 r1 q1 => ?_⟩
  split at q1
  · cases r1.inv_d with
    | tup h1 h2 => exact ⟨_, _, rfl, .inr ⟨Same.seqT ok1.le h1, post_ok q1 ok1 (itR_enumT h1 h2)⟩⟩
  · cases r1.inv_d with
    | lst h1 h2 => exact ⟨_, _, rfl, .inl ⟨ok1.le.seq (.inl (.inl h1)), post_ok q1 ok1 (itR_enum (.inl (.inl h1)) h2)⟩⟩
  · exact q1.elim
theorem si_zip {a b : Expr} {f g : Ev.E} {p pos tpos : Pos} {elts : List Expr} {kk : Nat} (hg : Gl X "zip") (hm : X.mg "zip" = none) (ha : PE X a (tE (ct X ca) W f)) (hb : PE X b (tE (ct X ca) W g))
    (hs : starEach [a, b] X.env = (false, eval a X.env) :: starEach [b] X.env := by rfl) (hs2 : starEach [b] X.env = (false, eval b X.env) :: starEach [] X.env := by rfl) (hpl : (backTo pos (starEach [b] X.env)).any (·.1) = false := by rfl) :
    PI X (.Tuple elts kk tpos) (.Call (.Name "zip" p) [a, b] [] pos) (tI (ct X ca) W (Ev.iZip f g)) := PI.imp (RZ.pi_zipA hg hm (pa_cons ha (pa_cons hb pa_nil hs2) hs) hs hpl) fun σ H Q q => by
  obtain ⟨φ, G, ρ, μ, ok, en, q⟩ := q
  unfold Ev.iZip at q
  refine ⟨φ, G, ρ, μ, ok, en, post_bind q fun v1 φ1 G1 H1 x μ1 _ ext ok1 r1 q1 => ?_⟩
  refine ⟨φ1, G1, ρ, μ1, ok1, en.ext ext, post_bind q1 fun v2 φ2 G2 H2 y μ2 _ ext2 ok2 r2 q2 => ?_⟩
  have r1 := ext2.rr r1
  split at q2
  · cases r1.inv_d with
    | lst h1 h2 =>
      cases r2.inv_d with
      | lst h3 h4 => exact ⟨_, _, _, _, rfl, .inl ⟨ok2.le.seq (.inl (.inl h1)), ok2.le.seq (.inl (.inl h3)), post_ok q2 ok2 (itR_zip (.inl (.inl h1)) (.inl (.inl h3)) h2 h4)⟩⟩
  · cases r1.inv_d with
    | tup h1 h2 =>
      cases r2.inv_d with
      | tup h3 h4 => exact ⟨_, _, _, _, rfl, .inr ⟨Same.seqT ok2.le h1, Same.seqT ok2.le h3, post_ok q2 ok2 (itR_zipT h1 h3 h2 h4)⟩⟩
  · exact q2.elim
end

/-! ### targets -/
structure Chg (is : List Nat) (σ : L2.St) (ρ : Ev.Env) (σ' : L2.St) (ρ' : Ev.Env) : Prop where
  len : σ'.length = σ.length
  out : ∀ j : Nat, j ∉ is → σ'[j]? = σ[j]?
  own : ∀ (j : Nat) (s : Ev.Sl), ρ'[j]? = some s → isOwn s = true → ρ[j]? = some s ∧ σ'[j]? = σ[j]?
theorem Chg.refl {is : List Nat} {σ : L2.St} {ρ : Ev.Env} : Chg is σ ρ σ ρ := ⟨rfl, fun _ _ => rfl, fun _ _ h _ => ⟨h, rfl⟩⟩
theorem Chg.trans {is js : List Nat} {σ σ1 σ2 : L2.St} {ρ ρ1 ρ2 : Ev.Env} (a : Chg is σ ρ σ1 ρ1) (b : Chg js σ1 ρ1 σ2 ρ2) : Chg (is ++ js) σ ρ σ2 ρ2 := by
  refine ⟨b.len.trans a.len, fun j hj => ?_, fun j s h o => ?_⟩
  · rw [b.out j fun z => hj (List.mem_append_right _ z), a.out j fun z => hj (List.mem_append_left _ z)]
  · obtain ⟨h1, h2⟩ := b.own j s h o
    obtain ⟨h3, h4⟩ := a.own j s h1 o
    exact ⟨h3, h2.trans h4⟩
theorem Chg.fresh {is : List Nat} {σ σ' : L2.St} {ρ ρ' : Ev.Env} {H0 : Hp} (a : Chg is σ ρ σ' ρ') (h : Fresh H0 σ ρ) : Fresh H0 σ' ρ' := fun i s b e o q => by
  obtain ⟨h1, h2⟩ := a.own i s e o
  exact h i s b h1 o (h2 ▸ q)
theorem wipe_get (σ : L2.St) (vs : List Nat) (j : Nat) : (wipe σ vs)[j]? = if j ∈ vs ∧ j < σ.length then some none else σ[j]? := by
  induction vs with
  | nil => simp [wipe]
  | cons v vs ih =>
    unfold wipe
    by_cases hv : v = j
    · subst hv
      by_cases hl : v < σ.length
      · rw [List.getElem?_set_self (by rw [wipe_length]; exact hl)]
        simp [hl]
      · rw [List.getElem?_eq_none (by simp [wipe_length]; omega), List.getElem?_eq_none (by omega)]
        simp [hl]
    · rw [List.getElem?_set_ne hv, ih]
      have : (j ∈ v :: vs) ↔ (j ∈ vs) := by simp [Ne.symm hv]
      simp only [this]
theorem Chg.wipe {is vs : List Nat} {σ σ' : L2.St} {ρ ρ' : Ev.Env} (a : Chg is (L2.wipe σ vs) ρ σ' ρ') (h : ∀ j ∈ is, j ∈ vs) : L2.wipe σ' vs = L2.wipe σ vs := by
  refine List.ext_getElem? fun j => ?_
  have hl : σ'.length = σ.length := by rw [a.len, wipe_length]
  rw [wipe_get, wipe_get, hl]
  split
  · rfl
  · rename_i hc
    by_cases hj : j ∈ is
    · have hjl : ¬ j < σ.length := fun z => hc ⟨h j hj, z⟩
      rw [List.getElem?_eq_none (by omega), List.getElem?_eq_none (by omega)]
    · rw [a.out j hj, wipe_get, if_neg hc]
/-- the target's reading g does what the evaluator's t says -/
def GOk (Γ : Ct) (g : TG) (t : Ev.Tg) (is : List Nat) : Prop := ∀ (φ : List Addr) (G H : Hp) (μ : Ev.Mem) (σ : L2.St) (ρ ρ' : Ev.Env) (v : V) (r : Ev.R) (Kt : L2.St → Hp → Prop),
  Ok Γ φ G H μ → EnvR Γ φ G H σ ρ → RR Γ φ G v r → t r ρ = some ρ' → (∀ σ', EnvR Γ φ G H σ' ρ' → Chg is σ ρ σ' ρ' → Kt σ' H) → g v σ H Kt
def GsOk (Γ : Ct) (g : TGs) (ts : List Ev.Tg) (is : List Nat) : Prop := ∀ (φ : List Addr) (G H : Hp) (μ : Ev.Mem) (σ : L2.St) (ρ ρ' : Ev.Env) (vs : List V) (rs : List Ev.R) (Kt : L2.St → Hp → Prop),
  Ok Γ φ G H μ → EnvR Γ φ G H σ ρ → RRs Γ φ G vs rs → Ev.tgs ts rs ρ = some ρ' → (∀ σ', EnvR Γ φ G H σ' ρ' → Chg is σ ρ σ' ρ' → Kt σ' H) → g vs σ H Kt
theorem gok_name {Γ : Ct} {i : Nat} : GOk Γ (gName i) (Ev.tgN i) [i] := fun φ G H μ σ ρ ρ' v r Kt ok en rr e k => by
  unfold Ev.tgN at e
  cases e
  refine k _ (en.set rr) ⟨by simp, fun j hj => ?_, fun j s h o => ?_⟩
  · rw [List.getElem?_set_ne (fun z => hj (by simp [z]))]
  · by_cases hij : i = j
    · subst hij
      by_cases hl : i < ρ.length
      · rw [List.getElem?_set_self hl] at h
        cases h; cases o
      · rw [List.getElem?_eq_none (by simpa using hl)] at h; cases h
    · rw [List.getElem?_set_ne hij] at h ⊢
      exact ⟨h, rfl⟩
theorem gsok_nil {Γ : Ct} : GsOk Γ gNil [] [] := fun φ G H μ σ ρ ρ' vs rs Kt ok en rr e k => by
  cases rr with
  | nil => cases e; exact ⟨rfl, k _ en Chg.refl⟩
  | cons => cases e
theorem gsok_cons {Γ : Ct} {g : TG} {u : TGs} {t : Ev.Tg} {ts : List Ev.Tg} {is js : List Nat} (h1 : GOk Γ g t is) (h2 : GsOk Γ u ts js) : GsOk Γ (gCons g u) (t :: ts) (is ++ js) := fun φ G H μ σ ρ ρ' vs rs Kt ok en rr e k => by
  cases rr with
  | nil => cases e
  | cons a b =>
    obtain ⟨ρ1, e1, e2⟩ := Option.bind_eq_some_iff.mp (show (t _ ρ).bind _ = some ρ' from e)
    refine ⟨_, _, rfl, h1 φ G H μ σ ρ ρ1 _ _ _ ok en a e1 fun σ1 en1 c1 => ?_⟩
    exact h2 φ G H μ σ1 ρ1 ρ' _ _ _ ok en1 b e2 fun σ2 en2 c2 => k σ2 en2 (c1.trans c2)
/-- (a, b, ..) = a tuple or a list of that length -/
def gSeq (K : PySem.W.Frag) (n : Nat) (t : TGs) : TG := fun v σ H Q => gTup K n t v σ H Q ∨ gUnl K n t v σ H Q
theorem pg_seq {X : Cx} {es : List Expr} {k : Nat} {t : TGs} {n : Nat} {pos : Pos} (hc : X.calm = true) (h : PGs X es t)
    (hn : (assignEach es X.env).length = n := by rfl) (hst : (assignEach es X.env).findIdx? (·.1) = none := by rfl) : PG X (.Tuple es k pos) (gSeq X.K n t) :=
  ⟨fun pins s σ H v u Q I r hw => hw.elim ((pg_tup hc h hn hst).run pins s σ H v u Q I r) ((pg_unl hc h hn hst).run pins s σ H v u Q I r)⟩
theorem tgs_len : ∀ {ts : List Ev.Tg} {rs : List Ev.R} {ρ ρ' : Ev.Env}, Ev.tgs ts rs ρ = some ρ' → rs.length = ts.length
  | [], [], _, _, _ => rfl
  | [], _ :: _, _, _, h => by cases h
  | _ :: _, [], _, _, h => by cases h
  | t :: ts, r :: rs, ρ, ρ', h => by
    obtain ⟨ρ1, e1, e2⟩ := Option.bind_eq_some_iff.mp (show (t _ ρ).bind _ = some ρ' from h)
    simp [tgs_len e2]
theorem gok_seq {Γ : Ct} {u : TGs} {ts : List Ev.Tg} {is : List Nat} {n : Nat} (hn : ts.length = n) (h : GsOk Γ u ts is) : GOk Γ (gSeq Γ.K n u) (Ev.tgT ts) is := fun φ G H μ σ ρ ρ' v r Kt ok en rr e k => by
  unfold Ev.tgT at e
  split at e
  · rename_i ds
    have hl := tgs_len e
    cases rr.inv_d with
    | tup h1 h2 => exact .inl ⟨_, _, rfl, Same.seqT ok.le h1, by rw [h2.len, ← hn, ← hl, List.length_map], h φ G H μ σ ρ ρ' _ _ _ ok en (RRs.ofD h2) e k⟩
  · have hl := tgs_len e
    cases rr.inv_d with
    | lst h1 h2 => exact .inr ⟨_, _, rfl, .inl (.inl (ok.le _ _ h1)), by rw [h2.len, ← hn, ← hl, List.length_map], h φ G H μ σ ρ ρ' _ _ _ ok en (RRs.ofD h2) e k⟩
  · cases e

/-! ### comprehensions -/
/-- nothing may be raised within a comprehension -/
def Wn : WX := fun _ _ _ _ => False
theorem XS.blk {X : Cx} {W : WX} {k : Nat} (x : XS X W k) {s : Shared} {H : Hp} {scope : Scope} {ce : Env} {fp : List Addr} : XS (X.blk s H scope ce fp) Wn k :=
  ⟨x.calm, x.nd, x.room, fun u s' ⟨_, _, _, _, _, _, _, _, _, _, _, _, _, _, _, _, w⟩ => w.elim, PassesOwn.never, fun _ _ _ _ _ h => h⟩
section
variable {X : Cx} {W : WX} {ca : Cn} {k : Nat}
theorem Ext.keep2 {φ φ1 : List Addr} {G G1 H H1 : Hp} {c : Addr} {o : HO} (a : Ext φ G H φ1 G1 H1) (h : H c = some o ∧ c ∉ φ ∧ G c = none) (ht : ∀ q, o ≠ .tbl q := by intro q z; cases z) : H1 c = some o ∧ c ∉ φ1 ∧ G1 c = none := a.keep h.1 h.2.1 h.2.2 ht
theorem lc_of {X : Cx} {own : List (Str × Nat)} {g : TG} {t : Ev.Tg} {is : List Nat} {it : Ev.It} {c : Ev.T} {fe : Ev.E} {tt : TT} {σ : L2.St} {H : Hp} {Q : VK}
    (gk : GOk (ct X ca) g t is) (hin : ∀ j ∈ is, j ∈ own.map (·.2)) (htt : ∀ σ H Q, tT (ct X ca) Wn c σ H Q → tt σ H Q) (q : tN (ct X ca) W (Ev.eComp (own.map (·.2)) t it c fe) σ H Q) :
    tLc (tI (ct X ca) W it) g tt (tE (ct X ca) Wn fe) (own.map (·.2)) σ H Q := by
  obtain ⟨φ, G, ρ, μ, ok, en, q⟩ := q
  generalize hown : own.map (·.2) = vs at hin q ⊢
  unfold Ev.eComp at q
  refine ⟨φ, G, ρ, μ, ok, en, postN_bind q fun J φ1 G1 H1 xl μ1 _ ext ok1 ir q1 D hD => ?_⟩
  have en1 := en.ext ext
  -- the whole walk, by the evaluator alone
  cases hc : Ev.compL t c fe xl (Ev.wipeE ρ vs) μ1 with
  | no => rw [hc] at q1; exact q1.elim
  | exn e μ' => exact absurd hc (Ev.compL_exn _ _ _ _ _ _ _ _)
  | ok ys μf =>
    rw [hc] at q1
    have q1 : postN (ct X ca) (WE W σ) φ1 G1 H1 (if ys.length ≤ Ev.SL then .ok (Ev.mkL ys) μf else .no) Q := q1
    split at q1
    · rename_i hlen
      have qf : ∀ a φ' G' H', Ext φ1 G1 H1 φ' G' H' → Ok (ct X ca) φ' G' H' μf → H1 a = none → G' a = none → a ∉ φ' → Nw (ct X ca) φ' G' H' a (Ev.mkL ys) → Q (.ref a) H' := q1
      refine lc_it ir.walk (fun i H => ∃ φ' G' μ' acc rs ys', Ext φ1 G1 H1 φ' G' H ∧ Ok (ct X ca) φ' G' H μ' ∧ (H D = some (.lst acc) ∧ D ∉ φ' ∧ G' D = none) ∧ RRs (ct X ca) φ' G' acc rs ∧
        Ev.compL t c fe (xl.drop i) (Ev.wipeE ρ vs) μ' = .ok ys' μf ∧ rs ++ ys' = ys) ?_ ?_ ?_ ?_
      · exact ⟨φ1, G1, μ1, [], [], ys, Ext.of_same (same_upd hD), ok1.new0 hD, ⟨upd_same, ok1.nphi hD, ok1.ng hD⟩, .nil, hc, rfl⟩
      · rintro i H hi ⟨φ', G', μ', acc, rs, ys', e1, ok', _⟩
        exact e1.g.trans ok'.le
      · rintro i x H H' hi ⟨φ', G', μ', acc, rs, ys', e1, ok', hd, rr, hcl, hys⟩ y
        have hx : xl[i]? = some xl[i] := by simp [hi]
        obtain ⟨G2, e2, ok2, rx⟩ := (ir.ext e1).turn ok' hx y
        rw [List.drop_eq_getElem_cons hi, Ev.compL_cons] at hcl
        cases htg : t xl[i] (Ev.wipeE ρ vs) with
        | none => rw [htg] at hcl; cases hcl
        | some ρ1 =>
          rw [htg] at hcl
          dsimp only at hcl
          obtain ⟨b, μ2, hb2, hcl⟩ := Ev.bind_eq_ok hcl
          have hb2 := Ev.nx_eq_ok hb2
          refine gk φ' G2 H' μ' _ _ ρ1 x _ _ ok2 (((en1.ext e1).ext e2).wipe vs) rx htg fun σ2 en2 ch => ⟨ch.wipe hin, htt _ _ _ ⟨φ', G2, ρ1, μ', ok2, en2, ?_⟩⟩
          rw [hb2]
          intro v φ3 G3 H3 e3 ok3 hv
          have hv : v = b := hv
          subst hv
          have hd3 := e3.keep2 (e2.keep2 hd)
          have e13 := (e1.trans e2).trans e3
          cases v with
          | false =>
            rw [if_neg (by decide)] at hcl ⊢
            exact ⟨φ3, G3, μ2, acc, rs, ys', e13, ok3, hd3, e3.rrs (e2.rrs rr), hcl, hys⟩
          | true =>
            rw [if_pos rfl] at hcl ⊢
            obtain ⟨z, μ3, hz, hcl⟩ := Ev.bind_eq_ok hcl
            have hz := Ev.nx_eq_ok hz
            obtain ⟨ys2, μ4, hcl, hcl2⟩ := Ev.bind_eq_ok hcl
            cases hcl2
            refine ⟨φ3, G3, ρ1, μ2, ok3, en2.ext e3, ?_⟩
            rw [hz]
            intro v φ4 G4 H4 e4 ok4 hv
            have hd4 := e4.keep2 hd3
            have hl : acc.length < sizeLine := by
              have h1 := rr.len
              have h2 : (rs ++ z :: ys2).length ≤ Ev.SL := by rw [hys]; exact hlen
              rw [List.length_append, List.length_cons] at h2
              rw [← SL_eq]; omega
            refine ⟨acc, hd4.1, hl, φ4, G4, μ3, acc ++ [v], rs ++ [z], ys2, (e13.trans e4).upd hD, ok4.upd hd4.2.1 hd4.2.2 (fun a q => by rw [hd4.1] at q; cases q) (fun a q => by rw [hd4.1] at q; cases q), ⟨upd_same, hd4.2.1, hd4.2.2⟩, ?_, hcl, by rw [← hys]; simp⟩
            exact (e4.rrs (e3.rrs (e2.rrs rr))).append (.cons hv .nil)
      · rintro H ⟨φ', G', μ', acc, rs, ys', e1, ok', hd, rr, hcl, hys⟩
        rw [List.drop_length] at hcl
        cases hcl
        rw [List.append_nil] at hys
        subst hys
        exact qf D φ' G' H e1 ok' hD hd.2.2 hd.2.1 (.lst hd.1 rr)
    · exact q1.elim
theorem sn_comp {elt tg iter : Expr} {ifs : List Expr} {scope : Scope} {own : List (Str × Nat)} {pos : Pos} {g : TG} {t : Ev.Tg} {is : List Nat} {it : Ev.It} {c : Ev.T} {fe : Ev.E} {tt : TT}
    (xs : XS X W k) (hi : PI X tg iter (tI (ct X ca) W it)) (hb : BlkOk X.N X.env.scope scope own)
    (hg : ∀ (s : Shared) (H : Hp) (C : Addr) (cl : List (Str × Addr)) (fp : List Addr), PG (X.blk s H scope (compEnvC scope cl C X.env) fp) tg g)
    (gk : GOk (ct X ca) g t is) (hin : ∀ j ∈ is, j ∈ own.map (·.2))
    (ht : ∀ (s : Shared) (H : Hp) (C : Addr) (cl : List (Str × Addr)) (fp : List Addr), PTs (X.blk s H scope (compEnvC scope cl C X.env) fp) ifs tt)
    (htt : ∀ σ H Q, tT (ct X ca) Wn c σ H Q → tt σ H Q)
    (he : ∀ (s : Shared) (H : Hp) (C : Addr) (cl : List (Str × Addr)) (fp : List Addr), PE (X.blk s H scope (compEnvC scope cl C X.env) fp) elt (tE (ct X ca) Wn fe)) (hs : ∀ x, foldedSetIterable iter X.env x = pure x := by intro _; rfl) :
    PE X (.ListComp elt [⟨tg, iter, ifs, 0⟩] scope pos) (tN (ct X ca) W (Ev.eComp (own.map (·.2)) t it c fe)) := PE.imp (pe_lc xs.calm xs.nd hi hb hg ht he hs) fun σ H Q q => lc_of gk hin htt q
/-- name = [..] on one line -/
theorem pa_comp {i : Nat} {y : Str} {py spos : Pos} {elt tg iter : Expr} {ifs : List Expr} {scope : Scope} {own : List (Str × Nat)} {pos : Pos} {g : TG} {t : Ev.Tg} {is : List Nat} {it : Ev.It} {c : Ev.T} {fe : Ev.E} {tt : TT}
    (xs : XS X W k) (hy : X.N[i]? = some y) (hyl : X.env.scope.names.lookup y = some .local) (hi : PI X tg iter (tI (ct X ca) W it)) (hb : BlkOk X.N X.env.scope scope own)
    (hg : ∀ (s : Shared) (H : Hp) (C : Addr) (cl : List (Str × Addr)) (fp : List Addr), PG (X.blk s H scope (compEnvC scope cl C X.env) fp) tg g)
    (gk : GOk (ct X ca) g t is) (hin : ∀ j ∈ is, j ∈ own.map (·.2))
    (ht : ∀ (s : Shared) (H : Hp) (C : Addr) (cl : List (Str × Addr)) (fp : List Addr), PTs (X.blk s H scope (compEnvC scope cl C X.env) fp) ifs tt)
    (htt : ∀ σ H Q, tT (ct X ca) Wn c σ H Q → tt σ H Q)
    (he : ∀ (s : Shared) (H : Hp) (C : Addr) (cl : List (Str × Addr)) (fp : List Addr), PE (X.blk s H scope (compEnvC scope cl C X.env) fp) elt (tE (ct X ca) Wn fe))
    (hsw : swapsWith (.ListComp elt [⟨tg, iter, ifs, 0⟩] scope pos) (some (.Name y py)) spos.line X.env = pure true := by rfl) (hs : ∀ x, foldedSetIterable iter X.env x = pure x := by intro _; rfl) :
    PS X (.Assign [.Name y py] (.ListComp elt [⟨tg, iter, ifs, 0⟩] scope pos) spos) (tAsg (tN (ct X ca) W (Ev.eComp (own.map (·.2)) t it c fe)) (gName i)) := PS.imp (ps_setLc xs.calm xs.nd hy hyl hsw hi hb hg ht he hs) fun D σ H q => lc_of gk hin htt q
/-- .. without a condition -/
theorem yes_of {X : Cx} {ca : Cn} : ∀ σ H Q, tT (ct X ca) Wn Ev.tYes σ H Q → L2.tYes σ H Q := fun σ H Q ⟨φ, G, ρ, μ, ok, en, q⟩ => by
  unfold Ev.tYes at q
  exact post_ok (x := true) (μ := μ) q ok rfl
section
variable {y : Str} {i : Nat} {py spos : Pos} {elt tg iter c : Expr} {scope : Scope} {own : List (Str × Nat)} {pos : Pos} {g : TG} {t : Ev.Tg} {is : List Nat} {it : Ev.It} {fc : Ev.T} {fe : Ev.E}
theorem sn_comp0 (xs : XS X W k) (hi : PI X tg iter (tI (ct X ca) W it)) (hb : BlkOk X.N X.env.scope scope own)
    (hg : ∀ (s : Shared) (H : Hp) (C : Addr) (cl : List (Str × Addr)) (fp : List Addr), PG (X.blk s H scope (compEnvC scope cl C X.env) fp) tg g) (gk : GOk (ct X ca) g t is) (hin : ∀ j ∈ is, j ∈ own.map (·.2))
    (he : ∀ (s : Shared) (H : Hp) (C : Addr) (cl : List (Str × Addr)) (fp : List Addr), PE (X.blk s H scope (compEnvC scope cl C X.env) fp) elt (tE (ct X ca) Wn fe)) (hs : ∀ x, foldedSetIterable iter X.env x = pure x := by intro _; rfl) :
    PE X (.ListComp elt [⟨tg, iter, [], 0⟩] scope pos) (tN (ct X ca) W (Ev.eComp (own.map (·.2)) t it Ev.tYes fe)) := sn_comp xs hi hb hg gk hin (fun _ _ _ _ _ => pts_nil) yes_of he hs
theorem sn_comp1 (xs : XS X W k) (hi : PI X tg iter (tI (ct X ca) W it)) (hb : BlkOk X.N X.env.scope scope own)
    (hg : ∀ (s : Shared) (H : Hp) (C : Addr) (cl : List (Str × Addr)) (fp : List Addr), PG (X.blk s H scope (compEnvC scope cl C X.env) fp) tg g) (gk : GOk (ct X ca) g t is) (hin : ∀ j ∈ is, j ∈ own.map (·.2))
    (hc : ∀ (s : Shared) (H : Hp) (C : Addr) (cl : List (Str × Addr)) (fp : List Addr), PT (X.blk s H scope (compEnvC scope cl C X.env) fp) c (tT (ct X ca) Wn fc))
    (he : ∀ (s : Shared) (H : Hp) (C : Addr) (cl : List (Str × Addr)) (fp : List Addr), PE (X.blk s H scope (compEnvC scope cl C X.env) fp) elt (tE (ct X ca) Wn fe)) (hs : ∀ x, foldedSetIterable iter X.env x = pure x := by intro _; rfl) :
    PE X (.ListComp elt [⟨tg, iter, [c], 0⟩] scope pos) (tN (ct X ca) W (Ev.eComp (own.map (·.2)) t it fc fe)) := sn_comp xs hi hb hg gk hin (fun s H C cl fp => pts_one (hc s H C cl fp)) (fun _ _ _ h => h) he hs
theorem pa_comp0 (xs : XS X W k) (hy : X.N[i]? = some y) (hyl : X.env.scope.names.lookup y = some .local) (hi : PI X tg iter (tI (ct X ca) W it)) (hb : BlkOk X.N X.env.scope scope own)
    (hg : ∀ (s : Shared) (H : Hp) (C : Addr) (cl : List (Str × Addr)) (fp : List Addr), PG (X.blk s H scope (compEnvC scope cl C X.env) fp) tg g) (gk : GOk (ct X ca) g t is) (hin : ∀ j ∈ is, j ∈ own.map (·.2))
    (he : ∀ (s : Shared) (H : Hp) (C : Addr) (cl : List (Str × Addr)) (fp : List Addr), PE (X.blk s H scope (compEnvC scope cl C X.env) fp) elt (tE (ct X ca) Wn fe))
    (hsw : swapsWith (.ListComp elt [⟨tg, iter, [], 0⟩] scope pos) (some (.Name y py)) spos.line X.env = pure true := by rfl) (hs : ∀ x, foldedSetIterable iter X.env x = pure x := by intro _; rfl) :
    PS X (.Assign [.Name y py] (.ListComp elt [⟨tg, iter, [], 0⟩] scope pos) spos) (tAsg (tN (ct X ca) W (Ev.eComp (own.map (·.2)) t it Ev.tYes fe)) (gName i)) := pa_comp xs hy hyl hi hb hg gk hin (fun _ _ _ _ _ => pts_nil) yes_of he hsw hs
theorem pa_comp1 (xs : XS X W k) (hy : X.N[i]? = some y) (hyl : X.env.scope.names.lookup y = some .local) (hi : PI X tg iter (tI (ct X ca) W it)) (hb : BlkOk X.N X.env.scope scope own)
    (hg : ∀ (s : Shared) (H : Hp) (C : Addr) (cl : List (Str × Addr)) (fp : List Addr), PG (X.blk s H scope (compEnvC scope cl C X.env) fp) tg g) (gk : GOk (ct X ca) g t is) (hin : ∀ j ∈ is, j ∈ own.map (·.2))
    (hc : ∀ (s : Shared) (H : Hp) (C : Addr) (cl : List (Str × Addr)) (fp : List Addr), PT (X.blk s H scope (compEnvC scope cl C X.env) fp) c (tT (ct X ca) Wn fc))
    (he : ∀ (s : Shared) (H : Hp) (C : Addr) (cl : List (Str × Addr)) (fp : List Addr), PE (X.blk s H scope (compEnvC scope cl C X.env) fp) elt (tE (ct X ca) Wn fe))
    (hsw : swapsWith (.ListComp elt [⟨tg, iter, [c], 0⟩] scope pos) (some (.Name y py)) spos.line X.env = pure true := by rfl) (hs : ∀ x, foldedSetIterable iter X.env x = pure x := by intro _; rfl) :
    PS X (.Assign [.Name y py] (.ListComp elt [⟨tg, iter, [c], 0⟩] scope pos) spos) (tAsg (tN (ct X ca) W (Ev.eComp (own.map (·.2)) t it fc fe)) (gName i)) := pa_comp xs hy hyl hi hb hg gk hin (fun s H C cl fp => pts_one (hc s H C cl fp)) (fun _ _ _ h => h) he hsw hs
end
end
end EvS
end

section
set_option maxHeartbeats 0
set_option Elab.async false
set_option linter.all false
set_option maxRecDepth 100000
/-! EvGen: all(..), any(..) of a generator expression. -/
namespace EvS
open PySem PySem.Spec PyProof.Rows L2 GenW GxR

/-! ### the table of code objects -/
section
variable {Γ : Ct} {φ : List Addr} {G H : Hp} {μ : Ev.Mem} {P : Addr} {ps qs : Array Value}
theorem Ok.tab (k : Ok Γ φ G H μ) (hp : ∃ c, (c, P) ∈ Γ.ca.tabs) (ho : H P = some (.tbl ps)) (ht : TriplesOk qs.toList) : Ok Γ φ G (L2.upd H P (.tbl qs)) μ := by
  obtain ⟨c, hp⟩ := hp
  obtain ⟨_, hn, hg⟩ := k.tb _ hp
  have hn : P ∉ φ := hn
  have hg : G P = none := hg
  have ne : ∀ {b : Addr} {x : HO}, G b = some x → b ≠ P := fun {b x} e z => by subst z; rw [hg] at e; cases e
  refine ⟨fun b x e => by rw [upd_ne (ne e)]; exact k.le b x e, k.nd, k.len, k.fre, fun a ha => ?_, fun n a c h1 h2 => ?_, fun q hq => ?_⟩
  · rw [upd_ne (show a ≠ P from fun z => hn (by rw [← z]; exact ha))]; exact k.thr a ha
  · have ha : a ≠ P := fun z => hn (by rw [← z]; exact List.mem_of_getElem? h1)
    refine (k.cell n a c h1 h2).keep (Same.refl _) (fun _ _ z => z) (fun o e => by rw [upd_ne ha]; exact e) fun d e => ?_
    rw [upd_ne (show d ≠ P from fun z => by rw [z, ho] at e; cases e)]; exact e
  · by_cases hq2 : q.2 = P
    · rw [hq2]; exact ⟨⟨qs, upd_same, ht⟩, hn, hg⟩
    · obtain ⟨⟨rs, e, t⟩, h2, h3⟩ := k.tb q hq
      exact ⟨⟨rs, by rw [upd_ne hq2]; exact e, t⟩, h2, h3⟩
theorem Ext.tab (ho : H P = some (.tbl ps)) : Ext φ G H φ G (L2.upd H P (.tbl qs)) :=
  ⟨Same.refl _, fun _ h => .inl h, ⟨[], by simp, by simp⟩, fun b x e hb => by
    by_cases hbP : b = P
    · subst hbP
      rw [ho] at e; cases e
      exact .inr ⟨ps, qs, rfl, upd_same⟩
    · exact .inl (by rw [upd_ne hbP]; exact e)⟩
end

/-! ### the generator's frame -/
abbrev gcx (X : Cx) (s : Shared) (H : Hp) (cenv : Env) (A : Around) (fp : List Addr) : Cx :=
  { X with s_0 := s, H_0 := H, env := cenv, A := A, outer := X.stack, stack := cenv :: X.stack, ex := fp, fn := fun _ => false, pn := [], xe := fun _ _ => False }
section
variable {X : Cx} {pins : List (Addr × Obj)} {σ : L2.St} {H : Hp} {s : Shared}
theorem Inv.setG {g' : Array GenState} (I : Inv X pins σ H s) (h : AllBare g') : Inv X pins σ H { s with gens := g' } := ⟨I.ok, I.os, h, I.base, I.loc, I.cell, I.free, I.freeC, I.pin, I.hok, I.len⟩
theorem gen_start {scope : Scope} {own : List (Str × Nat)} {fp : List Addr} {code : Value} {A : Around} {cenv : Env} {h' : Heap} {g' : Array GenState} {t' : Nat} {m0 : Str → Option Value} (I : Inv X pins σ H s) (ok : BlkOk X.N X.env.scope scope own) (hcell : ∀ y ∈ scope.names, y.2 ≠ .cell) (hN : X.N.Nodup)
    (hfp : ∀ b ∈ fp, FpOk X pins H b ∧ b < s.heap.objs.size) (hce : cenv = genEnv scope (cloFrom X.env.cells scope.names []) s.heap.objs.size code builtinsNs X.env) (hA : A.frames = some (cenv :: X.stack)) (hh : X.calm = true → A.handled = none) (hg : AllBare g')
    (hn : h'.Ns s.heap.objs.size m0) (kp : ∀ b o, s.heap.get? b = some o → h'.get? b = some o) :
    Inv (gcx X s H cenv A fp) [] (wipe σ (own.map (·.2))) H { s with heap := h', gens := g', toks := t' } := by
  have hfree : ∀ y ∈ scope.names, y.2 = .free → ∃ c, X.env.cells.lookup y.1 = some c := fun y hy e => by
    rcases ok.free y hy e with k | k
    · exact I.ok.has _ (.inl k)
    · exact I.ok.has _ (.inr k)
  have hL : cenv.locals = s.heap.objs.size := by rw [hce]; rfl
  have hcl : cenv.cells = cloFrom X.env.cells scope.names [] := by rw [hce]; rfl
  have hsc : cenv.scope = scope := by rw [hce]; rfl
  have cm : ∀ {y c}, (y, c) ∈ cloFrom X.env.cells scope.names [] → X.env.cells.lookup y = some c ∧ c < s.heap.objs.size := fun {y c} hm => by
    rcases cloFrom_mem hm with hm | ⟨h1, rfl⟩
    · cases hm
    · obtain ⟨c, hc⟩ := hfree _ h1 rfl
      rw [hc]
      obtain ⟨w, z⟩ := I.cell _ _ hc
      exact ⟨rfl, z.lt⟩
  have mem : ∀ {y c}, cenv.cells.lookup y = some c → X.env.cells.lookup y = some c ∧ c < s.heap.objs.size := fun {y c} e => by
    rw [hcl] at e
    exact cm (PySem.mem_of_lookup e)
  have look : ∀ {y}, scope.names.lookup y = some .free → ∃ c, cenv.cells.lookup y = some c ∧ X.env.cells.lookup y = some c := fun {y} hl => by
    have hy : (y, NameKind.free) ∈ scope.names := PySem.mem_of_lookup hl
    obtain ⟨c', e'⟩ := mem_lookup (cloFrom_has (cells := X.env.cells) (acc := []) hy)
    rw [← hcl] at e'
    exact ⟨c', e', (mem e').1⟩
  have okB : (gcx X s H cenv A fp).Ok := by
    refine ⟨I.ok.mod, by show cenv.scope.kind = _; rw [hsc]; exact ok.kind, by show cenv.globals = _; rw [hce]; exact I.ok.glob, by show cenv.builtins = _; rw [hce]; rfl, by show s.heap.objs.size ≤ cenv.locals; rw [hL]; exact Nat.le_refl _,
      fun y z c e1 e2 => I.ok.inj y z c (mem e1).1 (mem e2).1, fun y hy => ?_, (fun y c z e => by cases z), hh, hA, .inr ⟨rfl, by show cenv.frame = some cenv.locals; rw [hce]; rfl⟩, fun b hb => ⟨?_, fun y c e z => (hfp b hb).1.2.2.2.2.1 y c (mem e).1 z⟩, I.bs, Nat.le_trans I.ok.bsz I.sz, fun b o e hb => ?_, fun b hb z => ?_, I.stack, I.stkFree⟩
    · show ∃ c, cenv.cells.lookup y = some c
      have hy : cenv.kindOf y = some .cell ∨ cenv.kindOf y = some .free := hy
      unfold Env.kindOf at hy
      rw [hsc] at hy
      rcases hy with hy | hy
      · exact absurd rfl (hcell _ (PySem.mem_of_lookup hy))
      · obtain ⟨c, h1, _⟩ := look hy
        exact ⟨c, h1⟩
    · show b ≠ cenv.locals
      rw [hL]; exact Nat.ne_of_lt (hfp b hb).2
    · rcases (hfp b hb).1.2.2.2.1 with z | z
      · exact I.ok.noex b o e z
      · exact absurd (Nat.lt_of_lt_of_le (Heap.lt_size e) (Nat.le_trans I.ok.bsz z)) (Nat.lt_irrefl _)
    · rcases List.mem_cons.mp (I.stkSub b z) with z | z
      · exact (hfp b hb).1.2.1 z
      · exact (hfp b hb).1.2.2.1 z
  refine ⟨okB, rfl, hg, Un.kept kp, ⟨m0, ?_, fun i y av e1 e2 e3 => ?_⟩, fun y c e => ?_, ?_, fun y c e => ?_, fun p hp => ?_, I.hok.kept kp, by rw [wipe_length]; exact I.len⟩
  · show Heap.Ns _ cenv.locals _
    rw [hL]; exact hn
  · obtain ⟨e2, hne⟩ := wipe_some e2
    have hfr : scope.names.lookup y = some .free := by
      have no : ¬ (scope.names.lookup y = some .local ∨ scope.names.lookup y = some .cell) := fun hh => by
        have key : ∀ k', scope.names.lookup y = some k' → k' = .local ∨ k' = .cell → False := fun k' e hk => by
          rcases ok.own _ (PySem.mem_of_lookup e) hk with e' | e'
          · obtain ⟨p, hp, hpy⟩ := List.mem_map.mp e'
            have e3 := ok.ix p hp
            have : p.1 = y := hpy
            rw [this] at e3
            exact hne (List.mem_map.mpr ⟨p, hp, nodup_ix hN e3 e1⟩)
          · exact e' (List.mem_of_getElem? e1)
        rcases hh with h | h
        · exact key _ h (.inl rfl)
        · exact key _ h (.inr rfl)
      have e3 : Vis cenv.scope y := e3
      rw [hsc] at e3
      rcases e3 with e3 | e3 | e3
      · exact absurd (.inl e3) no
      · exact absurd (.inr e3) no
      · exact e3
    obtain ⟨m, hn, hl⟩ := I.loc
    have hvis : Vis X.env.scope y := (ok.free _ (PySem.mem_of_lookup hfr) rfl).elim (fun k => .inr (.inl k)) (fun k => .inr (.inr k))
    obtain ⟨w, r, q⟩ := hl i y av e1 e2 hvis
    refine ⟨w, r, .inr ⟨.inr (by show cenv.kindOf y = _; unfold Env.kindOf; rw [hsc]; exact hfr), ?_⟩⟩
    obtain ⟨c, h1, h2⟩ := look hfr
    rcases q with ⟨k, _⟩ | ⟨_, c', e', z⟩
    · have k : X.env.scope.names.lookup y = some .local := k
      rcases ok.free _ (PySem.mem_of_lookup hfr) rfl with k' | k' <;> rw [show X.env.scope.names.lookup y = _ from k'] at k <;> cases k
    · rw [h2] at e'; cases e'
      exact ⟨c, h1, z.keeps kp⟩
  · have e : cenv.cells.lookup y = some c := e
    obtain ⟨w, z⟩ := I.cell y c (mem e).1
    exact ⟨w, z.keeps kp⟩
  · show H cenv.locals = none
    rw [hL]; exact I.hok.fresh (Nat.le_refl _)
  · have e : cenv.cells.lookup y = some c := e
    exact I.freeC y c (mem e).1
  · exact absurd (show p ∈ ([] : List (Addr × Obj)) ++ [] from hp) (by simp)
end

/-! ### the consumer -/
section
variable {M : Model} {prog : Program} {w : World} {A : Around} {a : Addr} {g : Nat} {kk : Bool} {Fin : Bool → Shared → Prop} {Rf : Result → Shared → Prop}
def gR (g : Nat) (kk : Bool) (Fin : Bool → Shared → Prop) : GenEnd := fun n s₀ r s₁ => r = .ok .next ∧ ∀ h' : Heap, (∀ b o, s₁.heap.get? b = some o → h'.get? b = some o) → Fin kk { s₁.setGen g .finished with heap := h' }
def gY (a : Addr) (g : Nat) (kk : Bool) (Fin : Bool → Shared → Prop) : Protocol := fun m s₀ v s kap => ∃ b : Bool, v = .bool b ∧ s.heap.IsGen a g ∧ s.heap.NoLimit ∧ g < s.gens.size ∧ AllBare s.gens ∧ (b ≠ kk → ∀ gs' : GenState, gs'.bare = true → Fin b (s.setGen g gs')) ∧
  (b = kk → ∀ s'' : Shared, s''.heap = s.heap → s''.os = s.os → AllBare s''.gens → g < s''.gens.size → kap (.send .none) s'')
theorem setG_at {s : Shared} {x : GenState} (h : g < s.gens.size) : (s.setGen g x).gens[g]? = some x := L2.setGen_at h
theorem next_g (hh : A.handled = none) (hroom : A.depth < recursionLimit) {n : Nat} {s : Shared} {gs : GenState} {E : Value → Shared → Prop} {Q : Option Value → Shared → Prop} (hg : s.heap.IsGen a g) (hl : s.heap.NoLimit) (hgs : s.gens[g]? = some gs)
    (hgo : gs.Goes (model prog w) A.in1 (gR g kk Fin) (gY a g kk Fin) n (.send .none) (s.setGen g .running))
    (hy : ∀ (b : Bool) (s1 : Shared), (b ≠ kk → Fin b s1) → (b = kk → ∃ m gs', n = m + 1 ∧ s1.heap.IsGen a g ∧ s1.heap.NoLimit ∧ s1.gens[g]? = some gs' ∧ gs'.Goes (model prog w) A.in1 (gR g kk Fin) (gY a g kk Fin) m (.send .none) (s1.setGen g .running)) → Q (some (.bool b)) s1)
    (hd : ∀ s1, Fin kk s1 → Q none s1) : wpAny (model prog w) A (pyNext (.ref a)) Q E s := by
  refine wpAny_pyNext_genexpQ (P := fun n s₀ s₁ => ∀ h' : Heap, (∀ b o, s₁.heap.get? b = some o → h'.get? b = some o) → Fin kk { s₁.setGen g .finished with heap := h' }) (Y := gY a g kk Fin) hh hl hroom hg hgs hgo (fun v s₁ gs' hb hv => ?_) (fun s₁ hp h' hk => hd _ (hp h' hk))
  obtain ⟨b, rfl, h1, h2, h3, hbare, h4, h5⟩ := hv
  refine hy b _ (fun z => h4 z gs' hb) fun z => ?_
  cases n with
  | zero => exact (h5 z s₁ rfl rfl hbare h3).elim
  | succ m =>
    refine ⟨m, gs', rfl, h1, h2, setG_at h3, ?_⟩
    refine h5 z _ rfl rfl (allBare_setGen (allBare_setGen hbare hb) rfl) ?_
    rw [setGen_size, setGen_size]; exact h3
theorem all_go (hF : ∀ b s', Fin b s' → Rf (.ok (.ret (.bool b))) s') (hh : A.handled = none) (hroom : A.depth < recursionLimit) : ∀ (n : Nat) (s : Shared) (gs : GenState), s.heap.IsGen a g → s.heap.NoLimit → s.gens[g]? = some gs →
    gs.Goes (model prog w) A.in1.in1 (gR g true Fin) (gY a g true Fin) n (.send .none) (s.setGen g .running) → codeAny (model prog w) A (.builtin "all.loop" ⟨[.ref a], []⟩) Rf s := by
  intro n
  induction n with
  | zero =>
    intro s gs hg hl hgs hgo
    refine codeAny_builtin F.entry_all_loop ?_
    rw [Around.under_plainId F.plain_all_loop _]
    show wpAny _ A.in1 (pyNext (.ref a) >>= _) _ _ s
    refine wpAny_bind (next_g (A := A.in1) hh hroom hg hl hgs hgo (fun b s1 h1 h2 => ?_) fun s1 h1 => ?_)
    · cases b with
      | true => obtain ⟨m, _, z, _⟩ := h2 rfl; cases z
      | false =>
        refine wpAny_bind (wpAny_holding (wpAny_truthy_bool ?_))
        refine wpAny_bind (wpAny_letGo ?_)
        simp only [Bool.false_eq_true, if_false]
        exact wpAny_bind (wpAny_rule (wpAny_pure (hF _ _ (h1 (by decide)))))
    · exact wpAny_bind (wpAny_rule (wpAny_pure (hF _ _ h1)))
  | succ n ih =>
    intro s gs hg hl hgs hgo
    refine codeAny_builtin F.entry_all_loop ?_
    rw [Around.under_plainId F.plain_all_loop _]
    show wpAny _ A.in1 (pyNext (.ref a) >>= _) _ _ s
    refine wpAny_bind (next_g (A := A.in1) hh hroom hg hl hgs hgo (fun b s1 h1 h2 => ?_) fun s1 h1 => ?_)
    · cases b with
      | true =>
        obtain ⟨m, gs', z, q1, q2, q3, q4⟩ := h2 rfl
        cases z
        refine wpAny_bind (wpAny_holding (wpAny_truthy_bool ?_))
        refine wpAny_bind (wpAny_letGo ?_)
        simp only [if_true]
        exact wpAny_pure ⟨plainId_quiet F.plain_all_loop _, ih s1 gs' q1 q2 q3 q4⟩
      | false =>
        refine wpAny_bind (wpAny_holding (wpAny_truthy_bool ?_))
        refine wpAny_bind (wpAny_letGo ?_)
        simp only [Bool.false_eq_true, if_false]
        exact wpAny_bind (wpAny_rule (wpAny_pure (hF _ _ (h1 (by decide)))))
    · exact wpAny_bind (wpAny_rule (wpAny_pure (hF _ _ h1)))
theorem any_go (hF : ∀ b s', Fin b s' → Rf (.ok (.ret (.bool b))) s') (hh : A.handled = none) (hroom : A.depth < recursionLimit) : ∀ (n : Nat) (s : Shared) (gs : GenState), s.heap.IsGen a g → s.heap.NoLimit → s.gens[g]? = some gs →
    gs.Goes (model prog w) A.in1.in1 (gR g false Fin) (gY a g false Fin) n (.send .none) (s.setGen g .running) → codeAny (model prog w) A (.builtin "any.loop" ⟨[.ref a], []⟩) Rf s := by
  intro n
  induction n with
  | zero =>
    intro s gs hg hl hgs hgo
    refine codeAny_builtin F.entry_any_loop ?_
    rw [Around.under_plainId F.plain_any_loop _]
    show wpAny _ A.in1 (pyNext (.ref a) >>= _) _ _ s
    refine wpAny_bind (next_g (A := A.in1) hh hroom hg hl hgs hgo (fun b s1 h1 h2 => ?_) fun s1 h1 => ?_)
    · cases b with
      | false => obtain ⟨m, _, z, _⟩ := h2 rfl; cases z
      | true =>
        refine wpAny_bind (wpAny_holding (wpAny_truthy_bool ?_))
        refine wpAny_bind (wpAny_letGo ?_)
        simp only [if_true]
        exact wpAny_bind (wpAny_rule (wpAny_pure (hF _ _ (h1 (by decide)))))
    · exact wpAny_bind (wpAny_rule (wpAny_pure (hF _ _ h1)))
  | succ n ih =>
    intro s gs hg hl hgs hgo
    refine codeAny_builtin F.entry_any_loop ?_
    rw [Around.under_plainId F.plain_any_loop _]
    show wpAny _ A.in1 (pyNext (.ref a) >>= _) _ _ s
    refine wpAny_bind (next_g (A := A.in1) hh hroom hg hl hgs hgo (fun b s1 h1 h2 => ?_) fun s1 h1 => ?_)
    · cases b with
      | false =>
        obtain ⟨m, gs', z, q1, q2, q3, q4⟩ := h2 rfl
        cases z
        refine wpAny_bind (wpAny_holding (wpAny_truthy_bool ?_))
        refine wpAny_bind (wpAny_letGo ?_)
        simp only [Bool.false_eq_true, if_false]
        exact wpAny_pure ⟨plainId_quiet F.plain_any_loop _, ih s1 gs' q1 q2 q3 q4⟩
      | true =>
        refine wpAny_bind (wpAny_holding (wpAny_truthy_bool ?_))
        refine wpAny_bind (wpAny_letGo ?_)
        simp only [if_true]
        exact wpAny_bind (wpAny_rule (wpAny_pure (hF _ _ (h1 (by decide)))))
    · exact wpAny_bind (wpAny_rule (wpAny_pure (hF _ _ h1)))
end

/-! ### the generator runs -/
section
variable {X : Cx} {ca : Cn}
/-- what the elements' frame is -/
abbrev GX (X : Cx) (s : Shared) (H : Hp) (scope : Scope) (cenv : Env) (elt tg iter : Expr) (gpos : Pos) (it : Addr) (fp : List Addr) : Cx :=
  gcx X s H cenv (X.A.in1.in1.over (.compLoop (.GeneratorExp elt [⟨tg, iter, [], 0⟩] scope gpos) 0 (.ref it) .none cenv) []) fp
/-- the walk's state: i items are done -/
structure SgI (X Xg : Cx) (Γ : Ct) (a : Addr) (go : Obj) (g : Nat) (fp : List Addr) (tn : Nat → Heap → Prop) (φ1 : List Addr) (G1 H3 : Hp) (σw : L2.St) (al : Nat → Ev.Mem → Ev.Out Bool) (b : Bool) (μf : Ev.Mem) (i : Nat) (s : Shared) : Prop where
  ex : ∃ φ' G' H' μ', Inv Xg [(a, go)] σw H' s ∧ tn i s.heap ∧ (∀ x ∈ fp, H' x = none) ∧ g < s.gens.size ∧ Ext φ1 G1 H3 φ' G' H' ∧ Ok Γ φ' G' H' μ' ∧ al i μ' = .ok b μf
theorem seg_gx {kk b : Bool} {pins : List (Addr × Obj)} {σ : L2.St} {s3 : Shared} {H3 : Hp} {scope : Scope} {cenv : Env} {elt tg iter : Expr} {gpos : Pos} {it a : Addr} {go : Obj} {g : Nat} {fp : List Addr} {own : List (Str × Nat)} {J : It} {tn : Nat → Heap → Prop} {gt : TG} {t : Ev.Tg} {is : List Nat} {fe : Ev.E}
    {φ1 : List Addr} {G1 : Hp} {ρ : Ev.Env} {μf : Ev.Mem} {xl : List Ev.R} {Q : VK}
    (hc : X.calm = true) (I3 : Inv X pins σ H3 s3) (hfp : ∀ x ∈ fp, FpOk X pins H3 x) (hgo : ∀ h : Heap, h.get? a = some go → h.IsGen a g) (hfa : ∀ x ∈ fp, a ≠ x)
    (T : Turn X.prog X.w X.K tg J fp it tn) (pg : PG (GX X s3 H3 scope cenv elt tg iter gpos it fp) tg gt) (gk : GOk (ct X ca) gt t is) (hin : ∀ j ∈ is, j ∈ own.map (·.2)) (pe : PE (GX X s3 H3 scope cenv elt tg iter gpos it fp) elt (tE (ct X ca) Wn fe))
    (hco : cenv.scope.isCoroutine = false) (ir : ItR (ct X ca) φ1 G1 J xl) (en1 : EnvR (ct X ca) φ1 G1 H3 σ ρ)
    (qf : ∀ φ' G' H', Ext φ1 G1 H3 φ' G' H' → Ok (ct X ca) φ' G' H' μf → Q (.bl b) H') :
    ∀ (r i : Nat) (s₀ s : Shared), xl.length - i = r → i ≤ xl.length →
      SgI X (GX X s3 H3 scope cenv elt tg iter gpos it fp) (ct X ca) a go g fp tn φ1 G1 H3 (wipe σ (own.map (·.2))) (fun i μ => Ev.allL kk t fe (xl.drop i) (Ev.wipeE ρ (own.map (·.2))) μ) b μf i s →
      Seg (model X.prog X.w) X.A.in1.in1 (gR g kk fun b' s' => ∃ H', Inv X pins σ H' s' ∧ Q (.bl b') H') (gY a g kk fun b' s' => ∃ H', Inv X pins σ H' s' ∧ Q (.bl b') H') r s₀
        (.compLoop (.GeneratorExp elt [⟨tg, iter, [], 0⟩] scope gpos) 0 (.ref it) .none cenv) ((model X.prog X.w).den (.compLoop (.GeneratorExp elt [⟨tg, iter, [], 0⟩] scope gpos) 0 (.ref it) .none cenv)) [] s := by
  generalize hown : own.map (·.2) = vs at hin
  generalize hXg : GX X s3 H3 scope cenv elt tg iter gpos it fp = Xg at pg pe
  have hXA : Xg.A = X.A.in1.in1.over (.compLoop (.GeneratorExp elt [⟨tg, iter, [], 0⟩] scope gpos) 0 (.ref it) .none cenv) [] := by rw [← hXg]
  have hXe : Xg.env = cenv := by rw [← hXg]
  have hXp : Xg.prog = X.prog := by rw [← hXg]
  have hXw : Xg.w = X.w := by rw [← hXg]
  have hXK : Xg.K = X.K := by rw [← hXg]
  have hXc : Xg.calm = true := by rw [← hXg]; exact hc
  have hXx : ∀ e s, Xg.xe e s → False := by rw [← hXg]; exact fun _ _ h => h
  -- back in the def's context
  have back : ∀ {pins' : List (Addr × Obj)} {σ' : L2.St} {H' : Hp} {s' : Shared} {h' : Heap} {g' : Array GenState}, Inv Xg pins' σ' H' s' → AllBare g' → (∀ b o, s'.heap.get? b = some o → h'.get? b = some o) → Inv X pins σ H' { s' with heap := h', gens := g' } := by
    intro pins' σ' H' s' h' g' I6 hg hk
    subst hXg
    have I7 : Inv X pins σ H' s' := I3.call' (ch := fp) I6.os I6.base I6.hok I6.bare fun b hb => ⟨(hfp b hb).2.2.2.1, (hfp b hb).2.1, (hfp b hb).2.2.2.2.1, (hfp b hb).2.2.2.2.2⟩
    exact EvS.Inv.setG (I7.kept (t' := s'.toks) hk) hg
  have stat : ∀ {σ' : L2.St} {H' : Hp} {s' : Shared}, Inv Xg [(a, go)] σ' H' s' → (∀ b ∈ fp, H' b = none) → ∀ b ∈ fp, FpOk Xg [(a, go)] H' b := by
    intro σ' H' s' I' hn b hb
    have pnx : ∀ p ∈ Xg.pn ++ [(a, go)], p.1 ≠ b := fun p hp => by
      have hp : p ∈ ([] : List (Addr × Obj)) ++ [(a, go)] := by rw [← hXg] at hp; exact hp
      have hp : p = (a, go) := by simpa using hp
      rw [hp]; exact hfa b hb
    have ex : b ∈ Xg.ex := by rw [← hXg]; exact hb
    exact ⟨hn b hb, (I'.ok.exf b ex).1, I'.ok.exfs b ex, .inl ex, fun x c e => (I'.ok.exf b ex).2 x c e, pnx⟩
  have hy : ∀ v, yieldOut cenv v = yieldValue v := fun v => by simp only [yieldOut, hco, Bool.false_eq_true, if_false]
  intro r
  induction r with
  | zero =>
    intro i s₀ s hr hi st
    have hil : i = xl.length := by omega
    subst hil
    obtain ⟨φ', G', H', μ', I5, st5, n5, g5, e1, ok', hal⟩ := st.ex
    have hal : Ev.allL kk t fe (xl.drop xl.length) (Ev.wipeE ρ vs) μ' = .ok b μf := hal
    rw [List.drop_length] at hal
    cases hal
    show Seg _ _ _ _ _ s₀ _ ((compTurn (.GeneratorExp elt [⟨tg, iter, [], 0⟩] scope gpos) 0 (.ref it) .none cenv).onRaise (leaving cenv)) [] s
    rw [compTurn_gen, Sem.onRaise_eq_wrap]
    refine seg_bind_wrap (wpAny_standAt ?_)
    have td := T.done Xg hXp hXw hXK hXc xl.length [(a, go)] s _ H' (fun _ _ => False) I5 (stat I5 n5) st5 ((ir.ext e1).stops _ ok'.le)
    rw [hXA] at td
    refine seg_bind_wrap (thnF td fun r s6 ⟨hr, I6⟩ => ?_)
    subst hr
    exact seg_end (.ok .next) ⟨rfl, fun h' hk => ⟨H', back (s' := s6) (g' := (s6.setGen g .finished).gens) I6 (allBare_setGen I6.bare rfl) hk, qf _ _ _ e1 ok'⟩⟩
  | succ r ih =>
    intro i s₀ s hr hi st
    have hlt : i < xl.length := by omega
    obtain ⟨φ', G', H', μ', I5, st5, n5, g5, e1, ok', hal⟩ := st.ex
    have hal : Ev.allL kk t fe (xl.drop i) (Ev.wipeE ρ vs) μ' = .ok b μf := hal
    show Seg _ _ _ _ _ s₀ _ ((compTurn (.GeneratorExp elt [⟨tg, iter, [], 0⟩] scope gpos) 0 (.ref it) .none cenv).onRaise (leaving cenv)) [] s
    rw [compTurn_gen, Sem.onRaise_eq_wrap]
    refine seg_bind_wrap (wpAny_standAt ?_)
    have ti := T.item Xg hXp hXw hXK hXc i [(a, go)] s _ H' (fun _ _ => False) I5 (stat I5 n5) st5 ((ir.ext e1).goes _ _ hlt ok'.le)
    rw [hXA] at ti
    refine seg_bind_wrap (wpAny_gsz (n := g + 1) g5 (thnF ti fun r s6 ⟨u, hr, h6⟩ g6 => ?_))
    subst hr
    refine seg_bind_wrap (wpAny_gsz (n := g + 1) g6 (thnF h6 fun _ s7 ⟨x, H7, I7, r7, y7, st7, n7⟩ g7 => ?_))
    have I7' := I7.pinned (stat I7 n7) (T.obj _ _ st7)
    have hx : xl[i]? = some xl[i] := by simp [hlt]
    obtain ⟨G2, e2, ok2, rx⟩ := (ir.ext e1).turn ok' hx y7
    rw [List.drop_eq_getElem_cons hlt, Ev.allL_cons] at hal
    cases htg : t xl[i] (Ev.wipeE ρ vs) with
    | none => rw [htg] at hal; cases hal
    | some ρ1 =>
      rw [htg] at hal
      dsimp only at hal
      obtain ⟨z, μ3, hz, hal⟩ := Ev.bind_eq_ok hal
      have hz := Ev.nx_eq_ok hz
      have hga := gk φ' G2 H7 μ' _ _ ρ1 x _ (fun σ2 H2 => wipe σ2 vs = wipe σ vs ∧ H2 = H7 ∧ EnvR (ct X ca) φ' G2 H7 σ2 ρ1) ok2 (((en1.ext e1).ext e2).wipe vs) rx htg fun σ2 en2 ch => ⟨ch.wipe hin, rfl, en2⟩
      have hpa := pg.run _ s7 _ H7 x u _ I7' r7 hga
      rw [hXA, hXp, hXw, hXe] at hpa
      refine seg_bind_wrap (wpAny_gsz (n := g + 1) g7 (wpAny_mono hpa (fun _ s8 ⟨σ8, H8, I8, hw8, hH8, en8⟩ g8 => ?_) fun e s hx => (hXx e s hx).elim))
      subst hH8
      simp only [List.forIn_nil]
      refine seg_bind_wrap (wpAny_pure ?_)
      simp only [if_true]
      simp only [hy]
      rw [Sem.bind_eq_wrap', Sem.bind_eq_wrap', Sem.wrap_wrap, Sem.wrap_wrap]
      have hpe := pe.run _ s8 σ8 H8 (fun v H4 => ∃ φ4 G4, Ext φ' G2 H8 φ4 G4 H4 ∧ Ok (ct X ca) φ4 G4 H4 μ3 ∧ RR (ct X ca) φ4 G4 v z) I8 ⟨φ', G2, ρ1, μ', ok2, en8, by
        rw [hz]
        exact fun v φ4 G4 H4 e4 ok4 hv => ⟨φ4, G4, e4, ok4, hv⟩⟩
      rw [hXA, hXp, hXw, hXe] at hpe
      refine seg_wrap (wpAny_gsz (n := g + 1) g8 (wpAny_mono hpe (fun y s9 h9 g9 => ?_) fun e s hx => (hXx e s hx).elim))
      obtain ⟨v, H9, I9, r9, φ4, G4, e4, ok4, hv⟩ := h9
      have e14 := (e1.trans e2).trans e4
      cases z with
      | d zd =>
        cases zd with
        | bl bb =>
          have hv := hv.bl
          subst hv
          have r9 : y = .bool bb := r9
          subst r9
          have hgen : s9.heap.IsGen a g := hgo _ (I9.pin (a, go) (by simp)).1
          refine seg_at (seg_yield rfl rfl rfl ⟨bb, rfl, hgen, I9.nolimit, g9, I9.bare, fun hne gs' hb => ?_, fun heq s'' q1 q2 q3 q4 => ?_⟩)
          · dsimp only at hal
            rw [if_neg hne] at hal
            cases hal
            exact ⟨H9, back (s' := s9) (h' := s9.heap) (g' := (s9.setGen g gs').gens) I9 (allBare_setGen I9.bare hb) fun _ _ z => z, qf _ _ _ e14 ok4⟩
          · dsimp only at hal
            rw [if_pos heq] at hal
            refine seg_again rfl (ih (i + 1) s'' s'' (by omega) hlt ⟨⟨φ4, G4, H9, μ3, ?_, ?_, ?_, q4, e14, ok4, hal⟩⟩)
            · have hl : (wipe σ vs).length = σ8.length := by rw [← hw8, wipe_length]
              have I10 : Inv Xg [(a, go)] (wipe σ vs) H9 s9 := (I9.unpinned).weak hl (fun j v e => by
                rw [← hw8] at e
                exact (wipe_some e).1)
              have e := sh_eta s9 s'' q2
              rw [← e]
              exact ⟨I10.ok, I10.os, q3, by rw [q1]; exact I10.base, by rw [q1]; exact I10.loc, by rw [q1]; exact I10.cell, I10.free, I10.freeC, by rw [q1]; exact I10.pin, by rw [q1]; exact I10.hok, I10.len⟩
            · rw [q1]
              exact T.keep _ _ _ st7 fun b hb o e => (I9.pin (b, o) (List.mem_append_right _ (List.mem_append_right _ (mem_pinsAt hb e)))).1
            · intro b hb
              obtain ⟨o, e, _⟩ := T.obj _ _ st7 b hb
              exact (I9.pin (b, o) (List.mem_append_right _ (List.mem_append_right _ (mem_pinsAt hb e)))).2.1
        | _ => cases hal
      | _ => cases hal
end

/-! ### the call -/
abbrev gX (X : Cx) (s : Shared) (H : Hp) (scope : Scope) (cl : List (Str × Addr)) (C : Addr) (code : Value) (A : Around) (fp : List Addr) : Cx := gcx X s H (genEnv scope cl C code builtinsNs X.env) A fp
theorem XS.gen {X : Cx} {W : WX} {k : Nat} (x : XS X W k) {s : Shared} {H : Hp} {scope : Scope} {cl : List (Str × Addr)} {C : Addr} {code : Value} {A : Around} {fp : List Addr} (r : RoomG k A) : XS (gX X s H scope cl C code A fp) Wn k :=
  ⟨x.calm, x.nd, r, fun u s' ⟨_, _, _, _, _, _, _, _, _, _, _, _, _, _, _, _, w⟩ => w.elim, PassesOwn.never, fun _ _ _ _ _ h => h⟩
theorem room_gen {X : Cx} {k : Nat} {elt tg iter : Expr} {scope : Scope} {gpos : Pos} {it : Value} {cenv : Env} (hr : RoomG k X.A) (sl : Slk X k) : RoomG k (X.A.in1.in1.over (.compLoop (.GeneratorExp elt [⟨tg, iter, [], 0⟩] scope gpos) 0 it .none cenv) []) := by
  have h1 := sl.dp
  have h2 := sl.un
  refine ⟨⟨hr.r.hd, ?_, ?_⟩, ?_⟩
  · show X.A.depth + 0 + 1 + 3 * k + 5 < _
    omega
  · show X.A.units + 1 + 1 + 0 + 3 + 16 * k + 200 < _
    omega
  · exact hr.g
section
variable {X : Cx} {W : WX} {ca : Cn} {k : Nat}
theorem gen_eval {kk : Bool} {pins : List (Addr × Obj)} {s : Shared} {σ : L2.St} {H : Hp} {Q : VK} {elt tg iter : Expr} {scope : Scope} {own : List (Str × Nat)} {gpos : Pos} {gt : TG} {t : Ev.Tg} {is : List Nat} {fit : Ev.It} {fe : Ev.E} {Q' : Value → Shared → Prop}
    (xs : XS X W k) (sl : Slk X k) (tb : Tbx X ca) (hi : PI X tg iter (tI (ct X ca) W fit)) (hb : BlkOk X.N X.env.scope scope own) (hcell : ∀ y ∈ scope.names, y.2 ≠ .cell) (hdot : scope.names.lookup (".0" : Str) = some NameKind.local) (hco : scope.isCoroutine = false)
    (hg : ∀ (s : Shared) (H : Hp) (cl : List (Str × Addr)) (C : Addr) (code : Value) (A : Around) (fp : List Addr), RoomG k A → PG (gX X s H scope cl C code A fp) tg gt)
    (gk : GOk (ct X ca) gt t is) (hin : ∀ j ∈ is, j ∈ own.map (·.2))
    (he : ∀ (s : Shared) (H : Hp) (cl : List (Str × Addr)) (C : Addr) (code : Value) (A : Around) (fp : List Addr), RoomG k A → PE (gX X s H scope cl C code A fp) elt (tE (ct X ca) Wn fe))
    (hs : ∀ v, genFold iter X.env v = pure v) (I : Inv X pins σ H s) (q : tE (ct X ca) W (Ev.eAll kk (own.map (·.2)) t fit fe) σ H Q)
    (hQ : ∀ (a : Addr) (g n : Nat) (gs : GenState) (s5 : Shared), s5.heap.IsGen a g → s5.heap.NoLimit → s5.gens[g]? = some gs →
      gs.Goes (model X.prog X.w) X.A.in1.in1 (gR g kk fun b' s' => ∃ H', Inv X pins σ H' s' ∧ Q (.bl b') H') (gY a g kk fun b' s' => ∃ H', Inv X pins σ H' s' ∧ Q (.bl b') H') n (.send .none) (s5.setGen g .running) → Q' (.ref a) s5) :
    wpAny (model X.prog X.w) X.A (eval (.GeneratorExp elt [⟨tg, iter, [], 0⟩] scope gpos) X.env) Q' X.xe s := by
  obtain ⟨φ, G, ρ, μ, ok, en, q⟩ := q
  unfold Ev.eAll at q
  have hfree : ∀ y ∈ scope.names, y.2 = .free → ∃ c, X.env.cells.lookup y.1 = some c := fun y hy e => by
    rcases hb.free y hy e with k | k
    · exact I.ok.has _ (.inl k)
    · exact I.ok.has _ (.inr k)
  refine wpAny_GeneratorExp_make hco (closure_ok hfree) hcell hdot hb.kind xs.room.r.depth ?_ hs
  refine thn (hi.run pins s σ H (fun J H1 => ∃ φ1 G1 xl μ1, Ext φ G H φ1 G1 H1 ∧ Ok (ct X ca) φ1 G1 H1 μ1 ∧ ItR (ct X ca) φ1 G1 J xl ∧
    post (ct X ca) (WE W σ) φ1 G1 H1 ((Ev.allL kk t fe xl (Ev.wipeE ρ (own.map (·.2))) μ1).nx.bind fun b μ => .ok (.d (.bl b)) μ) (rRR (ct X ca)) Q) I
    ⟨φ, G, ρ, μ, ok, en, post_bind q fun J φ1 G1 H1 xl μ1 _ ext ok1 ir q1 => ⟨φ1, G1, xl, μ1, ext, ok1, ir, q1⟩⟩) fun xv s1 hx => thn hx fun itv s2 h2 => ?_
  obtain ⟨it, fp, tn, J, H2, rfl, I2, T, st2, f2, φ1, G1, xl, μ1, ext, ok1, ir, q1⟩ := h2
  refine ⟨I2.nolimit, ?_⟩
  obtain ⟨c, P, hcode, hcP, TB⟩ := tb
  obtain ⟨⟨ps, hP, ht⟩, hPn, hPG⟩ := ok1.tb _ hcP
  have hP : H2 P = some (.tbl ps) := hP
  have hPs : s2.heap.get? P = some { cls := .none, data := .fields ps } := I2.hok P _ hP
  have cd : PySem.W.CodeHd s2.heap c P := TB.code.keeps fun b u e => I2.bk b u e
  have fpP : ∀ b ∈ fp, b ≠ P := fun b hb z => by
    have := (f2 b hb).1
    rw [z, hP] at this; cases this
  have cont : ∀ (code : Value) (h3 : Heap) (tk : Nat) (ps' : Array Value), Heap.ExtBut P s2.heap h3 → h3.get? P = some { cls := .none, data := .fields ps' } → (∃ more, ps' = ps ++ more) → TriplesOk ps'.toList →
      wpAny (model X.prog X.w) X.A (builtinsFor X.env.globals X.env.builtins) (fun bi s₄ =>
        ∀ h', h'.Ns s₄.heap.objs.size (fun y => if y = ".0" then some (.ref it) else none) → Heap.SameBut s₄.heap.objs.size (s₄.heap.push { cls := .type "frame", data := .dict #[] }) h' →
          Q' (.ref h'.objs.size) { s₄ with
            gens := s₄.gens.push (.fresh (.compStart (.GeneratorExp elt [⟨tg, iter, [], 0⟩] scope gpos) 0 (.ref it) .none (genEnv scope (cloFrom X.env.cells scope.names []) s₄.heap.objs.size code bi X.env))),
            toks := s₄.toks + 1 + 1 + 1,
            heap := h'.push { cls := .type "generator", data := .fields #[.int s₄.gens.size 0, .str "<genexpr>" (s₄.toks + 1), .str (X.env.qual ++ "<genexpr>") (s₄.toks + 1 + 1)] } }) X.xe { s2 with heap := h3, toks := tk } := by
    intro code h3 tk ps' hx hP3 hmore ht3
    obtain ⟨more, rfl⟩ := hmore
    have I3 : Inv X pins σ (L2.upd H2 P (.tbl (ps ++ more))) { s2 with heap := h3, toks := tk } := inv_tab (g' := s2.gens) (d' := s2.drawn) (t' := tk) I2 hP hx hP3 I2.bare
    have ok3 : Ok (ct X ca) φ1 G1 (L2.upd H2 P (.tbl (ps ++ more))) μ1 := ok1.tab ⟨c, hcP⟩ hP ht3
    have ext3 : Ext φ1 G1 H2 φ1 G1 (L2.upd H2 P (.tbl (ps ++ more))) := Ext.tab hP
    have st3 : tn 0 h3 := T.keep _ _ _ st2 fun b hb o e => hx b o (fpP b hb) e
    have f3 : ∀ b ∈ fp, FpOk X pins (L2.upd H2 P (.tbl (ps ++ more))) b ∧ b < h3.objs.size := fun b hb => by
      obtain ⟨o, e, _⟩ := T.obj _ _ st2 b hb
      exact ⟨⟨by rw [upd_ne (fpP b hb)]; exact (f2 b hb).1, (f2 b hb).2⟩, Heap.lt_size (hx b o (fpP b hb) e)⟩
    have en3 : EnvR (ct X ca) φ1 G1 (L2.upd H2 P (.tbl (ps ++ more))) σ ρ := (en.ext ext).ext ext3
    generalize hH3 : L2.upd H2 P (.tbl (ps ++ more)) = H3 at I3 ok3 ext3 f3 en3
    generalize hs3 : ({ s2 with heap := h3, toks := tk } : Shared) = s3 at I3
    have hh3 : s3.heap = h3 := by rw [← hs3]
    rw [← hh3] at st3 f3
    obtain ⟨bm, ob, e1, e2, e3, e4, e5, e6, e7, e8⟩ := TB.bm
    refine wpAny_builtinsFor (m := X.mg) (by rw [I3.ok.glob]; exact I3.mod.glob.keeps I3.bk) e1 e2 (I3.bk _ _ e5) e6 e7 e8 ?_
    intro h5 hn5 hs5
    have keep5 : ∀ b o, s3.heap.get? b = some o → h5.get? b = some o := fun b o e => hs5.extBut b o (Nat.ne_of_lt (Heap.lt_size e)) (Heap.get?_push_of_some _ e)
    have hsz : h5.objs.size = s3.heap.objs.size + 1 := by rw [hs5.1, Heap.size_push]
    generalize hgob : ({ cls := .type "generator", data := .fields #[.int s3.gens.size 0, .str "<genexpr>" (s3.toks + 1), .str (X.env.qual ++ "<genexpr>") (s3.toks + 1 + 1)] } : Obj) = go
    have hgo : ∀ h : Heap, h.get? h5.objs.size = some go → h.IsGen h5.objs.size s3.gens.size := fun h e => ⟨go, _, _, e, by rw [← hgob], by rw [← hgob], by rw [← hgob]⟩
    have hgA : (h5.push go).get? h5.objs.size = some go := Heap.get?_push_size _ (by rw [← hgob]; rfl)
    have keepA : ∀ b o, s3.heap.get? b = some o → (h5.push go).get? b = some o := fun b o e => Heap.get?_push_of_some _ (keep5 b o e)
    -- the evaluator's own end
    cases hal : Ev.allL kk t fe xl (Ev.wipeE ρ (own.map (·.2))) μ1 with
    | no => rw [hal] at q1; exact q1.elim
    | exn e μ' => rw [hal] at q1; exact q1.elim
    | ok b μf =>
      rw [hal] at q1
      have q1 : post (ct X ca) (WE W σ) φ1 G1 H2 (.ok (.d (.bl b)) μf) (rRR (ct X ca)) Q := q1
      refine hQ h5.objs.size s3.gens.size xl.length _ _ (hgo _ hgA) (I3.nolimit.keeps keepA) (Array.getElem?_push_size ..) ⟨rfl, ?_⟩
      have hrm : RoomG k (X.A.in1.in1.over (.compLoop (.GeneratorExp elt [⟨tg, iter, [], 0⟩] scope gpos) 0 (.ref it) .none (genEnv scope (cloFrom X.env.cells scope.names []) s3.heap.objs.size code builtinsNs X.env)) []) := room_gen xs.room sl
      have pg := hg s3 H3 (cloFrom X.env.cells scope.names []) s3.heap.objs.size code _ fp hrm
      have pe := he s3 H3 (cloFrom X.env.cells scope.names []) s3.heap.objs.size code _ fp hrm
      unfold gX at pg pe
      generalize hce : genEnv scope (cloFrom X.env.cells scope.names []) s3.heap.objs.size code builtinsNs X.env = cenv at pg pe hrm ⊢
      have hfrm : (X.A.in1.in1.over (.compLoop (.GeneratorExp elt [⟨tg, iter, [], 0⟩] scope gpos) 0 (.ref it) .none cenv) []).frames = some (cenv :: X.stack) := by
        show pushEnvs [cenv] (pushEnvs (envsOf []) X.A.frames) = _
        rw [I.ok.frames]
        rfl
      generalize hs6 : (({ s3 with gens := s3.gens.push (.fresh (.compStart (.GeneratorExp elt [⟨tg, iter, [], 0⟩] scope gpos) 0 (.ref it) .none cenv)), toks := s3.toks + 1 + 1 + 1, heap := h5.push go } : Shared).setGen s3.gens.size .running) = s6
      have hbare : AllBare s6.gens := by
        rw [← hs6]
        exact allBare_setGen (I3.bare.push rfl) rfl
      have hsg : s3.gens.size < s6.gens.size := by
        rw [← hs6, setGen_size]
        show s3.gens.size < (s3.gens.push _).size
        rw [Array.size_push]; exact Nat.lt_succ_self _
      have h6 : s6.heap = h5.push go := by rw [← hs6]; rfl
      have I4 : Inv (GX X s3 H3 scope cenv elt tg iter gpos it fp) [] (wipe σ (own.map (·.2))) H3 s6 := by
        have I4 := gen_start (A := X.A.in1.in1.over (.compLoop (.GeneratorExp elt [⟨tg, iter, [], 0⟩] scope gpos) 0 (.ref it) .none cenv) []) (g' := s6.gens) (t' := s3.toks + 1 + 1 + 1) I3 hb hcell xs.nd f3 hce.symm hfrm (fun _ => hrm.r.hd) hbare (hn5.push go) keepA
        rw [← hs6] at I4 ⊢
        exact I4
      have hlt5 : s3.heap.objs.size < h5.objs.size := by omega
      have I5 : Inv (GX X s3 H3 scope cenv elt tg iter gpos it fp) [(h5.objs.size, go)] (wipe σ (own.map (·.2))) H3 s6 := I4.pins_of fun p hp => by
        have hp : p = (h5.objs.size, go) := by simpa using hp
        subst hp
        refine ⟨by rw [h6]; exact hgA, I3.hok.fresh (Nat.le_of_lt hlt5), ?_, fun hm => ?_, fun v z => by rw [← hgob] at z; cases z⟩
        · show h5.objs.size ≠ cenv.locals
          rw [← hce]; exact Nat.ne_of_gt hlt5
        · obtain ⟨_, o, ho, _⟩ := I3.stack.mem hm
          exact absurd (Nat.lt_trans (Heap.lt_size ho) hlt5) (Nat.lt_irrefl _)
      have loop := seg_gx (kk := kk) (b := b) (pins := pins) (σ := σ) (s3 := s3) (H3 := H3) (scope := scope) (cenv := cenv) (elt := elt) (tg := tg) (iter := iter) (gpos := gpos) (it := it) (a := h5.objs.size) (go := go) (g := s3.gens.size) (fp := fp) (own := own) (J := J) (tn := tn) (gt := gt) (t := t) (is := is) (fe := fe)
        (φ1 := φ1) (G1 := G1) (ρ := ρ) (μf := μf) (xl := xl) (Q := Q) xs.calm I3 (fun x hx => (f3 x hx).1) hgo (fun x hx z => absurd (Nat.lt_trans (f3 x hx).2 hlt5) (by rw [z]; exact Nat.lt_irrefl _)) T pg gk hin pe (by rw [← hce]; exact hco) ir en3
        (fun φ' G' H' e o => q1 (.bl b) φ' G' H' (ext3.trans e) o (.d (.bl b))) xl.length 0 s6 s6 rfl (Nat.zero_le _)
        ⟨⟨φ1, G1, H3, μ1, I5, T.keep _ _ _ st3 fun b _ o e => by rw [h6]; exact keepA b o e, fun x hx => (f3 x hx).1.1, hsg, Ext.refl, ok3, hal⟩⟩
      show Seg _ _ _ _ _ s6 _ ((compStart (.GeneratorExp elt [⟨tg, iter, [], 0⟩] scope gpos) 0 (.ref it) .none cenv).onRaise (leaving cenv)) [] s6
      unfold compStart
      rw [Sem.onRaise_eq_wrap]
      show Seg _ _ _ _ _ s6 _ ((ask >>= _).wrap _ _ _ _) [] s6
      refine seg_bind_wrap (wpAny_askSetting ?_)
      have st6 : tn 0 s6.heap := T.keep _ _ _ st3 fun b _ o e => by rw [h6]; exact keepA b o e
      split
      · exact seg_again rfl loop
      · first
          | exact seg_bind_wrap (wpAny_rule (seg_bind_wrap (wpAny_standAt (seg_bind_wrap (T.self _ 0 s6 _ _ st6 (seg_again rfl loop))))))
          | (refine seg_bind_wrap (wpAny_rule ?_); show Seg _ _ _ _ _ s6 _ ((standAt iter.pos >>= _).wrap _ _ _ _) [] s6; exact seg_bind_wrap (wpAny_standAt (seg_bind_wrap (T.self _ 0 s6 _ _ st6 (seg_again rfl loop)))))
  cases hf : codeAmong gpos ps.toList with
  | none =>
    refine wpAny_genexprCodeX hcode (cd.code hPs ht) (cd.tab hPs) hf fun c' h' tk hx hge hlt hco' _ htab' _ => ?_
    obtain ⟨o1, vs, f1, tf, fl, tg, inF, tx, tt, op, _, _, _, _, _, _, _, _, _, htr, _⟩ := hco'
    exact cont _ h' tk _ hx htab'.2 ⟨_, rfl⟩ htr
  | some cv =>
    refine wpAny_genexprCode_hit hcode (cd.code hPs ht) hf ?_
    exact cont cv s2.heap s2.toks ps (Heap.ExtBut.refl _ _) hPs ⟨#[], by simp⟩ ht
end
section
variable {X : Cx} {W : WX} {ca : Cn} {k : Nat}
theorem se_all {elt tg iter : Expr} {scope : Scope} {own : List (Str × Nat)} {gpos p pos : Pos} {gt : TG} {t : Ev.Tg} {is : List Nat} {fit : Ev.It} {fe : Ev.E}
    (xs : XS X W k) (sl : Slk X k) (tb : Tbx X ca) (hgl : Gl X "all") (hm : X.mg "all" = none) (hi : PI X tg iter (tI (ct X ca) W fit)) (hb : BlkOk X.N X.env.scope scope own) (hsc : (∀ y ∈ scope.names, y.2 ≠ .cell) ∧ scope.names.lookup (".0" : Str) = some NameKind.local ∧ scope.isCoroutine = false)
    (hg : ∀ (s : Shared) (H : Hp) (cl : List (Str × Addr)) (C : Addr) (code : Value) (A : Around) (fp : List Addr), RoomG k A → PG (gX X s H scope cl C code A fp) tg gt)
    (gk : GOk (ct X ca) gt t is) (hin : ∀ j ∈ is, j ∈ own.map (·.2))
    (he : ∀ (s : Shared) (H : Hp) (cl : List (Str × Addr)) (C : Addr) (code : Value) (A : Around) (fp : List Addr), RoomG k A → PE (gX X s H scope cl C code A fp) elt (tE (ct X ca) Wn fe))
    (hs : ∀ v, genFold iter X.env v = pure v := by intro _; rfl)
    (hst : starEach [.GeneratorExp elt [⟨tg, iter, [], 0⟩] scope gpos] X.env = (false, eval (.GeneratorExp elt [⟨tg, iter, [], 0⟩] scope gpos) X.env) :: starEach [] X.env := by rfl) :
    PE X (.Call (.Name "all" p) [.GeneratorExp elt [⟨tg, iter, [], 0⟩] scope gpos] [] pos) (tE (ct X ca) W (Ev.eAll true (own.map (·.2)) t fit fe)) := by
  refine ⟨fun pins s σ H Q I q => ?_⟩
  refine wpAny_Call_Name_kw (ld_blt I hgl hm (by first | exact boot_all | kernel_rfl) ?_)
  refine PyProof.Rows.callWith_builtin1 ?_ hst (by rfl)
  rw [hst]
  show wpAny _ _ (spliced ((false, eval (.GeneratorExp elt [⟨tg, iter, [], 0⟩] scope gpos) X.env) :: backTo pos (starEach [] X.env))) _ _ s
  refine Calls.spliced_cons (gen_eval xs sl tb hi hb hsc.1 hsc.2.1 hsc.2.2 hg gk hin he hs I q fun a g n gs s5 h1 h2 h3 h4 => ?_)
  refine Calls.spliced_nil ?_
  refine call_function_tree F.kind_all F.plain_all F.entry_all (F.args_all1 _) ?_
  unfold Builtin.«all»
  refine wpAny_bind (m := oneArg "all" _) (wpAny_pure ?_)
  refine wpAny_bind (wpAny_pyIter_gen h1 ?_)
  exact wpAny_pure ⟨plainId_quiet F.plain_all_loop _, all_go (fun b s' ⟨H', I', q'⟩ => ⟨.bl b, H', I', rfl, q'⟩) xs.room.r.hd xs.room.r.depth n s5 gs h1 h2 h3 h4⟩
theorem se_any {elt tg iter : Expr} {scope : Scope} {own : List (Str × Nat)} {gpos p pos : Pos} {gt : TG} {t : Ev.Tg} {is : List Nat} {fit : Ev.It} {fe : Ev.E}
    (xs : XS X W k) (sl : Slk X k) (tb : Tbx X ca) (hgl : Gl X "any") (hm : X.mg "any" = none) (hi : PI X tg iter (tI (ct X ca) W fit)) (hb : BlkOk X.N X.env.scope scope own) (hsc : (∀ y ∈ scope.names, y.2 ≠ .cell) ∧ scope.names.lookup (".0" : Str) = some NameKind.local ∧ scope.isCoroutine = false)
    (hg : ∀ (s : Shared) (H : Hp) (cl : List (Str × Addr)) (C : Addr) (code : Value) (A : Around) (fp : List Addr), RoomG k A → PG (gX X s H scope cl C code A fp) tg gt)
    (gk : GOk (ct X ca) gt t is) (hin : ∀ j ∈ is, j ∈ own.map (·.2))
    (he : ∀ (s : Shared) (H : Hp) (cl : List (Str × Addr)) (C : Addr) (code : Value) (A : Around) (fp : List Addr), RoomG k A → PE (gX X s H scope cl C code A fp) elt (tE (ct X ca) Wn fe))
    (hs : ∀ v, genFold iter X.env v = pure v := by intro _; rfl)
    (hst : starEach [.GeneratorExp elt [⟨tg, iter, [], 0⟩] scope gpos] X.env = (false, eval (.GeneratorExp elt [⟨tg, iter, [], 0⟩] scope gpos) X.env) :: starEach [] X.env := by rfl) :
    PE X (.Call (.Name "any" p) [.GeneratorExp elt [⟨tg, iter, [], 0⟩] scope gpos] [] pos) (tE (ct X ca) W (Ev.eAll false (own.map (·.2)) t fit fe)) := by
  refine ⟨fun pins s σ H Q I q => ?_⟩
  refine wpAny_Call_Name_kw (ld_blt I hgl hm (by first | exact boot_any | kernel_rfl) ?_)
  refine PyProof.Rows.callWith_builtin1 ?_ hst (by rfl)
  rw [hst]
  show wpAny _ _ (spliced ((false, eval (.GeneratorExp elt [⟨tg, iter, [], 0⟩] scope gpos) X.env) :: backTo pos (starEach [] X.env))) _ _ s
  refine Calls.spliced_cons (gen_eval xs sl tb hi hb hsc.1 hsc.2.1 hsc.2.2 hg gk hin he hs I q fun a g n gs s5 h1 h2 h3 h4 => ?_)
  refine Calls.spliced_nil ?_
  refine call_function_tree F.kind_any F.plain_any F.entry_any (F.args_any1 _) ?_
  unfold Builtin.«any»
  refine wpAny_bind (m := oneArg "any" _) (wpAny_pure ?_)
  refine wpAny_bind (wpAny_pyIter_gen h1 ?_)
  exact wpAny_pure ⟨plainId_quiet F.plain_any_loop _, any_go (fun b s' ⟨H', I', q'⟩ => ⟨.bl b, H', I', rfl, q'⟩) xs.room.r.hd xs.room.r.depth n s5 gs h1 h2 h3 h4⟩
end
end EvS
end

section
set_option maxHeartbeats 0
set_option Elab.async false
set_option linter.all false
set_option maxRecDepth 100000
/-! EvStm: statements. -/
namespace EvS
open PySem PySem.Spec PyProof.Rows L2
section
variable {Γ : Ct} {W : WX} {e : En} {φ φ1 : List Addr} {G G1 H H1 : Hp} {σ σ1 : L2.St} {ρ ρ1 : Ev.Env} {μ μ1 : Ev.Mem}
theorem BS.step (b : BS Γ e φ G H σ ρ μ) (x : Ext φ G H φ1 G1 H1) (ok : Ok Γ φ1 G1 H1 μ1) : BS Γ e φ1 G1 H1 σ ρ μ1 := ⟨b.ext.trans x, ok, b.en.ext x, b.fr⟩
theorem BS.bind {α δ : Type} {o : Ev.Out α} {k : α → Ev.Mem → Ev.Out Ev.Fl} {Rel1 : List Addr → Hp → Hp → δ → α → Prop} {D : Ends} {Q1 : δ → Hp → Prop} (b : BS Γ e φ G H σ ρ μ) (h : postS Γ W e φ G σ (o.bind k) D)
    (hk : ∀ v1 φ1 G1 H1 x μ1, o = .ok x μ1 → Ext φ G H φ1 G1 H1 → Ok Γ φ1 G1 H1 μ1 → Rel1 φ1 G1 H1 v1 x → postS Γ W e φ G σ (k x μ1) D → Q1 v1 H1) : post Γ (WE W σ) φ G H o Rel1 Q1 := by
  cases o with
  | ok x μ => exact fun v φ' G' H' a c d => hk v φ' G' H' x μ rfl a c d h
  | exn x μ => exact fun c od φ' G' H' a k r => h c od φ' G' H' (b.ext.trans a) k r
  | no => exact h
/-- .. a new list or dict -/
theorem BS.bindN {o : Ev.Out Ev.R} {k : Ev.R → Ev.Mem → Ev.Out Ev.Fl} {D : Ends} {Q : VK} (b : BS Γ e φ G H σ ρ μ) (h : postS Γ W e φ G σ (o.bind k) D)
    (hk : ∀ a φ1 G1 H1 x μ1, o = .ok x μ1 → Ext φ G H φ1 G1 H1 → Ok Γ φ1 G1 H1 μ1 → H a = none → G1 a = none → a ∉ φ1 → Nw Γ φ1 G1 H1 a x → postS Γ W e φ G σ (k x μ1) D → Q (.ref a) H1) : postN Γ (WE W σ) φ G H o Q := by
  cases o with
  | ok x μ => exact fun a φ' G' H' x1 c n1 n2 n3 d => hk a φ' G' H' x μ rfl x1 c n1 n2 n3 d h
  | exn x μ => exact fun c od φ' G' H' a k r => h c od φ' G' H' (b.ext.trans a) k r
  | no => exact h
theorem postS_flat (fw : ∀ (c : Value) (d : Option Addr) (σ σ' : L2.St) (H : Hp), W c d σ H → W c d σ' H) (l : Lq φ G φ1 G1) {o : Ev.Out Ev.Fl} {D : Ends} (h : postS Γ W e φ G σ o D) : postS Γ W e φ1 G1 σ1 o D := by
  cases o with
  | ok f μ =>
    cases f with
    | nx ρ => exact fun σ φ' G' H bs k => h σ φ' G' H bs (l.trans k)
    | bk ρ => exact fun σ φ' G' H bs k => h σ φ' G' H bs (l.trans k)
    | ct ρ => exact fun σ φ' G' H bs k => h σ φ' G' H bs (l.trans k)
    | rt r => exact h
  | exn x μ => exact fun c od φ G H a b r => fw _ _ _ _ _ (h c od φ G H a b r)
  | no => exact h
/-- the own list at a gets another content -/
theorem EnvR.upd (h : EnvR Γ φ G H σ ρ) {i : Nat} {a : Addr} {o : HO} {s t : Ev.Sl} (hi : ρ[i]? = some s) (ho : isOwn s = true) (hs : σ[i]? = some (some (.ref a))) (ht : SlotR Γ φ G (L2.upd H a o) (some (.ref a)) t) (hto : isOwn t = true) :
    EnvR Γ φ G (L2.upd H a o) σ (ρ.set i t) := by
  have hil : i < ρ.length := (List.getElem?_eq_some_iff.mp hi).1
  refine ⟨by rw [List.length_set]; exact h.len, fun j u e => ?_, fun j k b u v e1 e2 o1 o2 q1 q2 => ?_⟩
  · by_cases hj : i = j
    · subst hj
      rw [List.getElem?_set_self hil] at e
      cases e
      exact ⟨_, hs, ht⟩
    · rw [List.getElem?_set_ne hj] at e
      obtain ⟨w, e1, e2⟩ := h.at_ j u e
      refine ⟨w, e1, ?_⟩
      cases e2 with
      | un => exact .un
      | v r => exact .v r
      | own h1 h2 h3 h4 =>
        rename_i b xs rs
        have hb : b ≠ a := fun z => hj (h.ap i j a s _ hi e ho rfl hs (by rw [e1, z]))
        exact .own (by rw [upd_ne hb]; exact h1) h2 h3 h4
      | odic h1 h2 h3 h4 =>
        rename_i b xs rs
        have hb : b ≠ a := fun z => hj (h.ap i j a s _ hi e ho rfl hs (by rw [e1, z]))
        exact .odic (by rw [upd_ne hb]; exact h1) h2 h3 h4
  · have key : ∀ {l : Nat} {x : Ev.Sl}, (ρ.set i t)[l]? = some x → isOwn x = true → ∃ y, ρ[l]? = some y ∧ isOwn y = true := fun {l x} e o => by
      by_cases hl : i = l
      · subst hl; exact ⟨s, hi, ho⟩
      · rw [List.getElem?_set_ne hl] at e; exact ⟨x, e, o⟩
    obtain ⟨u', e1', o1'⟩ := key e1 o1
    obtain ⟨v', e2', o2'⟩ := key e2 o2
    exact h.ap j k b u' v' e1' e2' o1' o2' q1 q2
/-- a new object becomes the frame's own -/
theorem EnvR.own (h : EnvR Γ φ G H σ ρ) {i : Nat} {a : Addr} {t : Ev.Sl} (ht : SlotR Γ φ G H (some (.ref a)) t) (hf : ∀ (j : Nat) (s : Ev.Sl) , ρ[j]? = some s → isOwn s = true → σ[j]? ≠ some (some (.ref a))) :
    EnvR Γ φ G H (σ.set i (some (.ref a))) (ρ.set i t) := by
  refine ⟨by simp [h.len], fun j u e => ?_, fun j k b u v e1 e2 o1 o2 q1 q2 => ?_⟩
  · by_cases hj : i = j
    · subst hj
      by_cases hl : i < ρ.length
      · rw [List.getElem?_set_self hl] at e
        cases e
        exact ⟨_, List.getElem?_set_self (by rw [h.len]; exact hl), ht⟩
      · rw [List.getElem?_eq_none (by simpa using hl)] at e; cases e
    · rw [List.getElem?_set_ne hj] at e ⊢
      exact h.at_ j u e
  · by_cases hj : i = j
    · by_cases hk : i = k
      · rw [← hj, ← hk]
      · subst hj
        rw [List.getElem?_set_ne hk] at e2 q2
        by_cases hl : i < ρ.length
        · rw [List.getElem?_set_self (by rw [h.len]; exact hl)] at q1
          cases q1
          exact absurd q2 (hf k v e2 o2)
        · rw [List.getElem?_eq_none (by simpa using hl)] at e1; cases e1
    · rw [List.getElem?_set_ne hj] at e1 q1
      by_cases hk : i = k
      · subst hk
        by_cases hl : i < ρ.length
        · rw [List.getElem?_set_self (by rw [h.len]; exact hl)] at q2
          cases q2
          exact absurd q1 (hf j u e1 o1)
        · rw [List.getElem?_eq_none (by simpa using hl)] at e2; cases e2
      · rw [List.getElem?_set_ne hk] at e2 q2
        exact h.ap j k b u v e1 e2 o1 o2 q1 q2
theorem Fresh.set {H0 : Hp} (h : Fresh H0 σ ρ) {i : Nat} {v : V} {r : Ev.R} : Fresh H0 (σ.set i (some v)) (ρ.set i (.v r)) := fun j s a e o q => by
  by_cases hj : i = j
  · subst hj
    by_cases hl : i < ρ.length
    · rw [List.getElem?_set_self hl] at e; cases e; cases o
    · rw [List.getElem?_eq_none (by simpa using hl)] at e; cases e
  · rw [List.getElem?_set_ne hj] at e q
    exact h j s a e o q
theorem Fresh.own {H0 : Hp} (h : Fresh H0 σ ρ) {i : Nat} {a : Addr} {t : Ev.Sl} (ha : H0 a = none) : Fresh H0 (σ.set i (some (.ref a))) (ρ.set i t) := fun j s b e o q => by
  by_cases hj : i = j
  · subst hj
    by_cases hl : i < σ.length
    · rw [List.getElem?_set_self hl] at q; cases q; exact ha
    · rw [List.getElem?_eq_none (by simpa using hl)] at q; cases q
  · rw [List.getElem?_set_ne hj] at e q
    exact h j s b e o q
theorem Fresh.upd {H0 : Hp} (h : Fresh H0 σ ρ) {i : Nat} {s t : Ev.Sl} (hi : ρ[i]? = some s) (ho : isOwn s = true) : Fresh H0 σ (ρ.set i t) := fun j u b e o q => by
  by_cases hj : i = j
  · subst hj; exact h i s b hi ho q
  · rw [List.getElem?_set_ne hj] at e; exact h j u b e o q
/-- the own list at a is said to stay -/
theorem EnvR.frz (h : EnvR Γ φ G H σ ρ) {i : Nat} {a : Addr} {o : HO} {s : Ev.Sl} {r : Ev.R} (hi : ρ[i]? = some s) (ho : isOwn s = true) (hs : σ[i]? = some (some (.ref a))) (ng : G a = none) (hr : RR Γ φ (L2.upd G a o) (.ref a) r) :
    EnvR Γ φ (L2.upd G a o) H σ (ρ.set i (.v r)) := by
  have hil : i < ρ.length := (List.getElem?_eq_some_iff.mp hi).1
  refine ⟨by rw [List.length_set]; exact h.len, fun j u e => ?_, fun j k b u v e1 e2 o1 o2 q1 q2 => ?_⟩
  · by_cases hj : i = j
    · subst hj
      rw [List.getElem?_set_self hil] at e
      cases e
      exact ⟨_, hs, .v hr⟩
    · rw [List.getElem?_set_ne hj] at e
      obtain ⟨w, e1, e2⟩ := h.at_ j u e
      refine ⟨w, e1, ?_⟩
      cases e2 with
      | un => exact .un
      | v r => exact .v (r.mono (same_upd ng) fun _ _ z => z)
      | own h1 h2 h3 h4 =>
        rename_i b xs rs
        have hb : b ≠ a := fun z => hj (h.ap i j a s _ hi e ho rfl hs (by rw [e1, z]))
        exact .own h1 h2 (by rw [upd_ne hb]; exact h3) (h4.mono (same_upd ng) fun _ _ z => z)
      | odic h1 h2 h3 h4 =>
        rename_i b xs rs
        have hb : b ≠ a := fun z => hj (h.ap i j a s _ hi e ho rfl hs (by rw [e1, z]))
        exact .odic h1 h2 (by rw [upd_ne hb]; exact h3) (h4.mono (same_upd ng) fun _ _ z => z)
  · have key : ∀ {l : Nat} {x : Ev.Sl}, (ρ.set i (.v r))[l]? = some x → isOwn x = true → ρ[l]? = some x := fun {l x} e o => by
      by_cases hl : i = l
      · subst hl
        rw [List.getElem?_set_self hil] at e
        cases e; cases o
      · rw [List.getElem?_set_ne hl] at e; exact e
    exact h.ap j k b u v (key e1 o1) (key e2 o2) o1 o2 q1 q2
theorem Fresh.setv {H0 : Hp} (h : Fresh H0 σ ρ) {i : Nat} {r : Ev.R} : Fresh H0 σ (ρ.set i (.v r)) := fun j s a e o q => by
  by_cases hj : i = j
  · subst hj
    by_cases hl : i < ρ.length
    · rw [List.getElem?_set_self hl] at e; cases e; cases o
    · rw [List.getElem?_eq_none (by simpa using hl)] at e; cases e
  · rw [List.getElem?_set_ne hj] at e
    exact h j s a e o q
/-- who was not there when a list came -/
theorem EnvR.notNew (h : EnvR Γ φ G H σ ρ) {a : Addr} (ha : H a = none) : ∀ (j : Nat) (s : Ev.Sl), ρ[j]? = some s → isOwn s = true → σ[j]? ≠ some (some (V.ref a)) := fun j s e o q => by
  obtain ⟨w, e1, e2⟩ := h.at_ j s e
  rw [q] at e1
  cases e1
  cases e2 with
  | own h1 => rw [h1] at ha; cases ha
  | odic h1 => rw [h1] at ha; cases ha
  | un => cases o
  | v => cases o
end

section
variable {X : Cx} {W : WX} {ca : Cn} {k : Nat} {e : En}
theorem ss_one {st : Stmt} {f : Ev.S} (h : PS X st (tS (ct X ca) W e f)) : PSs X [st] (tS (ct X ca) W e f) := pss_one h
theorem ss_cons {st : Stmt} {rest : List Stmt} {f g : Ev.S} (xs : XS X W k) (h1 : PS X st (tS (ct X ca) W e f)) (h2 : PSs X rest (tS (ct X ca) W e g)) : PSs X (st :: rest) (tS (ct X ca) W e (Ev.sq f g)) := PSs.imp (pss_cons h1 h2) fun D σ H q => by
  obtain ⟨φ, G, ρ, μ, bs, q⟩ := q
  refine ⟨φ, G, ρ, μ, bs, ?_⟩
  unfold Ev.sq at q
  generalize f ρ μ = o at q
  cases o with
  | no => exact q
  | exn x μ => exact q
  | ok fl μ1 =>
    cases fl with
    | nx ρ1 => exact fun σ1 φ1 G1 H1 bs1 l => ⟨φ1, G1, ρ1, μ1, bs1, postS_flat xs.fw l q⟩
    | rt r => exact q
    | bk ρ1 => exact q
    | ct ρ1 => exact q
/-- the frame's own list stays as it is from here on -/
theorem ss_frz {rest : List Stmt} {i : Nat} {g : Ev.S} (xs : XS X W k) (h : PSs X rest (tS (ct X ca) W e g)) : PSs X rest (tS (ct X ca) W e (Ev.sq (Ev.sFrz i) g)) := PSs.imp h fun D σ H q => by
  obtain ⟨φ, G, ρ, μ, bs, q⟩ := q
  unfold Ev.sq Ev.sFrz at q
  cases hs : ρ[i]? with
  | none => rw [hs] at q; exact q.elim
  | some s =>
    rw [hs] at q
    obtain ⟨o, e1, e2⟩ := bs.en.at_ i s hs
    cases e2 with
    | un => exact q.elim
    | v r => exact q.elim
    | own h1 h2 h3 h4 =>
      rename_i a ys rs
      obtain ⟨x1, x2⟩ := freeze bs.ext bs.ok (.inl (bs.fr i _ a hs rfl e1)) h3 h2 h1
      exact ⟨φ, _, _, μ, ⟨x1, x2, bs.en.frz hs rfl e1 h3 (RR.mkL upd_same (h4.mono (same_upd h3) fun _ _ z => z)), bs.fr.setv⟩, postS_flat xs.fw ⟨same_upd h3, fun _ _ z => z⟩ q⟩
    | odic h1 h2 h3 h4 =>
      rename_i a ys rs
      obtain ⟨x1, x2⟩ := freeze bs.ext bs.ok (.inl (bs.fr i _ a hs rfl e1)) h3 h2 h1
      exact ⟨φ, _, _, μ, ⟨x1, x2, bs.en.frz hs rfl e1 h3 (.dic upd_same (h4.mono (same_upd h3) fun _ _ z => z)), bs.fr.setv⟩, postS_flat xs.fw ⟨same_upd h3, fun _ _ z => z⟩ q⟩
theorem s_doc {x j pos pos'} : PS X (.Expr (.Constant (.str x) j pos) pos') (tS (ct X ca) W e Ev.sNil) := PS.imp ps_doc fun D σ H q => by
  obtain ⟨φ, G, ρ, μ, bs, q⟩ := q
  unfold Ev.sNil at q
  exact q σ φ G H bs Lq.refl
theorem s_pass {pos} : PS X (.Pass pos) (tS (ct X ca) W e Ev.sNil) := PS.imp ps_pass fun D σ H q => by
  obtain ⟨φ, G, ρ, μ, bs, q⟩ := q
  unfold Ev.sNil at q
  exact q σ φ G H bs Lq.refl
theorem ss_nil : PSs X [] (tS (ct X ca) W e Ev.sNil) := PSs.imp pss_nil fun D σ H q => by
  obtain ⟨φ, G, ρ, μ, bs, q⟩ := q
  unfold Ev.sNil at q
  exact q σ φ G H bs Lq.refl
theorem s_brk {pos} : PS X (.Break pos) (tS (ct X ca) W e Ev.sBrk) := PS.imp ps_break fun D σ H q => by
  obtain ⟨φ, G, ρ, μ, bs, q⟩ := q
  unfold Ev.sBrk at q
  exact q σ φ G H bs Lq.refl
theorem s_cnt {pos} : PS X (.Continue pos) (tS (ct X ca) W e Ev.sCnt) := PS.imp ps_continue fun D σ H q => by
  obtain ⟨φ, G, ρ, μ, bs, q⟩ := q
  unfold Ev.sCnt at q
  exact q σ φ G H bs Lq.refl
theorem s_retN {pos} : PS X (.Return none pos) (tS (ct X ca) W e Ev.sRetN) := PS.imp ps_retN fun D σ H q => by
  obtain ⟨φ, G, ρ, μ, bs, q⟩ := q
  unfold Ev.sRetN at q
  exact q .non φ G H bs.ext bs.ok (.d .non)
theorem s_ret {a : Expr} {f : Ev.E} {pos} (h : PE X a (tE (ct X ca) W f)) : PS X (.Return (some a) pos) (tS (ct X ca) W e (Ev.sRet f)) := PS.imp (ps_ret h) fun D σ H q => by
  obtain ⟨φ, G, ρ, μ, bs, q⟩ := q
  unfold Ev.sRet at q
  refine ⟨φ, G, ρ, μ, bs.ok, bs.en, bs.bind q fun v1 φ1 G1 H1 x μ1 _ ext ok1 r1 q1 => ?_⟩
  exact q1 v1 φ1 G1 H1 (bs.ext.trans ext) ok1 r1
theorem s_x {a : Expr} {f : Ev.E} {pos : Pos} (h : PE X a (tE (ct X ca) W f)) (hs : swapsWith a none pos.line X.env = pure false := by rfl) : PS X (.Expr a pos) (tS (ct X ca) W e (Ev.sX f)) := PS.imp (ps_expr h hs) fun D σ H q => by
  obtain ⟨φ, G, ρ, μ, bs, q⟩ := q
  unfold Ev.sX at q
  refine ⟨φ, G, ρ, μ, bs.ok, bs.en, bs.bind q fun v1 φ1 G1 H1 x μ1 _ ext ok1 r1 q1 => ?_⟩
  exact q1 σ φ1 G1 H1 (bs.step ext ok1) ext.lq
theorem s_if {c : Expr} {t : Ev.T} {a b : List Stmt} {f g : Ev.S} {pos : Pos} (xs : XS X W k) (hc : PT X c (tT (ct X ca) W t)) (ha : PSs X a (tS (ct X ca) W e f)) (hb : PSs X b (tS (ct X ca) W e g)) : PS X (.If c a b pos) (tS (ct X ca) W e (Ev.sIf t f g)) := PS.imp (ps_if hc ha hb) fun D σ H q => by
  obtain ⟨φ, G, ρ, μ, bs, q⟩ := q
  unfold Ev.sIf at q
  refine ⟨φ, G, ρ, μ, bs.ok, bs.en, bs.bind q fun v1 φ1 G1 H1 x μ1 _ ext ok1 r1 q1 => ?_⟩
  cases r1
  cases v1 with
  | true => rw [if_pos rfl] at q1 ⊢; exact ⟨φ1, G1, ρ, μ1, bs.step ext ok1, postS_flat xs.fw ext.lq q1⟩
  | false => rw [if_neg (by decide)] at q1 ⊢; exact ⟨φ1, G1, ρ, μ1, bs.step ext ok1, postS_flat xs.fw ext.lq q1⟩
theorem s_asOf {st : Stmt} {f : Ev.E} {g : TG} {t : Ev.Tg} {is : List Nat} (h : PS X st (tAsg (tE (ct X ca) W f) g)) (gk : GOk (ct X ca) g t is) : PS X st (tS (ct X ca) W e (Ev.sAs t f)) := PS.imp h fun D σ H q => by
  obtain ⟨φ, G, ρ, μ, bs, q⟩ := q
  unfold Ev.sAs at q
  refine ⟨φ, G, ρ, μ, bs.ok, bs.en, bs.bind q fun v1 φ1 G1 H1 x μ1 _ ext ok1 r1 q1 => ?_⟩
  cases ht : t x ρ with
  | none => rw [ht] at q1; exact q1.elim
  | some ρ1 =>
    rw [ht] at q1
    have b1 := bs.step ext ok1
    exact gk φ1 G1 H1 μ1 σ ρ ρ1 v1 x _ ok1 b1.en r1 ht fun σ' en' ch => q1 σ' φ1 G1 H1 ⟨b1.ext, ok1, en', ch.fresh b1.fr⟩ ext.lq
/-- name = e -/
theorem s_as {i : Nat} {x : Str} {a : Expr} {f : Ev.E} {pos pos' : Pos} (hN : X.N.Nodup) (hi : X.N[i]? = some x) (hx : Loc X.env.scope x) (h : PE X a (tE (ct X ca) W f)) (hs : swapsWith a (some (.Name x pos')) pos.line X.env = pure false := by rfl) (hf : X.fn x = true ∨ X.env.scope.names.lookup x = some .local := by first | exact .inl rfl | exact .inr rfl | assumption) :
    PS X (.Assign [.Name x pos'] a pos) (tS (ct X ca) W e (Ev.sAs (Ev.tgN i) f)) := s_asOf (ps_set hN hi hx h hs hf) gok_name
/-- a, b, .. = e -/
theorem s_asT {tg a : Expr} {f : Ev.E} {g : TG} {t : Ev.Tg} {is : List Nat} {pos : Pos} (hg : PG X tg g) (gk : GOk (ct X ca) g t is) (h : PE X a (tE (ct X ca) W f)) (hs : swapsWithSole [tg] a pos.line X.env = pure false := by rfl) (hw : swappedStores [tg] a X.env = pure none := by rfl)
    (h1 : (assignEach [tg] X.env).map (·.2) = [assign tg X.env] := by rfl) : PS X (.Assign [tg] a pos) (tS (ct X ca) W e (Ev.sAs t f)) := s_asOf (ps_asg h hg hs hw h1) gk
/-- a new list or dict, the frame's own -/
theorem s_ownOf {st : Stmt} {i : Nat} {f : Ev.E} (h : PS X st (tAsg (tN (ct X ca) W f) (gName i))) : PS X st (tS (ct X ca) W e (Ev.sOwn i f)) := PS.imp h fun D σ H q => by
  obtain ⟨φ, G, ρ, μ, bs, q⟩ := q
  unfold Ev.sOwn at q
  refine ⟨φ, G, ρ, μ, bs.ok, bs.en, bs.bindN q fun a φ1 G1 H1 x μ1 _ ext ok1 n1 n2 n3 nw q1 => ?_⟩
  have b1 := bs.step ext ok1
  have fresh : e.H a = none := Ext.back bs.ext bs.ok n1
  have nn : ∀ (j : Nat) (s : Ev.Sl), ρ[j]? = some s → isOwn s = true → σ[j]? ≠ some (some (V.ref a)) := bs.en.notNew n1
  have fin : ∀ t, SlotR (ct X ca) φ1 G1 H1 (some (.ref a)) t → postS (ct X ca) W e φ G σ (.ok (.nx (ρ.set i t)) μ1) D → D.nx (σ.set i (some (.ref a))) H1 := fun t ht q => q _ φ1 G1 H1 ⟨b1.ext, ok1, b1.en.own ht nn, b1.fr.own fresh⟩ ext.lq
  cases nw with
  | lst h1 h2 =>
    rename_i ys rs _
    unfold Ev.mkL at q1
    cases hv : Ev.valsR rs with
    | none =>
      rw [hv] at q1
      exact fin _ (.own h1 n3 n2 h2) q1
    | some ds =>
      rw [hv] at q1
      have er := valsR_some hv
      subst er
      exact fin _ (.own h1 n3 n2 h2) q1
  | dic h1 h2 => exact fin _ (.odic h1 n3 n2 h2) q1
theorem s_own {i : Nat} {x : Str} {a : Expr} {f : Ev.E} {pos pos' : Pos} (hN : X.N.Nodup) (hi : X.N[i]? = some x) (hx : Loc X.env.scope x) (h : PE X a (tN (ct X ca) W f)) (hs : swapsWith a (some (.Name x pos')) pos.line X.env = pure false := by rfl) (hf : X.fn x = true ∨ X.env.scope.names.lookup x = some .local := by first | exact .inl rfl | exact .inr rfl | assumption) :
    PS X (.Assign [.Name x pos'] a pos) (tS (ct X ca) W e (Ev.sOwn i f)) := s_ownOf (ps_set hN hi hx h hs hf)
/-- a new list, in a cell -/
theorem s_cellOf {st : Stmt} {i : Nat} {f : Ev.E} (h : PS X st (tAsg (tN (ct X ca) W f) (gName i))) : PS X st (tS (ct X ca) W e (Ev.sCell i f)) := PS.imp h fun D σ H q => by
  obtain ⟨φ, G, ρ, μ, bs, q⟩ := q
  unfold Ev.sCell at q
  refine ⟨φ, G, ρ, μ, bs.ok, bs.en, bs.bindN q fun a φ1 G1 H1 x μ1 _ ext ok1 n1 n2 n3 nw q1 => ?_⟩
  have b1 := bs.step ext ok1
  have fresh : e.H a = none := Ext.back bs.ext bs.ok n1
  have nn : ∀ (j : Nat) (s : Ev.Sl), ρ[j]? = some s → isOwn s = true → σ[j]? ≠ some (some (V.ref a)) := bs.en.notNew n1
  cases nw with
  | dic h1 h2 => exact q1.elim
  | lst h1 h2 =>
    rename_i ys rs _
    unfold Ev.mkL at q1
    cases hv : Ev.valsR rs with
    | none => rw [hv] at q1; exact q1.elim
    | some ds =>
      rw [hv] at q1
      have hr := h2.vals hv
      have hm : φ1.length = μ1.length := ok1.len
      have ix : ∀ (n : Nat) (c : Addr), φ1[n]? = some c → (φ1 ++ [a])[n]? = some c := fun n c h => by
        rw [List.getElem?_append_left (List.getElem?_eq_some_iff.mp h).1]; exact h
      have en2 : EnvR (ct X ca) (φ1 ++ [a]) G1 H1 σ ρ := by
        refine ⟨b1.en.len, fun j s e => ?_, b1.en.ap⟩
        obtain ⟨o, z1, z2⟩ := b1.en.at_ j s e
        refine ⟨o, z1, ?_⟩
        have nna : ∀ {c : Addr}, o = some (.ref c) → isOwn s = true → c ≠ a := fun {c} eo os z => by
          subst z; subst eo
          exact nn j s e os z1
        cases z2 with
        | un => exact .un
        | v r => exact .v (r.mono (Same.refl _) ix)
        | own y1 y2 y3 y4 =>
          exact .own y1 (fun z => (List.mem_append.mp z).elim y2 fun z => nna rfl rfl (List.mem_singleton.mp z)) y3 (y4.mono (Same.refl _) ix)
        | odic y1 y2 y3 y4 =>
          exact .odic y1 (fun z => (List.mem_append.mp z).elim y2 fun z => nna rfl rfl (List.mem_singleton.mp z)) y3 (y4.mono (Same.refl _) ix)
      have ok2 : Ok (ct X ca) (φ1 ++ [a]) G1 H1 (μ1 ++ [.lst ds]) := by
        refine ⟨ok1.le, List.nodup_append.mpr ⟨ok1.nd, by simp, fun b hb c hc z => n3 (by rw [List.mem_singleton.mp hc] at z; rw [← z]; exact hb)⟩, by simp [hm], fun b hb => ?_, fun b hb => ?_, fun n b c e1 e2 => ?_, fun q hq => ?_⟩
        · rcases List.mem_append.mp hb with z | z
          · exact ok1.fre b z
          · rw [List.mem_singleton.mp z]; exact n2
        · rcases List.mem_append.mp hb with z | z
          · exact ok1.thr b z
          · rw [List.mem_singleton.mp z]; exact ⟨_, h1⟩
        · by_cases hn : n < φ1.length
          · rw [List.getElem?_append_left hn] at e1
            rw [List.getElem?_append_left (by omega)] at e2
            exact (ok1.cell n b c e1 e2).keep (Same.refl _) ix (fun _ z => z) fun _ z => z
          · rw [List.getElem?_append_right (by omega)] at e1
            rw [List.getElem?_append_right (by omega)] at e2
            have hn0 : n - φ1.length = 0 := by
              by_cases h0 : n - φ1.length = 0
              · exact h0
              · rw [List.getElem?_eq_none (by simp; omega)] at e1; cases e1
            have hn1 : n - μ1.length = 0 := by omega
            rw [hn0] at e1
            rw [hn1] at e2
            cases e1; cases e2
            exact .lst h1 hr
        · obtain ⟨⟨ps, e, t⟩, h2, h3⟩ := ok1.tb q hq
          exact ⟨⟨ps, e, t⟩, fun z => (List.mem_append.mp z).elim h2 fun z => (by rw [List.mem_singleton.mp z, h1] at e; cases e), h3⟩
      have ext2 : Ext e.φ e.G e.H (φ1 ++ [a]) G1 H1 := by
        obtain ⟨ψ, z1, z2⟩ := b1.ext.p
        refine ⟨b1.ext.g, b1.ext.gn, ⟨ψ ++ [a], by rw [z1, List.append_assoc], fun c hc => ?_⟩, b1.ext.f⟩
        rcases List.mem_append.mp hc with z | z
        · exact z2 c z
        · rw [List.mem_singleton.mp z]
          exact ⟨fresh, fun y => n3 (by rw [z1]; exact List.mem_append_left _ y)⟩
      have q1 : ∀ σ' φ' G' H', BS (ct X ca) e φ' G' H' σ' (ρ.set i (.v (.p μ1.length))) (μ1 ++ [.lst ds]) → Lq φ G φ' G' → D.nx σ' H' := q1
      refine q1 (σ.set i (some (.ref a))) (φ1 ++ [a]) G1 H1 ⟨ext2, ok2, en2.set (.p ?_), b1.fr.set⟩ (ext.lq.trans ⟨Same.refl _, ix⟩)
      rw [← hm, List.getElem?_append_right (Nat.le_refl _), Nat.sub_self]; rfl
theorem s_cell {i : Nat} {x : Str} {a : Expr} {f : Ev.E} {pos pos' : Pos} (hN : X.N.Nodup) (hi : X.N[i]? = some x) (hx : Loc X.env.scope x) (h : PE X a (tN (ct X ca) W f)) (hs : swapsWith a (some (.Name x pos')) pos.line X.env = pure false := by rfl) (hf : X.fn x = true ∨ X.env.scope.names.lookup x = some .local := by first | exact .inl rfl | exact .inr rfl | assumption) :
    PS X (.Assign [.Name x pos'] a pos) (tS (ct X ca) W e (Ev.sCell i f)) := s_cellOf (ps_set hN hi hx h hs hf)
/-! ### writing to one's own -/
theorem iop_of (X : Cx) (ca : Cn) : PIp X .Add (fun x y H Q => ∃ φ G a b z, RR (ct X ca) φ G x a ∧ RR (ct X ca) φ G y b ∧ Ev.iaddR a b = some z ∧ ∀ r, RR (ct X ca) φ G r z → Q r H) := by
  intro pins s σ H x y v u Q I r1 r2 h
  obtain ⟨φ, G, a, b, z, ra, rb, e, q⟩ := h
  unfold Ev.iaddR at e
  split at e
  · cases e
    have e1 := ra.int; have e2 := rb.int
    subst e1 e2
    exact iop_add pins s σ H _ _ v u Q I r1 r2 ⟨_, _, rfl, rfl, q _ (.d (.int _))⟩
  · split at e
    · rename_i hz
      cases e
      have e1 := ra.str; have e2 := rb.str
      subst e1 e2
      refine iop_add_str pins s σ H _ _ v u Q I r1 r2 ⟨_, _, rfl, rfl, by rw [len_ofString, len_ofString, ← SL_eq]; exact hz, ?_⟩
      rw [← ofString_append]
      exact q _ (.d (.str _))
    · cases e
  · cases e
def isubR : Ev.R → Ev.R → Option Ev.R := Ev.subR
theorem isub_of (X : Cx) (ca : Cn) : PIp X .Sub (fun x y H Q => ∃ φ G a b z, RR (ct X ca) φ G x a ∧ RR (ct X ca) φ G y b ∧ Ev.subR a b = some z ∧ ∀ r, RR (ct X ca) φ G r z → Q r H) := by
  intro pins s σ H x y v u Q I r1 r2 h
  obtain ⟨φ, G, a, b, z, ra, rb, e, q⟩ := h
  unfold Ev.subR at e
  split at e
  · cases e
    have e1 := ra.int; have e2 := rb.int
    subst e1 e2
    exact iop_sub pins s σ H _ _ v u Q I r1 r2 ⟨_, _, rfl, rfl, q _ (.d (.int _))⟩
  · cases e
/-- name op= e -/
theorem s_aug {i : Nat} {x : Str} {a : Expr} {op : Operator} {f : Ev.R → Ev.R → Option Ev.R} {fa : Ev.E} {pos pos' : Pos} (hN : X.N.Nodup) (hi : X.N[i]? = some x) (hx : Loc X.env.scope x) (h : PE X a (tE (ct X ca) W fa))
    (ho : PIp X op (fun x y H Q => ∃ φ G a b z, RR (ct X ca) φ G x a ∧ RR (ct X ca) φ G y b ∧ f a b = some z ∧ ∀ r, RR (ct X ca) φ G r z → Q r H)) (hf : X.fn x = true ∨ X.env.scope.names.lookup x = some .local := by first | exact .inl rfl | exact .inr rfl | assumption) :
    PS X (.AugAssign (.Name x pos') op a pos) (tS (ct X ca) W e (Ev.sAug i f fa)) := PS.imp (ps_aug hN hi hx h ho hf) fun D σ H q => by
  obtain ⟨φ, G, ρ, μ, bs, q⟩ := q
  unfold Ev.sAug at q
  split at q
  · rename_i x' hs
    obtain ⟨o, e1, e2⟩ := bs.en.at_ i _ hs
    cases e2 with
    | v hv =>
      refine ⟨_, e1, φ, G, ρ, μ, bs.ok, bs.en, bs.bind q fun v1 φ1 G1 H1 y μ1 _ ext ok1 r1 q1 => ?_⟩
      cases ef : f x' y with
      | none => rw [ef] at q1; exact q1.elim
      | some z =>
        rw [ef] at q1
        have b1 := bs.step ext ok1
        exact ⟨φ1, G1, x', y, z, ext.rr hv, r1, ef, fun r rr => q1 _ φ1 G1 H1 ⟨b1.ext, ok1, b1.en.set rr, b1.fr.set⟩ ext.lq⟩
  · exact q.elim
/-- x, y = a, b -/
theorem s_par {i j : Nat} {x y : Str} {a b : Expr} {fa fb : Ev.E} {px py pt pos : Pos} {kt k2 pt2} (xs : XS X W k) (hi : X.N[i]? = some x) (hj : X.N[j]? = some y) (hij : i ≠ j) (hx : X.env.scope.names.lookup x = some .local) (hy : X.env.scope.names.lookup y = some .local)
    (ha : PE X a (tE (ct X ca) W fa)) (hb : PE X b (tE (ct X ca) W fb))
    (hw : swappedStores [.Tuple [.Name x px, .Name y py] kt pt] (.Tuple [a, b] k2 pt2) X.env = pure (some [x, y]) := by rfl) (hs : swapsWithSole [.Tuple [.Name x px, .Name y py] kt pt] (.Tuple [a, b] k2 pt2) pos.line X.env = pure false := by rfl)
    (hs1 : starEach [a, b] X.env = (false, eval a X.env) :: starEach [b] X.env := by rfl) (hs2 : starEach [b] X.env = (false, eval b X.env) :: starEach [] X.env := by rfl) :
    PS X (.Assign [.Tuple [.Name x px, .Name y py] kt pt] (.Tuple [a, b] k2 pt2) pos) (tS (ct X ca) W e (Ev.sPar i j fa fb)) := PS.imp (ps_par xs.calm xs.nd hi hj hij hx hy (pa_cons ha (pa_cons hb pa_nil hs2) hs1) hw hs) fun D σ H q => by
  obtain ⟨φ, G, ρ, μ, bs, q⟩ := q
  unfold Ev.sPar at q
  refine ⟨φ, G, ρ, μ, bs.ok, bs.en, bs.bind q fun v1 φ1 G1 H1 x μ1 _ ext ok1 r1 q1 => ?_⟩
  have b1 := bs.step ext ok1
  refine ⟨φ1, G1, ρ, μ1, ok1, b1.en, b1.bind (postS_flat (σ1 := σ) xs.fw ext.lq q1) fun v2 φ2 G2 H2 y μ2 _ ext2 ok2 r2 q2 => ?_⟩
  have b2 := b1.step ext2 ok2
  exact ⟨_, _, rfl, q2 _ φ2 G2 H2 ⟨b2.ext, ok2, (b2.en.set (ext2.rr r1)).set r2, b2.fr.set.set⟩ ext2.lq⟩
/-- the own list's slot -/
theorem own_at {Γ : Ct} {φ : List Addr} {G H : Hp} {σ : L2.St} {ρ : Ev.Env} {i : Nat} {rs : List Ev.R} (en : EnvR Γ φ G H σ ρ) (h : ρ[i]? = some (.own rs)) : ∃ a xs, σ[i]? = some (some (.ref a)) ∧ H a = some (.lst xs) ∧ a ∉ φ ∧ G a = none ∧ RRs Γ φ G xs rs := by
  obtain ⟨o, e1, e2⟩ := en.at_ i _ h
  cases e2 with
  | own h1 h2 h3 h4 => exact ⟨_, _, e1, h1, h2, h3, h4⟩
theorem odic_at {Γ : Ct} {φ : List Addr} {G H : Hp} {σ : L2.St} {ρ : Ev.Env} {i : Nat} {rs : List (Ev.Ky × Ev.R)} (en : EnvR Γ φ G H σ ρ) (h : ρ[i]? = some (.odic rs)) : ∃ a xs, σ[i]? = some (some (.ref a)) ∧ H a = some (.dK xs) ∧ a ∉ φ ∧ G a = none ∧ RKs Γ φ G xs rs := by
  obtain ⟨o, e1, e2⟩ := en.at_ i _ h
  cases e2 with
  | odic h1 h2 h3 h4 => exact ⟨_, _, e1, h1, h2, h3, h4⟩
/-- the own object is rewritten -/
theorem BS.own {Γ : Ct} {e : En} {φ : List Addr} {G H : Hp} {σ : L2.St} {ρ : Ev.Env} {μ : Ev.Mem} {i : Nat} {a : Addr} {o : HO} {s t : Ev.Sl} (b : BS Γ e φ G H σ ρ μ) (hi : ρ[i]? = some s) (ho : isOwn s = true) (hs : σ[i]? = some (some (.ref a))) (hp : a ∉ φ) (hg : G a = none) (hno : ∀ c, H a ≠ some (.own c))
    (ht : SlotR Γ φ G (L2.upd H a o) (some (.ref a)) t) (hto : isOwn t = true) : BS Γ e φ G (L2.upd H a o) σ (ρ.set i t) μ := by
  have hnt : ∀ c, H a ≠ some (.tbl c) := by
    obtain ⟨o', e1, e2⟩ := b.en.at_ i s hi
    rw [hs] at e1
    cases e1
    cases e2 with
    | un => cases ho
    | v => cases ho
    | own h1 _ _ _ => intro c z; rw [h1] at z; cases z
    | odic h1 _ _ _ => intro c z; rw [h1] at z; cases z
  exact ⟨b.ext.upd (b.fr i s a hi ho hs), b.ok.upd hp hg hno hnt, b.en.upd hi ho hs ht hto, b.fr.upd hi ho⟩
/-- x.append(a) -/
theorem s_app {i : Nat} {x : Str} {a : Expr} {fa : Ev.E} {p apos cpos pos : Pos} (hN : X.N[i]? = some x) (hv : Vis X.env.scope x) (ha : PE X a (tE (ct X ca) W fa))
    (hd : (x == ("__debug__" : Str)) = false := by decide) (hcd : (x == ("__classdict__" : Str)) = false := by decide)
    (hbase : attributeBase (.Name x p) "append" X.env (eval (.Name x p) X.env) = eval (.Name x p) X.env := by rfl)
    (hfew : ((backTo cpos (starEach [a] X.env)).all (fun x => !x.1) && (backToKw cpos (keywordEach [] X.env)).all (fun x => x.1.isSome)
      && decide (([a] : List Expr).length + ([] : List Keyword).length + (if ([] : List Keyword).isEmpty then 0 else 1) < 30)) = true := by rfl)
    (hline : (apos.endLine == cpos.line) = true := by rfl) (hs : starEach [a] X.env = (false, eval a X.env) :: starEach [] X.env := by rfl) (hplain : (backTo cpos (starEach [] X.env)).any (·.1) = false := by rfl)
    (hsw : swapsWith (.Call (.Attribute (.Name x p) "append" apos) [a] [] cpos) none pos.line X.env = pure false := by rfl) :
    PS X (.Expr (.Call (.Attribute (.Name x p) "append" apos) [a] [] cpos) pos) (tS (ct X ca) W e (Ev.sApp i fa)) :=
  PS.imp (ps_expr (pe_bm PySem.F.plainAttrs_list PySem.F.slot_list_append PySem.F.type_list_append mt_append (pe_var hN hv hd hcd) (pa_cons ha pa_nil hs) hbase hfew hline hs hplain) hsw) fun D σ H q => by
    obtain ⟨φ, G, ρ, μ, bs, q⟩ := q
    unfold Ev.sApp at q
    split at q
    · rename_i rs hi
      obtain ⟨l, ys, e1, h1, h2, h3, h4⟩ := own_at bs.en hi
      refine ⟨_, e1, .inl ⟨rfl, _, SqL.of h1⟩, φ, G, ρ, μ, bs.ok, bs.en, bs.bind q fun v1 φ1 G1 H1 r μ1 _ ext ok1 r1 q1 => ?_⟩
      split at q1
      · rename_i hz
        obtain ⟨k1, k2, k3⟩ := ext.keep h1 h2 h3
        have hl := h4.len
        have r2 := (ext.rrs h4).append (.cons r1 .nil)
        refine ⟨l, ys, v1, rfl, rfl, k1, by rw [hl, ← SL_eq]; exact hz, ?_⟩
        exact q1 σ φ1 G1 _ ((bs.step ext ok1).own (t := .own (rs ++ [r])) hi rfl e1 k2 k3 (fun c z => by rw [k1] at z; cases z) (.own upd_same k2 k3 r2) rfl) ext.lq
      · exact q1.elim
    · exact q.elim
/-! x.extend of a list, of a tuple -/
theorem list_extend_tupS (l : Addr) (items : Array Value) (n : Nat) (b : Addr) (items2 : Array Value) (hs0 : ¬(!items.isEmpty && Builtin.List.listTooLong (items.size + items2.size)) = true) (hs1 : items.size ≤ sizeLine) (hs2 : items.size + items2.size ≤ sizeLine + 1) :
    Meets (Builtin.«list.extend» ⟨[.ref l, .ref b], []⟩) (fun _ R s => s.heap.get? l = some { cls := .type "list", dict := none, data := .seq items n, slots := #[] } ∧ IsTup s.heap b items2 ∧ R (.ok (.ret Value.none)) { s with heap := s.heap.update l (Obj.mapSeq fun x => x ++ items2), toks := s.toks }) :=
  .of_wp fun prog w A R s h => by
    obtain ⟨hl, ⟨o, ho, hc, n2, hd⟩, h⟩ := h
    unfold Builtin.«list.extend»
    show wpAny _ _ (Builtin.List.listExtendWith (.ref l) (.ref b) .none) _ _ _
    unfold Builtin.List.listExtendWith
    refine wpAny_bind (wpAny_typeOf (T := "tuple") ⟨o, ho, hc⟩ ?_)
    have ht : (Value.type "tuple" == Value.type "tuple") = true := by rfl
    rw [if_pos (by rw [ht]; simp)]
    refine wpAny_bind (listItems_at ho hd ?_)
    refine wpAny_bind (listItems_at hl rfl ?_)
    rw [if_neg hs0]
    refine wpAny_bind (listUpdate_at hl rfl ?_ hs1 (by rw [Array.size_append]; exact hs2))
    exact wpAny_pure ⟨_, rfl, h⟩
def rExtend2 (K : PySem.W.Frag) : V → List V → Hp → VK → Prop := fun x vs H Q => ∃ l b xs zs, x = .ref l ∧ vs = [.ref b] ∧ H l = some (.lst xs) ∧ (H b = some (.lst zs) ∨ SqT K H b zs) ∧ xs.length + zs.length ≤ sizeLine ∧ Q .non (upd H l (.lst (xs ++ zs)))
theorem mt_extend2 {X : Cx} : MtM X "list.extend" (rExtend2 X.K) := by
  intro pins s σ H x vs v us Q I rx rv h
  obtain ⟨l, b, xs, zs, rfl, rfl, hH, hB, hz, q⟩ := h
  rcases hB with hB | hB
  · exact mt_extend pins s σ H _ _ v us Q I rx rv ⟨l, b, xs, zs, rfl, rfl, hH, hB, hz, q⟩
  · cases rx
    obtain ⟨u, rfl, ru⟩ := rv.one
    cases ru
    obtain ⟨z, its, n, r, hl, e⟩ := I.lstM hH
    obtain ⟨its2, r2, pl, z2⟩ := I.tuple hB
    have hl2 := r2.length
    have hsz : its.toArray.size + its2.toArray.size ≤ sizeLine := by rw [List.size_toArray, List.size_toArray]; omega
    have hlong : ¬ (!its.toArray.isEmpty && Builtin.List.listTooLong (its.toArray.size + its2.toArray.size)) = true := by
      rw [notLongL hsz, Bool.and_false]
      exact Bool.false_ne_true
    refine call_meets F.slot_list_extend ⟨_, e, rfl⟩ F.entry_list_extend (F.args_list_extend_2 _ _)
      (list_extend_tupS l its.toArray n b its2.toArray hlong (by rw [List.size_toArray]; omega) (by omega)) ⟨e, pl, ?_⟩
    refine ⟨.non, _, I.lset (its' := its ++ its2) hH e (by simp) (r.append r2) ?_, rfl, q⟩
    rw [List.length_append]
    omega
/-- x.extend(a) -/
theorem s_ext {i : Nat} {x : Str} {a : Expr} {fa : Ev.E} {p apos cpos pos : Pos} (hN : X.N[i]? = some x) (hv : Vis X.env.scope x) (ha : PE X a (tV (ct X ca) W fa))
    (hd : (x == ("__debug__" : Str)) = false := by decide) (hcd : (x == ("__classdict__" : Str)) = false := by decide)
    (hbase : attributeBase (.Name x p) "extend" X.env (eval (.Name x p) X.env) = eval (.Name x p) X.env := by rfl)
    (hfew : ((backTo cpos (starEach [a] X.env)).all (fun x => !x.1) && (backToKw cpos (keywordEach [] X.env)).all (fun x => x.1.isSome)
      && decide (([a] : List Expr).length + ([] : List Keyword).length + (if ([] : List Keyword).isEmpty then 0 else 1) < 30)) = true := by rfl)
    (hline : (apos.endLine == cpos.line) = true := by rfl) (hs : starEach [a] X.env = (false, eval a X.env) :: starEach [] X.env := by rfl) (hplain : (backTo cpos (starEach [] X.env)).any (·.1) = false := by rfl)
    (hsw : swapsWith (.Call (.Attribute (.Name x p) "extend" apos) [a] [] cpos) none pos.line X.env = pure false := by rfl) :
    PS X (.Expr (.Call (.Attribute (.Name x p) "extend" apos) [a] [] cpos) pos) (tS (ct X ca) W e (Ev.sExt i fa)) :=
  PS.imp (ps_expr (pe_bm PySem.F.plainAttrs_list PySem.F.slot_list_extend PySem.F.type_list_extend mt_extend2 (pe_var hN hv hd hcd) (pa_cons ha pa_nil hs) hbase hfew hline hs hplain) hsw) fun D σ H q => by
    obtain ⟨φ, G, ρ, μ, bs, q⟩ := q
    unfold Ev.sExt at q
    split at q
    · rename_i rs hi
      obtain ⟨l, ys, e1, h1, h2, h3, h4⟩ := own_at bs.en hi
      refine ⟨_, e1, .inl ⟨rfl, _, SqL.of h1⟩, φ, G, ρ, μ, bs.ok, bs.en, bs.bind q fun v1 φ1 G1 H1 r μ1 _ ext ok1 r1 q1 => ?_⟩
      obtain ⟨k1, k2, k3⟩ := ext.keep h1 h2 h3
      have hl := h4.len
      have vw := r1.vw ok1
      have key : ∀ zs, Ev.extR (Ev.vw μ1 r) = some zs → ∃ b ws, v1 = .ref b ∧ (H1 b = some (.lst ws) ∨ SqT X.K H1 b ws) ∧ RRs (ct X ca) φ1 G1 ws zs := fun zs hz => by
        unfold Ev.extR at hz
        split at hz
        · rename_i ds hr
          cases hz
          rw [hr] at vw
          obtain ⟨b, ws, e2, y1, y2⟩ := vw.list ok1.le
          exact ⟨b, ws, e2, .inl y1, RRs.ofD y2⟩
        · rename_i ds hr
          cases hz
          rw [hr] at vw
          obtain ⟨b, ws, e2, y1, y2⟩ := vw.tuple
          exact ⟨b, ws, e2, .inr (Same.seqT ok1.le y1), RRs.ofD y2⟩
        · rename_i zs' hr
          cases hz
          rw [hr] at vw
          obtain ⟨b, ws, e2, y1, y2⟩ := vw.ls ok1.le
          exact ⟨b, ws, e2, .inl y1, y2⟩
        · cases hz
      cases hz : Ev.extR (Ev.vw μ1 r) with
      | none => rw [hz] at q1; exact q1.elim
      | some zs =>
        rw [hz] at q1
        obtain ⟨b, ws, e2, y1, y2⟩ := key zs hz
        subst e2
        have hl2 := y2.len
        dsimp only at q1
        split at q1
        · rename_i hle
          have r2 := (ext.rrs h4).append y2
          refine ⟨l, b, ys, ws, rfl, rfl, k1, y1, by rw [hl, hl2, ← SL_eq]; exact hle, ?_⟩
          exact q1 σ φ1 G1 _ ((bs.step ext ok1).own (t := .own (rs ++ zs)) hi rfl e1 k2 k3 (fun c z => by rw [k1] at z; cases z) (.own upd_same k2 k3 r2) rfl) ext.lq
        · exact q1.elim
    · exact q.elim
/-- x.reverse() -/
theorem s_rev {i : Nat} {x : Str} {p apos cpos pos : Pos} (hN : X.N[i]? = some x) (hv : Vis X.env.scope x)
    (hd : (x == ("__debug__" : Str)) = false := by decide) (hcd : (x == ("__classdict__" : Str)) = false := by decide)
    (hbase : attributeBase (.Name x p) "reverse" X.env (eval (.Name x p) X.env) = eval (.Name x p) X.env := by rfl)
    (hline : (apos.endLine == cpos.line) = true := by rfl)
    (hsw : swapsWith (.Call (.Attribute (.Name x p) "reverse" apos) [] [] cpos) none pos.line X.env = pure false := by rfl) :
    PS X (.Expr (.Call (.Attribute (.Name x p) "reverse" apos) [] [] cpos) pos) (tS (ct X ca) W e (Ev.sRev i)) :=
  PS.imp (ps_expr (pe_bm0 PySem.F.plainAttrs_list PySem.F.slot_list_reverse PySem.F.type_list_reverse mt_reverse (pe_var hN hv hd hcd) hbase hline) hsw) fun D σ H q => by
    obtain ⟨φ, G, ρ, μ, bs, q⟩ := q
    unfold Ev.sRev at q
    split at q
    · rename_i rs hi
      obtain ⟨l, ys, e1, h1, h2, h3, h4⟩ := own_at bs.en hi
      refine ⟨_, e1, .inl ⟨rfl, _, SqL.of h1⟩, l, ys, rfl, rfl, h1, ?_⟩
      exact q σ φ G _ (bs.own (t := .own rs.reverse) hi rfl e1 h2 h3 (fun c z => by rw [h1] at z; cases z) (.own upd_same h2 h3 h4.reverse) rfl) Lq.refl
    · exact q.elim
/-- x[i] = a, x a dict of one's own -/
theorem s_dput {i : Nat} {x : Str} {o a : Expr} {fo fa : Ev.E} {p pos' pos : Pos} (hu : X.A.units + 1 < cLine) (xs : XS X W k) (hN : X.N[i]? = some x) (hv : Vis X.env.scope x) (ho : PE X o (tE (ct X ca) W fo)) (ha : PE X a (tE (ct X ca) W fa))
    (hd : (x == ("__debug__" : Str)) = false := by decide) (hcd : (x == ("__classdict__" : Str)) = false := by decide)
    (hs : swapsWith a (some (.Subscript (.Name x p) o pos')) pos.line X.env = pure false := by rfl) :
    PS X (.Assign [.Subscript (.Name x p) o pos'] a pos) (tS (ct X ca) W e (Ev.sSetD i fo fa)) :=
  PS.imp (ps_dput hu (pe_var hN hv hd hcd) ho ha hs) fun D σ H q => by
    obtain ⟨φ, G, ρ, μ, bs, q⟩ := q
    unfold Ev.sSetD at q
    refine ⟨φ, G, ρ, μ, bs.ok, bs.en, bs.bind q fun v1 φ1 G1 H1 r μ1 _ ext ok1 r1 q1 => ?_⟩
    have b1 := bs.step ext ok1
    split at q1
    · rename_i kvs hi
      obtain ⟨l, ys, e1, h1, h2, h3, h4⟩ := odic_at b1.en hi
      refine ⟨_, e1, φ1, G1, ρ, μ1, ok1, b1.en, b1.bind (postS_flat (σ1 := σ) xs.fw ext.lq q1) fun v2 φ2 G2 H2 r' μ2 _ ext2 ok2 r2 q2 => ?_⟩
      split at q2
      · split at q2
        · rename_i ky hk
          split at q2
          · rename_i hz
            obtain ⟨k1, k2, k3⟩ := ext2.keep h1 h2 h3
            have ek := keyOf_kV r2.inv_d hk
            subst ek
            have hl := h4.len
            have h5 : RKs (ct X ca) φ2 G2 ys kvs := h4.mono ext2.g ext2.ix
            refine ⟨l, _, rfl, DPut.k k1 (by rw [hl, ← SL_eq]; exact hz), ?_⟩
            exact q2 σ φ2 G2 _ ((b1.step ext2 ok2).own (t := .odic (Ev.putK kvs ky r)) hi rfl e1 k2 k3 (fun c z => by rw [k1] at z; cases z) (.odic upd_same k2 k3 (h5.put ky (ext2.rr r1))) rfl) ext2.lq
          · exact q2.elim
        · exact q2.elim
      · exact q2.elim
    · exact q1.elim
/-- x[i] = a, x a list of one's own -/
theorem s_lput {i : Nat} {x : Str} {o a : Expr} {fo fa : Ev.E} {p pos' pos : Pos} (xs : XS X W k) (hN : X.N[i]? = some x) (hv : Vis X.env.scope x) (ho : PE X o (tE (ct X ca) W fo)) (ha : PE X a (tE (ct X ca) W fa))
    (hd : (x == ("__debug__" : Str)) = false := by decide) (hcd : (x == ("__classdict__" : Str)) = false := by decide)
    (hq : ∀ v, assign (.Subscript (.Name x p) o pos') X.env v = (do
      let ov ← holding [v] (eval (.Name x p) X.env)
      let iv ← holding [v, ov] (eval o X.env)
      standAt pos'
      holding [v, ov, iv] (setItem ov iv v)
      release [v, ov, iv] []) := by intro _; rfl)
    (hs : swapsWithSole [.Subscript (.Name x p) o pos'] a pos.line X.env = pure false := by rfl) (hw : swappedStores [.Subscript (.Name x p) o pos'] a X.env = pure none := by rfl)
    (h1 : (assignEach [.Subscript (.Name x p) o pos'] X.env).map (·.2) = [assign (.Subscript (.Name x p) o pos') X.env] := by rfl) :
    PS X (.Assign [.Subscript (.Name x p) o pos'] a pos) (tS (ct X ca) W e (Ev.sSetI i fo fa)) :=
  PS.imp (ps_asg ha (pg_sub (pe_var hN hv hd hcd) ho set_list hq) hs hw h1) fun D σ H q => by
    obtain ⟨φ, G, ρ, μ, bs, q⟩ := q
    unfold Ev.sSetI at q
    refine ⟨φ, G, ρ, μ, bs.ok, bs.en, bs.bind q fun v1 φ1 G1 H1 r μ1 _ ext ok1 r1 q1 => ?_⟩
    have b1 := bs.step ext ok1
    split at q1
    · rename_i rs hi
      obtain ⟨l, ys, e1, h1, h2, h3, h4⟩ := own_at b1.en hi
      refine ⟨_, e1, φ1, G1, ρ, μ1, ok1, b1.en, b1.bind (postS_flat (σ1 := σ) xs.fw ext.lq q1) fun v2 φ2 G2 H2 r' μ2 _ ext2 ok2 r2 q2 => ?_⟩
      split at q2
      · split at q2
        · rename_i j hj
          obtain ⟨k1, k2, k3⟩ := ext2.keep h1 h2 h3
          have ei := r2.int
          subst ei
          have h5 := (ext2.rrs h4).set (ext2.rr r1) j
          refine ⟨l, ys, _, j, rfl, rfl, k1, by rw [h4.len]; exact hj, ?_⟩
          exact q2 σ φ2 G2 _ ((b1.step ext2 ok2).own (t := .own (rs.set j r)) hi rfl e1 k2 k3 (fun c z => by rw [k1] at z; cases z) (.own upd_same k2 k3 h5) rfl) ext2.lq
        · exact q2.elim
      · exact q2.elim
    · exact q1.elim
/-- the cell's list is rewritten -/
theorem Ok.cellSet {Γ : Ct} {φ : List Addr} {G H : Hp} {μ : Ev.Mem} {n : Nat} {a : Addr} {ys : List V} {ds : List Ev.D} (k : Ok Γ φ G H μ) (hn : φ[n]? = some a) (ha : ∃ xs, H a = some (.lst xs)) (r : DRs Γ.K G ys ds) :
    Ok Γ φ G (L2.upd H a (.lst ys)) (μ.set n (.lst ds)) := by
  obtain ⟨xs, ha⟩ := ha
  have hg : G a = none := k.fre a (List.mem_of_getElem? hn)
  have ne : ∀ {b : Addr} {x : HO}, G b = some x → b ≠ a := fun {b x} e z => by subst z; rw [hg] at e; cases e
  refine ⟨fun b x e => by rw [upd_ne (ne e)]; exact k.le b x e, k.nd, by rw [List.length_set]; exact k.len, k.fre, fun b hb => ?_, fun m b c h1 h2 => ?_, fun q hq => ?_⟩
  · by_cases hba : b = a
    · subst hba; exact ⟨_, upd_same⟩
    · rw [upd_ne hba]; exact k.thr b hb
  · by_cases hm : n = m
    · subst hm
      rw [hn] at h1; cases h1
      have hl : n < μ.length := by
        rw [← k.len]; exact (List.getElem?_eq_some_iff.mp hn).1
      rw [List.getElem?_set_self hl] at h2
      cases h2
      exact .lst upd_same r
    · rw [List.getElem?_set_ne hm] at h2
      have hba : b ≠ a := fun z => hm ((List.getElem?_inj (List.getElem?_eq_some_iff.mp hn).1 k.nd).mp (by rw [hn, h1, z]))
      refine (k.cell m b c h1 h2).keep (Same.refl _) (fun _ _ z => z) (fun o e => by rw [upd_ne hba]; exact e) fun d e => ?_
      rw [upd_ne (show d ≠ a from fun z => by rw [z, ha] at e; cases e)]; exact e
  · obtain ⟨⟨ps, e, t⟩, h2, h3⟩ := k.tb q hq
    exact ⟨⟨ps, by rw [upd_ne (fun z => by rw [z, ha] at e; cases e)]; exact e, t⟩, h2, h3⟩
theorem Ext.cellSet {φ : List Addr} {G H : Hp} {n : Nat} {a : Addr} {o : HO} (hn : φ[n]? = some a) : Ext φ G H φ G (L2.upd H a o) :=
  ⟨Same.refl _, fun _ h => .inl h, ⟨[], by simp, by simp⟩, fun b x e hb => .inl (by rw [upd_ne (show b ≠ a from fun z => hb (by rw [z]; exact List.mem_of_getElem? hn))]; exact e)⟩
/-- a[i] = x, a a cell's list -/
theorem s_set {b o a : Expr} {fb fo fa : Ev.E} {pos' pos : Pos} (xs : XS X W k) (hb : PE X b (tE (ct X ca) W fb)) (ho : PE X o (tE (ct X ca) W fo)) (ha : PE X a (tE (ct X ca) W fa))
    (hq : ∀ v, assign (.Subscript b o pos') X.env v = (do
      let ov ← holding [v] (eval b X.env)
      let iv ← holding [v, ov] (eval o X.env)
      standAt pos'
      holding [v, ov, iv] (setItem ov iv v)
      release [v, ov, iv] []) := by intro _; rfl)
    (hs : swapsWithSole [.Subscript b o pos'] a pos.line X.env = pure false := by rfl) (hw : swappedStores [.Subscript b o pos'] a X.env = pure none := by rfl)
    (h1 : (assignEach [.Subscript b o pos'] X.env).map (·.2) = [assign (.Subscript b o pos') X.env] := by rfl) :
    PS X (.Assign [.Subscript b o pos'] a pos) (tS (ct X ca) W e (Ev.sSet fb fo fa)) :=
  PS.imp (ps_asg ha (pg_sub hb ho set_list hq) hs hw h1) fun D σ H q => by
    obtain ⟨φ, G, ρ, μ, bs, q⟩ := q
    unfold Ev.sSet at q
    refine ⟨φ, G, ρ, μ, bs.ok, bs.en, bs.bind q fun v1 φ1 G1 H1 z μ1 _ ext ok1 r1 q1 => ?_⟩
    have b1 := bs.step ext ok1
    refine ⟨φ1, G1, ρ, μ1, ok1, b1.en, b1.bind (postS_flat (σ1 := σ) xs.fw ext.lq q1) fun v2 φ2 G2 H2 x μ2 _ ext2 ok2 r2 q2 => ?_⟩
    have b2 := b1.step ext2 ok2
    refine ⟨φ2, G2, ρ, μ2, ok2, b2.en, b2.bind (postS_flat (σ1 := σ) xs.fw ext2.lq q2) fun v3 φ3 G3 H3 y μ3 _ ext3 ok3 r3 q3 => ?_⟩
    have b3 := b2.step ext3 ok3
    split at q3
    · split at q3
      · rename_i ds hm
        split at q3
        · rename_i j hj
          have r2 := ext3.rr r2
          cases r2 with
          | p hn =>
            rename_i c
            have hc := ok3.cell _ c _ hn hm
            cases hc with
            | lst y1 y2 =>
              rename_i ys
              have ei := r3.int
              subst ei
              refine ⟨c, ys, _, j, rfl, rfl, y1, by rw [y2.len]; exact hj, ?_⟩
              have x1 : Ext φ3 G3 H3 φ3 G3 (L2.upd H3 c (.lst (ys.set j v1))) := Ext.cellSet hn
              have hv := (ext3.rr (ext2.rr r1)).inv_d
              exact q3 σ φ3 G3 _ (b3.step x1 (ok3.cellSet hn ⟨_, y1⟩ (y2.set hv j))) ext3.lq
        · exact q3.elim
      · exact q3.elim
    · exact q3.elim

/-! ### loops -/
theorem ItR.mono {Γ : Ct} {φ φ' : List Addr} {G G' : Hp} {J : It} {rs : List Ev.R} (h : ItR Γ φ G J rs) (a : Lq φ G φ' G') : ItR Γ φ' G' J rs := by
  refine ⟨fun i H hi s => h.goes i H hi (a.g.trans s), fun H s => h.stops H (a.g.trans s), fun i H x H' r e s y => ?_⟩
  rcases h.yields i H x H' r e (a.g.trans s) y with ⟨z, q⟩ | ⟨T, xs, ds, h1, h2, h3, h4, h5⟩
  · exact .inl ⟨z, q.mono a.g a.ix⟩
  · exact .inr ⟨T, xs, ds, h1, h2, h3, h4, h5.mono a.g⟩
theorem s_for {tg iter : Expr} {body : List Stmt} {it : Ev.It} {g : TG} {t : Ev.Tg} {is : List Nat} {f : Ev.S} {pos : Pos} (xs : XS X W k) (hi : PI X tg iter (tI (ct X ca) W it)) (hg : PG X tg g) (gk : GOk (ct X ca) g t is) (hb : PSs X body (tS (ct X ca) W e f))
    (hs : ∀ x, foldedSetIterable iter X.env x = pure x := by intro _; rfl) : PS X (.For tg iter body [] pos) (tS (ct X ca) W e (Ev.sFor t it f)) := PS.imp (ps_for xs.po xs.calm hi hg hb hs) fun D σ H q => by
  obtain ⟨φ, G, ρ, μ, bs, q⟩ := q
  unfold Ev.sFor at q
  refine ⟨φ, G, ρ, μ, bs.ok, bs.en, bs.bind q fun J φ1 G1 H1 xl μ1 _ ext ok1 ir q1 => ?_⟩
  have q1 := postS_flat (σ1 := σ) xs.fw ext.lq q1
  refine for_it ir.walk (fun i σ' H' => ∃ φ' G' ρ' μ', BS (ct X ca) e φ' G' H' σ' ρ' μ' ∧ Lq φ1 G1 φ' G' ∧ postS (ct X ca) W e φ' G' σ' (Ev.forL t f (xl.drop i) ρ' μ') D) ?_ ?_ ?_ ?_
  · exact ⟨φ1, G1, ρ, μ1, bs.step ext ok1, Lq.refl, q1⟩
  · rintro i σ' H' hi' ⟨φ', G', ρ', μ', b', l', _⟩
    exact l'.g.trans b'.ok.le
  · rintro i x σ' H' H2 hi' ⟨φ', G', ρ', μ', b', l', q'⟩ y
    obtain ⟨G2, e2, ok2, rx⟩ := (ir.mono l').turn b'.ok (by simp [hi'] : xl[i]? = some xl[i]) y
    have b2 := b'.step e2 ok2
    rw [List.drop_eq_getElem_cons hi'] at q'
    have q' : postS (ct X ca) W e φ' G' σ' (match t xl[i] ρ' with
      | none => .no
      | some ρ1 => (f ρ1 μ').bind fun fl μ => match fl with
        | .nx ρ => Ev.forL t f (xl.drop (i + 1)) ρ μ
        | .ct ρ => Ev.forL t f (xl.drop (i + 1)) ρ μ
        | .bk ρ => .ok (.nx ρ) μ
        | .rt r => .ok (.rt r) μ) D := q'
    cases htg : t xl[i] ρ' with
    | none => rw [htg] at q'; exact q'.elim
    | some ρ1 =>
      rw [htg] at q'
      dsimp only at q'
      refine gk φ' G2 H2 μ' σ' ρ' ρ1 x xl[i] _ ok2 b2.en rx htg fun σ2 en2 ch => ⟨φ', G2, ρ1, μ', ⟨b2.ext, ok2, en2, ch.fresh b2.fr⟩, ?_⟩
      have l2 := l'.trans e2.lq
      generalize f ρ1 μ' = o at q'
      cases o with
      | no => exact q'
      | exn c μ2 => exact fun c od φ G H a b r => xs.fw _ _ _ _ _ (q' c od φ G H a b r)
      | ok fl μ2 =>
        cases fl with
        | nx ρ3 => exact fun σ3 φ3 G3 H3 b3 l3 => ⟨φ3, G3, ρ3, μ2, b3, l2.trans l3, postS_flat xs.fw (e2.lq.trans l3) q'⟩
        | ct ρ3 => exact fun σ3 φ3 G3 H3 b3 l3 => ⟨φ3, G3, ρ3, μ2, b3, l2.trans l3, postS_flat xs.fw (e2.lq.trans l3) q'⟩
        | bk ρ3 => exact fun σ3 φ3 G3 H3 b3 l3 => q' σ3 φ3 G3 H3 b3 (e2.lq.trans l3)
        | rt r => exact q'
  · rintro σ' H' ⟨φ', G', ρ', μ', b', l', q'⟩
    rw [List.drop_length] at q'
    exact q' σ' φ' G' H' b' Lq.refl
theorem s_while {c : Expr} {body : List Stmt} {t : Ev.T} {f : Ev.S} {n : Nat} {pos : Pos} (xs : XS X W k) (hc : PT X c (tT (ct X ca) W t)) (hb : PSs X body (tS (ct X ca) W e f)) : PS X (.While c body [] pos) (tS (ct X ca) W e (Ev.sWhile n t f)) := PS.imp (ps_while xs.po hc hb) fun D σ H q => by
  obtain ⟨φ, G, ρ, μ, bs, q⟩ := q
  unfold Ev.sWhile at q
  refine ⟨fun m σ' H' => ∃ φ' G' ρ' μ', BS (ct X ca) e φ' G' H' σ' ρ' μ' ∧ postS (ct X ca) W e φ' G' σ' (Ev.whL t f m ρ' μ') D, ⟨n, φ, G, ρ, μ, bs, q⟩, ?_⟩
  rintro m σ' H' ⟨φ', G', ρ', μ', b', q'⟩
  cases m with
  | zero => exact q'.elim
  | succ m =>
    refine ⟨φ', G', ρ', μ', b'.ok, b'.en, b'.bind (show postS (ct X ca) W e φ' G' σ' ((t ρ' μ').bind _) D from q') fun v φ1 G1 H1 z μ1 _ ext ok1 r1 q1 => ?_⟩
    have b1 := b'.step ext ok1
    have hz : v = z := r1
    subst hz
    cases v with
    | false =>
      rw [if_neg (by decide)] at q1 ⊢
      exact q1 σ' φ1 G1 H1 b1 ext.lq
    | true =>
      rw [if_pos rfl] at q1 ⊢
      have q1 := postS_flat (σ1 := σ') xs.fw ext.lq q1
      refine ⟨fun σ2 H2 => ∃ φ' G' ρ' μ', BS (ct X ca) e φ' G' H2 σ2 ρ' μ' ∧ postS (ct X ca) W e φ' G' σ2 (Ev.whL t f m ρ' μ') D, fun σ2 H2 h => ⟨m, Nat.lt_succ_self m, h⟩, φ1, G1, ρ', μ1, b1, ?_⟩
      generalize f ρ' μ1 = o at q1
      cases o with
      | no => exact q1
      | exn c μ2 => exact q1
      | ok fl μ2 =>
        cases fl with
        | nx ρ3 => exact fun σ3 φ3 G3 H3 b3 l3 => ⟨φ3, G3, ρ3, μ2, b3, postS_flat xs.fw l3 q1⟩
        | ct ρ3 => exact fun σ3 φ3 G3 H3 b3 l3 => ⟨φ3, G3, ρ3, μ2, b3, postS_flat xs.fw l3 q1⟩
        | bk ρ3 => exact q1
        | rt r => exact q1
end
end EvS
end

section
set_option maxHeartbeats 0
set_option Elab.async false
set_option linter.all false
set_option maxRecDepth 100000
/-! EvLaw: the table of a law's defs; the law's own call. -/
namespace EvS
open PySem PySem.Spec PyProof.Rows L2
theorem FnG.imp {P : Program} {w : World} {K : PySem.W.Frag} {mg : Str → Option Value} {base : Heap} {k : Nat} {f : Addr} {fd : FuncData} {ps : List Str} {sp sp' : Sp} (h : FnG P w K mg base k f fd ps sp) (i : ∀ vs H Q E, sp' vs H Q E → sp vs H Q E) : FnG P w K mg base k f fd ps sp' :=
  ⟨fun vs H Q E q => h.len vs H Q E (i vs H Q E q), fun A out s H args us vs Q E hr e0 hb r q => h.go A out s H args us vs Q E hr e0 hb r (i vs H Q E q)⟩
/-- a def's context -/
abbrev cx (Pg : Program) (w : World) (K : PySem.W.Frag) (mg : Str → Option Value) (base : Heap) (N : List Str) (qual : Str) (scope : Scope) (a : Addr) (cdv : Value) (A : Around) (out : List Env) (s : Shared) (H : Hp) (E : XK) : Cx := cxOf (CX Pg w) Pg w K mg base N qual scope a cdv A out s H E
abbrev wE (E : XK) : WX := fun c d _ H => E c d H
/-- the tables of the defs that hold generator expressions, as the base has them -/
def TBs (ca : Cn) (base : Heap) (mg : Str → Option Value) : Prop := ∀ p ∈ ca.tabs, GxR.TabB base mg p.1 p.2
/-- the code object of the def at a -/
def codeAt (K : PySem.W.Frag) (a : Addr) : Addr := match K.lookup a with
  | some ⟨_, _, .func fd, _⟩ => (match fd.code with
    | .ref c => c
    | _ => 0)
  | _ => 0
/-- a def of the text is what the evaluator says -/
def Dn (Pg : Program) (w : World) (K : PySem.W.Frag) (mg : Str → Option Value) (ca : Cn) (P : String → Option Ev.Def) (f : String) (d : Ev.Def) : Prop :=
  ∃ (name qual : Str) (params : Arguments) (body : List Stmt) (scope : Scope) (a : Addr) (fd : FuncData) (N ps : List Str),
    FunD K name qual params body scope [] [] a fd ∧ mg (Str.ofString f) = some (.ref a) ∧ FnScope N ps scope ∧ ps.length = d.np ∧ N.length = d.nl ∧ Binds K fd ps [] ∧
    ∀ (base : Heap) (cdv : Value) (A : Around) (out : List Env) (s : Shared) (H : Hp) (E : XK) (e : En) (n : Nat), TBs ca base mg → cdv = .ref (codeAt K a) →
      (∀ g d', P g = some d' → Callee (cx Pg w K mg base N qual scope a cdv A out s H E) ca n (Ev.callN P n) g d'.np) → XS (cx Pg w K mg base N qual scope a cdv A out s H E) (wE E) n → Slk (cx Pg w K mg base N qual scope a cdv A out s H E) n →
        PSs (cx Pg w K mg base N qual scope a cdv A out s H E) body (tS (ct (cx Pg w K mg base N qual scope a cdv A out s H E) ca) (wE E) e (d.body (Ev.callN P n)))
theorem tab {Pg : Program} {w : World} {K : PySem.W.Frag} {mg : Str → Option Value} {ca : Cn} {P : String → Option Ev.Def} (hd : ∀ f d, P f = some d → Dn Pg w K mg ca P f d) :
    ∀ n f d, P f = some d → ∃ (a : Addr) (fd : FuncData) (ps : List Str), ps.length = d.np ∧ mg (Str.ofString f) = some (.ref a) ∧ PySem.W.keepIn K (.ref a) = true ∧ Binds K fd ps [] ∧ ∀ base : Heap, TBs ca base mg → FnG Pg w K mg base n a fd ps (spF ⟨K, ca⟩ d.np (Ev.callN P n f))
  | 0, f, d, h => by
    obtain ⟨name, qual, params, body, scope, a, fd, N, ps, F, hm, S, h1, h2, hb, _⟩ := hd f d h
    refine ⟨a, fd, ps, h1, hm, F.kp, hb, fun base _ => ⟨fun vs H Q E q => ?_, fun A out s H args us vs Q E hr e0 hb r q => ?_⟩⟩
    · obtain ⟨_, _, _, _, _, _, _, q⟩ := q; exact q.elim
    · obtain ⟨_, _, _, _, _, _, _, q⟩ := q; exact q.elim
  | n + 1, f, d, h => by
    obtain ⟨name, qual, params, body, scope, a, fd, N, ps, F, hm, S, h1, h2, hb, hbody⟩ := hd f d h
    obtain ⟨oc, od, dV, kV, doc, pm, an, cdv, ct0, osl, e1, lk, hcd, _, _⟩ := F.ex
    subst e1
    have ih := tab hd n
    have hcv : cdv = .ref (codeAt K a) := by
      obtain ⟨c, hc⟩ := He.codeIn_ref hcd
      subst hc
      unfold codeAt
      rw [lk]
    refine ⟨a, _, ps, h1, hm, F.kp, hb, fun base tb => (fn_body (k := n) (np := d.np) (nl := d.nl) (ca := ca) (b := d.body (Ev.callN P n)) lk hcd S h1 h2 fun A out s H E e xs sl => ?_).imp fun vs H Q E q => ?_⟩
    · exact hbody base cdv A out s H E e n tb hcv (fun g d' hg => let ⟨a, fd, ps, z1, z2, z3, z4, z5⟩ := ih g d' hg; ⟨a, fd, ps, z1, z2, z3, z4, z5 base tb⟩) xs sl
    · obtain ⟨φ, G, rs, μ, ok, r, hl, q⟩ := q
      refine ⟨φ, G, rs, μ, ok, r, hl, ?_⟩
      unfold Ev.callN at q
      rw [h] at q
      simpa only [hl, if_true] using q

/-! ### the law's own call -/
/-- the script alone is tracked, as it stands -/
def scrH (K : PySem.W.Frag) (a : Addr) (o : Obj) (xs : List V) : Hp := fun b => if b = a ∧ (K.lookup a).isNone = true then some (.frz o (.lst xs)) else none
theorem scrH_some {K : PySem.W.Frag} {a b : Addr} {o : Obj} {xs : List V} {u : HO} (h : scrH K a o xs b = some u) : b = a ∧ (K.lookup a).isNone = true ∧ u = .frz o (.lst xs) := by
  unfold scrH at h
  split at h
  · rename_i c
    exact ⟨c.1, c.2, (Option.some.inj h).symm⟩
  · cases h
theorem law_callG {Pg : Program} {w : World} {K : PySem.W.Frag} {mg mb : Str → Option Value} {k : Nat} {fa a : Addr} {fd : FuncData} {x : Str} {ca : Cn} {c : List Ev.R → Ev.Mem → Ev.Out Ev.R} {s₁ : Shared} {vs : List Value} {ns : List Int}
    (inK : K.In s₁.heap) (nsM : s₁.heap.Ns mainGlobals mg) (nsB : s₁.heap.Ns builtinsNs mb) (blt : ∀ y : Str, y ≠ "__name__" → mb y = bootBuiltins y) (lim : s₁.heap.NoLimit) (gens : s₁.gens = #[])
    (hT : ∀ p ∈ ca.tabs, s₁.heap.get? p.2 = some { cls := .none, data := .fields #[] }) (nT : ∀ p ∈ ca.tabs, K.lookup p.2 = none) (Cd : ∀ p ∈ ca.tabs, PySem.W.CodeHd s₁.heap p.1 p.2)
    (hbm : ∃ (bm : Addr) (ob : Obj), mg "__builtins__" = some (.ref bm) ∧ bm ≠ builtinsNs ∧ s₁.heap.get? bm = some ob ∧ ob.cls = .type "module" ∧ ob.dict = some builtinsNs ∧ ob.data = .plain)
    (obj : s₁.heap.get? a = some { cls := .type "list", data := .seq vs.toArray }) (nums : IntsAre vs ns) (len : ns.length ≤ sizeLine) (room : Room k callerA)
    (F : ∀ base : Heap, TBs ca base mg → FnG Pg w K mg base k fa fd [x] (spF ⟨K, ca⟩ 1 c)) (bnd : Binds K fd [x] []) (law : c [.scr ns] [] = .ok (.d (.bl true)) []) :
    codeAny (model Pg w) callerA (.call (.ref fa) ⟨[.ref a], []⟩) (fun r s' => r = .ok (.ret (.bool true)) ∧ OldK s₁.heap s'.heap ∧ s'.os = s₁.os ∧ AllBare s'.gens) s₁ := by
  have vals := vals_ints nums
  have lv := nums.length
  have isT : ∀ b : Addr, b ∈ ca.tabs.map (·.2) → s₁.heap.get? b = some { cls := .none, data := .fields #[] } := fun b hb => by
    obtain ⟨p, hp, e⟩ := List.mem_map.mp hb
    rw [← e]
    exact hT p hp
  have aT : a ∉ ca.tabs.map (·.2) := fun z => by
    have q := isT a z
    rw [obj] at q
    have z' : Data.seq vs.toArray _ = Data.fields #[] := congrArg Obj.data (Option.some.inj q)
    cases z'
  have memT : ∀ p ∈ ca.tabs, p.2 ∈ ca.tabs.map (·.2) := fun p hp => List.mem_map.mpr ⟨p, hp, rfl⟩
  generalize ho : ({ cls := .type "list", data := .seq vs.toArray } : Obj) = o at obj
  generalize hG : scrH K a o (ns.map V.int) = G
  generalize hH : (fun b => if b ∈ ca.tabs.map (·.2) then some (HO.tbl #[]) else G b : Hp) = H
  have offG : ∀ {b : Addr} {u : HO}, G b = some u → b = a ∧ K.lookup a = none ∧ u = .frz o (.lst (ns.map V.int)) := fun {b u} e => by
    rw [← hG] at e
    obtain ⟨h1, h2, h3⟩ := scrH_some e
    exact ⟨h1, Option.isNone_iff_eq_none.mp h2, h3⟩
  have inT : ∀ {b : Addr}, b ∈ ca.tabs.map (·.2) → H b = some (.tbl #[]) := fun {b} hb => by rw [← hH]; exact if_pos hb
  have ouT : ∀ {b : Addr}, b ∉ ca.tabs.map (·.2) → H b = G b := fun {b} hb => by rw [← hH]; exact if_neg hb
  have off : ∀ {b : Addr} {u : HO}, b ∉ ca.tabs.map (·.2) → H b = some u → b = a ∧ K.lookup a = none ∧ u = .frz o (.lst (ns.map V.int)) := fun {b u} hb e => by rw [ouT hb] at e; exact offG e
  have none_of : ∀ {b : Addr}, b ∉ ca.tabs.map (·.2) → (b = a → K.lookup a = none → False) → H b = none := fun {b} hb n => by
    cases q : H b with
    | none => rfl
    | some u => obtain ⟨h1, h2, _⟩ := off hb q; exact (n h1 h2).elim
  have noD : ∀ {b : Addr} {u : Obj}, s₁.heap.get? b = some u → (∀ vs n, u.data ≠ .seq vs n) → u.data ≠ .fields #[] → H b = none := fun {b u} e h1 h2 => by
    refine none_of (fun hb => ?_) fun h3 _ => ?_
    · rw [isT b hb] at e; cases e; exact h2 rfl
    · subst h3
      rw [obj] at e
      cases e
      exact h1 _ _ (by rw [← ho])
  have dictFree : ∀ {b : Addr} {u : Obj} {es : Array DictEntry} {ep : Nat}, s₁.heap.get? b = some u → u.data = .dict es ep → H b = none := fun {b u es ep} e d =>
    noD e (fun vs n z => by rw [d] at z; cases z) fun z => by rw [d] at z; cases z
  have keepNs : ∀ {b : Addr} {m : Str → Option Value}, s₁.heap.Ns b m → (hidT s₁.heap H).Ns b m := fun {b m} ⟨u, es, ep, e, d, r⟩ => ⟨u, es, ep, hidT_get e (dictFree e d), d, r⟩
  have keepK : K.In (hidT s₁.heap H) := fun b u e => hidT_get (inK b u e) (none_of (fun hb => by
    obtain ⟨p, hp, ep⟩ := List.mem_map.mp hb
    rw [← ep, nT p hp] at e
    cases e) fun h1 h2 => by rw [h1, h2] at e; cases e)
  have lim' := lim
  obtain ⟨mc, lim1, lim2⟩ := lim
  have modK : Mod K mg (hidT s₁.heap H) := ⟨keepK, keepNs nsM, ⟨mb, keepNs nsB, blt⟩, ⟨mc, keepNs lim1, lim2⟩⟩
  have hok : HOk Pg w H s₁.heap := fun b u e => by
    by_cases hb : b ∈ ca.tabs.map (·.2)
    · rw [inT hb] at e
      cases e
      exact isT b hb
    · obtain ⟨h1, _, h3⟩ := off hb e
      subst h1 h3
      exact ⟨obj, by rw [List.length_map]; exact len, vs, _, vals, by rw [obj, ← ho]⟩
  have seq : SqL K G a (ns.map V.int) := by
    cases q : K.lookup a with
    | some u =>
      have e := inK a u q
      rw [obj] at e
      cases e
      rw [← ho] at q
      exact .inr ⟨_, vs.toArray, _, q, rfl, rfl, rfl, by rw [List.size_toArray, lv]; exact len, by simpa using vals⟩
    | none => exact .inl (.inr ⟨o, by rw [← hG]; unfold scrH; rw [if_pos ⟨rfl, by rw [q]; rfl⟩]⟩)
  have noB : ∀ b : Addr, b ∉ ([] : List Addr) := fun b h => by cases h
  have env : Env0 Pg w K mg (hidT s₁.heap H) callerA [] s₁ H := ⟨rfl, modK, fun b u e => of_hidT e, Nat.le_of_eq (hidT_size _ _), trivial, fun b hb => absurd hb (noB b), hok, .of_eq gens⟩
  have TB : TBs ca (hidT s₁.heap H) mg := fun p hp => by
    have hTp := hT p hp
    refine ⟨?_, ?_, fun z => ?_⟩
    · obtain ⟨o, us, file, tf, flags, tg, inF, text, tt, e1, r1, r2, r3, r4, r5, r6, r7, r8, hne⟩ := Cd p hp
      refine ⟨o, us, file, tf, flags, tg, inF, text, tt, hidT_get e1 (noD e1 (fun vs n z => ?_) fun z => ?_), r1, r2, r3, r4, r5, r6, r7, r8, hne⟩
      · rw [r2] at z
        cases z
      · rw [r2] at z
        cases z
        simp at r3
    · obtain ⟨bm, ob, b1, b2, b3, b4, b5, b6⟩ := hbm
      have nG : bm ≠ mainGlobals := fun q => by
        obtain ⟨o, es, ep, e, hd, _⟩ := nsM
        rw [q, e] at b3
        cases b3
        rw [hd] at b6
        cases b6
      have nP : bm ≠ p.2 := fun q => by
        rw [q, hTp] at b3
        cases b3
        cases b6
      refine ⟨bm, ob, b1, b2, nG, nP, hidT_get b3 (noD b3 (fun vs n z => ?_) fun z => ?_), b4, b5, b6⟩
      · rw [b6] at z
        cases z
      · rw [b6] at z
        cases z
    · obtain ⟨o, es, ep, e, hd, _⟩ := nsM
      rw [z, hTp] at e
      cases e
      cases hd
  have bt : BindsTo s₁ fd ⟨[.ref a], []⟩ [(x, .ref a)] := by
    have q := bnd s₁ [.ref a] inK rfl
    exact q
  have start : spF ⟨K, ca⟩ 1 c [.ref a] H (fun v _ => v = .bl true) fun _ _ _ => False := by
    refine ⟨[], G, [.scr ns], [], ⟨fun b u e => ?_, List.nodup_nil, rfl, fun b h => absurd h (noB b), fun b h => absurd h (noB b), (fun n b u e => by cases e), fun p hp => ⟨⟨#[], inT (memT p hp), trivial⟩, noB _, ?_⟩⟩, .cons (.scr seq) .nil, rfl, ?_⟩
    · obtain ⟨h1, _, _⟩ := offG e
      rw [ouT (by rw [h1]; exact aT)]; exact e
    · cases q : G p.2 with
      | none => rfl
      | some u =>
        obtain ⟨h1, _, _⟩ := offG q
        exact absurd (memT p hp) (by rw [h1]; exact aT)
    · rw [law]
      exact fun v φ' G' H' _ _ r => r.bl
  refine codeAny_mono ((F (hidT s₁.heap H) TB).go callerA [] s₁ H ⟨[.ref a], []⟩ [.ref a] [.ref a] _ _ ⟨room, rfl⟩ env bt (.cons rfl .nil) start) fun r s' h => ?_
  match r, h with
  | .error e, ⟨_, _, _, _, _, _, _, _, _, _, _, _, z⟩ => exact z.elim
  | .ok .next, h => exact h.elim
  | .ok .brk, h => exact h.elim
  | .ok .cont, h => exact h.elim
  | .ok (.ret u), ⟨v, H', os, bare, un, hok', rv, q⟩ =>
    have q : v = .bl true := q
    subst q
    cases (show u = Value.bool true from rv)
    have key : ∀ b u, b ∉ ca.tabs.map (·.2) → s₁.heap.get? b = some u → s'.heap.get? b = some u := fun b u hb e => by
      cases q : H b with
      | none => exact un.keep b u e q (noB b) (noB b)
      | some z =>
        obtain ⟨h1, _, h3⟩ := off hb q
        subst h1 h3
        obtain ⟨z1, _⟩ := hok b _ q
        obtain ⟨z2, _⟩ := hok' b _ (un.frzs b _ _ q)
        rw [e] at z1
        cases z1
        exact z2
    have grown : ∀ p ∈ ca.tabs, ∃ more : Array Value, s'.heap.get? p.2 = some { cls := .none, data := .fields more } := fun p hp => by
      obtain ⟨more, z⟩ := un.tbls p.2 #[] (inT (memT p hp))
      exact ⟨_, hok' p.2 _ z⟩
    refine ⟨rfl, ⟨fun b o e => ?_, fun b o e => ?_⟩, os, bare⟩
    · by_cases hb : b ∈ ca.tabs.map (·.2)
      · obtain ⟨p, hp, ep⟩ := List.mem_map.mp hb
        obtain ⟨more, hm⟩ := grown p hp
        rw [← ep] at e ⊢
        rw [hT p hp] at e
        cases e
        exact .inr (.inl ⟨((Cd p hp).tab (hT p hp)).isCodeTable, rfl, #[], more, rfl, by rw [Array.empty_append]; exact hm⟩)
      · exact .inl (key b o hb e)
    · by_cases hb : b ∈ ca.tabs.map (·.2)
      · obtain ⟨p, hp, ep⟩ := List.mem_map.mp hb
        obtain ⟨more, hm⟩ := grown p hp
        rw [← ep]
        exact ⟨_, hm⟩
      · exact ⟨o, key b o hb e⟩
/-- the law, from the table -/
theorem walk_ev {l : PySem.W.OpenLaw} {k : Nat} {q : Program} {loose : List Str} {XP : (Str → Option Value) → Heap → Prop} {YP : World → Heap → Prop} {d : DefRec} {P : String → Option Ev.Def} {dl : Ev.Def} {n : Nat}
    (hn : l.most = some n) (hn2 : n ≤ sizeLine) (hdf : d.params.defaults = []) (hr : Room k callerA) (hnm : d.name = Str.ofString "law") (hl : P "law" = some dl) (h1 : dl.np = 1)
    (F : ∀ (w : World) (mg : Str → Option Value) (h : Heap), YP w h → h.Ns mainGlobals mg → ∃ (K : PySem.W.Frag) (ca : Cn), K.In h ∧ (∀ p ∈ ca.tabs, h.get? p.2 = some { cls := .none, data := .fields #[] }) ∧ (∀ p ∈ ca.tabs, K.lookup p.2 = none) ∧ (∀ p ∈ ca.tabs, PySem.W.CodeHd h p.1 p.2) ∧ ∀ f d, P f = some d → Dn l.prog w K mg ca P f d)
    (law : ∀ ns : List Int, ns.length ≤ n → (∀ k ∈ ns, Builtin.Int.intBits k ≤ 1048576) → Ev.callN P k "law" [.scr ns] [] = .ok (.d (.bl true)) []) :
    PySem.W.WalkO q loose XP YP l.row.toRowW d [] (fun f vs => PySem.call f vs) := by
  refine Att.attach_callB hn hdf fun w s₀ s₁ mg mb fa o pm cd doc a vs ns G Y ho hd hcd hmg hobj hints hlen hbits hg => ?_
  obtain ⟨K, ca, KX, hT, nT, Cd, hD⟩ := F w mg _ Y G.T.g
  obtain ⟨a0, fd0, ps0, e1, e2, e3, e4, T⟩ := tab hD k "law" dl hl
  rw [hnm, e2] at hmg
  cases hmg
  rw [h1] at e1 T
  obtain ⟨x, rfl⟩ := List.length_eq_one_iff.mp e1
  exact law_callG KX G.T.g G.T.b G.T.builtins G.T.nolimit hg hT nT Cd G.T.bmain hobj hints (Nat.le_trans hlen hn2) hr T e4 (law ns hlen hbits)

/-- the tables of the defs of tf -/
def caK (K : PySem.W.Frag) (tf : List He.Defn) : Cn := ⟨fun _ => 0, tf.map (He.cT K)⟩
theorem caK_all {K : PySem.W.Frag} {tf : List He.Defn} {R : Addr × Addr → Prop} (h : ∀ p ∈ tf, R (He.cT K p)) : ∀ q ∈ (caK K tf).tabs, R q := fun q hq => by
  obtain ⟨p, hp, e⟩ := List.mem_map.mp hq
  rw [← e]; exact h p hp
theorem tbx_of {K : PySem.W.Frag} {tf : List He.Defn} {X : Cx} {p : He.Defn} (tb : TBs (caK K tf) X.base X.mg) (hc : X.env.code = .ref (codeAt K (He.fAd K p))) (hp : p ∈ tf) : Tbx X (caK K tf) :=
  have m : He.cT K p ∈ (caK K tf).tabs := List.mem_map.mpr ⟨p, hp, rfl⟩
  ⟨_, (He.cT K p).2, hc, m, tb _ m⟩

/-! ### what a generated derivation names -/
section
variable {X : Cx} {W : WX} {ca : Cn} {k : Nat}
theorem XS.u65 (xs : XS X W k) : X.A.units + 65 < cLine := by have := xs.room.r.un; omega
theorem XS.u64 (xs : XS X W k) : X.A.units + 64 < cLine := by have := xs.room.r.un; omega
theorem XS.u1 (xs : XS X W k) : X.A.units + 1 < cLine := by have := xs.room.r.un; omega
end
/-- a module's constant -/
def GC (K : PySem.W.Frag) (mg : Str → Option Value) (x : Str) (d : Ev.D) : Prop := ∃ v u, mg x = some u ∧ RelV v u ∧ ∀ G : Hp, DR K G v d
theorem se_gc {X : Cx} {W : WX} {ca : Cn} {x : Str} {d : Ev.D} {pos : Pos} (g : GC X.K X.mg x d) (hg : Gl X x) (hd : (x == ("__debug__" : Str)) = false := by decide) : PE X (.Name x pos) (tE (ct X ca) W (Ev.eC d)) := by
  obtain ⟨v, u, h1, h2, h3⟩ := g
  exact se_g hg h1 h2 h3 hd
mutual
def isDV (K : PySem.W.Frag) : Ev.D → Value → Bool
  | .non, .none => true
  | .bl a, .bool b => a == b
  | .int i, .int j _ => decide (i = j)
  | .str z, .str y _ => decide (y = Str.ofString z)
  | .tup ds, .ref a => match K.lookup a with
    | some ⟨.type c, _, .seq its _, _⟩ => decide (c = "tuple") && (decide (its.size ≤ sizeLine) && isDVs K ds its.toList)
    | _ => false
  | _, _ => false
def isDVs (K : PySem.W.Frag) : List Ev.D → List Value → Bool
  | [], [] => true
  | d :: ds, u :: us => isDV K d u && isDVs K ds us
  | _, _ => false
end
mutual
theorem isDV_ok {K : PySem.W.Frag} : ∀ {d : Ev.D} {u : Value}, isDV K d u = true → ∃ v, RelV v u ∧ ∀ G : Hp, DR K G v d
  | .non, u, h => by cases u <;> simp [isDV] at h; exact ⟨.non, rfl, fun _ => .non⟩
  | .bl a, u, h => by
    cases u <;> simp [isDV] at h
    subst h; exact ⟨.bl a, rfl, fun _ => .bl a⟩
  | .int a, u, h => by
    cases u <;> simp [isDV] at h
    subst h; exact ⟨.int a, ⟨_, rfl⟩, fun _ => .int a⟩
  | .str a, u, h => by
    cases u <;> simp [isDV] at h
    subst h; exact ⟨.str (Str.ofString a), ⟨_, rfl⟩, fun _ => .str a⟩
  | .lst ds, u, h => by cases u <;> simp [isDV] at h
  | .tup ds, u, h => by
    cases u with
    | ref a =>
      unfold isDV at h
      split at h
      · rename_i c _ its n _ hl
        simp only [Bool.and_eq_true, decide_eq_true_eq] at h
        obtain ⟨h1, h2, h3⟩ := h
        obtain ⟨vs, h4, h5⟩ := isDVs_ok h3
        exact ⟨.ref a, rfl, fun G => .tup (.inr ⟨_, its, n, hl, congrArg Value.type h1, rfl, h2, h4⟩) (h5 G)⟩
      · cases h
    | _ => simp [isDV] at h
theorem isDVs_ok {K : PySem.W.Frag} : ∀ {ds : List Ev.D} {us : List Value}, isDVs K ds us = true → ∃ vs, Vals vs us ∧ ∀ G : Hp, DRs K G vs ds
  | [], [], _ => ⟨[], .nil, fun _ => .nil⟩
  | [], _ :: _, h => by simp [isDVs] at h
  | _ :: _, [], h => by simp [isDVs] at h
  | d :: ds, u :: us, h => by
    simp only [isDVs, Bool.and_eq_true] at h
    obtain ⟨v, h1, h2⟩ := isDV_ok h.1
    obtain ⟨vs, h3, h4⟩ := isDVs_ok h.2
    exact ⟨v :: vs, .cons h1 h3, fun G => .cons (h2 G) (h4 G)⟩
end
def gcB (K : PySem.W.Frag) (x : Str) (d : Ev.D) : Bool := match PySem.W.nsIn K mainGlobals x with
  | some (some u) => isDV K d u
  | _ => false
theorem gc_ok {K : PySem.W.Frag} {mg : Str → Option Value} {h : Heap} {x : Str} {d : Ev.D} (X : K.In h) (G : h.Ns mainGlobals mg) (c : gcB K x d = true) : GC K mg x d := by
  unfold gcB at c
  split at c
  · rename_i u e
    obtain ⟨v, h1, h2⟩ := isDV_ok c
    exact ⟨v, u, PySem.W.mg_of X G e, h1, h2⟩
  · cases c
def gcs (K : PySem.W.Frag) (l : List (String × Ev.D)) : Bool := l.all fun p => gcB K (Str.ofString p.1) p.2
theorem gcs_ok {K : PySem.W.Frag} {mg : Str → Option Value} {h : Heap} {l : List (String × Ev.D)} (X : K.In h) (G : h.Ns mainGlobals mg) (c : gcs K l = true) {x : String} {d : Ev.D} (m : (x, d) ∈ l) : GC K mg (Str.ofString x) d := gc_ok X G (List.all_eq_true.mp c _ m)
theorem lookup_mem {α : Type} {l : List (String × α)} {f : String} {d : α} (h : l.lookup f = some d) : (f, d) ∈ l := by
  induction l with
  | nil => cases h
  | cons p l ih =>
    obtain ⟨g, e⟩ := p
    rw [List.lookup_cons] at h
    split at h
    · rename_i hb
      cases h
      have : f = g := by simpa using hb
      rw [this]; exact List.mem_cons_self
    · exact List.mem_cons_of_mem _ (ih h)
end EvS
end

section
set_option maxHeartbeats 0
set_option Elab.async false
set_option linter.all false
set_option maxRecDepth 100000
/-! EvSort: sorted of data; a comprehension with two for clauses. -/
namespace EvS
open PySem PySem.Spec PyProof.Rows L2

/-! ### the order -/
mutual
theorem toks_toPy : ∀ x : Ev.D, PySem.W.keyToks (toPy x) = x.toks
  | .non => by simp [toPy, PySem.W.keyToks, Ev.D.toks]
  | .bl b => by simp [toPy, PySem.W.keyToks, Ev.D.toks]
  | .int b => by simp [toPy, PySem.W.keyToks, Ev.D.toks]
  | .str b => by simp [toPy, PySem.W.keyToks, Ev.D.toks, cps_ofString]
  | .tup xs => by simp only [toPy, PySem.W.keyToks, Ev.D.toks]; exact toksL_toPy xs
  | .lst xs => by simp only [toPy, PySem.W.keyToks, Ev.D.toks]; exact toksL_toPy xs
theorem toksL_toPy : ∀ xs : List Ev.D, PySem.W.keyToksAll (toPyL xs) = Ev.D.toksL xs
  | [] => by simp [toPyL, PySem.W.keyToksAll, Ev.D.toksL]
  | x :: xs => by simp only [toPyL, PySem.W.keyToksAll, Ev.D.toksL]; rw [toks_toPy x, toksL_toPy xs]
end
theorem tkLt_eq : ∀ x y, PyProof.Rows.itemLt x y = Ev.tkLt x y
  | .inl _, .inl _ => rfl
  | .inl _, .inr _ => rfl
  | .inr _, .inl _ => rfl
  | .inr _, .inr _ => rfl
theorem tksLt_eq : ∀ x y, PyProof.Rows.lexLt PyProof.Rows.itemOrd x y = Ev.tksLt x y
  | [], [] => rfl
  | [], _ :: _ => rfl
  | _ :: _, [] => rfl
  | x :: r, y :: t => by
    show (PyProof.Rows.itemLt x y || (!PyProof.Rows.itemLt y x && PyProof.Rows.lexLt PyProof.Rows.itemOrd r t)) = (Ev.tkLt x y || (!Ev.tkLt y x && Ev.tksLt r t))
    rw [tkLt_eq, tkLt_eq, tksLt_eq]
theorem leK_eq : PySem.W.dataLe false toPy = Ev.D.leK := by
  funext x y
  show (!PyProof.Rows.lexLt PyProof.Rows.itemOrd (PySem.W.keyToks (toPy y)) (PySem.W.keyToks (toPy x))) = _
  rw [tksLt_eq, toks_toPy, toks_toPy]
  rfl
mutual
theorem alike_toPy : ∀ x y : Ev.D, PySem.W.alike (toPy x) (toPy y) = Ev.D.alike x y
  | .non, y => by cases y <;> simp [toPy, PySem.W.alike, Ev.D.alike]
  | .bl b, y => by cases y <;> simp [toPy, PySem.W.alike, Ev.D.alike]
  | .int b, y => by cases y <;> simp [toPy, PySem.W.alike, Ev.D.alike]
  | .str b, y => by cases y <;> simp [toPy, PySem.W.alike, Ev.D.alike]
  | .tup xs, y => by
    cases y with
    | tup ys => simp only [toPy, PySem.W.alike, Ev.D.alike]; exact alikeL_toPy xs ys
    | _ => simp [toPy, PySem.W.alike, Ev.D.alike]
  | .lst xs, y => by
    cases y with
    | lst ys => simp only [toPy, PySem.W.alike, Ev.D.alike]; exact alikeL_toPy xs ys
    | _ => simp [toPy, PySem.W.alike, Ev.D.alike]
theorem alikeL_toPy : ∀ xs ys : List Ev.D, PySem.W.alikeAll (toPyL xs) (toPyL ys) = Ev.D.alikeL xs ys
  | [], ys => by cases ys <;> simp [toPyL, PySem.W.alikeAll, Ev.D.alikeL]
  | x :: xs, [] => by simp [toPyL, PySem.W.alikeAll, Ev.D.alikeL]
  | x :: xs, y :: ys => by simp only [toPyL, PySem.W.alikeAll, Ev.D.alikeL]; rw [alike_toPy x y, alikeL_toPy xs ys]
end
theorem sortable_of {ds : List Ev.D} (h : Ev.canSort ds = true) : PySem.W.AllAlike (ds.map toPy) ∧ PySem.W.Sortable (ds.map toPy) ∧ (∀ d ∈ ds, d.dep ≤ 64) ∧ ds.length ≤ Ev.SL := by
  unfold Ev.canSort at h
  rw [Bool.and_eq_true, Bool.and_eq_true, Bool.and_eq_true, Bool.or_eq_true, List.all_eq_true, List.all_eq_true, List.all_eq_true, List.all_eq_true, decide_eq_true_eq] at h
  obtain ⟨⟨⟨h1, h2⟩, h3⟩, h4⟩ := h
  refine ⟨fun d hd d' hd' => ?_, ?_, fun d hd => by simpa using h3 d hd, h4⟩
  · obtain ⟨x, hx, rfl⟩ := List.mem_map.mp hd
    obtain ⟨y, hy, rfl⟩ := List.mem_map.mp hd'
    rw [alike_toPy]
    exact List.all_eq_true.mp (h1 x hx) y hy
  · rcases h2 with h2 | h2
    · refine .inl fun d hd => ?_
      obtain ⟨x, hx, rfl⟩ := List.mem_map.mp hd
      have := h2 x hx
      cases x with
      | tup ds => cases ds with
        | nil => simp [Ev.isT1] at this
        | cons a r => exact ⟨toPy a, toPyL r, by simp [toPy, toPyL]⟩
      | _ => simp [Ev.isT1] at this
    · refine .inr fun d hd => ?_
      obtain ⟨x, hx, rfl⟩ := List.mem_map.mp hd
      have := h2 x hx
      cases x <;> simp [Ev.isT0] at this <;> simp [toPy]
/-! ### sorted of a tuple, over the heap -/
section
variable {prog : Program} {w : World} {A : Around} {E : Value → Shared → Prop} {s : Shared}
theorem collect_tupS {l : Addr} {vs : List Value} {Q : List Value → Shared → Prop} (hl : IsTup s.heap l vs.toArray)
    (h : Q vs { s with heap := (s.heap.push (seqObj "list" #[] 0)).update s.heap.objs.size (Obj.mapSeq (· ++ vs.toArray)) }) (hsz : vs.length ≤ sizeLine) :
    wpAny (model prog w) A (collect (.ref l)) Q E s := by
  obtain ⟨o, ho, hc, n, hd⟩ := hl
  unfold collect
  refine wpAny_bind (wpAny_runValue (codeAny_builtin entry_proto_collect' ?_))
  show wpAny _ _ (do again (.builtin "list.__iadd__" ⟨[← newList [], .ref l], []⟩)) _ _ s
  refine wpAny_bind (wpAny_newList (wpAny_pure ⟨Code.quiet_builtin _ (by decide +kernel), codeAny_builtin entry_list_iadd' ?_⟩))
  show wpAny _ _ (Builtin.List.listExtendWith (.ref s.heap.objs.size) (.ref l) (.ref s.heap.objs.size)) _ _ { s with heap := s.heap.push (seqObj "list" #[] 0) }
  unfold Builtin.List.listExtendWith
  have ho' : (s.heap.push (seqObj "list" #[] 0)).get? l = some o := Heap.get?_push_of_some _ ho
  refine wpAny_bind (wpAny_typeOf (T := "tuple") ⟨o, ho', hc⟩ ?_)
  have ht : (Value.type "tuple" == Value.type "tuple") = true := by rfl
  rw [if_pos (by rw [ht]; simp)]
  refine wpAny_bind (listItems_at ho' hd ?_)
  refine wpAny_bind (listItems_at (xs := #[]) (n := 0) (Heap.get?_push_size _ rfl) rfl ?_)
  rw [if_neg (by simp)]
  refine wpAny_bind (listUpdate_at (xs := #[]) (n := 0) (Heap.get?_push_size _ rfl) rfl ?_ (Nat.zero_le _) (by show (#[] ++ vs.toArray).size ≤ sizeLine + 1; simp only [Array.size_append, List.size_toArray, List.length_nil]; omega))
  refine wpAny_pure ?_
  refine wpAny_bind (wpAny_load (get?_update_seq (Heap.get?_push_size _ rfl) _) ?_)
  show wpAny _ _ (pure ((#[] : Array Value) ++ vs.toArray).toList) Q E _
  rw [show ((#[] : Array Value) ++ vs.toArray).toList = vs by simp]
  exact wpAny_pure h
open PySem.W PySem.Calls in
theorem sorted_valsT {κ : PyProof.Rows.KeyKind} {l : Addr} {vs : List Value} {Q : Value → Shared → Prop} (hl : IsTup s.heap l vs.toArray) (S : SortsAt prog w A.in1.in1 { s with heap := sortingHeap (copyHeap s.heap vs) (s.heap.objs.size + 1) vs } κ vs) (hL : vs.length ≤ sizeLine)
    (h : Q (.ref (s.heap.objs.size + 1)) { s with heap := sortedAll s.heap vs (sortVals κ false vs vs).toArray }) : wpAny (model prog w) A (call (.builtin "sorted") [.ref l]) Q E s := by
  refine call_function_entry_kw kind_sorted plain_sorted entry_sorted (args_sorted1 _) ?_
  unfold Builtin.«sorted»
  refine wpAny_bind (m := checkCount "sorted" 1 1 _) (wpAny_pure ?_)
  refine wpAny_bind (collect_tupS hl ?_ hL)
  refine wpAny_bind (wpAny_newList ?_ hL)
  have hsz : ((s.heap.push (seqObj "list" #[] 0)).update s.heap.objs.size (Obj.mapSeq (· ++ vs.toArray))).objs.size = s.heap.objs.size + 1 := by
    rw [Heap.size_update, size_push']
  show wpAny _ _ _ _ _ { s with heap := copyHeap s.heap vs }
  rw [hsz]
  refine wpAny_bind (wpAny_holding (wpAny_call_entry_kw slot_list_sort ⟨_, copyHeap_at s.heap vs, rfl⟩ entry_list_sort ?body (args_list_sort _)))
  case body => exact list_sort_vals (s := { s with heap := copyHeap s.heap vs }) (copyHeap_at s.heap vs) S hL ⟨_, rfl, wpAny_pure ⟨_, rfl, h⟩⟩
open PySem.W PySem.Calls in
theorem sorted_dataT {β : Type} {vs : List Value} {bs : List β} {enc : β → PyData} {R : Value → β → Prop} {l : Addr} {Q : Value → Shared → Prop} (hl : IsTup s.heap l vs.toArray) (e : EachIs R vs bs) (er : EachIs (fun v b => ∃ as, Reads s.heap v (enc b) as) vs bs) (hal : AllAlike (bs.map enc)) (hk : PySem.W.Sortable (bs.map enc)) (hL : bs.length ≤ sizeLine)
    (hu : ∀ b, b ∈ bs → A.units + 2 + (enc b).depth < cLine) (h : ∀ out, out.length = bs.length → EachIs R out (bs.mergeSort (dataLe false enc)) → Q (.ref (s.heap.objs.size + 1)) { s with heap := sortedAll s.heap vs (List.toArray out) }) :
    wpAny (model prog w) A (call (.builtin "sorted") [.ref l]) Q E s := by
  have er' : EachIs (fun v b => ∃ as, Reads (sortingHeap (copyHeap s.heap vs) (s.heap.objs.size + 1) vs) v (enc b) as) vs bs := er.mono fun _ _ ⟨as, r⟩ => ⟨as, PyProof.Rows.Reads.keeps (fun _ _ => sorting_copy_old) r⟩
  exact sorted_valsT hl (SortsAt.data (s := { s with heap := sortingHeap (copyHeap s.heap vs) (s.heap.objs.size + 1) vs }) (each_map (R := fun v d => ∃ as, Reads (sortingHeap (copyHeap s.heap vs) (s.heap.objs.size + 1) vs) v d as) enc er') hal hk (bound_map hu)) (by rw [e.length]; exact hL)
    (h _ (by rw [sortVals_length false rfl]; exact e.length) (sortVals_data false e er' hal))
end
/-! ### sorted -/
theorem XS.u67 {X : Cx} {W : WX} {k : Nat} (xs : XS X W k) : X.A.units + 67 < cLine := by have := xs.room.r.un; omega
section
variable {X : Cx} {W : WX} {ca : Cn} {k : Nat}
open PySem.W in
theorem each_bs {K : PySem.W.Frag} {G : Hp} : ∀ {ys : List V} {its : List Value} {ds : List Ev.D}, Vals ys its → DRs K G ys ds → EachIs (fun (u : Value) (b : V × Ev.D) => RelV b.1 u ∧ DR K G b.1 b.2) its (ys.zip ds)
  | [], _, _, r, d => by cases r; cases d; exact .nil
  | y :: ys, _, _, r, d => by
    cases r with
    | cons r1 r2 =>
      cases d with
      | cons d1 d2 => exact .cons ⟨r1, d1⟩ (each_bs r2 d2)
open PySem.W in
theorem each_back {K : PySem.W.Frag} {G : Hp} : ∀ {its : List Value} {bs : List (V × Ev.D)}, EachIs (fun (u : Value) (b : V × Ev.D) => RelV b.1 u ∧ DR K G b.1 b.2) its bs → Vals (bs.map (·.1)) its ∧ DRs K G (bs.map (·.1)) (bs.map (·.2))
  | [], [], _ => ⟨.nil, .nil⟩
  | _ :: _, b :: bs, h => by
    cases h with
    | cons h1 h2 =>
      obtain ⟨a, c⟩ := each_back h2
      exact ⟨.cons h1.1 a, .cons h1.2 c⟩
  | [], _ :: _, h => by cases h
  | _ :: _, [], h => by cases h
theorem zip_snd {α β : Type} : ∀ {ys : List α} {ds : List β}, ys.length = ds.length → (ys.zip ds).map (·.2) = ds
  | [], [], _ => rfl
  | _ :: ys, d :: ds, h => by
    simp only [List.zip_cons_cons, List.map_cons]
    rw [zip_snd (by simpa using h)]
  | [], _ :: _, h => by simp at h
  | _ :: _, [], h => by simp at h
open PySem.W in
theorem cb_sorted (hu : X.A.units + 67 < cLine) : CallR X (.builtin "sorted") (rBiN (ct X ca) Ev.sortR) := by
  intro pins s σ H vs us Q I rs h
  obtain ⟨φ, G, μ, xs, z, ok, r, e, q⟩ := h
  have main : ∀ {a : Addr} {ys : List V} {its : List Value} {ds : List Ev.D}, Ev.canSort ds = true → Vals ys its → ys.length ≤ sizeLine → DRs X.K G ys ds → z = .d (.lst (ds.mergeSort Ev.D.leK)) →
      (∀ {β : Type} {bs : List β} {enc : β → PyData} {R : Value → β → Prop} {Q' : Value → Shared → Prop}, EachIs R its bs → EachIs (fun v b => ∃ as, Reads s.heap v (enc b) as) its bs → AllAlike (bs.map enc) → PySem.W.Sortable (bs.map enc) → bs.length ≤ sizeLine →
        (∀ b, b ∈ bs → X.A.units + 2 + (enc b).depth < cLine) → (∀ out, out.length = bs.length → EachIs R out (bs.mergeSort (dataLe false enc)) → Q' (.ref (s.heap.objs.size + 1)) { s with heap := sortedAll s.heap its (List.toArray out) }) →
        wpAny (model X.prog X.w) X.A (call (.builtin "sorted") [.ref a]) Q' X.xe s) → wpAny (model X.prog X.w) X.A (call (.builtin "sorted") [.ref a]) (EP X pins σ Q) X.xe s := by
    intro a ys its ds hc rv hz rd hzz run
    obtain ⟨c1, c2, c3, c4⟩ := sortable_of hc
    have hlen := rd.len
    have hmap : (ys.zip ds).map (fun b => toPy b.2) = ds.map toPy := by
      rw [show (fun b : V × Ev.D => toPy b.2) = toPy ∘ (·.2) from rfl, ← List.map_map, zip_snd hlen]
    refine run (bs := ys.zip ds) (enc := fun b => toPy b.2) (R := fun u b => RelV b.1 u ∧ DR X.K G b.1 b.2) (each_bs rv rd) ((each_bs rv rd).mono fun u b hb => Dp.reads I _ _ _ (Dp.mono ok.le hb.2.dp) hb.1) (by rw [hmap]; exact c1) (by rw [hmap]; exact c2) (by rw [List.length_zip]; omega) (fun b hb => ?_) fun out ho eo => ?_
    · have := c3 b.2 (List.of_mem_zip (a := b.1) (b := b.2) hb).2
      rw [dep_toPy]; omega
    · obtain ⟨ep, he'⟩ := sortedAll_at s.heap its out.toArray
      obtain ⟨v1, v2⟩ := each_back eo
      have hsort : ((ys.zip ds).mergeSort (dataLe false fun b => toPy b.2)).map (·.2) = ds.mergeSort Ev.D.leK := by
        rw [sort_maps (s := Ev.D.leK) (fun b : V × Ev.D => b.2) (fun a _ b _ => by rw [← leK_eq]; rfl), zip_snd hlen]
      rw [hsort] at v2
      have hl2 : (((ys.zip ds).mergeSort (dataLe false fun b => toPy b.2)).map (·.1)).length ≤ sizeLine := by
        rw [List.length_map, List.length_mergeSort, List.length_zip]; omega
      have hp : H (s.heap.objs.size + 1) = none := I.hok.fresh (Nat.le_succ _)
      have q2 := q (fun _ _ _ => True)
      rw [hzz, ← mkL_d] at q2
      have q3 := postN_lst q2 ok hp (RRs.ofD v2)
      exact ⟨.ref _, _, I.laid (t' := s.toks) (fun _ _ => sortedAll_old) (Nat.le_succ _) (show ObjOk X.prog X.w _ _ _ (.lst (((ys.zip ds).mergeSort (dataLe false fun b => toPy b.2)).map (·.1))) from ⟨hl2, out, ep, v1, he'⟩), rfl, q3⟩
  unfold Ev.sortR at e
  split at e
  · split at e
    · rename_i hc
      cases e
      obtain ⟨v, e1, r1⟩ := r.one
      obtain ⟨a, ys, e2, h2, r2⟩ := r1.list ok.le
      subst e1 e2
      obtain ⟨its, rv, pl, hz⟩ := I.list (.inl (.inl h2))
      rw [Vals.ref1 rs]
      exact main hc rv hz r2 rfl fun a1 a2 a3 a4 a5 a6 a7 => sorted_data pl.isList a1 a2 a3 a4 a5 a6 a7
    · cases e
  · split at e
    · rename_i hc
      cases e
      obtain ⟨v, e1, r1⟩ := r.one
      obtain ⟨a, ys, e2, h2, r2⟩ := r1.tuple
      subst e1 e2
      obtain ⟨its, rv, pl, hz⟩ := I.tuple (Same.seqT ok.le h2)
      rw [Vals.ref1 rs]
      exact main hc rv hz r2 rfl fun a1 a2 a3 a4 a5 a6 a7 => sorted_dataT pl a1 a2 a3 a4 a5 a6 a7
    · cases e
  · cases e
end
end EvS
end

section
set_option maxHeartbeats 0
set_option Elab.async false
set_option linter.all false
set_option maxRecDepth 100000
/-! EvLc2: a comprehension with two for clauses. -/
namespace EvS
open PySem PySem.Spec PyProof.Rows L2
/-- a walk's loop, turn by turn -/
theorem walk_any {J : It} {n : Nat} {G : Hp → Prop} {Y : Nat → Hp → V → Hp → Prop} (w : Walk J n G Y) {H0 : Hp} {Qd : Hp → Prop} {F : (Hp → Prop) → V → Hp → Prop} (Pv : Nat → Hp → Prop) (h0 : Pv 0 H0) (hG : ∀ i H, i ≤ n → Pv i H → G H)
    (hs : ∀ i x H H', i < n → Pv i H → Y i H x H' → F (Pv (i + 1)) x H') (hd : ∀ H, Pv n H → Qd H) :
    ∃ W : Nat → Nat → Hp → Prop, (∃ m, W 0 m H0) ∧ ∀ i m H, W i m H → (J.stop i H ∧ Qd H) ∨ (J.go i H ∧ ∃ Nx : Hp → Prop, (∀ H', Nx H' → ∃ m', m' < m ∧ W (i + 1) m' H') ∧ ∀ x H', J.yld i H x H' → F Nx x H') := by
  refine ⟨fun i m H => i + m = n ∧ Pv i H, ⟨n, by omega, h0⟩, fun i m H ⟨hm, p⟩ => ?_⟩
  by_cases hi : i = n
  · subst hi
    exact .inl ⟨w.stops H (hG i H (Nat.le_refl _) p), hd H p⟩
  · have hlt : i < n := by omega
    exact .inr ⟨w.goes i H hlt (hG i H (by omega) p), Pv (i + 1), fun H' p' => ⟨n - (i + 1), by omega, by omega, p'⟩, fun x H' y => hs i x H H' hlt p (w.yields i H x H' hlt (hG i H (by omega) p) y)⟩
section
variable {X : Cx} {W : WX} {ca : Cn} {k : Nat}
def NoD (D : Addr) (σ : L2.St) (ρ : Ev.Env) : Prop := ∀ (j : Nat) (s : Ev.Sl) (a : Addr), ρ[j]? = some s → isOwn s = true → σ[j]? = some (some (V.ref a)) → a ≠ D
theorem NoD.of {Γ : Ct} {φ : List Addr} {G H : Hp} {σ : L2.St} {ρ : Ev.Env} {D : Addr} (h : EnvR Γ φ G H σ ρ) (hD : H D = none) : NoD D σ ρ := fun j s a e o q z => by
  obtain ⟨v, e1, r⟩ := h.at_ j s e
  rw [q] at e1
  cases e1
  subst z
  cases r with
  | un => cases o
  | v _ => cases o
  | own h1 _ _ _ => rw [hD] at h1; cases h1
  | odic h1 _ _ _ => rw [hD] at h1; cases h1
theorem NoD.chg {is : List Nat} {σ σ' : L2.St} {ρ ρ' : Ev.Env} {D : Addr} (a : Chg is σ ρ σ' ρ') (h : NoD D σ ρ) : NoD D σ' ρ' := fun j s b e o q => by
  obtain ⟨h1, h2⟩ := a.own j s e o
  exact h j s b h1 o (h2 ▸ q)
theorem EnvR.updD {Γ : Ct} {φ : List Addr} {G H : Hp} {σ : L2.St} {ρ : Ev.Env} {D : Addr} {x : HO} (h : EnvR Γ φ G H σ ρ) (n : NoD D σ ρ) : EnvR Γ φ G (L2.upd H D x) σ ρ := by
  refine ⟨h.len, fun j s e => ?_, h.ap⟩
  obtain ⟨v, e1, r⟩ := h.at_ j s e
  refine ⟨v, e1, ?_⟩
  cases r with
  | un => exact .un
  | v r => exact .v r
  | own h1 h2 h3 h4 => exact .own (by rw [upd_ne (n j _ _ e rfl e1)]; exact h1) h2 h3 h4
  | odic h1 h2 h3 h4 => exact .odic (by rw [upd_ne (n j _ _ e rfl e1)]; exact h1) h2 h3 h4
theorem lc2_of {X : Cx} {own : List (Str × Nat)} {vs1 : List Nat} {g g1 : TG} {t t1 : Ev.Tg} {is is1 : List Nat} {it it1 : Ev.It} {c c1 : Ev.T} {fe : Ev.E} {tt tt1 : TT} {σ : L2.St} {H : Hp} {Q : VK}
    (gk : GOk (ct X ca) g t is) (hin : ∀ j ∈ is, j ∈ own.map (·.2)) (htt : ∀ σ H Q, tT (ct X ca) Wn c σ H Q → tt σ H Q)
    (gk1 : GOk (ct X ca) g1 t1 is1) (hin1 : ∀ j ∈ is1, j ∈ vs1) (htt1 : ∀ σ H Q, tT (ct X ca) Wn c1 σ H Q → tt1 σ H Q) (q : tN (ct X ca) W (Ev.eComp2 (own.map (·.2)) t it c vs1 t1 it1 c1 fe) σ H Q) :
    tLc2 (tI (ct X ca) W it) g tt (tI (ct X ca) Wn it1) g1 tt1 (tE (ct X ca) Wn fe) (own.map (·.2)) vs1 σ H Q := by
  obtain ⟨φ, G, ρ, μ, ok, en, q⟩ := q
  generalize hown : own.map (·.2) = vs at hin q ⊢
  unfold Ev.eComp2 at q
  refine ⟨φ, G, ρ, μ, ok, en, postN_bind q fun J φ1 G1 H1 xl μ1 _ ext ok1 ir q1 D hD => ?_⟩
  have en1 := en.ext ext
  cases hc : Ev.compL2 t c vs1 t1 it1 c1 fe xl (Ev.wipeE ρ vs) μ1 with
  | no => rw [hc] at q1; exact q1.elim
  | exn e μ' => exact absurd hc (Ev.compL2_exn _ _ _ _ _ _ _ _ _ _ _ _)
  | ok ys μf =>
    rw [hc] at q1
    have q1 : postN (ct X ca) (WE W σ) φ1 G1 H1 (if ys.length ≤ Ev.SL then .ok (Ev.mkL ys) μf else .no) Q := q1
    split at q1
    · rename_i hlen
      have qf : ∀ a φ' G' H', Ext φ1 G1 H1 φ' G' H' → Ok (ct X ca) φ' G' H' μf → H1 a = none → G' a = none → a ∉ φ' → Nw (ct X ca) φ' G' H' a (Ev.mkL ys) → Q (.ref a) H' := q1
      refine walk_any ir.walk (fun i H => ∃ φ' G' μ' acc rs ys', Ext φ1 G1 H1 φ' G' H ∧ Ok (ct X ca) φ' G' H μ' ∧ (H D = some (.lst acc) ∧ D ∉ φ' ∧ G' D = none) ∧ RRs (ct X ca) φ' G' acc rs ∧
        Ev.compL2 t c vs1 t1 it1 c1 fe (xl.drop i) (Ev.wipeE ρ vs) μ' = .ok ys' μf ∧ rs ++ ys' = ys) ?_ ?_ ?_ ?_
      · exact ⟨φ1, G1, μ1, [], [], ys, Ext.of_same (same_upd hD), ok1.new0 hD, ⟨upd_same, ok1.nphi hD, ok1.ng hD⟩, .nil, hc, rfl⟩
      · rintro i H hi ⟨φ', G', μ', acc, rs, ys', e1, ok', _⟩
        exact e1.g.trans ok'.le
      · rintro i x H H' hi ⟨φ', G', μ', acc, rs, ys', e1, ok', hd, rr, hcl, hys⟩ y
        have hx : xl[i]? = some xl[i] := by simp [hi]
        obtain ⟨G2, e2, ok2, rx⟩ := (ir.ext e1).turn ok' hx y
        rw [List.drop_eq_getElem_cons hi, Ev.compL2_cons] at hcl
        cases htg : t xl[i] (Ev.wipeE ρ vs) with
        | none => rw [htg] at hcl; cases hcl
        | some ρ1 =>
          rw [htg] at hcl
          dsimp only at hcl
          obtain ⟨b, μ2, hb2, hcl⟩ := Ev.bind_eq_ok hcl
          have hb2 := Ev.nx_eq_ok hb2
          refine gk φ' G2 H' μ' _ _ ρ1 x _ _ ok2 (((en1.ext e1).ext e2).wipe vs) rx htg fun σ2 en2 ch => ⟨ch.wipe hin, htt _ _ _ ⟨φ', G2, ρ1, μ', ok2, en2, ?_⟩⟩
          rw [hb2]
          intro v φ3 G3 H3 e3 ok3 hv
          have hv : v = b := hv
          subst hv
          have hd3 := e3.keep2 (e2.keep2 hd)
          have e13 := (e1.trans e2).trans e3
          cases v with
          | false =>
            rw [if_neg (by decide)] at hcl ⊢
            exact ⟨φ3, G3, μ2, acc, rs, ys', e13, ok3, hd3, e3.rrs (e2.rrs rr), hcl, hys⟩
          | true =>
            rw [if_pos rfl] at hcl ⊢
            obtain ⟨yl, μ3, hz, hcl⟩ := Ev.bind_eq_ok hcl
            have hz := Ev.nx_eq_ok hz
            obtain ⟨zs, μ4, hcz, hcl⟩ := Ev.bind_eq_ok hcl
            obtain ⟨ws, μ5, hcw, hcl⟩ := Ev.bind_eq_ok hcl
            cases hcl
            have nd : NoD D σ2 ρ1 := (NoD.of (en1.wipe vs) hD).chg ch
            refine ⟨φ3, G3, ρ1, μ2, ok3, en2.ext e3, ?_⟩
            rw [hz]
            intro J1 φ4 G4 H4 e4 ok4 ir1
            have hd4 := e4.keep2 hd3
            have en4 := (en2.ext e3).ext e4
            have e14 := e13.trans e4
            have rr4 := e4.rrs (e3.rrs (e2.rrs rr))
            refine walk_any ir1.walk (fun j H => ∃ φ' G' μ' acc rs zs', (Same G4 G' ∧ ItR (ct X ca) φ' G' J1 yl ∧ EnvR (ct X ca) φ' G' H σ2 ρ1) ∧ Ext φ1 G1 H1 φ' G' H ∧ Ok (ct X ca) φ' G' H μ' ∧ (H D = some (.lst acc) ∧ D ∉ φ' ∧ G' D = none) ∧ RRs (ct X ca) φ' G' acc rs ∧
              Ev.compL t1 c1 fe (yl.drop j) (Ev.wipeE ρ1 vs1) μ' = .ok zs' μ4 ∧ rs ++ zs' ++ ws = ys) ?_ ?_ ?_ ?_
            · exact ⟨φ4, G4, μ3, acc, rs, zs, ⟨Same.refl _, ir1, en4⟩, e14, ok4, hd4, rr4, hcz, by rw [List.append_assoc]; exact hys⟩
            · rintro j H hj ⟨φ', G', μ', acc, rs, zs', ⟨f1, _, _⟩, f2, ok', _⟩
              exact f1.trans ok'.le
            · rintro j x H H' hj ⟨φ', G', μ', acc, rs, zs', ⟨f1, fi, fe⟩, f2, ok', hd, rr, hcl, hys⟩ y
              have hx : yl[j]? = some yl[j] := by simp [hj]
              obtain ⟨G2, g2, ok2, rx⟩ := fi.turn ok' hx y
              rw [List.drop_eq_getElem_cons hj, Ev.compL_cons] at hcl
              cases htg : t1 yl[j] (Ev.wipeE ρ1 vs1) with
              | none => rw [htg] at hcl; cases hcl
              | some ρ2 =>
                rw [htg] at hcl
                dsimp only at hcl
                obtain ⟨b, μ6, hb2, hcl⟩ := Ev.bind_eq_ok hcl
                have hb2 := Ev.nx_eq_ok hb2
                refine gk1 φ' G2 H' μ' _ _ ρ2 x _ _ ok2 ((fe.ext g2).wipe vs1) rx htg fun σ3 en3 ch => ⟨ch.wipe hin1, htt1 _ _ _ ⟨φ', G2, ρ2, μ', ok2, en3, ?_⟩⟩
                rw [hb2]
                intro v φ5 G5 H5 e5 ok5 hv
                have hv : v = b := hv
                subst hv
                have hd5 := e5.keep2 (g2.keep2 hd)
                have f15 := (f1.trans g2.g).trans e5.g
                have fi5 := (fi.ext g2).ext e5
                have fe5 := (fe.ext g2).ext e5
                have f25 := (f2.trans g2).trans e5
                cases v with
                | false =>
                  rw [if_neg (by decide)] at hcl ⊢
                  exact ⟨φ5, G5, μ6, acc, rs, zs', ⟨f15, fi5, fe5⟩, f25, ok5, hd5, e5.rrs (g2.rrs rr), hcl, hys⟩
                | true =>
                  rw [if_pos rfl] at hcl ⊢
                  obtain ⟨z, μ7, hz7, hcl⟩ := Ev.bind_eq_ok hcl
                  have hz7 := Ev.nx_eq_ok hz7
                  obtain ⟨ys2, μ8, hcl, hcl2⟩ := Ev.bind_eq_ok hcl
                  cases hcl2
                  refine ⟨φ5, G5, ρ2, μ6, ok5, en3.ext e5, ?_⟩
                  rw [hz7]
                  intro v φ6 G6 H6 e6 ok6 hv
                  have hd6 := e6.keep2 hd5
                  have hl : acc.length < sizeLine := by
                    have h1 := rr.len
                    have h2 : (rs ++ z :: ys2 ++ ws).length ≤ Ev.SL := by rw [hys]; exact hlen
                    rw [List.length_append, List.length_append, List.length_cons] at h2
                    rw [← SL_eq]; omega
                  refine ⟨acc, hd6.1, hl, φ6, G6, μ7, acc ++ [v], rs ++ [z], ys2, ?_, (f25.trans e6).upd hD, ok6.upd hd6.2.1 hd6.2.2 (fun a q => by rw [hd6.1] at q; cases q) (fun a q => by rw [hd6.1] at q; cases q), ⟨upd_same, hd6.2.1, hd6.2.2⟩, ?_, hcl, by rw [← hys]; simp⟩
                  · exact ⟨f15.trans e6.g, fi5.ext e6, (fe5.ext e6).updD nd⟩
                  · exact (e6.rrs (e5.rrs (g2.rrs rr))).append (.cons hv .nil)
            · rintro H ⟨φ', G', μ', acc, rs, zs', _, f2, ok', hd, rr, hcl, hys⟩
              rw [List.drop_length] at hcl
              cases hcl
              rw [List.append_nil] at hys
              exact ⟨φ', G', μ4, acc, rs, ws, f2, ok', hd, rr, hcw, hys⟩
      · rintro H ⟨φ', G', μ', acc, rs, ys', e1, ok', hd, rr, hcl, hys⟩
        rw [List.drop_length] at hcl
        cases hcl
        rw [List.append_nil] at hys
        subst hys
        exact qf D φ' G' H e1 ok' hD hd.2.2 hd.2.1 (.lst hd.1 rr)
    · exact q1.elim
section
variable {y : Str} {i : Nat} {py spos : Pos} {elt tg iter tg1 iter1 : Expr} {scope : Scope} {own own1 : List (Str × Nat)} {pos : Pos} {g g1 : TG} {t t1 : Ev.Tg} {is is1 : List Nat} {it it1 : Ev.It} {fe : Ev.E}
/-- [elt for tg in iter for tg1 in iter1] -/
theorem sn_comp2 (xs : XS X W k) (hi : PI X tg iter (tI (ct X ca) W it)) (hb : BlkOk X.N X.env.scope scope own) (hv : ∀ i ∈ own1.map (·.2), i ∈ own.map (·.2))
    (hg : ∀ (s : Shared) (H : Hp) (C : Addr) (cl : List (Str × Addr)) (fp : List Addr), PG (X.blk s H scope (compEnvC scope cl C X.env) fp) tg g) (gk : GOk (ct X ca) g t is) (hin : ∀ j ∈ is, j ∈ own.map (·.2))
    (hi1 : ∀ (s : Shared) (H : Hp) (C : Addr) (cl : List (Str × Addr)) (fp : List Addr), PI (X.blk s H scope (compEnvC scope cl C X.env) fp) tg1 iter1 (tI (ct X ca) Wn it1))
    (hg1 : ∀ (s : Shared) (H : Hp) (C : Addr) (cl : List (Str × Addr)) (fp : List Addr), PG (X.blk s H scope (compEnvC scope cl C X.env) fp) tg1 g1) (gk1 : GOk (ct X ca) g1 t1 is1) (hin1 : ∀ j ∈ is1, j ∈ own1.map (·.2))
    (he : ∀ (s : Shared) (H : Hp) (C : Addr) (cl : List (Str × Addr)) (fp : List Addr), PE (X.blk s H scope (compEnvC scope cl C X.env) fp) elt (tE (ct X ca) Wn fe)) (hs : ∀ x, foldedSetIterable iter X.env x = pure x := by intro _; rfl) (hs1 : ∀ env x, foldedSetIterable iter1 env x = pure x := by intro _ _; rfl) :
    PE X (.ListComp elt [⟨tg, iter, [], 0⟩, ⟨tg1, iter1, [], 0⟩] scope pos) (tN (ct X ca) W (Ev.eComp2 (own.map (·.2)) t it Ev.tYes (own1.map (·.2)) t1 it1 Ev.tYes fe)) :=
  PE.imp (pe_lc2 xs.calm xs.nd hi hb hv hg (fun _ _ _ _ _ => pts_nil) hi1 hg1 (fun _ _ _ _ _ => pts_nil) he hs hs1) fun σ H Q q => lc2_of gk hin yes_of gk1 hin1 yes_of q
theorem pa_comp2 (xs : XS X W k) (hy : X.N[i]? = some y) (hyl : X.env.scope.names.lookup y = some .local) (hi : PI X tg iter (tI (ct X ca) W it)) (hb : BlkOk X.N X.env.scope scope own) (hv : ∀ i ∈ own1.map (·.2), i ∈ own.map (·.2))
    (hg : ∀ (s : Shared) (H : Hp) (C : Addr) (cl : List (Str × Addr)) (fp : List Addr), PG (X.blk s H scope (compEnvC scope cl C X.env) fp) tg g) (gk : GOk (ct X ca) g t is) (hin : ∀ j ∈ is, j ∈ own.map (·.2))
    (hi1 : ∀ (s : Shared) (H : Hp) (C : Addr) (cl : List (Str × Addr)) (fp : List Addr), PI (X.blk s H scope (compEnvC scope cl C X.env) fp) tg1 iter1 (tI (ct X ca) Wn it1))
    (hg1 : ∀ (s : Shared) (H : Hp) (C : Addr) (cl : List (Str × Addr)) (fp : List Addr), PG (X.blk s H scope (compEnvC scope cl C X.env) fp) tg1 g1) (gk1 : GOk (ct X ca) g1 t1 is1) (hin1 : ∀ j ∈ is1, j ∈ own1.map (·.2))
    (he : ∀ (s : Shared) (H : Hp) (C : Addr) (cl : List (Str × Addr)) (fp : List Addr), PE (X.blk s H scope (compEnvC scope cl C X.env) fp) elt (tE (ct X ca) Wn fe))
    (hsw : swapsWith (.ListComp elt [⟨tg, iter, [], 0⟩, ⟨tg1, iter1, [], 0⟩] scope pos) (some (.Name y py)) spos.line X.env = pure true := by rfl) (hs : ∀ x, foldedSetIterable iter X.env x = pure x := by intro _; rfl) (hs1 : ∀ env x, foldedSetIterable iter1 env x = pure x := by intro _ _; rfl) :
    PS X (.Assign [.Name y py] (.ListComp elt [⟨tg, iter, [], 0⟩, ⟨tg1, iter1, [], 0⟩] scope pos) spos) (tAsg (tN (ct X ca) W (Ev.eComp2 (own.map (·.2)) t it Ev.tYes (own1.map (·.2)) t1 it1 Ev.tYes fe)) (gName i)) :=
  PS.imp (ps_setLc2 xs.calm xs.nd hy hyl hsw hi hb hv hg (fun _ _ _ _ _ => pts_nil) hi1 hg1 (fun _ _ _ _ _ => pts_nil) he hs hs1) fun D σ H q => lc2_of gk hin yes_of gk1 hin1 yes_of q
end
end
end EvS
end

section
set_option maxHeartbeats 0
set_option Elab.async false
set_option linter.all false
set_option maxRecDepth 100000
/-! EvTxt: a dict made from a dict; texts joined; f-strings. -/
namespace EvS
open PySem PySem.Spec PyProof.Rows L2
section
variable {X : Cx} {W : WX} {ca : Cn}
theorem cb_dict : CallR X (.type "dict") (rBiN (ct X ca) Ev.dictR) := by
  intro pins s σ H vs us Q I rs h
  obtain ⟨φ, G, μ, xs, z, ok, r, e, q⟩ := h
  unfold Ev.dictR at e
  split at e
  · cases e
    obtain ⟨v, e1, r1⟩ := r.one
    obtain ⟨a, ks, e2, h2, r2⟩ := r1.dic ok.le
    subst e1 e2
    cases rs with
    | cons r1 rs =>
      cases rs
      cases r1
      refine d_copyOf I (.inl h2) fun p s' hp I' => ?_
      have q := q (fun _ _ _ => True)
      have q : ∀ a φ' G' H', Ext φ G H φ' G' H' → Ok (ct X ca) φ' G' H' μ → H a = none → G' a = none → a ∉ φ' → Nw (ct X ca) φ' G' H' a (.dic _) → Q (.ref a) H' := q
      exact ⟨.ref p, _, I', rfl, q p φ G _ (Ext.of_same (same_upd hp)) (ok.new0 hp) hp (ok.ng hp) (ok.nphi hp) (.dic upd_same r2)⟩
  · cases e
/-! ### join -/
theorem join_str (a : String) : ∀ ss : List String, Str.join (Str.ofString a) (ss.map Str.ofString) = Str.ofString (Ev.joinS a ss)
  | [] => by rfl
  | [x] => rfl
  | x :: y :: r => by
    show Str.ofString x ++ Str.ofString a ++ Str.join (Str.ofString a) ((y :: r).map Str.ofString) = Str.ofString (x ++ a ++ Ev.joinS a (y :: r))
    rw [join_str a (y :: r), ofString_append, ofString_append]
theorem strsD_of {K : PySem.W.Frag} {G : Hp} : ∀ {vs : List V} {ds : List Ev.D} {ss : List String}, DRs K G vs ds → Ev.strsD ds = some ss → vs = (ss.map Str.ofString).map V.str
  | _, _, _, .nil, e => by cases e; rfl
  | _, _, _, .cons (d := d) h1 h2, e => by
    cases d with
    | str s =>
      obtain ⟨ss', e1, e2⟩ := Option.map_eq_some_iff.mp (show (Ev.strsD _).map (s :: ·) = some _ from e)
      subst e2
      rw [strsD_of h2 e1]
      cases h1
      rfl
    | _ => cases e
theorem join_ok {a : String} {ss : List String} (h : Ev.joinOk a ss = true) : ((ss.map Str.ofString).map (·.length)).sum + (ss.map Str.ofString).length * (Str.ofString a).length ≤ 16777216 := by
  have h := of_decide_eq_true h
  rw [List.map_map, List.length_map, len_ofString, show (fun x : Str => x.length) ∘ Str.ofString = fun s : String => s.length from funext fun s => len_ofString s]
  exact h
theorem se_join {o e : Expr} {fo fe : Ev.E} {apos pos : Pos} (ho : PE X o (tE (ct X ca) W fo)) (he : PE X e (tV (ct X ca) W fe)) (hs : starEach [e] X.env = [(false, eval e X.env)] := by rfl) (hbase : attributeBase o "join" X.env (eval o X.env) = eval o X.env := by rfl) (hline : (apos.endLine == pos.line) = true := by rfl) :
    PE X (.Call (.Attribute o "join" apos) [e] [] pos) (tE (ct X ca) W (Ev.eJoin fo fe)) := PE.imp (pe_join ho he hs hbase hline) fun σ H Q q => by
  obtain ⟨φ, G, ρ, μ, ok, en, q⟩ := q
  unfold Ev.eJoin at q
  refine ⟨φ, G, ρ, μ, ok, en, post_bind q fun v1 φ1 G1 H1 x μ1 _ ext ok1 r1 q1 => ?_⟩
  split at q1
  · have := r1.str
    subst this
    refine ⟨⟨_, rfl⟩, φ1, G1, ρ, μ1, ok1, en.ext ext, post_bind q1 fun v2 φ2 G2 H2 y μ2 _ ext2 ok2 r2 q2 => ?_⟩
    obtain ⟨z, e, q2⟩ := post_lift q2
    have w2 := r2.vw ok2
    revert e
    generalize Ev.vw μ2 y = yr at w2
    intro e
    cases yr with
    | d D => cases D with
      | lst ds =>
        obtain ⟨ss, e1, e2⟩ := Option.bind_eq_some_iff.mp (show (Ev.strsD ds).bind _ = some z from e)
        split at e2
        · rename_i hz
          cases e2
          obtain ⟨p, xs, e3, h2, r3⟩ := w2.list ok2.le
          subst e3
          have hv := strsD_of r3 e1
          subst hv
          refine ⟨_, p, _, rfl, rfl, .inl (.inl (.inl h2)), join_ok hz, ?_⟩
          rw [TL.join_eq, join_str]
          exact post_ok q2 ok2 (.d (.str _))
        · cases e2
      | tup ds =>
        obtain ⟨ss, e1, e2⟩ := Option.bind_eq_some_iff.mp (show (Ev.strsD ds).bind _ = some z from e)
        split at e2
        · rename_i hz
          cases e2
          obtain ⟨p, xs, e3, h2, r3⟩ := w2.tuple
          subst e3
          have hv := strsD_of r3 e1
          subst hv
          refine ⟨_, p, _, rfl, rfl, .inr (Same.seqT ok2.le h2), join_ok hz, ?_⟩
          rw [TL.join_eq, join_str]
          exact post_ok q2 ok2 (.d (.str _))
        · cases e2
      | _ => cases e
    | _ => cases e
  · exact q1.elim
/-! ### f-strings -/
theorem se_fmt {a : Expr} {f : Ev.E} {pos : Pos} (h : PE X a (tE (ct X ca) W f)) : PE X (.FormattedValue a (-1) none pos) (tE (ct X ca) W (Ev.eFmt f)) :=
  PE.imp (pe_fmt h) fun σ H Q q => by
    obtain ⟨φ, G, ρ, μ, ok, en, q⟩ := q
    unfold Ev.eFmt at q
    refine ⟨φ, G, ρ, μ, ok, en, post_bind q fun v1 φ1 G1 H1 x μ1 _ ext ok1 r1 q1 => ?_⟩
    obtain ⟨z, e, q2⟩ := post_lift q1
    unfold Ev.fmtR at e
    split at e
    · split at e
      · rename_i hz
        cases e
        have := r1.int
        subst this
        exact .inr ⟨_, rfl, by simpa [Ev.shortInt] using hz, post_ok q2 ok1 (.d (.str _))⟩
      · cases e
    · split at e
      · rename_i hz
        cases e
        have := r1.str
        subst this
        exact .inl ⟨_, rfl, by rw [len_ofString, ← SL_eq]; exact hz, post_ok q2 ok1 (.d (.str _))⟩
      · cases e
    · cases e
theorem tJs_of {Γ : Ct} {σ : L2.St} {ρ : Ev.Env} : ∀ {fs : List Ev.E} {acc : String} {φ : List Addr} {G H : Hp} {μ : Ev.Mem} {Q : Str → Hp → Prop}, Ok Γ φ G H μ → EnvR Γ φ G H σ ρ →
    post Γ (WE W σ) φ G H (Ev.jsR fs acc ρ μ) (fun _ _ _ (y : Str) s => y = Str.ofString s) Q → tJs (fs.map (tE Γ W)) (Str.ofString acc) σ H Q
  | [], acc, φ, G, H, μ, Q, ok, en, q => post_ok q ok rfl
  | a :: r, acc, φ, G, H, μ, Q, ok, en, q => by
    refine ⟨φ, G, ρ, μ, ok, en, post_bind (show post Γ (WE W σ) φ G H ((a ρ μ).bind _) _ _ from q) fun v1 φ1 G1 H1 x1 μ1 _ ext ok1 r1 q1 => ?_⟩
    split at q1
    · split at q1
      · rename_i hz
        have := r1.str
        subst this
        refine ⟨_, rfl, by rw [← ofString_append, len_ofString, ← SL_eq]; exact hz, ?_⟩
        rw [← ofString_append]
        exact tJs_of ok1 (en.ext ext) q1
      · exact q1.elim
    · exact q1.elim
/-- the parts of an f-string -/
abbrev PJs (X : Cx) (ca : Cn) (W : WX) (es : List Expr) (fs : List Ev.E) : Prop := PJ X es (fs.map (tE (ct X ca) W))
theorem sj_nil : PJs X ca W [] [] := .nil
theorem sj_cons {e : Expr} {es : List Expr} {f : Ev.E} {fs : List Ev.E} (h : PE X e (tE (ct X ca) W f)) (r : PJs X ca W es fs) : PJs X ca W (e :: es) (f :: fs) := .cons h r
theorem se_js {v1 v2 : Expr} {rest : List Expr} {f1 f2 : Ev.E} {fs : List Ev.E} {pos : Pos} (h : PJs X ca W (v1 :: v2 :: rest) (f1 :: f2 :: fs)) : PE X (.JoinedStr (v1 :: v2 :: rest) pos) (tE (ct X ca) W (Ev.eJs (f1 :: f2 :: fs))) :=
  PE.imp (pe_joined h) fun σ H Q q => by
    obtain ⟨φ, G, ρ, μ, ok, en, q⟩ := q
    unfold Ev.eJs at q
    refine tJs_of (acc := "") ok en (post_bind q fun y φ1 G1 H1 s μ1 _ ext ok1 r1 q1 => ?_)
    subst r1
    exact post_ok q1 ok1 (.d (.str _))
end
end EvS
end

section
set_option maxHeartbeats 0
set_option linter.all false
/-! EvSim: plain lemmas about the evaluator. -/
namespace Ev
theorem callN_run {P : String → Option Def} {n : Nat} {f : String} {d : Def} {args : List R} {μ : Mem} (h : P f = some d) (hl : args.length = d.np) : callN P (n + 1) f args μ = runB d.nl (d.body (callN P n)) args μ := by
  unfold callN; rw [h]; simp [hl]
/-- it ends well, with Q -/
def sat {α : Type} (o : Out α) (Q : α → Mem → Prop) : Prop := match o with
  | .ok a μ => Q a μ
  | _ => False
@[simp] theorem sat_ok {α : Type} {a : α} {μ : Mem} {Q : α → Mem → Prop} : sat (.ok a μ) Q ↔ Q a μ := Iff.rfl
@[simp] theorem sat_no {α : Type} {Q : α → Mem → Prop} : sat (.no : Out α) Q ↔ False := Iff.rfl
@[simp] theorem sat_exn {α : Type} {x : Exn} {μ : Mem} {Q : α → Mem → Prop} : sat (.exn x μ : Out α) Q ↔ False := Iff.rfl
theorem sat_bind {α β : Type} {o : Out α} {k : α → Mem → Out β} {Q : β → Mem → Prop} : sat (o.bind k) Q ↔ sat o fun a μ => sat (k a μ) Q := by cases o <;> rfl
theorem sat.mono {α : Type} {o : Out α} {Q Q' : α → Mem → Prop} (h : sat o Q) (i : ∀ a μ, Q a μ → Q' a μ) : sat o Q' := by
  cases o with
  | ok a μ => exact i a μ h
  | exn x μ => exact h
  | no => exact h
theorem sat.eq {α : Type} {o : Out α} {a : α} {μ : Mem} (h : sat o fun b ν => b = a ∧ ν = μ) : o = .ok a μ := by
  cases o with
  | ok b ν => rw [h.1, h.2]
  | exn x μ => exact h.elim
  | no => exact h.elim
theorem sat.of_eq {α : Type} {o : Out α} {a : α} {μ : Mem} {Q : α → Mem → Prop} (h : o = .ok a μ) (q : Q a μ) : sat o Q := by rw [h]; exact q
theorem sat_nx {α : Type} {o : Out α} {Q : α → Mem → Prop} : sat o.nx Q ↔ sat o Q := by cases o <;> rfl
theorem sat_lift {α : Type} {o : Option α} {μ : Mem} {Q : α → Mem → Prop} : sat (lift o μ) Q ↔ ∃ a, o = some a ∧ Q a μ := by
  cases o with
  | none => simp [lift]
  | some a => simp [lift]
/-- a loop -/
theorem sat_forL {t : Tg} {b : S} {xs : List R} {Q : Fl → Mem → Prop} (I : Nat → Env → Mem → Prop)
    (step : ∀ (i : Nat) (h : i < xs.length) (ρ : Env) (μ : Mem), I i ρ μ → ∃ ρ1, t xs[i] ρ = some ρ1 ∧ sat (b ρ1 μ) fun f μ => match f with
      | .nx ρ => I (i + 1) ρ μ
      | .ct ρ => I (i + 1) ρ μ
      | .bk ρ => Q (.nx ρ) μ
      | .rt r => Q (.rt r) μ)
    (done : ∀ ρ μ, I xs.length ρ μ → Q (.nx ρ) μ) {ρ : Env} {μ : Mem} (h : I 0 ρ μ) : sat (forL t b xs ρ μ) Q := by
  have key : ∀ (ys : List R) (i : Nat), xs.drop i = ys → ∀ (ρ : Env) (μ : Mem), I i ρ μ → i ≤ xs.length → sat (forL t b ys ρ μ) Q := by
    intro ys
    induction ys with
    | nil =>
      intro i e ρ μ h hi
      have : i = xs.length := by
        have := congrArg List.length e
        simp at this; omega
      subst this
      exact done ρ μ h
    | cons y ys ih =>
      intro i e ρ μ h hi
      have hl : i < xs.length := by
        have := congrArg List.length e
        simp at this; omega
      have e2 := List.drop_eq_getElem_cons hl
      rw [e] at e2
      injection e2 with e3 e4
      obtain ⟨ρ1, h1, h2⟩ := step i hl ρ μ h
      unfold forL
      rw [e3, h1]
      show sat ((b ρ1 μ).bind _) Q
      rw [sat_bind]
      refine h2.mono fun f μ1 q => ?_
      cases f with
      | nx ρ2 => exact ih (i + 1) e4.symm ρ2 μ1 q hl
      | ct ρ2 => exact ih (i + 1) e4.symm ρ2 μ1 q hl
      | bk ρ2 => exact q
      | rt r => exact q
  exact key xs 0 (by simp) ρ μ h (Nat.zero_le _)
/-- a comprehension's items -/
theorem sat_compL {t : Tg} {c : T} {e : E} {xs : List R} {ρ : Env} {Q : List R → Mem → Prop} (I : Nat → List R → Mem → Prop)
    (step : ∀ (i : Nat) (h : i < xs.length) (acc : List R) (μ : Mem), I i acc μ → ∃ ρ1, t xs[i] ρ = some ρ1 ∧ sat (c ρ1 μ) fun k μ => if k = true then sat (e ρ1 μ) fun y μ => I (i + 1) (acc ++ [y]) μ else I (i + 1) acc μ)
    (done : ∀ acc μ, I xs.length acc μ → Q acc μ) {μ : Mem} (h : I 0 [] μ) : sat (compL t c e xs ρ μ) Q := by
  have key : ∀ (ys : List R) (i : Nat), xs.drop i = ys → ∀ (acc : List R) (μ : Mem), I i acc μ → i ≤ xs.length → sat (compL t c e ys ρ μ) fun zs μ => Q (acc ++ zs) μ := by
    intro ys
    induction ys with
    | nil =>
      intro i e ρ μ h hi
      have : i = xs.length := by
        have := congrArg List.length e
        simp at this; omega
      subst this
      simpa using done ρ μ h
    | cons y ys ih =>
      intro i e acc μ h hi
      have hl : i < xs.length := by
        have := congrArg List.length e
        simp at this; omega
      have e2 := List.drop_eq_getElem_cons hl
      rw [e] at e2
      injection e2 with e3 e4
      obtain ⟨ρ1, h1, h2⟩ := step i hl acc μ h
      rw [compL_cons, e3, h1]
      show sat (Out.bind _ _) _
      rw [sat_bind, sat_nx]
      refine h2.mono fun k μ1 q => ?_
      cases k with
      | false => exact ih (i + 1) e4.symm acc μ1 (by simpa using q) hl
      | true =>
        simp only [if_true] at q ⊢
        rw [sat_bind, sat_nx]
        refine q.mono fun z μ2 q => ?_
        rw [sat_bind]
        refine (ih (i + 1) e4.symm _ μ2 q hl).mono fun zs μ3 q => ?_
        simpa using q
  simpa using key xs 0 (by simp) [] μ h (Nat.zero_le _)
/-- .. where the memory stays -/
theorem compL_map {t : Tg} {c : T} {e : E} {ρ : Env} {μ : Mem} : ∀ {xs : List R} {ys : List R}, xs.length = ys.length → (∀ (i : Nat) (x y : R), xs[i]? = some x → ys[i]? = some y → ∃ ρ1, t x ρ = some ρ1 ∧ c ρ1 μ = .ok true μ ∧ e ρ1 μ = .ok y μ) → compL t c e xs ρ μ = .ok ys μ
  | [], [], _, _ => rfl
  | [], _ :: _, h, _ => by simp at h
  | _ :: _, [], h, _ => by simp at h
  | x :: xs, y :: ys, hl, h => by
    obtain ⟨ρ1, h1, h2, h3⟩ := h 0 x y rfl rfl
    rw [compL_cons, h1]
    simp [h2, h3, compL_map (by simpa using hl) fun i x' y' hx hy => h (i + 1) x' y' (by simpa using hx) (by simpa using hy)]
/-- .. a filter -/
theorem compL_filter {t : Tg} {c : T} {e : E} {ρ : Env} {μ : Mem} {α : Type} (enc : α → R) (out : α → R) (p : α → Bool) : ∀ {xs : List α}, (∀ x ∈ xs, ∃ ρ1, t (enc x) ρ = some ρ1 ∧ c ρ1 μ = .ok (p x) μ ∧ (p x = true → e ρ1 μ = .ok (out x) μ)) → compL t c e (xs.map enc) ρ μ = .ok ((xs.filter p).map out) μ
  | [], _ => rfl
  | x :: xs, h => by
    obtain ⟨ρ1, h1, h2, h3⟩ := h x List.mem_cons_self
    rw [List.map_cons, compL_cons, h1]
    have ih := compL_filter (t := t) (c := c) (e := e) (ρ := ρ) (μ := μ) enc out p (xs := xs) fun y hy => h y (List.mem_cons_of_mem _ hy)
    cases hp : p x with
    | true => simp [h2, h3 hp, hp, ih]
    | false => simp [h2, hp, ih]
theorem mkL_ds (ds : List D) : mkL (ds.map .d) = .d (.lst ds) := by
  unfold mkL
  have := valsR_map (fun x : D => x) ds
  simp only [List.map_id'] at this
  rw [this]
theorem mkL_map {α : Type} (f : α → D) (xs : List α) : mkL (xs.map fun x => .d (f x)) = .d (.lst (xs.map f)) := by
  unfold mkL; rw [valsR_map]
theorem valsR_ds (ds : List D) : valsR (ds.map .d) = some ds := by
  have := valsR_map (fun x : D => x) ds
  simpa only [List.map_id'] using this
theorem atI_nat {α : Type} (xs : List α) (i : Nat) : atI xs (i : Int) = xs[i]? := by
  unfold atI ixN
  by_cases h : i < xs.length
  · simp [h]
  · simp [h]
theorem getElem_enumF : ∀ (ds : List D) (k i : Nat), (enumF k ds)[i]? = ds[i]?.map fun d => .d (.tup [.int ((k + i : Nat) : Int), d])
  | [], k, i => by simp [enumF]
  | d :: ds, k, 0 => by simp [enumF]
  | d :: ds, k, i + 1 => by
    simp only [enumF, List.getElem?_cons_succ]
    rw [getElem_enumF ds (k + 1) i]
    congr 2; funext x; congr 4; omega
@[simp] theorem length_enumF : ∀ (ds : List D) (k : Nat), (enumF k ds).length = ds.length
  | [], _ => rfl
  | d :: ds, k => by simp [enumF, length_enumF ds]
theorem getElem_rangeF : ∀ (n : Nat) (lo : Int) (i : Nat), i < n → (rangeF lo n)[i]? = some (.d (.int (lo + i)))
  | n + 1, lo, 0, _ => by simp [rangeF]
  | n + 1, lo, i + 1, h => by
    simp only [rangeF, List.getElem?_cons_succ]
    rw [getElem_rangeF n (lo + 1) i (by omega)]
    congr 3; omega
@[simp] theorem length_rangeF : ∀ (n : Nat) (lo : Int), (rangeF lo n).length = n
  | 0, _ => rfl
  | n + 1, lo => by simp [rangeF, length_rangeF n]
theorem fin_same {r : R} {μ μ' : Mem} (h : μ'.length = μ.length) : fin μ.length r μ' = .ok r μ' := by unfold fin; rw [if_pos h]
@[simp] theorem eqv_str (a b : String) : D.eqv (.str a) (.str b) = (a == b) := by simp [D.eqv]
@[simp] theorem eqv_int (a b : Int) : D.eqv (.int a) (.int b) = (a == b) := by simp [D.eqv]
@[simp] theorem eqv_tup (a b : List D) : D.eqv (.tup a) (.tup b) = D.eqvL a b := by simp [D.eqv]
@[simp] theorem eqvL_nil : D.eqvL [] [] = true := by simp [D.eqvL]
@[simp] theorem eqvL_cons (x y : D) (xs ys : List D) : D.eqvL (x :: xs) (y :: ys) = (D.eqv x y && D.eqvL xs ys) := by simp [D.eqvL]
@[simp] theorem eqvL_nc (y : D) (ys : List D) : D.eqvL [] (y :: ys) = false := by simp [D.eqvL]
@[simp] theorem eqvL_cn (y : D) (ys : List D) : D.eqvL (y :: ys) [] = false := by simp [D.eqvL]
theorem eqD_left {x y : D} (h : x.dep ≤ 64) : eqD x y = some (x.eqv y) := by unfold eqD; exact if_pos (Nat.le_trans (Nat.min_le_left _ _) h)
theorem eqD_right {x y : D} (h : y.dep ≤ 64) : eqD x y = some (x.eqv y) := by unfold eqD; exact if_pos (Nat.le_trans (Nat.min_le_right _ _) h)
@[simp] theorem idxR_tup {ds : List D} {i : Int} : idxR (.d (.tup ds)) (.d (.int i)) = (atI ds i).map .d := rfl
@[simp] theorem idxR_lst {ds : List D} {i : Int} : idxR (.d (.lst ds)) (.d (.int i)) = (atI ds i).map .d := rfl
@[simp] theorem idxR_ls {rs : List R} {i : Int} : idxR (.ls rs) (.d (.int i)) = atI rs i := rfl
@[simp] theorem idxR_scr {ns : List Int} {i : Int} : idxR (.scr ns) (.d (.int i)) = (atI ns i).map fun n => .d (.int n) := rfl
@[simp] theorem idxR_dic {kvs : List (Ky × R)} {x : D} : idxR (.dic kvs) (.d x) = (keyOf x).bind (valK kvs) := rfl
@[simp] theorem eqR_d {x y : D} : eqR (.d x) (.d y) = eqD x y := rfl
@[simp] theorem neR_d {x y : D} : neR (.d x) (.d y) = (eqD x y).map not := rfl
@[simp] theorem ltR_int {a b : Int} : ltR (.d (.int a)) (.d (.int b)) = some (decide (a < b)) := rfl
@[simp] theorem leR_int {a b : Int} : leR (.d (.int a)) (.d (.int b)) = some (decide (a ≤ b)) := rfl
@[simp] theorem gtR_int {a b : Int} : gtR (.d (.int a)) (.d (.int b)) = some (decide (b < a)) := rfl
@[simp] theorem geR_int {a b : Int} : geR (.d (.int a)) (.d (.int b)) = some (decide (b ≤ a)) := rfl
@[simp] theorem addR_int {a b : Int} : addR (.d (.int a)) (.d (.int b)) = some (.d (.int (a + b))) := rfl
@[simp] theorem subR_int {a b : Int} : subR (.d (.int a)) (.d (.int b)) = some (.d (.int (a - b))) := rfl
@[simp] theorem addR_tup {a b : List D} : addR (.d (.tup a)) (.d (.tup b)) = if a.length + b.length ≤ SL then some (.d (.tup (a ++ b))) else none := rfl
@[simp] theorem addR_lst {a b : List D} : addR (.d (.lst a)) (.d (.lst b)) = if a.length + b.length ≤ SL then some (.d (.lst (a ++ b))) else none := rfl
@[simp] theorem addR_str {a b : String} : addR (.d (.str a)) (.d (.str b)) = if a.length + b.length ≤ SL then some (.d (.str (a ++ b))) else none := rfl
@[simp] theorem addL_lst {a b : List D} : addL (.d (.lst a)) (.d (.lst b)) = if a.length + b.length ≤ SL then some (.d (.lst (a ++ b))) else none := rfl
@[simp] theorem modR_int {a b : Int} : modR (.d (.int a)) (.d (.int b)) = if 0 < b then some (.d (.int (a % b))) else none := rfl
@[simp] theorem fdivR_int {a b : Int} : fdivR (.d (.int a)) (.d (.int b)) = if 0 < b ∧ b < 1073741824 then some (.d (.int (a / b))) else none := rfl
theorem mulR_r {a b : Int} (h : small b = true) : mulR (.d (.int a)) (.d (.int b)) = some (.d (.int (a * b))) := by
  show (if (small a || small b) = true then _ else _) = _
  rw [h, Bool.or_true]; rfl
theorem mulR_l {a b : Int} (h : small a = true) : mulR (.d (.int a)) (.d (.int b)) = some (.d (.int (a * b))) := by
  show (if (small a || small b) = true then _ else _) = _
  rw [h, Bool.true_or]; rfl
@[simp] theorem slcR_tup {ds : List D} {lo hi : Option Int} : slcR (.d (.tup ds)) lo hi = some (.d (.tup (cut ds lo hi))) := rfl
@[simp] theorem slcR_lst {ds : List D} {lo hi : Option Int} : slcR (.d (.lst ds)) lo hi = some (.d (.lst (cut ds lo hi))) := rfl
@[simp] theorem inR_lst {x : D} {ys : List D} : inR (.d x) (.d (.lst ys)) = if min x.dep (D.depL ys) ≤ EqDep then some (ys.any fun y => y.eqv x) else none := rfl
@[simp] theorem inR_tup {x : D} {ys : List D} : inR (.d x) (.d (.tup ys)) = if min x.dep (D.depL ys) ≤ EqDep then some (ys.any fun y => y.eqv x) else none := rfl
@[simp] theorem inR_dic {x : D} {kvs : List (Ky × R)} : inR (.d x) (.dic kvs) = (keyOf x).map fun k => (valK kvs k).isSome := rfl
@[simp] theorem ninR_eq {x y : R} : ninR x y = (inR x y).map not := rfl
@[simp] theorem isNonR_non : isNonR (.d .non) = true := rfl
@[simp] theorem isNonR_tup {ds : List D} : isNonR (.d (.tup ds)) = false := rfl
@[simp] theorem isNonR_lst {ds : List D} : isNonR (.d (.lst ds)) = false := rfl
@[simp] theorem lenR_tup {ds : List D} : lenR [.d (.tup ds)] = some (.d (.int ds.length)) := rfl
@[simp] theorem lenR_lst {ds : List D} : lenR [.d (.lst ds)] = some (.d (.int ds.length)) := rfl
@[simp] theorem lenR_scr {ns : List Int} : lenR [.scr ns] = some (.d (.int ns.length)) := rfl
@[simp] theorem intR_int {i : Int} : intR [.d (.int i)] = some (.d (.int i)) := rfl
@[simp] theorem intR_bl {b : Bool} : intR [.d (.bl b)] = some (.d (.int (if b then 1 else 0))) := rfl
@[simp] theorem tupleR_tup {ds : List D} : tupleR [.d (.tup ds)] = some (.d (.tup ds)) := rfl
@[simp] theorem tupleR_lst {ds : List D} : tupleR [.d (.lst ds)] = some (.d (.tup ds)) := rfl
@[simp] theorem listR_tup {ds : List D} : listR [.d (.tup ds)] = some (.d (.lst ds)) := rfl
@[simp] theorem listR_lst {ds : List D} : listR [.d (.lst ds)] = some (.d (.lst ds)) := rfl
@[simp] theorem maxR_two {a b : Int} : maxR [.d (.int a), .d (.int b)] = some (.d (.int (if b > a then b else a))) := rfl
@[simp] theorem minR_two {a b : Int} : minR [.d (.int a), .d (.int b)] = some (.d (.int (if b < a then b else a))) := rfl
@[simp] theorem truthR_bl {b : Bool} : truthR (.d (.bl b)) = some b := rfl
@[simp] theorem truthR_int {i : Int} : truthR (.d (.int i)) = some (i != 0) := rfl
@[simp] theorem itemsR_tup {ds : List D} : itemsR (.d (.tup ds)) = some (ds.map .d) := rfl
@[simp] theorem itemsR_lst {ds : List D} : itemsR (.d (.lst ds)) = some (ds.map .d) := rfl
@[simp] theorem itemsR_ls {rs : List R} : itemsR (.ls rs) = some rs := rfl
@[simp] theorem reprR_d {x : D} : reprR [.d x] = if x.dep ≤ EqDep ∧ x.cost ≤ SL then some (.rep x) else none := rfl
@[simp] theorem eqR_rep {x y : D} : eqR (.rep x) (.rep y) = if x.same y then some true else none := rfl
@[simp] theorem isinR_d {T : String} {x : D} : isinR T [.d x] = (tyN (.d x)).map fun a => .d (.bl (isB T a)) := rfl
@[simp] theorem tyN_lst {ds : List D} : tyN (.d (.lst ds)) = some "list" := rfl
@[simp] theorem tyN_int {i : Int} : tyN (.d (.int i)) = some "int" := rfl
@[simp] theorem tyN_bl {b : Bool} : tyN (.d (.bl b)) = some "bool" := rfl
@[simp] theorem atI_zero {α : Type} (xs : List α) : atI xs 0 = xs[0]? := atI_nat xs 0
@[simp] theorem atI_one {α : Type} (xs : List α) : atI xs 1 = xs[1]? := atI_nat xs 1
@[simp] theorem atI_two {α : Type} (xs : List α) : atI xs 2 = xs[2]? := atI_nat xs 2
@[simp] theorem atI_three {α : Type} (xs : List α) : atI xs 3 = xs[3]? := atI_nat xs 3
@[simp] theorem atI_cast {α : Type} (xs : List α) (n : Nat) : atI xs (n : Int) = xs[n]? := atI_nat xs n
theorem SL_eq_lit : SL = 16777216 := rfl
/-! statements under sat -/
theorem sat_sq {a b : S} {ρ : Env} {μ : Mem} {Q : Fl → Mem → Prop} : sat (sq a b ρ μ) Q ↔ sat (a ρ μ) fun f μ => match f with
    | .nx ρ => sat (b ρ μ) Q
    | f => Q f μ := by
  unfold sq
  rw [sat_bind]
  constructor <;> intro h <;> refine h.mono fun f μ q => ?_ <;> cases f <;> exact q
theorem sat_runB {nl : Nat} {b : S} {args : List R} {μ : Mem} {Q : R → Mem → Prop} (h : sat (b (args.map .v ++ List.replicate (nl - args.length) .un) μ) fun f ν => match f with
    | .rt r => ν.length = μ.length ∧ Q r ν
    | .nx _ => ν.length = μ.length ∧ Q (.d .non) ν
    | _ => False) : sat (runB nl b args μ) Q := by
  unfold runB
  rw [sat_bind]
  refine h.mono fun f ν q => ?_
  cases f with
  | rt r => show sat (fin μ.length r ν) Q; rw [fin_same q.1]; exact q.2
  | nx ρ => show sat (fin μ.length (.d .non) ν) Q; rw [fin_same q.1]; exact q.2
  | bk ρ => exact q
  | ct ρ => exact q
@[simp] theorem lt_SL_0 : (0 : Nat) < SL := by decide
@[simp] theorem lt_SL_1 : (1 : Nat) < SL := by decide
@[simp] theorem lt_SL_2 : (2 : Nat) < SL := by decide
@[simp] theorem lt_SL_3 : (3 : Nat) < SL := by decide
@[simp] theorem lt_SL_4 : (4 : Nat) < SL := by decide
@[simp] theorem lt_SL_5 : (5 : Nat) < SL := by decide
@[simp] theorem lt_SL_6 : (6 : Nat) < SL := by decide
@[simp] theorem lt_SL_7 : (7 : Nat) < SL := by decide
@[simp] theorem lt_SL_8 : (8 : Nat) < SL := by decide
@[simp] theorem lt_SL_9 : (9 : Nat) < SL := by decide
@[simp] theorem le_SL_1 : (1 : Nat) ≤ SL := by decide
@[simp] theorem le_SL_2 : (2 : Nat) ≤ SL := by decide
@[simp] theorem le_SL_3 : (3 : Nat) ≤ SL := by decide
@[simp] theorem le_SL_4 : (4 : Nat) ≤ SL := by decide
@[simp] theorem le_SL_5 : (5 : Nat) ≤ SL := by decide
@[simp] theorem le_SL_6 : (6 : Nat) ≤ SL := by decide
@[simp] theorem le_SL_7 : (7 : Nat) ≤ SL := by decide
@[simp] theorem le_SL_8 : (8 : Nat) ≤ SL := by decide
@[simp] theorem le_SL_9 : (9 : Nat) ≤ SL := by decide
theorem le_SL {n : Nat} (h : n ≤ 1000000) : n ≤ SL := Nat.le_trans h (by decide)
theorem lt_SL {n : Nat} (h : n < 1000000) : n < SL := Nat.lt_of_lt_of_le h (by decide)
theorem inRange62_nat {n : Nat} (h : n ≤ 1000000) : inRange62 (n : Int) = true := by
  unfold inRange62
  simp only [Bool.and_eq_true, decide_eq_true_eq]
  constructor <;> omega
theorem iRange1_nat {a : E} {ρ : Env} {μ μ' : Mem} {n : Nat} (h : a ρ μ = .ok (.d (.int n)) μ') (hn : n ≤ 1000000) : iRange1 a ρ μ = .ok (rangeF 0 n) μ' := by
  unfold iRange1
  rw [h, bind_ok]
  show (if inRange62 (n : Int) then _ else _) = _
  rw [if_pos (inRange62_nat hn)]
  rfl
/-! one statement after another -/
theorem sq_nx {a b : S} {ρ ρ' : Env} {μ μ' : Mem} (h : a ρ μ = .ok (.nx ρ') μ') : sq a b ρ μ = b ρ' μ' := by unfold sq; rw [h]; rfl
theorem sq_rt {a b : S} {ρ : Env} {r : R} {μ μ' : Mem} (h : a ρ μ = .ok (.rt r) μ') : sq a b ρ μ = .ok (.rt r) μ' := by unfold sq; rw [h]; rfl
theorem runB_rt {nl : Nat} {b : S} {args : List R} {μ μ' : Mem} {r : R} (h : b (args.map .v ++ List.replicate (nl - args.length) .un) μ = .ok (.rt r) μ') (hl : μ'.length = μ.length) : runB nl b args μ = .ok r μ' := by
  unfold runB; rw [h]; exact fin_same hl
theorem sIf_t {c : T} {a b : S} {ρ : Env} {μ μ' : Mem} (h : c ρ μ = .ok true μ') : sIf c a b ρ μ = a ρ μ' := by unfold sIf; rw [h]; rfl
theorem sIf_f {c : T} {a b : S} {ρ : Env} {μ μ' : Mem} (h : c ρ μ = .ok false μ') : sIf c a b ρ μ = b ρ μ' := by unfold sIf; rw [h]; rfl
theorem sNil_ok {ρ : Env} {μ : Mem} : sNil ρ μ = .ok (.nx ρ) μ := by unfold sNil; rfl
theorem sRet_ok {e : E} {ρ : Env} {μ μ' : Mem} {r : R} (h : e ρ μ = .ok r μ') : sRet e ρ μ = .ok (.rt r) μ' := by unfold sRet; rw [h]; rfl
theorem sAs_ok {e : E} {i : Nat} {ρ : Env} {μ μ' : Mem} {r : R} (h : e ρ μ = .ok r μ') : sAs (tgN i) e ρ μ = .ok (.nx (ρ.set i (.v r))) μ' := by unfold sAs tgN; rw [h]; rfl
/-- an if that is not taken, an if that ends the def -/
theorem sq_if_f {c : T} {a b : S} {ρ : Env} {μ μ' : Mem} (h : c ρ μ = .ok false μ') : sq (sIf c a sNil) b ρ μ = b ρ μ' := sq_nx (by rw [sIf_f h]; exact sNil_ok)
theorem sq_as {e : E} {b : S} {i : Nat} {ρ : Env} {μ μ' : Mem} {r : R} (h : e ρ μ = .ok r μ') : sq (sAs (tgN i) e) b ρ μ = b (ρ.set i (.v r)) μ' := sq_nx (sAs_ok h)
theorem eComp_ok {own : List Nat} {t : Tg} {it : It} {c : T} {e : E} {ρ : Env} {μ μ1 μ2 : Mem} {xs ys : List R} (h1 : it ρ μ = .ok xs μ1) (h2 : compL t c e xs (wipeE ρ own) μ1 = .ok ys μ2) (h3 : ys.length ≤ 1000000) : eComp own t it c e ρ μ = .ok (mkL ys) μ2 := by
  unfold eComp
  rw [h1, bind_ok, h2, bind_ok, if_pos (le_SL h3)]
/-- a search: the first x with p ends the def -/
theorem forL_find {α : Type} {t : Tg} {b : S} {μ : Mem} (enc : α → R) (p : α → Bool) (out : α → R) (E : Env → Prop) : ∀ {xs : List α} {ρ : Env}, E ρ →
    (∀ x ∈ xs, ∀ ρ, E ρ → ∃ ρ1, t (enc x) ρ = some ρ1 ∧ ((p x = true ∧ b ρ1 μ = .ok (.rt (out x)) μ) ∨ (p x = false ∧ ∃ ρ2, E ρ2 ∧ b ρ1 μ = .ok (.nx ρ2) μ))) →
    (∃ x, xs.find? p = some x ∧ forL t b (xs.map enc) ρ μ = .ok (.rt (out x)) μ) ∨ (xs.find? p = none ∧ ∃ ρ', E ρ' ∧ forL t b (xs.map enc) ρ μ = .ok (.nx ρ') μ)
  | [], ρ, he, _ => .inr ⟨rfl, ρ, he, rfl⟩
  | x :: xs, ρ, he, h => by
    obtain ⟨ρ1, h1, h2⟩ := h x List.mem_cons_self ρ he
    rcases h2 with ⟨hp, hb⟩ | ⟨hp, ρ2, he2, hb⟩
    · refine .inl ⟨x, by rw [List.find?_cons, hp], ?_⟩
      rw [List.map_cons]; unfold forL; rw [h1]; simp [hb]
    · have e : forL t b ((x :: xs).map enc) ρ μ = forL t b (xs.map enc) ρ2 μ := by
        rw [List.map_cons]
        show (match t (enc x) ρ with
          | none => (.no : Out Fl)
          | some ρ1 => (b ρ1 μ).bind fun f μ => match f with
            | .nx ρ => forL t b (xs.map enc) ρ μ
            | .ct ρ => forL t b (xs.map enc) ρ μ
            | .bk ρ => .ok (.nx ρ) μ
            | .rt r => .ok (.rt r) μ) = _
        rw [h1]; simp [hb]
      rcases forL_find enc p out E he2 (fun y hy => h y (List.mem_cons_of_mem _ hy)) with ⟨y, hy, hr⟩ | ⟨hn, ρ', he', hr⟩
      · exact .inl ⟨y, by rw [List.find?_cons, hp]; exact hy, e.trans hr⟩
      · exact .inr ⟨by rw [List.find?_cons, hp]; exact hn, ρ', he', e.trans hr⟩
theorem sFor_rt {t : Tg} {it : It} {b : S} {ρ : Env} {μ μ1 μ2 : Mem} {xs : List R} {f : Fl} (h1 : it ρ μ = .ok xs μ1) (h2 : forL t b xs ρ μ1 = .ok f μ2) : sFor t it b ρ μ = .ok f μ2 := by unfold sFor; rw [h1]; exact h2
theorem iE_tup {a : E} {ρ : Env} {μ μ' : Mem} {ds : List D} (h : a ρ μ = .ok (.d (.tup ds)) μ') : iE a ρ μ = .ok (ds.map .d) μ' := by unfold iE; rw [h]; rfl
theorem iE_lst {a : E} {ρ : Env} {μ μ' : Mem} {ds : List D} (h : a ρ μ = .ok (.d (.lst ds)) μ') : iE a ρ μ = .ok (ds.map .d) μ' := by unfold iE; rw [h]; rfl
theorem eV_at {i : Nat} {ρ : Env} {μ : Mem} {r : R} (h : ρ[i]? = some (.v r)) : eV i ρ μ = .ok r μ := by unfold eV; rw [h]
/-- a loop that runs to its end, the memory as it was -/
theorem forL_inv {t : Tg} {b : S} {μ : Mem} (I : Nat → Env → Prop) : ∀ {xs : List R} {k : Nat} {ρ : Env}, I k ρ →
    (∀ i x ρ, xs[i]? = some x → I (k + i) ρ → ∃ ρ1, t x ρ = some ρ1 ∧ ∃ ρ2, I (k + i + 1) ρ2 ∧ b ρ1 μ = .ok (.nx ρ2) μ) → ∃ ρ', I (k + xs.length) ρ' ∧ forL t b xs ρ μ = .ok (.nx ρ') μ
  | [], k, ρ, h, _ => ⟨ρ, h, rfl⟩
  | x :: xs, k, ρ, h, st => by
    obtain ⟨ρ1, h1, ρ2, h2, h3⟩ := st 0 x ρ rfl h
    obtain ⟨ρ', h4, h5⟩ := forL_inv I (xs := xs) (k := k + 1) (ρ := ρ2) h2 (fun i y ρ hy hi => by
      obtain ⟨r1, a1, r2, a2, a3⟩ := st (i + 1) y ρ (by simpa using hy) (by rw [show k + (i + 1) = k + 1 + i by omega]; exact hi)
      exact ⟨r1, a1, r2, by rw [show k + 1 + i + 1 = k + (i + 1) + 1 by omega]; exact a2, a3⟩)
    refine ⟨ρ', by rw [List.length_cons, show k + (xs.length + 1) = k + 1 + xs.length by omega]; exact h4, ?_⟩
    show (match t x ρ with
      | none => (.no : Out Fl)
      | some ρ1 => (b ρ1 μ).bind fun f μ => match f with
        | .nx ρ => forL t b xs ρ μ
        | .ct ρ => forL t b xs ρ μ
        | .bk ρ => .ok (.nx ρ) μ
        | .rt r => .ok (.rt r) μ) = _
    rw [h1]
    simp [h3, h5]
theorem cut_take {α : Type} (xs : List α) (i : Nat) : cut xs none (some (i : Int)) = xs.take i := by
  unfold cut sIx
  have h1 : ¬ ((i : Int) < 0) := by omega
  simp only [h1, if_false, Int.toNat_natCast, List.drop_zero, Nat.sub_zero]
  by_cases h : i ≤ xs.length
  · rw [Nat.min_eq_left h]
  · rw [Nat.min_eq_right (by omega), List.take_length, List.take_of_length_le (by omega)]
theorem cut_drop {α : Type} (xs : List α) (i : Nat) : cut xs (some (i : Int)) none = xs.drop i := by
  unfold cut sIx
  have h1 : ¬ ((i : Int) < 0) := by omega
  simp only [h1, if_false, Int.toNat_natCast]
  by_cases h : i ≤ xs.length
  · rw [Nat.min_eq_left h, List.take_of_length_le (by simp)]
  · rw [Nat.min_eq_right (by omega), List.drop_length, List.drop_eq_nil_of_le (by omega)]; simp
theorem cut_drop1 {α : Type} (xs : List α) (i : Nat) : cut xs (some ((i : Int) + 1)) none = xs.drop (i + 1) := cut_drop xs (i + 1)
theorem iEnum_tup {a : E} {ρ : Env} {μ μ' : Mem} {ds : List D} (h : a ρ μ = .ok (.d (.tup ds)) μ') : iEnum a ρ μ = .ok (enumF 0 ds) μ' := by unfold iEnum; rw [h]; rfl
theorem sExt_lst {i : Nat} {e : E} {ρ : Env} {μ μ' : Mem} {xs : List R} {ds : List D} (h1 : ρ[i]? = some (.own xs)) (h2 : e ρ μ = .ok (.d (.lst ds)) μ') (h3 : xs.length + ds.length ≤ 1000000) : sExt i e ρ μ = .ok (.nx (ρ.set i (.own (xs ++ ds.map .d)))) μ' := by
  unfold sExt; rw [h1]; show (e ρ μ).bind _ = _; rw [h2, bind_ok, vw_d]
  show (if _ then _ else _) = _
  rw [if_pos (by rw [List.length_map]; exact le_SL h3)]
theorem sAs_gen {t : Tg} {e : E} {ρ ρ' : Env} {μ μ' : Mem} {r : R} (h : e ρ μ = .ok r μ') (ht : t r ρ = some ρ') : sAs t e ρ μ = .ok (.nx ρ') μ' := by
  unfold sAs
  rw [h, bind_ok, ht]
/-- .. the memory changed -/
theorem forL_invM {t : Tg} {b : S} (I : Nat → Env → Mem → Prop) : ∀ {xs : List R} {k : Nat} {ρ : Env} {μ : Mem}, I k ρ μ →
    (∀ i x ρ μ, xs[i]? = some x → I (k + i) ρ μ → ∃ ρ1, t x ρ = some ρ1 ∧ ∃ ρ2 μ2, I (k + i + 1) ρ2 μ2 ∧ b ρ1 μ = .ok (.nx ρ2) μ2) → ∃ ρ' μ', I (k + xs.length) ρ' μ' ∧ forL t b xs ρ μ = .ok (.nx ρ') μ'
  | [], k, ρ, μ, h, _ => ⟨ρ, μ, h, rfl⟩
  | x :: xs, k, ρ, μ, h, st => by
    obtain ⟨ρ1, h1, ρ2, μ2, h2, h3⟩ := st 0 x ρ μ rfl h
    obtain ⟨ρ', μ', h4, h5⟩ := forL_invM I (xs := xs) (k := k + 1) (ρ := ρ2) (μ := μ2) h2 (fun i y ρ μ hy hi => by
      obtain ⟨r1, a1, r2, m2, a2, a3⟩ := st (i + 1) y ρ μ (by simpa using hy) (by rw [show k + (i + 1) = k + 1 + i by omega]; exact hi)
      exact ⟨r1, a1, r2, m2, by rw [show k + 1 + i + 1 = k + (i + 1) + 1 by omega]; exact a2, a3⟩)
    refine ⟨ρ', μ', by rw [List.length_cons, show k + (xs.length + 1) = k + 1 + xs.length by omega]; exact h4, ?_⟩
    show (match t x ρ with
      | none => (.no : Out Fl)
      | some ρ1 => (b ρ1 μ).bind fun f μ => match f with
        | .nx ρ => forL t b xs ρ μ
        | .ct ρ => forL t b xs ρ μ
        | .bk ρ => .ok (.nx ρ) μ
        | .rt r => .ok (.rt r) μ) = _
    rw [h1]
    simp [h3, h5]
theorem compL_invM {t : Tg} {c : T} {e : E} {ρ : Env} (I : Nat → List R → Mem → Prop) : ∀ {xs : List R} {k : Nat} {acc : List R} {μ : Mem}, I k acc μ →
    (∀ i x acc μ, xs[i]? = some x → I (k + i) acc μ → ∃ ρ1, t x ρ = some ρ1 ∧ ((∃ μ1 y μ2, c ρ1 μ = .ok true μ1 ∧ e ρ1 μ1 = .ok y μ2 ∧ I (k + i + 1) (acc ++ [y]) μ2) ∨ ∃ μ1, c ρ1 μ = .ok false μ1 ∧ I (k + i + 1) acc μ1)) →
    ∃ ys μ', I (k + xs.length) (acc ++ ys) μ' ∧ compL t c e xs ρ μ = .ok ys μ'
  | [], k, acc, μ, h, _ => ⟨[], μ, by simpa using h, rfl⟩
  | x :: xs, k, acc, μ, h, st => by
    obtain ⟨ρ1, h1, h2⟩ := st 0 x acc μ rfl h
    have st' : ∀ i y acc μ, xs[i]? = some y → I (k + 1 + i) acc μ → ∃ ρ1, t y ρ = some ρ1 ∧ ((∃ μ1 z μ2, c ρ1 μ = .ok true μ1 ∧ e ρ1 μ1 = .ok z μ2 ∧ I (k + 1 + i + 1) (acc ++ [z]) μ2) ∨ ∃ μ1, c ρ1 μ = .ok false μ1 ∧ I (k + 1 + i + 1) acc μ1) := fun i y acc μ hy hi => by
      have := st (i + 1) y acc μ (by simpa using hy) (by rw [show k + (i + 1) = k + 1 + i by omega]; exact hi)
      rwa [show k + (i + 1) + 1 = k + 1 + i + 1 by omega] at this
    rcases h2 with ⟨μ1, y, μ2, h3, h4, h5⟩ | ⟨μ1, h3, h5⟩
    · obtain ⟨ys, μ', h6, h7⟩ := compL_invM I (xs := xs) (k := k + 1) h5 st'
      refine ⟨y :: ys, μ', by rw [List.length_cons, show k + (xs.length + 1) = k + 1 + xs.length by omega]; simpa using h6, ?_⟩
      rw [compL_cons, h1]; simp [h3, h4, h7]
    · obtain ⟨ys, μ', h6, h7⟩ := compL_invM I (xs := xs) (k := k + 1) h5 st'
      refine ⟨ys, μ', by rw [List.length_cons, show k + (xs.length + 1) = k + 1 + xs.length by omega]; exact h6, ?_⟩
      rw [compL_cons, h1]; simp [h3, h7]
/-! expressions by terms -/
theorem eOp_ok {f : R → R → Option R} {a b : E} {ρ : Env} {μ μ1 μ2 : Mem} {x y z : R} (ha : a ρ μ = .ok x μ1) (hb : b ρ μ1 = .ok y μ2) (hf : f (vw μ2 x) (vw μ2 y) = some z) : eOp f a b ρ μ = .ok z μ2 := by
  unfold eOp; rw [ha, bind_ok, hb, bind_ok, hf]; rfl
theorem eC_ok {x : D} {ρ : Env} {μ : Mem} : eC x ρ μ = .ok (.d x) μ := by unfold eC; rfl
theorem eBi1_ok {f : List R → Option R} {a : E} {ρ : Env} {μ μ1 : Mem} {x z : R} (ha : a ρ μ = .ok x μ1) (hf : f [vw μ1 x] = some z) : eBi f [a] ρ μ = .ok z μ1 := by
  unfold eBi; rw [evs_cons, ha, bind_ok, evs_nil, bind_ok, bind_ok, List.map_cons, List.map_nil, hf]; rfl
theorem tCmp_ok {f : R → R → Option Bool} {a b : E} {ρ : Env} {μ μ1 μ2 : Mem} {x y : R} {z : Bool} (ha : a ρ μ = .ok x μ1) (hb : b ρ μ1 = .ok y μ2) (hf : f (vw μ2 x) (vw μ2 y) = some z) : tCmp f a b ρ μ = .ok z μ2 := by
  unfold tCmp; rw [ha, bind_ok, hb, bind_ok, hf]; rfl
theorem modR_ok {a b : Int} (h : 0 < b) : modR (.d (.int a)) (.d (.int b)) = some (.d (.int (a % b))) := by
  show (if 0 < b then _ else _) = _; rw [if_pos h]
theorem fdivR_ok {a b : Int} (h : 0 < b ∧ b < 1073741824) : fdivR (.d (.int a)) (.d (.int b)) = some (.d (.int (a / b))) := by
  show (if 0 < b ∧ b < 1073741824 then _ else _) = _; rw [if_pos h]
theorem powR_ok {a b : Int} (h : 0 ≤ b ∧ b ≤ 1000000 ∧ small a = true) : powR (.d (.int a)) (.d (.int b)) = some (.d (.int (a ^ b.toNat))) := by
  show (if 0 ≤ b ∧ b ≤ 1000000 ∧ small a = true then _ else _) = _; rw [if_pos h]
end Ev
end

section
set_option maxHeartbeats 0
set_option linter.all false
set_option maxRecDepth 100000
/-! EvUse: helps for the plain laws. -/
namespace Ev
/-! ### helps -/
theorem forL_push {α : Type} {t : Tg} {b : S} {μ : Mem} (encX : α → R) (out : α → List R) (E : List R → Env → Prop) (N : Nat) : ∀ {xs : List α} {acc : List R} {ρ : Env}, E acc ρ → acc.length + (xs.flatMap out).length ≤ N →
    (∀ x ∈ xs, ∀ acc ρ, E acc ρ → acc.length + (out x).length ≤ N → ∃ ρ1, t (encX x) ρ = some ρ1 ∧ ∃ ρ2, E (acc ++ out x) ρ2 ∧ b ρ1 μ = .ok (.nx ρ2) μ) →
    ∃ ρ', E (acc ++ xs.flatMap out) ρ' ∧ forL t b (xs.map encX) ρ μ = .ok (.nx ρ') μ
  | [], acc, ρ, h, _, _ => ⟨ρ, by simpa using h, rfl⟩
  | x :: xs, acc, ρ, h, hn, st => by
    rw [List.flatMap_cons, List.length_append] at hn
    obtain ⟨ρ1, h1, ρ2, h2, h3⟩ := st x List.mem_cons_self acc ρ h (by omega)
    obtain ⟨ρ', h4, h5⟩ := forL_push encX out E N (xs := xs) (acc := acc ++ out x) (ρ := ρ2) h2 (by rw [List.length_append]; omega) fun y hy => st y (List.mem_cons_of_mem _ hy)
    refine ⟨ρ', by rw [List.flatMap_cons, ← List.append_assoc]; exact h4, ?_⟩
    rw [List.map_cons]
    unfold forL
    rw [h1]
    simp [h3, h5]
theorem compL_each {α : Type} {t : Tg} {e : E} {ρ : Env} {μ : Mem} (encX out : α → R) {xs : List α} (h : ∀ x ∈ xs, ∃ ρ1, t (encX x) ρ = some ρ1 ∧ e ρ1 μ = .ok (out x) μ) : compL t tYes e (xs.map encX) ρ μ = .ok (xs.map out) μ := by
  have := compL_filter (t := t) (c := tYes) (e := e) (ρ := ρ) (μ := μ) encX out (fun _ => true) (xs := xs) fun x hx => by
    obtain ⟨ρ1, h1, h2⟩ := h x hx
    exact ⟨ρ1, h1, by simp [tYes], fun _ => h2⟩
  rw [List.filter_eq_self.mpr (fun _ _ => rfl)] at this
  exact this
theorem compL2_flat {α : Type} {t t1 : Tg} {own1 : List Nat} {it1 : It} {elt : E} {ρ : Env} {μ : Mem} (encX : α → R) (out : α → List R) : ∀ {xs : List α}, (∀ x ∈ xs, ∃ ρ1 ys, t (encX x) ρ = some ρ1 ∧ it1 ρ1 μ = .ok ys μ ∧ compL t1 tYes elt ys (wipeE ρ1 own1) μ = .ok (out x) μ) →
    compL2 t tYes own1 t1 it1 tYes elt (xs.map encX) ρ μ = .ok (xs.flatMap out) μ
  | [], _ => rfl
  | x :: xs, h => by
    obtain ⟨ρ1, ys, h1, h2, h3⟩ := h x List.mem_cons_self
    have ih := compL2_flat (t := t) (t1 := t1) (own1 := own1) (it1 := it1) (elt := elt) (ρ := ρ) (μ := μ) encX out (xs := xs) fun y hy => h y (List.mem_cons_of_mem _ hy)
    rw [List.map_cons, compL2_cons, h1]
    have hy : tYes ρ1 μ = .ok true μ := by simp [tYes]
    simp only [hy]
    show (it1 ρ1 μ).nx.bind (fun ys μ => (compL t1 tYes elt ys (wipeE ρ1 own1) μ).bind fun zs μ => (compL2 t tYes own1 t1 it1 tYes elt (xs.map encX) ρ μ).bind fun ws μ => .ok (zs ++ ws) μ) = _
    rw [h2]
    show (compL t1 tYes elt ys (wipeE ρ1 own1) μ).bind (fun zs μ => (compL2 t tYes own1 t1 it1 tYes elt (xs.map encX) ρ μ).bind fun ws μ => .ok (zs ++ ws) μ) = _
    rw [h3]
    show (compL2 t tYes own1 t1 it1 tYes elt (xs.map encX) ρ μ).bind (fun ws μ => .ok (out x ++ ws) μ) = _
    rw [ih]
    rfl
theorem eComp2_ok {own own1 : List Nat} {t t1 : Tg} {it it1 : It} {c c1 : T} {e : E} {ρ : Env} {μ μ1 μ2 : Mem} {xs ys : List R} (h1 : it ρ μ = .ok xs μ1) (h2 : compL2 t c own1 t1 it1 c1 e xs (wipeE ρ own) μ1 = .ok ys μ2) (h3 : ys.length ≤ 1000000) : eComp2 own t it c own1 t1 it1 c1 e ρ μ = .ok (mkL ys) μ2 := by
  unfold eComp2
  rw [h1]
  show (compL2 t c own1 t1 it1 c1 e xs (wipeE ρ own) μ1).bind _ = _
  rw [h2]
  show (if _ then _ else _) = _
  rw [if_pos (le_SL h3)]
theorem sExt_tup {i : Nat} {e : E} {ρ : Env} {μ μ' : Mem} {xs : List R} {ds : List D} (h1 : ρ[i]? = some (.own xs)) (h2 : e ρ μ = .ok (.d (.tup ds)) μ') (h3 : xs.length + ds.length ≤ 1000000) : sExt i e ρ μ = .ok (.nx (ρ.set i (.own (xs ++ ds.map .d)))) μ' := by
  unfold sExt; rw [h1]; show (e ρ μ).bind _ = _; rw [h2, bind_ok, vw_d]
  show (if _ then _ else _) = _
  rw [if_pos (by rw [List.length_map]; exact le_SL h3)]
theorem eTup1 {a : E} {ρ : Env} {μ μ1 : Mem} {x : D} (ha : a ρ μ = .ok (.d x) μ1) : eTup [a] ρ μ = .ok (.d (.tup [x])) μ1 := by
  unfold eTup
  rw [evs_cons, ha, bind_ok, evs_nil, bind_ok, bind_ok]
  simp
theorem eTup2 {a b : E} {ρ : Env} {μ μ1 μ2 : Mem} {x y : D} (ha : a ρ μ = .ok (.d x) μ1) (hb : b ρ μ1 = .ok (.d y) μ2) : eTup [a, b] ρ μ = .ok (.d (.tup [x, y])) μ2 := by
  unfold eTup
  rw [evs_cons, ha, bind_ok, evs_cons, hb, bind_ok, evs_nil, bind_ok, bind_ok, bind_ok]
  simp
theorem eTup3 {a b c : E} {ρ : Env} {μ μ1 μ2 μ3 : Mem} {x y z : D} (ha : a ρ μ = .ok (.d x) μ1) (hb : b ρ μ1 = .ok (.d y) μ2) (hc : c ρ μ2 = .ok (.d z) μ3) : eTup [a, b, c] ρ μ = .ok (.d (.tup [x, y, z])) μ3 := by
  unfold eTup
  rw [evs_cons, ha, bind_ok, evs_cons, hb, bind_ok, evs_cons, hc, bind_ok, evs_nil, bind_ok, bind_ok, bind_ok, bind_ok]
  simp
theorem eTup0 {ρ : Env} {μ : Mem} : eTup [] ρ μ = .ok (.d (.tup [])) μ := by
  unfold eTup
  rw [evs_nil, bind_ok]
  simp
theorem eLst1 {a : E} {ρ : Env} {μ μ1 : Mem} {x : D} (ha : a ρ μ = .ok (.d x) μ1) : eLst [a] ρ μ = .ok (.d (.lst [x])) μ1 := by
  unfold eLst
  rw [evs_cons, ha, bind_ok, evs_nil, bind_ok, bind_ok]
  simp
theorem eLst2 {a b : E} {ρ : Env} {μ μ1 μ2 : Mem} {x y : D} (ha : a ρ μ = .ok (.d x) μ1) (hb : b ρ μ1 = .ok (.d y) μ2) : eLst [a, b] ρ μ = .ok (.d (.lst [x, y])) μ2 := by
  unfold eLst
  rw [evs_cons, ha, bind_ok, evs_cons, hb, bind_ok, evs_nil, bind_ok, bind_ok, bind_ok]
  simp
theorem eLst0 {ρ : Env} {μ : Mem} : eLst [] ρ μ = .ok (.d (.lst [])) μ := by
  unfold eLst
  rw [evs_nil, bind_ok]
  simp
theorem call1 {C : Fn} {f : String} {a : E} {ρ : Env} {μ μ1 : Mem} {x : R} {o : Out R} (ha : a ρ μ = .ok x μ1) (h : C f [x] μ1 = o) : eCall C f [a] ρ μ = o := by
  unfold eCall
  rw [evs_cons, ha, bind_ok, evs_nil, bind_ok, bind_ok]
  exact h
theorem add_tup1 {a b : E} {ρ : Env} {μ μ1 μ2 : Mem} {ds : List D} {x : D} (ha : a ρ μ = .ok (.d (.tup ds)) μ1) (hb : b ρ μ1 = .ok (.d x) μ2) (hl : ds.length ≤ 1000) : eOp addR a (eTup [b]) ρ μ = .ok (.d (.tup (ds ++ [x]))) μ2 :=
  eOp_ok ha (eTup1 hb) (by rw [vw_d, vw_d, addR_tup, if_pos (le_SL (by simp; omega))])
theorem forL_opt {t : Tg} {b : S} (I : Env → Mem → Prop) (Q : R → Mem → Prop) : ∀ {xs : List R} {ρ : Env} {μ : Mem}, I ρ μ →
    (∀ x ∈ xs, ∀ ρ μ, I ρ μ → ∃ ρ1, t x ρ = some ρ1 ∧ ((∃ r μ', Q r μ' ∧ b ρ1 μ = .ok (.rt r) μ') ∨ ∃ ρ2 μ2, I ρ2 μ2 ∧ b ρ1 μ = .ok (.nx ρ2) μ2)) →
    (∃ r μ', Q r μ' ∧ forL t b xs ρ μ = .ok (.rt r) μ') ∨ ∃ ρ2 μ2, I ρ2 μ2 ∧ forL t b xs ρ μ = .ok (.nx ρ2) μ2
  | [], ρ, μ, h, _ => .inr ⟨ρ, μ, h, rfl⟩
  | x :: xs, ρ, μ, h, hb => by
    obtain ⟨ρ1, h1, h2⟩ := hb x List.mem_cons_self ρ μ h
    rcases h2 with ⟨r, μ', q, e⟩ | ⟨ρ2, μ2, hI, e⟩
    · refine .inl ⟨r, μ', q, ?_⟩
      unfold forL; rw [h1]; simp [e]
    · have ee : forL t b (x :: xs) ρ μ = forL t b xs ρ2 μ2 := by
        conv => lhs; unfold forL
        rw [h1]; simp [e]
      rcases forL_opt I Q hI (fun y hy => hb y (List.mem_cons_of_mem _ hy)) with ⟨r, μ', q, e2⟩ | ⟨ρ3, μ3, h3, e2⟩
      · exact .inl ⟨r, μ', q, ee.trans e2⟩
      · exact .inr ⟨ρ3, μ3, h3, ee.trans e2⟩
theorem call5' {C : Fn} {f : String} {a b c d e : E} {ρ : Env} {μ : Mem} {x y z w u : R} {o : Out R} (h1 : a ρ μ = .ok x μ) (h2 : b ρ μ = .ok y μ) (h3 : c ρ μ = .ok z μ) (h4 : d ρ μ = .ok w μ) (h5 : e ρ μ = .ok u μ) (h : C f [x, y, z, w, u] μ = o) : eCall C f [a, b, c, d, e] ρ μ = o := by
  unfold eCall
  rw [evs_cons, h1, bind_ok, evs_cons, h2, bind_ok, evs_cons, h3, bind_ok, evs_cons, h4, bind_ok, evs_cons, h5, bind_ok, evs_nil, bind_ok, bind_ok, bind_ok, bind_ok, bind_ok, bind_ok]
  exact h
theorem rng_map : ∀ (n : Nat) (lo : Int), rangeF lo n = (List.range n).map fun (i : Nat) => R.d (.int (lo + (i : Int)))
  | 0, _ => rfl
  | n + 1, lo => by
    rw [rangeF, rng_map n (lo + 1), List.range_succ_eq_map, List.map_cons, List.map_map]
    simp
    intro a _
    omega
theorem eLst3 {a b c : E} {ρ : Env} {μ μ1 μ2 μ3 : Mem} {x y z : D} (ha : a ρ μ = .ok (.d x) μ1) (hb : b ρ μ1 = .ok (.d y) μ2) (hc : c ρ μ2 = .ok (.d z) μ3) : eLst [a, b, c] ρ μ = .ok (.d (.lst [x, y, z])) μ3 := by
  unfold eLst
  rw [evs_cons, ha, bind_ok, evs_cons, hb, bind_ok, evs_cons, hc, bind_ok, evs_nil, bind_ok, bind_ok, bind_ok, bind_ok]
  simp
theorem eBi2_ok {f : List R → Option R} {a b : E} {ρ : Env} {μ μ1 μ2 : Mem} {x y z : R} (ha : a ρ μ = .ok x μ1) (hb : b ρ μ1 = .ok y μ2) (hf : f [vw μ2 x, vw μ2 y] = some z) : eBi f [a, b] ρ μ = .ok z μ2 := by
  unfold eBi; rw [evs_cons, ha, bind_ok, evs_cons, hb, bind_ok, evs_nil, bind_ok, bind_ok, bind_ok, List.map_cons, List.map_cons, List.map_nil, hf]; rfl
theorem call0 {C : Fn} {f : String} {ρ : Env} {μ : Mem} {o : Out R} (h : C f [] μ = o) : eCall C f [] ρ μ = o := by
  unfold eCall
  rw [evs_nil, bind_ok]
  exact h
theorem call2 {C : Fn} {f : String} {a b : E} {ρ : Env} {μ μ1 μ2 : Mem} {x y : R} {o : Out R} (h1 : a ρ μ = .ok x μ1) (h2 : b ρ μ1 = .ok y μ2) (h : C f [x, y] μ2 = o) : eCall C f [a, b] ρ μ = o := by
  unfold eCall
  rw [evs_cons, h1, bind_ok, evs_cons, h2, bind_ok, evs_nil, bind_ok, bind_ok, bind_ok]
  exact h
theorem call3 {C : Fn} {f : String} {a b c : E} {ρ : Env} {μ μ1 μ2 μ3 : Mem} {x y z : R} {o : Out R} (h1 : a ρ μ = .ok x μ1) (h2 : b ρ μ1 = .ok y μ2) (h3 : c ρ μ2 = .ok z μ3) (h : C f [x, y, z] μ3 = o) : eCall C f [a, b, c] ρ μ = o := by
  unfold eCall
  rw [evs_cons, h1, bind_ok, evs_cons, h2, bind_ok, evs_cons, h3, bind_ok, evs_nil, bind_ok, bind_ok, bind_ok, bind_ok]
  exact h
theorem call4 {C : Fn} {f : String} {a b c d : E} {ρ : Env} {μ μ1 μ2 μ3 μ4 : Mem} {x y z w : R} {o : Out R} (h1 : a ρ μ = .ok x μ1) (h2 : b ρ μ1 = .ok y μ2) (h3 : c ρ μ2 = .ok z μ3) (h4 : d ρ μ3 = .ok w μ4) (h : C f [x, y, z, w] μ4 = o) : eCall C f [a, b, c, d] ρ μ = o := by
  unfold eCall
  rw [evs_cons, h1, bind_ok, evs_cons, h2, bind_ok, evs_cons, h3, bind_ok, evs_cons, h4, bind_ok, evs_nil, bind_ok, bind_ok, bind_ok, bind_ok, bind_ok]
  exact h
theorem anyL_map {t : Tg} {elt : E} {ρ : Env} {μ : Mem} {α : Type} (enc : α → R) (p : α → Bool) : ∀ {xs : List α}, (∀ x ∈ xs, ∃ ρ1, t (enc x) ρ = some ρ1 ∧ elt ρ1 μ = .ok (.d (.bl (p x))) μ) → allL false t elt (xs.map enc) ρ μ = .ok (xs.any p) μ
  | [], _ => rfl
  | x :: xs, h => by
    obtain ⟨ρ1, h1, h2⟩ := h x List.mem_cons_self
    rw [List.map_cons, allL_cons, h1]
    show ((elt ρ1 μ).nx).bind _ = _
    rw [h2, List.any_cons]
    cases hp : p x with
    | true => rfl
    | false =>
      show allL false t elt (xs.map enc) ρ μ = _
      rw [anyL_map enc p fun y hy => h y (List.mem_cons_of_mem _ hy), Bool.false_or]
theorem forL_nx {t : Tg} {b : S} {x : R} {xs : List R} {ρ ρ1 ρ2 : Env} {μ μ2 : Mem} (h1 : t x ρ = some ρ1) (h2 : b ρ1 μ = .ok (.nx ρ2) μ2) : forL t b (x :: xs) ρ μ = forL t b xs ρ2 μ2 := by
  rw [show forL t b (x :: xs) ρ μ = match t x ρ with
    | none => .no
    | some ρ1 => (b ρ1 μ).bind fun f μ => match f with
      | .nx ρ => forL t b xs ρ μ
      | .ct ρ => forL t b xs ρ μ
      | .bk ρ => .ok (.nx ρ) μ
      | .rt r => .ok (.rt r) μ from rfl, h1]
  show (b ρ1 μ).bind _ = _
  rw [h2]
  rfl
theorem forL_rt {t : Tg} {b : S} {x : R} {xs : List R} {ρ ρ1 : Env} {r : R} {μ μ2 : Mem} (h1 : t x ρ = some ρ1) (h2 : b ρ1 μ = .ok (.rt r) μ2) : forL t b (x :: xs) ρ μ = .ok (.rt r) μ2 := by
  rw [show forL t b (x :: xs) ρ μ = match t x ρ with
    | none => .no
    | some ρ1 => (b ρ1 μ).bind fun f μ => match f with
      | .nx ρ => forL t b xs ρ μ
      | .ct ρ => forL t b xs ρ μ
      | .bk ρ => .ok (.nx ρ) μ
      | .rt r => .ok (.rt r) μ from rfl, h1]
  show (b ρ1 μ).bind _ = _
  rw [h2]
  rfl
theorem iRange2_nat {a b : E} {ρ : Env} {μ μ1 μ2 : Mem} {k n : Nat} (h1 : a ρ μ = .ok (.d (.int (k : Int))) μ1) (h2 : b ρ μ1 = .ok (.d (.int ((k + n : Nat) : Int))) μ2) (hn : k + n ≤ 1000000) : iRange2 a b ρ μ = .ok (rangeF (k : Int) n) μ2 := by
  unfold iRange2
  rw [h1, bind_ok, h2, bind_ok]
  show (if (inRange62 (k : Int) && inRange62 ((k + n : Nat) : Int)) = true then _ else _) = _
  rw [if_pos (by rw [inRange62_nat (by omega), inRange62_nat hn]; rfl), show (((k + n : Nat) : Int) - (k : Int)).toNat = n by omega]
theorem iRangeC (n : Nat) {i : Int} {ρ : Env} {μ : Mem} (h : i = (n : Int)) (hn : n ≤ 1000000) : iRange1 (eC (.int i)) ρ μ = .ok (rangeF 0 n) μ := by
  subst h; exact iRange1_nat eC_ok hn
end Ev
end

section
set_option maxHeartbeats 0
set_option linter.all false
namespace K06
open Ev
def f_constructors : Def := ⟨2, 4, fun C =>
  (sq (sFor (tgT [(tgN 2), (tgN 3)]) (iE (eV 0))
  (sIf (tCmp eqR (eV 2) (eV 1)) (sRet (eV 3)) sNil))
  (sRet (eTup [])))⟩
def f_fields_of : Def := ⟨2, 6, fun C =>
  (sq (sFor (tgT [(tgN 2), (tgN 3)]) (iE (eV 0))
  (sFor (tgT [(tgN 4), (tgN 5)]) (iE (eV 3))
  (sIf (tCmp eqR (eV 4) (eV 1)) (sRet (eV 5)) sNil)))
  (sRet (eTup [])))⟩
def f_made_height : Def := ⟨2, 3, fun C =>
  (sq (sIf (tE (eAll false [2] (tgN 2) (iE (eV 1)) (eT (tCmp ninR (eV 2) (eV 0))))) (sRet (eC (.non))) sNil)
  (sRet (eOp addR (eC (.int 1)) (eBi maxR [(eOp addR (eLst [(eC (.int 0))]) (eComp [2] (tgN 2) (iE (eV 1)) tYes (eIdx (eV 0) (eV 2))))]))))⟩
def f_heights_of : Def := ⟨1, 8, fun C =>
  (sq (sOwn 1 (eDic [(eC (.str "Int")), (eC (.int 0))]))
  (sq (sFor (tgN 2) (iRange2 (eC (.int 1)) (eOp addR (eBi lenR [(eV 0)]) (eC (.int 2))))
  (sq (sAs (tgN 3) (eBi dictR [(eB 1)]))
  (sFor (tgT [(tgN 4), (tgN 5)]) (iE (eV 0))
  (sIf (tCmp ninR (eV 4) (eB 1)) (sFor (tgT [(tgN 6), (tgN 7)]) (iE (eV 5))
  (sIf (tCmp eqR (eCall C "made_height" [(eV 3), (eV 7)]) (eV 2)) (sSetD 1 (eV 4) (eV 2)) sNil)) sNil))))
  (sq (sFrz 1)
  (sRet (eV 1)))))⟩
def f_least_height : Def := ⟨2, 2, fun C =>
  (sRet (eGet1 (eCall C "heights_of" [(eV 0)]) (eV 1)))⟩
def f_height : Def := ⟨1, 2, fun C =>
  (sq (sIf (tCmp eqR (eIdx (eV 0) (eC (.int 0))) (eC (.str "int"))) (sRet (eC (.int 0))) sNil)
  (sRet (eOp addR (eC (.int 1)) (eBi maxR [(eOp addR (eLst [(eC (.int 0))]) (eComp [1] (tgN 1) (iE (eIdx (eV 0) (eC (.int 2)))) tYes (eCall C "height" [(eV 1)])))]))))⟩
def f_least_made : Def := ⟨3, 7, fun C =>
  (sq (sFor (tgT [(tgN 3), (tgN 4)]) (iE (eV 1))
  (sq (sAs (tgN 5) (eComp [6] (tgN 6) (iE (eV 4)) tYes (eCall C "least_height" [(eV 0), (eV 6)])))
  (sIf (tAnd (tCmp ninR (eC (.non)) (eV 5)) (tCmp eqR (eOp addR (eC (.int 1)) (eBi maxR [(eOp addR (eLst [(eC (.int 0))]) (eV 5))])) (eV 2))) (sRet (eTup [(eC (.str "make")), (eV 3), (eBi tupleR [(eComp [6] (tgN 6) (iE (eV 4)) tYes (eCall C "least_value" [(eV 0), (eV 6)]))])])) sNil)))
  (sRet (eC (.non))))⟩
def f_least_value : Def := ⟨2, 2, fun C =>
  (sq (sIf (tCmp eqR (eV 1) (eC (.str "Int"))) (sRet (eTup [(eC (.str "int")), (eC (.int 0))])) sNil)
  (sRet (eCall C "least_made" [(eV 0), (eCall C "constructors" [(eV 0), (eV 1)]), (eCall C "least_height" [(eV 0), (eV 1)])])))⟩
def f_holds : Def := ⟨2, 4, fun C =>
  (sq (sIf (tCmp eqR (eV 0) (eC (.tup [.str "any"]))) (sRet (eC (.bl true))) sNil)
  (sq (sIf (tCmp eqR (eIdx (eV 0) (eC (.int 0))) (eC (.str "range"))) (sRet (eT (tCh leR leR (eIdx (eV 0) (eC (.int 1))) (eIdx (eV 1) (eC (.int 1))) (eIdx (eV 0) (eC (.int 2)))))) sNil)
  (sq (sIf (tCmp eqR (eIdx (eV 0) (eC (.int 0))) (eC (.str "not"))) (sRet (eT (tCmp ninR (eIdx (eV 1) (eC (.int 1))) (eIdx (eV 0) (eC (.int 1)))))) sNil)
  (sRet (eAnd (eT (tCmp eqR (eIdx (eV 0) (eC (.int 1))) (eIdx (eV 1) (eC (.int 1))))) (eAll true [2, 3] (tgT [(tgN 2), (tgN 3)]) (iEnum (eIdx (eV 0) (eC (.int 2)))) (eCall C "holds" [(eV 3), (eIdx (eIdx (eV 1) (eC (.int 2))) (eV 2))])))))))⟩
def f_least_in : Def := ⟨3, 11, fun C =>
  (sq (sIf (tCmp eqR (eV 2) (eC (.tup [.str "any"]))) (sRet (eCall C "least_value" [(eV 0), (eV 1)])) sNil)
  (sq (sIf (tCmp eqR (eIdx (eV 2) (eC (.int 0))) (eC (.str "range"))) (sRet (eTup [(eC (.str "int")), (eBi maxR [(eIdx (eV 2) (eC (.int 1))), (eBi minR [(eC (.int 0)), (eIdx (eV 2) (eC (.int 2)))])])])) sNil)
  (sq (sIf (tCmp eqR (eIdx (eV 2) (eC (.int 0))) (eC (.str "make"))) (sq (sAs (tgN 3) (eCall C "fields_of" [(eV 0), (eIdx (eV 2) (eC (.int 1)))]))
  (sRet (eTup [(eC (.str "make")), (eIdx (eV 2) (eC (.int 1))), (eBi tupleR [(eComp [4, 5] (tgT [(tgN 4), (tgN 5)]) (iEnum (eV 3)) tYes (eCall C "least_in" [(eV 0), (eV 5), (eIdx (eIdx (eV 2) (eC (.int 2))) (eV 4))]))])]))) sNil)
  (sq (sAs (tgN 6) (eComp [7] (tgN 7) (iE (eCall C "constructors" [(eV 0), (eV 1)])) (tCmp ninR (eIdx (eV 7) (eC (.int 0))) (eIdx (eV 2) (eC (.int 1)))) (eV 7)))
  (sq (sOwn 8 (eLst []))
  (sq (sFor (tgT [(tgN 9), (tgN 3)]) (iE (eV 6))
  (sq (sAs (tgN 10) (eComp [5] (tgN 5) (iE (eV 3)) tYes (eCall C "least_height" [(eV 0), (eV 5)])))
  (sApp 8 (eOp addR (eC (.int 1)) (eBi maxR [(eOp addR (eLst [(eC (.int 0))]) (eV 10))])))))
  (sRet (eCall C "least_made" [(eV 0), (eV 6), (eBi minR [(eB 8)])]))))))))⟩
def f_region_text : Def := ⟨1, 3, fun C =>
  (sq (sIf (tCmp eqR (eV 0) (eC (.tup [.str "any"]))) (sRet (eC (.str "_"))) sNil)
  (sq (sIf (tCmp eqR (eIdx (eV 0) (eC (.int 0))) (eC (.str "range"))) (sRet (eIf (tCmp eqR (eIdx (eV 0) (eC (.int 1))) (eIdx (eV 0) (eC (.int 2)))) (eBi strR [(eIdx (eV 0) (eC (.int 1)))]) (eJs [(eFmt (eIdx (eV 0) (eC (.int 1)))), (eC (.str "..")), (eFmt (eIdx (eV 0) (eC (.int 2))))]))) sNil)
  (sq (sIf (tCmp eqR (eIdx (eV 0) (eC (.int 0))) (eC (.str "not"))) (sq (sAs (tgN 1) (eJoin (eC (.str " | ")) (eIdx (eV 0) (eC (.int 1)))))
  (sRet (eIf (tCmp eqR (eBi lenR [(eIdx (eV 0) (eC (.int 1)))]) (eC (.int 1))) (eOp addR (eC (.str "not ")) (eV 1)) (eOp addR (eOp addR (eC (.str "not (")) (eV 1)) (eC (.str ")")))))) sNil)
  (sq (sIf (tCmp eqR (eBi lenR [(eIdx (eV 0) (eC (.int 2)))]) (eC (.int 0))) (sRet (eIdx (eV 0) (eC (.int 1)))) sNil)
  (sRet (eOp addR (eOp addR (eOp addR (eIdx (eV 0) (eC (.int 1))) (eC (.str "("))) (eJoin (eC (.str ", ")) (eComp [2] (tgN 2) (iE (eIdx (eV 0) (eC (.int 2)))) tYes (eCall C "region_text" [(eV 2)])))) (eC (.str ")"))))))))⟩
def f_law_is_integer : Def := ⟨1, 1, fun C =>
  (sRet (eAnd (eBi (isinR "int") [(eV 0)]) (eNot (eBi (isinR "bool") [(eV 0)]))))⟩
def f_law_cell : Def := ⟨2, 2, fun C =>
  (sq (sIf (tCmp ltR (eV 1) (eBi lenR [(eV 0)])) (sRet (eIdx (eV 0) (eV 1))) sNil)
  (sRet (eC (.int 0))))⟩
def f_law_list_is : Def := ⟨2, 2, fun C =>
  (sRet (eAnd (eBi (isinR "list") [(eV 0)]) (eT (tCmp eqR (eBi reprR [(eV 0)]) (eBi reprR [(eBi listR [(eV 1)])])))))⟩
def f_law_same : Def := ⟨2, 2, fun C =>
  (sRet (eT (tCmp eqR (eBi reprR [(eV 0)]) (eBi reprR [(eV 1)]))))⟩
def f_law_digits : Def := ⟨3, 8, fun C =>
  (sq (sOwn 3 (eLst []))
  (sq (sFor (tgN 4) (iRange2 (eV 1) (eV 2))
  (sq (sAs (tgN 5) (eCall C "_law_cell" [(eV 0), (eV 4)]))
  (sq (sIf (tCmp ltR (eV 5) (eC (.int 0))) (sAs (tgN 5) (eOp subR (eC (.int 1)) (eOp mulR (eC (.int 2)) (eV 5)))) sNil)
  (sIf (tCmp geR (eV 5) (eOp powR (eC (.int 10)) (eC (.int 18)))) (sFor (tgN 6) (iRange1 (eC (.int 60)))
  (sIf (tCmp gtR (eV 5) (eC (.int 0))) (sq (sApp 3 (eOp modR (eBi intR [(eV 5)]) (eC (.int 1000))))
  (sAs (tgN 5) (eOp fdivR (eV 5) (eC (.int 1000))))) sNil)) (sq (sAs (tgN 7) (eOp modR (eBi intR [(eOp addR (eOp addR (eOp mulR (eV 5) (eC (.int 48271))) (eOp mulR (eV 4) (eC (.int 69621)))) (eC (.int 11)))]) (eC (.int 2147483647))))
  (sFor (tgN 6) (iRange1 (eC (.int 12)))
  (sq (sAs (tgN 7) (eOp modR (eBi intR [(eOp addR (eOp addR (eOp mulR (eV 7) (eC (.int 16807))) (eOp mulR (eC (.int 7)) (eV 6))) (eC (.int 1)))]) (eC (.int 2147483647))))
  (sApp 3 (eOp modR (eBi intR [(eOp fdivR (eV 7) (eC (.int 997)))]) (eC (.int 1000)))))))))))
  (sq (sFrz 3)
  (sRet (eV 3)))))⟩
def f_law_draw : Def := ⟨2, 3, fun C =>
  (sq (sAs (tgN 2) (eIdx (eV 0) (eC (.int 1))))
  (sq (sSet (eV 0) (eC (.int 1)) (eOp addR (eV 2) (eC (.int 1))))
  (sq (sIf (tCmp ltR (eV 2) (eBi lenR [(eIdx (eV 0) (eC (.int 0)))])) (sRet (eOp modR (eBi intR [(eIdx (eIdx (eV 0) (eC (.int 0))) (eV 2))]) (eV 1))) sNil)
  (sRet (eOp modR (eBi intR [(eOp addR (eOp mulR (eV 2) (eC (.int 7))) (eC (.int 3)))]) (eV 1))))))⟩
def f_law_types : Def := ⟨1, 9, fun C =>
  (sq (sAs (tgN 1) (eSlc (eLst [(eC (.str "L")), (eC (.str "T")), (eC (.str "Nat"))]) oN (oE (eOp addR (eC (.int 1)) (eCall C "_law_draw" [(eV 0), (eC (.int 3))])))))
  (sq (sOwn 2 (eLst []))
  (sq (sFor (tgN 3) (iRange1 (eBi lenR [(eV 1)]))
  (sq (sOwn 4 (eLst []))
  (sq (sFor (tgN 5) (iRange1 (eOp addR (eC (.int 1)) (eCall C "_law_draw" [(eV 0), (eC (.int 3))])))
  (sq (sAs (tgN 6) (eOp addR (eLst [(eC (.str "Int"))]) (eV 1)))
  (sq (sIf (tCmp eqR (eV 5) (eC (.int 0))) (sAs (tgN 6) (eOp addR (eLst [(eC (.str "Int"))]) (eSlc (eV 1) oN (oE (eV 3))))) sNil)
  (sq (sAs (tgN 7) (eComp [8] (tgN 8) (iRange1 (eOp mulR (eCall C "_law_draw" [(eV 0), (eC (.int 3))]) (eBi intR [(eOr (eT (tCmp gtR (eV 5) (eC (.int 0)))) (eT (tCmp eqR (eCall C "_law_draw" [(eV 0), (eC (.int 3))]) (eC (.int 0)))))]))) tYes (eIdx (eV 6) (eOp modR (eBi intR [(eCall C "_law_draw" [(eV 0), (eC (.int 90))])]) (eBi lenR [(eV 6)])))))
  (sApp 4 (eTup [(eOp addR (eIdx (eLst [(eC (.str "A")), (eC (.str "B")), (eC (.str "C"))]) (eV 5)) (eIdx (eV 1) (eV 3))), (eBi tupleR [(eV 7)])]))))))
  (sq (sIf (tCmp eqR (eCall C "_law_draw" [(eV 0), (eC (.int 3))]) (eC (.int 0))) (sRev 4) sNil)
  (sApp 2 (eTup [(eIdx (eV 1) (eV 3)), (eBi tupleR [(eB 4)])]))))))
  (sRet (eBi tupleR [(eB 2)])))))⟩
def f_law_makers : Def := ⟨2, 3, fun C =>
  (sq (sFor (tgN 2) (iE (eV 0))
  (sIf (tCmp eqR (eIdx (eV 2) (eC (.int 0))) (eV 1)) (sRet (eIdx (eV 2) (eC (.int 1)))) sNil))
  (sRet (eTup [])))⟩
def f_law_heights : Def := ⟨1, 9, fun C =>
  (sq (sOwn 1 (eDic [(eC (.str "Int")), (eC (.int 0))]))
  (sq (sFor (tgN 2) (iRange1 (eOp addR (eBi lenR [(eV 0)]) (eC (.int 1))))
  (sFor (tgT [(tgN 3), (tgN 4)]) (iE (eV 0))
  (sq (sAs (tgN 5) (eComp [7, 8] (tgT [(tgN 7), (tgN 8)]) (iE (eV 4)) (tCmp eqR (eBi lenR [(eComp [6] (tgN 6) (iE (eV 8)) (tCmp ninR (eV 6) (eB 1)) (eV 6))]) (eC (.int 0))) (eOp addR (eBi maxR [(eOp addR (eLst [(eC (.int 0))]) (eComp [6] (tgN 6) (iE (eV 8)) tYes (eIdx (eB 1) (eV 6))))]) (eC (.int 1)))))
  (sIf (tCmp gtR (eBi lenR [(eV 5)]) (eC (.int 0))) (sSetD 1 (eV 3) (eBi minR [(eV 5)])) sNil))))
  (sq (sFrz 1)
  (sRet (eV 1)))))⟩
def f_law_least : Def := ⟨3, 6, fun C =>
  (sq (sIf (tCmp eqR (eV 2) (eC (.str "Int"))) (sRet (eTup [(eC (.str "int")), (eC (.int 0))])) sNil)
  (sq (sFor (tgT [(tgN 3), (tgN 4)]) (iE (eCall C "_law_makers" [(eV 0), (eV 2)]))
  (sIf (tCmp eqR (eOp addR (eBi maxR [(eOp addR (eLst [(eC (.int 0))]) (eComp [5] (tgN 5) (iE (eV 4)) tYes (eGet2 (eV 1) (eV 5) (eC (.int 99)))))]) (eC (.int 1))) (eIdx (eV 1) (eV 2))) (sRet (eTup [(eC (.str "make")), (eV 3), (eBi tupleR [(eComp [5] (tgN 5) (iE (eV 4)) tYes (eCall C "_law_least" [(eV 0), (eV 1), (eV 5)]))])])) sNil))
  (sRet (eC (.non)))))⟩
def f_law_height : Def := ⟨1, 2, fun C =>
  (sq (sIf (tCmp eqR (eIdx (eV 0) (eC (.int 0))) (eC (.str "int"))) (sRet (eC (.int 0))) sNil)
  (sRet (eOp addR (eBi maxR [(eOp addR (eLst [(eC (.int 0))]) (eComp [1] (tgN 1) (iE (eIdx (eV 0) (eC (.int 2)))) tYes (eCall C "_law_height" [(eV 1)])))]) (eC (.int 1)))))⟩
def f_law_value : Def := ⟨5, 9, fun C =>
  (sq (sIf (tCmp eqR (eV 3) (eC (.str "Int"))) (sRet (eTup [(eC (.str "int")), (eIdx (eLst [(eOp subR (eCall C "_law_draw" [(eV 0), (eC (.int 7))]) (eC (.int 3))), (eOp subR (eCall C "_law_draw" [(eV 0), (eC (.int 199))]) (eC (.int 99)))]) (eCall C "_law_draw" [(eV 0), (eC (.int 2))]))])) sNil)
  (sq (sAs (tgN 5) (eCall C "_law_makers" [(eV 1), (eV 3)]))
  (sq (sAs (tgT [(tgN 6), (tgN 7)]) (eIdx (eV 5) (eOp modR (eBi intR [(eCall C "_law_draw" [(eV 0), (eC (.int 90))])]) (eBi lenR [(eV 5)]))))
  (sq (sIf (tCmp leR (eV 4) (eIdx (eV 2) (eV 3))) (sRet (eCall C "_law_least" [(eV 1), (eV 2), (eV 3)])) sNil)
  (sRet (eTup [(eC (.str "make")), (eV 6), (eBi tupleR [(eComp [8] (tgN 8) (iE (eV 7)) tYes (eCall C "_law_value" [(eV 0), (eV 1), (eV 2), (eV 8), (eOp subR (eV 4) (eC (.int 1)))]))])]))))))⟩
def f_law_value_text : Def := ⟨1, 2, fun C =>
  (sq (sIf (tCmp eqR (eIdx (eV 0) (eC (.int 0))) (eC (.str "int"))) (sRet (eBi strR [(eIdx (eV 0) (eC (.int 1)))])) sNil)
  (sq (sIf (tCmp eqR (eBi lenR [(eIdx (eV 0) (eC (.int 2)))]) (eC (.int 0))) (sRet (eIdx (eV 0) (eC (.int 1)))) sNil)
  (sRet (eOp addR (eOp addR (eOp addR (eIdx (eV 0) (eC (.int 1))) (eC (.str "("))) (eJoin (eC (.str ", ")) (eComp [1] (tgN 1) (iE (eIdx (eV 0) (eC (.int 2)))) tYes (eCall C "_law_value_text" [(eV 1)])))) (eC (.str ")"))))))⟩
def f_law_region : Def := ⟨4, 11, fun C =>
  (sq (sAs (tgN 4) (eCall C "_law_draw" [(eV 0), (eC (.int 4))]))
  (sq (sIf (tOr (tCmp eqR (eV 4) (eC (.int 0))) (tCmp eqR (eV 3) (eC (.int 0)))) (sRet (eTup [(eC (.str "any"))])) sNil)
  (sq (sIf (tCmp eqR (eV 2) (eC (.str "Int"))) (sq (sAs (tgN 5) (eOp subR (eCall C "_law_draw" [(eV 0), (eC (.int 9))]) (eC (.int 5))))
  (sRet (eTup [(eC (.str "range")), (eV 5), (eOp addR (eV 5) (eCall C "_law_draw" [(eV 0), (eC (.int 7))]))]))) sNil)
  (sq (sAs (tgN 6) (eCall C "_law_makers" [(eV 1), (eV 2)]))
  (sq (sIf (tAnd (tCmp eqR (eV 4) (eC (.int 1))) (tCmp gtR (eBi lenR [(eV 6)]) (eC (.int 1)))) (sq (sAs (tgN 7) (eComp [8, 9] (tgT [(tgN 8), (tgN 9)]) (iE (eV 6)) (tCmp eqR (eCall C "_law_draw" [(eV 0), (eC (.int 2))]) (eC (.int 0))) (eV 8)))
  (sIf (tCh ltR ltR (eC (.int 0)) (eBi lenR [(eV 7)]) (eBi lenR [(eV 6)])) (sRet (eTup [(eC (.str "not")), (eBi tupleR [(eV 7)])])) sNil)) sNil)
  (sq (sAs (tgT [(tgN 8), (tgN 9)]) (eIdx (eV 6) (eOp modR (eBi intR [(eCall C "_law_draw" [(eV 0), (eC (.int 90))])]) (eBi lenR [(eV 6)]))))
  (sRet (eTup [(eC (.str "make")), (eV 8), (eBi tupleR [(eComp [10] (tgN 10) (iE (eV 9)) tYes (eCall C "_law_region" [(eV 0), (eV 1), (eV 10), (eOp subR (eV 3) (eC (.int 1)))]))])]))))))))⟩
def f_law_holds : Def := ⟨2, 3, fun C =>
  (sq (sIf (tCmp eqR (eIdx (eV 0) (eC (.int 0))) (eC (.str "any"))) (sRet (eC (.bl true))) sNil)
  (sq (sIf (tCmp eqR (eIdx (eV 0) (eC (.int 0))) (eC (.str "range"))) (sRet (eT (tCh leR leR (eIdx (eV 0) (eC (.int 1))) (eIdx (eV 1) (eC (.int 1))) (eIdx (eV 0) (eC (.int 2)))))) sNil)
  (sq (sIf (tCmp eqR (eIdx (eV 0) (eC (.int 0))) (eC (.str "not"))) (sRet (eT (tCmp ninR (eIdx (eV 1) (eC (.int 1))) (eIdx (eV 0) (eC (.int 1)))))) sNil)
  (sq (sIf (tCmp neR (eIdx (eV 0) (eC (.int 1))) (eIdx (eV 1) (eC (.int 1)))) (sRet (eC (.bl false))) sNil)
  (sq (sFor (tgN 2) (iRange1 (eBi lenR [(eIdx (eV 0) (eC (.int 2)))]))
  (sIf (tNot (tE (eCall C "_law_holds" [(eIdx (eIdx (eV 0) (eC (.int 2))) (eV 2)), (eIdx (eIdx (eV 1) (eC (.int 2))) (eV 2))]))) (sRet (eC (.bl false))) sNil))
  (sRet (eC (.bl true))))))))⟩
def f_law_plain_simple : Def := ⟨4, 9, fun C =>
  (sq (sIf (tOr (tCmp eqR (eV 3) (eC (.int 0))) (tCmp eqR (eCall C "_law_draw" [(eV 0), (eC (.int 3))]) (eC (.int 0)))) (sRet (eTup [(eC (.str "any"))])) sNil)
  (sq (sIf (tCmp eqR (eV 2) (eC (.str "Int"))) (sq (sAs (tgN 4) (eOp subR (eCall C "_law_draw" [(eV 0), (eC (.int 9))]) (eC (.int 5))))
  (sRet (eTup [(eC (.str "range")), (eV 4), (eOp addR (eV 4) (eCall C "_law_draw" [(eV 0), (eC (.int 4))]))]))) sNil)
  (sq (sAs (tgN 5) (eCall C "_law_makers" [(eV 1), (eV 2)]))
  (sq (sAs (tgT [(tgN 6), (tgN 7)]) (eIdx (eV 5) (eOp modR (eBi intR [(eCall C "_law_draw" [(eV 0), (eC (.int 90))])]) (eBi lenR [(eV 5)]))))
  (sRet (eTup [(eC (.str "make")), (eV 6), (eBi tupleR [(eComp [8] (tgN 8) (iE (eV 7)) tYes (eCall C "_law_plain_simple" [(eV 0), (eV 1), (eV 8), (eOp subR (eV 3) (eC (.int 1)))]))])]))))))⟩
def f_law_least_in : Def := ⟨4, 14, fun C =>
  (sq (sIf (tCmp eqR (eIdx (eV 3) (eC (.int 0))) (eC (.str "any"))) (sRet (eCall C "_law_least" [(eV 0), (eV 1), (eV 2)])) sNil)
  (sq (sIf (tCmp eqR (eIdx (eV 3) (eC (.int 0))) (eC (.str "range"))) (sq (sIf (tCh leR leR (eIdx (eV 3) (eC (.int 1))) (eC (.int 0)) (eIdx (eV 3) (eC (.int 2)))) (sRet (eTup [(eC (.str "int")), (eC (.int 0))])) sNil)
  (sRet (eTup [(eC (.str "int")), (eIdx (eLst [(eIdx (eV 3) (eC (.int 1))), (eIdx (eV 3) (eC (.int 2)))]) (eBi intR [(eT (tCmp ltR (eIdx (eV 3) (eC (.int 2))) (eC (.int 0))))]))]))) sNil)
  (sq (sIf (tCmp eqR (eIdx (eV 3) (eC (.int 0))) (eC (.str "make"))) (sFor (tgT [(tgN 4), (tgN 5)]) (iE (eV 0))
  (sFor (tgT [(tgN 6), (tgN 7)]) (iE (eV 5))
  (sIf (tCmp eqR (eV 6) (eIdx (eV 3) (eC (.int 1)))) (sRet (eTup [(eC (.str "make")), (eV 6), (eBi tupleR [(eComp [8] (tgN 8) (iRange1 (eBi lenR [(eV 7)])) tYes (eCall C "_law_least_in" [(eV 0), (eV 1), (eIdx (eV 7) (eV 8)), (eIdx (eIdx (eV 3) (eC (.int 2))) (eV 8))]))])])) sNil))) sNil)
  (sq (sOwn 9 (eLst []))
  (sq (sFor (tgT [(tgN 6), (tgN 7)]) (iE (eCall C "_law_makers" [(eV 0), (eV 2)]))
  (sIf (tCmp ninR (eV 6) (eIdx (eV 3) (eC (.int 1)))) (sApp 9 (eLst [(eOp addR (eBi maxR [(eOp addR (eLst [(eC (.int 0))]) (eComp [10] (tgN 10) (iE (eV 7)) tYes (eIdx (eV 1) (eV 10))))]) (eC (.int 1))), (eV 6), (eV 7)])) sNil))
  (sq (sFrz 9)
  (sq (sAs (tgN 11) (eBi minR [(eComp [12] (tgN 12) (iE (eV 9)) tYes (eIdx (eV 12) (eC (.int 0))))]))
  (sq (sFor (tgT [(tgN 13), (tgN 6), (tgN 7)]) (iE (eV 9))
  (sIf (tCmp eqR (eV 13) (eV 11)) (sRet (eTup [(eC (.str "make")), (eV 6), (eBi tupleR [(eComp [10] (tgN 10) (iE (eV 7)) tYes (eCall C "_law_least" [(eV 0), (eV 1), (eV 10)]))])])) sNil))
  (sRet (eC (.non)))))))))))⟩
def f_law_region_text : Def := ⟨2, 3, fun C =>
  (sq (sIf (tCmp eqR (eIdx (eV 1) (eC (.int 0))) (eC (.str "any"))) (sRet (eC (.str "_"))) sNil)
  (sq (sIf (tCmp eqR (eIdx (eV 1) (eC (.int 0))) (eC (.str "range"))) (sq (sIf (tCmp eqR (eIdx (eV 1) (eC (.int 1))) (eIdx (eV 1) (eC (.int 2)))) (sRet (eBi strR [(eIdx (eV 1) (eC (.int 1)))])) sNil)
  (sRet (eOp addR (eOp addR (eBi strR [(eIdx (eV 1) (eC (.int 1)))]) (eC (.str ".."))) (eBi strR [(eIdx (eV 1) (eC (.int 2)))])))) sNil)
  (sq (sIf (tCmp eqR (eIdx (eV 1) (eC (.int 0))) (eC (.str "not"))) (sq (sIf (tCmp eqR (eBi lenR [(eIdx (eV 1) (eC (.int 1)))]) (eC (.int 1))) (sRet (eOp addR (eC (.str "not ")) (eIdx (eIdx (eV 1) (eC (.int 1))) (eC (.int 0))))) sNil)
  (sRet (eOp addR (eOp addR (eC (.str "not (")) (eJoin (eC (.str " | ")) (eIdx (eV 1) (eC (.int 1))))) (eC (.str ")"))))) sNil)
  (sq (sIf (tCmp eqR (eBi lenR [(eIdx (eV 1) (eC (.int 2)))]) (eC (.int 0))) (sRet (eIdx (eV 1) (eC (.int 1)))) sNil)
  (sRet (eOp addR (eOp addR (eOp addR (eIdx (eV 1) (eC (.int 1))) (eC (.str "("))) (eJoin (eC (.str ", ")) (eComp [2] (tgN 2) (iE (eIdx (eV 1) (eC (.int 2)))) tYes (eCall C "_law_region_text" [(eV 0), (eV 2)])))) (eC (.str ")"))))))))⟩
def f_law_7 : Def := ⟨1, 11, fun C =>
  (sq (sCell 1 (eLst [(eCall C "_law_digits" [(eV 0), (eC (.int 0)), (eC (.int 50))]), (eC (.int 0))]))
  (sq (sAs (tgN 2) (eCall C "_law_types" [(eV 1)]))
  (sq (sAs (tgN 3) (eCall C "_law_heights" [(eV 2)]))
  (sq (sFor (tgN 4) (iRange1 (eC (.int 5)))
  (sq (sAs (tgN 5) (eIdx (eOp addR (eLst [(eC (.str "Int"))]) (eOp mulR (eComp [6] (tgN 6) (iE (eV 2)) tYes (eIdx (eV 6) (eC (.int 0)))) (eC (.int 3)))) (eOp modR (eBi intR [(eCall C "_law_draw" [(eV 1), (eC (.int 90))])]) (eOp addR (eC (.int 1)) (eOp mulR (eC (.int 3)) (eBi lenR [(eV 2)]))))))
  (sq (sAs (tgN 7) (eCall C "_law_region" [(eV 1), (eV 2), (eV 5), (eC (.int 3))]))
  (sq (sAs (tgN 8) (eCall C "least_in" [(eV 2), (eV 5), (eV 7)]))
  (sq (sIf (tOr (tNot (tE (eCall C "_law_same" [(eV 8), (eCall C "_law_least_in" [(eV 2), (eV 3), (eV 5), (eV 7)])]))) (tNot (tE (eCall C "holds" [(eV 7), (eV 8)])))) (sRet (eC (.bl false))) sNil)
  (sq (sIf (tCmp neR (eCall C "region_text" [(eV 7)]) (eCall C "_law_region_text" [(eV 2), (eV 7)])) (sRet (eC (.bl false))) sNil)
  (sq (sFor (tgN 9) (iRange1 (eC (.int 4)))
  (sq (sAs (tgN 10) (eCall C "_law_value" [(eV 1), (eV 2), (eV 3), (eV 5), (eC (.int 4))]))
  (sIf (tAnd (tCmp neR (eIdx (eV 7) (eC (.int 0))) (eC (.str "range"))) (tAnd (tCmp neR (eIdx (eV 7) (eC (.int 0))) (eC (.str "make"))) (tAnd (tE (eCall C "_law_holds" [(eV 7), (eV 10)])) (tCmp ltR (eCall C "_law_height" [(eV 10)]) (eCall C "height" [(eV 8)]))))) (sRet (eC (.bl false))) sNil)))
  (sIf (tNot (tE (eCall C "_law_same" [(eCall C "least_value" [(eV 2), (eV 5)]), (eCall C "_law_least" [(eV 2), (eV 3), (eV 5)])]))) (sRet (eC (.bl false))) sNil))))))))
  (sRet (eC (.bl true)))))))⟩
def tbl : List (String × Def) := [("constructors", f_constructors), ("fields_of", f_fields_of), ("made_height", f_made_height), ("heights_of", f_heights_of), ("least_height", f_least_height), ("height", f_height), ("least_made", f_least_made), ("least_value", f_least_value), ("holds", f_holds), ("least_in", f_least_in), ("region_text", f_region_text), ("_law_is_integer", f_law_is_integer), ("_law_cell", f_law_cell), ("_law_list_is", f_law_list_is), ("_law_same", f_law_same), ("_law_digits", f_law_digits), ("_law_draw", f_law_draw), ("_law_types", f_law_types), ("_law_makers", f_law_makers), ("_law_heights", f_law_heights), ("_law_least", f_law_least), ("_law_height", f_law_height), ("_law_value", f_law_value), ("_law_value_text", f_law_value_text), ("_law_region", f_law_region), ("_law_holds", f_law_holds), ("_law_plain_simple", f_law_plain_simple), ("_law_least_in", f_law_least_in), ("_law_region_text", f_law_region_text), ("law", f_law_7)]
def P (f : String) : Option Def := tbl.lookup f
end K06
end

section
set_option maxHeartbeats 0
set_option linter.all false
set_option maxRecDepth 100000
namespace K06
open Ev
/-! ### regions -/
inductive Rg where
  | any | rng (a b : Int) | nt (l : List String) | mk (c : String) (ps : List Rg)
deriving Inhabited
mutual
def enc : Rg → D
  | .any => .tup [.str "any"]
  | .rng a b => .tup [.str "range", .int a, .int b]
  | .nt l => .tup [.str "not", .tup (l.map .str)]
  | .mk c ps => .tup [.str "make", .str c, .tup (encL ps)]
def encL : List Rg → List D
  | [] => []
  | r :: rs => enc r :: encL rs
end
theorem encL_map : ∀ rs : List Rg, encL rs = rs.map enc
  | [] => rfl
  | r :: rs => by rw [encL, encL_map rs]; rfl
@[simp] theorem encL_len (rs : List Rg) : (encL rs).length = rs.length := by rw [encL_map, List.length_map]
def encO : Option Rg → D
  | none => .non
  | some r => enc r
@[simp] theorem encO_none : encO none = .non := rfl
@[simp] theorem encO_some (r : Rg) : encO (some r) = enc r := rfl
def encOL : Option (List Rg) → D
  | none => .non
  | some rs => .tup (rs.map enc)
mutual
def cutM : Rg → Rg → Option Rg
  | r, .any => some r
  | .any, s => some s
  | .rng a b, .rng c d => if (if c > a then c else a) ≤ (if d < b then d else b) then some (.rng (if c > a then c else a) (if d < b then d else b)) else none
  | .nt l, .mk c ps => if c ∈ l then none else some (.mk c ps)
  | .mk c ps, .mk c' qs => if c = c' then (match cutL ps qs with
    | some xs => some (.mk c xs)
    | none => none) else none
  | _, _ => none
def cutL : List Rg → List Rg → Option (List Rg)
  | [], [] => some []
  | p :: ps, q :: qs => match cutM p q with
    | some x => (match cutL ps qs with
      | some xs => some (x :: xs)
      | none => none)
    | none => none
  | _, _ => none
end
mutual
/-- the two fit: of one kind -/
def Al : Rg → Rg → Prop
  | _, .any => True
  | .any, .rng _ _ => True
  | .any, .mk _ _ => True
  | .rng _ _, .rng _ _ => True
  | .nt _, .mk _ _ => True
  | .mk c ps, .mk c' qs => c = c' → ps.length ≤ 100 ∧ AlL ps qs
  | _, _ => False
def AlL : List Rg → List Rg → Prop
  | [], [] => True
  | p :: ps, q :: qs => Al p q ∧ AlL ps qs
  | _, _ => False
end
mutual
def hgt : Rg → Nat
  | .any => 0
  | .rng _ _ => 0
  | .nt _ => 0
  | .mk _ ps => hgtL ps + 1
def hgtL : List Rg → Nat
  | [] => 0
  | r :: rs => max (hgt r) (hgtL rs)
end
theorem AlL.len : ∀ {ps qs : List Rg}, AlL ps qs → ps.length = qs.length
  | [], [], _ => rfl
  | [], _ :: _, h => by simp [AlL] at h
  | _ :: _, [], h => by simp [AlL] at h
  | p :: ps, q :: qs, h => by simp only [AlL] at h; simp [AlL.len h.2]
theorem AlL.get : ∀ {ps qs : List Rg} {i : Nat} {p q : Rg}, AlL ps qs → ps[i]? = some p → qs[i]? = some q → Al p q
  | p :: ps, q :: qs, 0, _, _, h, h1, h2 => by
    simp only [AlL] at h
    simp at h1 h2; subst h1 h2; exact h.1
  | p :: ps, q :: qs, i + 1, _, _, h, h1, h2 => by
    simp only [AlL] at h
    exact AlL.get h.2 (by simpa using h1) (by simpa using h2)
  | [], _, _, _, _, _, h1, _ => by simp at h1
  | _ :: _, [], _, _, _, _, _, h2 => by simp at h2
theorem hgt_get : ∀ {ps : List Rg} {i : Nat} {p : Rg}, ps[i]? = some p → hgt p ≤ hgtL ps
  | p :: ps, 0, _, h => by simp at h; subst h; simp [hgtL]; omega
  | p :: ps, i + 1, _, h => by
    have := hgt_get (ps := ps) (by simpa using h)
    simp [hgtL]; omega
  | [], _, _, h => by simp at h
/-- the list of cuts -/
def cuts (ps qs : List Rg) : List (Option Rg) := (ps.zip qs).map fun p => cutM p.1 p.2
theorem cutL_cuts : ∀ {ps qs : List Rg}, ps.length = qs.length → cutL ps qs = (if (cuts ps qs).any (·.isNone) then none else some ((cuts ps qs).filterMap id))
  | [], [], _ => by simp [cutL, cuts]
  | [], _ :: _, h => by simp at h
  | _ :: _, [], h => by simp at h
  | p :: ps, q :: qs, h => by
    have ih := cutL_cuts (ps := ps) (qs := qs) (by simpa using h)
    unfold cutL
    cases hc : cutM p q with
    | none => simp [cuts, hc]
    | some x =>
      simp only [ih]
      cases hn : (cuts ps qs).any (·.isNone) with
      | true =>
        simp only [cuts] at hn
        simp only [cuts, List.zip_cons_cons, List.map_cons, hc, List.any_cons, hn]
        simp
      | false =>
        simp only [cuts] at hn
        simp only [cuts, List.zip_cons_cons, List.map_cons, hc, List.any_cons, hn]
        simp
theorem encO_non (o : Option Rg) : (encO o).eqv .non = o.isNone := by
  cases o with
  | none => simp [encO, D.eqv]
  | some r => cases r <;> simp [encO, enc, D.eqv]
theorem any_non (os : List (Option Rg)) : ((os.map encO).any fun y => y.eqv .non) = os.any (·.isNone) := by
  induction os with
  | nil => rfl
  | cons o os ih => rw [List.map_cons, List.any_cons, List.any_cons, ih, encO_non]
theorem all_some : ∀ {os : List (Option Rg)}, os.any (·.isNone) = false → os.map encO = (os.filterMap id).map enc
  | [], _ => rfl
  | none :: os, h => by simp at h
  | some x :: os, h => by
    have := all_some (os := os) (by simpa using h)
    simp [this]
end K06
end

section
set_option maxHeartbeats 0
set_option linter.all false
set_option maxRecDepth 100000
namespace K06
open Ev
/-! ### types -/
abbrev Mk := String × List String
abbrev Ty := List (String × List Mk)
def encF (fs : List String) : D := .tup (fs.map .str)
def encM (m : Mk) : D := .tup [.str m.1, encF m.2]
def encMs (ms : List Mk) : D := .tup (ms.map encM)
def encRow (r : String × List Mk) : D := .tup [.str r.1, encMs r.2]
def encT (T : Ty) : D := .tup (T.map encRow)
def makersOf (T : Ty) (name : String) : List Mk := match T.find? (fun r => r.1 == name) with
  | some r => r.2
  | none => []
def fieldsOf (T : Ty) (c : String) : List String := match T.find? (fun r => (r.2.find? (fun m => m.1 == c)).isSome) with
  | some r => (match r.2.find? (fun m => m.1 == c) with
    | some m => m.2
    | none => [])
  | none => []
theorem cons_spec (n : Nat) (T : Ty) (name : String) (μ : Mem) : callN P (n + 1) "constructors" [.d (encT T), .d (.str name)] μ = .ok (.d (encMs (makersOf T name))) μ := by
  rw [callN_run (d := f_constructors) rfl rfl]
  refine runB_rt (μ' := μ) ?_ rfl
  simp only [f_constructors, List.map_cons, List.map_nil, List.length_cons, List.length_nil, Nat.reduceAdd, Nat.reduceSub, List.replicate_succ, List.replicate_zero, List.cons_append, List.nil_append]
  have h := forL_find (t := tgT [tgN 2, tgN 3]) (b := sIf (tCmp eqR (eV 2) (eV 1)) (sRet (eV 3)) sNil) (μ := μ) (fun r : String × List Mk => .d (encRow r)) (fun r => r.1 == name) (fun r => .d (encMs r.2))
    (fun ρ => ∃ a b, ρ = [.v (.d (encT T)), .v (.d (.str name)), a, b]) (xs := T) (ρ := [.v (.d (encT T)), .v (.d (.str name)), .un, .un]) ⟨_, _, rfl⟩ (by
      rintro x hx ρ ⟨a, b, rfl⟩
      refine ⟨[.v (.d (encT T)), .v (.d (.str name)), .v (.d (.str x.1)), .v (.d (encMs x.2))], by simp [encRow, tgT, tgs, tgN], ?_⟩
      by_cases hc : x.1 = name
      · exact .inl ⟨by simp [hc], by simp [eV, eB, vw_d, vw_scr, vw_ls, vw_dic, eBi, evs_nil, evs_cons, lift, eIdx, eOp, eC, tCmp, eTup, eLst, valsR_nil, valsR_cons, tAnd, tOr, tNot, tE, eT, eIf, eCall, tIsN, tNotN, eNeg, eSlc, oN, oE, EqDep, eqD, D.dep, D.depL, runB, sq, sIf, sRet, sRetN, fin, sNil, sAs, tgN, tgT, tgs, iE, iEnum, sX, hc]⟩
      · exact .inr ⟨by simp [hc], _, ⟨.v (.d (.str x.1)), .v (.d (encMs x.2)), rfl⟩, by simp [eV, eB, vw_d, vw_scr, vw_ls, vw_dic, eBi, evs_nil, evs_cons, lift, eIdx, eOp, eC, tCmp, eTup, eLst, valsR_nil, valsR_cons, tAnd, tOr, tNot, tE, eT, eIf, eCall, tIsN, tNotN, eNeg, eSlc, oN, oE, EqDep, eqD, D.dep, D.depL, runB, sq, sIf, sRet, sRetN, fin, sNil, sAs, tgN, tgT, tgs, iE, iEnum, sX, hc]⟩)
  have hit : iE (eV 0) [.v (.d (encT T)), .v (.d (.str name)), .un, .un] μ = .ok (T.map fun r => .d (encRow r)) μ := by rw [iE_tup (ds := T.map encRow) (eV_at rfl), List.map_map]; rfl
  rcases h with ⟨x, h1, h2⟩ | ⟨h1, ρ', ⟨a, b, rfl⟩, h2⟩
  · rw [sq_rt (sFor_rt hit h2), makersOf, h1]
  · rw [sq_nx (sFor_rt hit h2), makersOf, h1]
    exact sRet_ok (by simp [eV, eB, vw_d, vw_scr, vw_ls, vw_dic, eBi, evs_nil, evs_cons, lift, eIdx, eOp, eC, tCmp, eTup, eLst, valsR_nil, valsR_cons, tAnd, tOr, tNot, tE, eT, eIf, eCall, tIsN, tNotN, eNeg, eSlc, oN, oE, EqDep, eqD, D.dep, D.depL, encMs])
theorem fields_spec (n : Nat) (T : Ty) (c : String) (μ : Mem) : callN P (n + 1) "fields_of" [.d (encT T), .d (.str c)] μ = .ok (.d (encF (fieldsOf T c))) μ := by
  rw [callN_run (d := f_fields_of) rfl rfl]
  refine runB_rt (μ' := μ) ?_ rfl
  simp only [f_fields_of, List.map_cons, List.map_nil, List.length_cons, List.length_nil, Nat.reduceAdd, Nat.reduceSub, List.replicate_succ, List.replicate_zero, List.cons_append, List.nil_append]
  have h := forL_find (t := tgT [tgN 2, tgN 3]) (b := sFor (tgT [tgN 4, tgN 5]) (iE (eV 3)) (sIf (tCmp eqR (eV 4) (eV 1)) (sRet (eV 5)) sNil)) (μ := μ) (fun r : String × List Mk => .d (encRow r)) (fun r => (r.2.find? (fun m => m.1 == c)).isSome)
    (fun r => .d (encF (match r.2.find? (fun m => m.1 == c) with
      | some m => m.2
      | none => [])))
    (fun ρ => ∃ a b d e, ρ = [.v (.d (encT T)), .v (.d (.str c)), a, b, d, e]) (xs := T) (ρ := [.v (.d (encT T)), .v (.d (.str c)), .un, .un, .un, .un]) ⟨_, _, _, _, rfl⟩ (by
      rintro x hx ρ ⟨a, b, d, e, rfl⟩
      refine ⟨[.v (.d (encT T)), .v (.d (.str c)), .v (.d (.str x.1)), .v (.d (encMs x.2)), d, e], by simp [encRow, tgT, tgs, tgN], ?_⟩
      have h := forL_find (t := tgT [tgN 4, tgN 5]) (b := sIf (tCmp eqR (eV 4) (eV 1)) (sRet (eV 5)) sNil) (μ := μ) (fun m : Mk => .d (encM m)) (fun m => m.1 == c) (fun m => .d (encF m.2))
        (fun ρ => ∃ d e, ρ = [.v (.d (encT T)), .v (.d (.str c)), .v (.d (.str x.1)), .v (.d (encMs x.2)), d, e]) (xs := x.2) (ρ := [.v (.d (encT T)), .v (.d (.str c)), .v (.d (.str x.1)), .v (.d (encMs x.2)), d, e]) ⟨_, _, rfl⟩ (by
          rintro m hm ρ ⟨d, e, rfl⟩
          refine ⟨[.v (.d (encT T)), .v (.d (.str c)), .v (.d (.str x.1)), .v (.d (encMs x.2)), .v (.d (.str m.1)), .v (.d (encF m.2))], by simp [encM, tgT, tgs, tgN], ?_⟩
          by_cases hc : m.1 = c
          · exact .inl ⟨by simp [hc], by simp [eV, eB, vw_d, vw_scr, vw_ls, vw_dic, eBi, evs_nil, evs_cons, lift, eIdx, eOp, eC, tCmp, eTup, eLst, valsR_nil, valsR_cons, tAnd, tOr, tNot, tE, eT, eIf, eCall, tIsN, tNotN, eNeg, eSlc, oN, oE, EqDep, eqD, D.dep, D.depL, runB, sq, sIf, sRet, sRetN, fin, sNil, sAs, tgN, tgT, tgs, iE, iEnum, sX, hc]⟩
          · exact .inr ⟨by simp [hc], _, ⟨.v (.d (.str m.1)), .v (.d (encF m.2)), rfl⟩, by simp [eV, eB, vw_d, vw_scr, vw_ls, vw_dic, eBi, evs_nil, evs_cons, lift, eIdx, eOp, eC, tCmp, eTup, eLst, valsR_nil, valsR_cons, tAnd, tOr, tNot, tE, eT, eIf, eCall, tIsN, tNotN, eNeg, eSlc, oN, oE, EqDep, eqD, D.dep, D.depL, runB, sq, sIf, sRet, sRetN, fin, sNil, sAs, tgN, tgT, tgs, iE, iEnum, sX, hc]⟩)
      have hit : iE (eV 3) [.v (.d (encT T)), .v (.d (.str c)), .v (.d (.str x.1)), .v (.d (encMs x.2)), d, e] μ = .ok (x.2.map fun m => .d (encM m)) μ := by rw [iE_tup (ds := x.2.map encM) (eV_at rfl), List.map_map]; rfl
      rcases h with ⟨m, h1, h2⟩ | ⟨h1, ρ', ⟨d', e', rfl⟩, h2⟩
      · exact .inl ⟨by simp [h1], by rw [sFor_rt hit h2, h1]⟩
      · exact .inr ⟨by simp only [h1]; rfl, _, ⟨.v (.d (.str x.1)), .v (.d (encMs x.2)), d', e', rfl⟩, sFor_rt hit h2⟩)
  have hit : iE (eV 0) [.v (.d (encT T)), .v (.d (.str c)), .un, .un, .un, .un] μ = .ok (T.map fun r => .d (encRow r)) μ := by rw [iE_tup (ds := T.map encRow) (eV_at rfl), List.map_map]; rfl
  rcases h with ⟨x, h1, h2⟩ | ⟨h1, ρ', ⟨a, b, d, e, rfl⟩, h2⟩
  · rw [sq_rt (sFor_rt hit h2), fieldsOf, h1]
  · rw [sq_nx (sFor_rt hit h2), fieldsOf, h1]
    exact sRet_ok (by simp [eV, eB, vw_d, vw_scr, vw_ls, vw_dic, eBi, evs_nil, evs_cons, lift, eIdx, eOp, eC, tCmp, eTup, eLst, valsR_nil, valsR_cons, tAnd, tOr, tNot, tE, eT, eIf, eCall, tIsN, tNotN, eNeg, eSlc, oN, oE, EqDep, eqD, D.dep, D.depL, encF])
theorem makers_spec (n : Nat) (T : Ty) (name : String) (μ : Mem) : callN P (n + 1) "_law_makers" [.d (encT T), .d (.str name)] μ = .ok (.d (encMs (makersOf T name))) μ := by
  rw [callN_run (d := f_law_makers) rfl rfl]
  refine runB_rt (μ' := μ) ?_ rfl
  simp only [f_law_makers, List.map_cons, List.map_nil, List.length_cons, List.length_nil, Nat.reduceAdd, Nat.reduceSub, List.replicate_succ, List.replicate_zero, List.cons_append, List.nil_append]
  have h := forL_find (t := tgN 2) (b := sIf (tCmp eqR (eIdx (eV 2) (eC (.int 0))) (eV 1)) (sRet (eIdx (eV 2) (eC (.int 1)))) sNil) (μ := μ) (fun r : String × List Mk => .d (encRow r)) (fun r => r.1 == name) (fun r => .d (encMs r.2))
    (fun ρ => ∃ a, ρ = [.v (.d (encT T)), .v (.d (.str name)), a]) (xs := T) (ρ := [.v (.d (encT T)), .v (.d (.str name)), .un]) ⟨_, rfl⟩ (by
      rintro x hx ρ ⟨a, rfl⟩
      refine ⟨[.v (.d (encT T)), .v (.d (.str name)), .v (.d (encRow x))], by simp [tgN], ?_⟩
      by_cases hc : x.1 = name
      · exact .inl ⟨by simp [hc], by simp [eV, eB, vw_d, vw_scr, vw_ls, vw_dic, eBi, evs_nil, evs_cons, lift, eIdx, eOp, eC, tCmp, eTup, eLst, valsR_nil, valsR_cons, tAnd, tOr, tNot, tE, eT, eIf, eCall, tIsN, tNotN, eNeg, eSlc, oN, oE, EqDep, eqD, D.dep, D.depL, runB, sq, sIf, sRet, sRetN, fin, sNil, sAs, tgN, tgT, tgs, iE, iEnum, sX, encRow, hc]⟩
      · exact .inr ⟨by simp [hc], _, ⟨.v (.d (encRow x)), rfl⟩, by simp [eV, eB, vw_d, vw_scr, vw_ls, vw_dic, eBi, evs_nil, evs_cons, lift, eIdx, eOp, eC, tCmp, eTup, eLst, valsR_nil, valsR_cons, tAnd, tOr, tNot, tE, eT, eIf, eCall, tIsN, tNotN, eNeg, eSlc, oN, oE, EqDep, eqD, D.dep, D.depL, runB, sq, sIf, sRet, sRetN, fin, sNil, sAs, tgN, tgT, tgs, iE, iEnum, sX, encRow, hc]⟩)
  have hit : iE (eV 0) [.v (.d (encT T)), .v (.d (.str name)), .un] μ = .ok (T.map fun r => .d (encRow r)) μ := by rw [iE_tup (ds := T.map encRow) (eV_at rfl), List.map_map]; rfl
  rcases h with ⟨x, h1, h2⟩ | ⟨h1, ρ', ⟨a, rfl⟩, h2⟩
  · rw [sq_rt (sFor_rt hit h2), makersOf, h1]
  · rw [sq_nx (sFor_rt hit h2), makersOf, h1]
    exact sRet_ok (by simp [eV, eB, vw_d, vw_scr, vw_ls, vw_dic, eBi, evs_nil, evs_cons, lift, eIdx, eOp, eC, tCmp, eTup, eLst, valsR_nil, valsR_cons, tAnd, tOr, tNot, tE, eT, eIf, eCall, tIsN, tNotN, eNeg, eSlc, oN, oE, EqDep, eqD, D.dep, D.depL, encMs])

/-! ### what is left of a range -/
def rr (r : Rg) (lo hi c d : Int) : List Rg := if d < lo ∨ hi < c then [r] else (if lo < c then [.rng lo (c - 1)] else []) ++ (if d < hi then [.rng (d + 1) hi] else [])
theorem sApp_ok {i : Nat} {e : E} {ρ : Env} {μ μ' : Mem} {xs : List R} {r : R} (h1 : ρ[i]? = some (.own xs)) (h2 : e ρ μ = .ok r μ') (h3 : xs.length < 1000000) : sApp i e ρ μ = .ok (.nx (ρ.set i (.own (xs ++ [r])))) μ' := by
  unfold sApp; rw [h1]; show (e ρ μ).bind _ = _; rw [h2, bind_ok, if_pos (lt_SL h3)]
theorem sOwn_lst {i : Nat} {e : E} {ρ : Env} {μ μ' : Mem} {ds : List D} (h : e ρ μ = .ok (.d (.lst ds)) μ') : sOwn i e ρ μ = .ok (.nx (ρ.set i (.own (ds.map .d)))) μ' := by unfold sOwn; rw [h]; rfl
theorem sFrz_ok {i : Nat} {ρ : Env} {μ : Mem} {rs : List R} (h : ρ[i]? = some (.own rs)) : sFrz i ρ μ = .ok (.nx (ρ.set i (.v (mkL rs)))) μ := by unfold sFrz; rw [h]
/-! ### which constructors are left -/
def namesOf (T : Ty) (name : String) : List String := (makersOf T name).map (·.1)
def leftM (T : Ty) (name : String) (l : List String) (c : String) : List Rg :=
  if ((namesOf T name).filter fun x => x ∈ l ∨ x = c).length < (namesOf T name).length then [.nt ((namesOf T name).filter fun x => x ∈ l ∨ x = c)] else []
theorem filter_len {ns l : List String} {c : String} (h1 : ns.Nodup) (h2 : l.Nodup) (h3 : ∀ x ∈ l, x ∈ ns) (h4 : c ∈ ns) (h5 : c ∉ l) : (ns.filter fun x => x ∈ l ∨ x = c).length = l.length + 1 := by
  have hp : (ns.filter fun x => x ∈ l ∨ x = c).Perm (c :: l) := by
    refine (List.perm_ext_iff_of_nodup (h1.filter _) (List.nodup_cons.mpr ⟨h5, h2⟩)).mpr fun x => ?_
    simp only [List.mem_filter, List.mem_cons, decide_eq_true_eq]
    constructor
    · rintro ⟨_, h | h⟩
      · exact .inr h
      · exact .inl h
    · rintro (h | h)
      · exact ⟨h ▸ h4, .inr h⟩
      · exact ⟨h3 x h, .inl h⟩
  rw [hp.length_eq]; rfl
theorem depL_str (l : List String) : D.depL (l.map D.str) = 0 := by
  induction l with
  | nil => rfl
  | cons x l ih => simp [D.depL, D.dep, ih]
theorem any_str (l : List String) (c : String) : ((l.map D.str).any fun y => y.eqv (.str c)) = decide (c ∈ l) := by
  induction l with
  | nil => simp
  | cons x l ih =>
    rw [List.map_cons, List.any_cons, ih]
    by_cases hx : x = c
    · simp [hx]
    · simp [hx, Ne.symm hx]
end K06
end

section
set_option maxHeartbeats 0
set_option linter.all false
set_option maxRecDepth 100000
namespace K06
open Ev
mutual
/-- what is left of a region behind a simple one -/
def restM (T : Ty) : String → Rg → Rg → List Rg
  | _, _, .any => []
  | _, .rng a b, .rng c d => rr (.rng a b) a b c d
  | _, r, .rng c d => rr r (-99) 99 c d
  | name, .nt l, .mk c qs => if c ∈ l then [.nt l] else leftM T name l c ++ (match cutL (qs.map fun _ => .any) qs with
    | none => [qs.map fun _ => Rg.any]
    | some cs => rowsL T [] (fieldsOf T c) (qs.map fun _ => .any) qs cs).map (.mk c)
  | _, .mk c' ps, .mk c qs => if c' = c then (match cutL ps qs with
    | none => [ps]
    | some cs => rowsL T [] (fieldsOf T c) ps qs cs).map (.mk c) else [.mk c' ps]
  | name, _, .mk c qs => leftM T name [] c ++ (match cutL (qs.map fun _ => .any) qs with
    | none => [qs.map fun _ => Rg.any]
    | some cs => rowsL T [] (fieldsOf T c) (qs.map fun _ => .any) qs cs).map (.mk c)
  | _, _, .nt _ => []
def rowsL (T : Ty) : List Rg → List String → List Rg → List Rg → List Rg → List (List Rg)
  | pre, n :: ns, p :: ps, q :: qs, c :: cs => (restM T n p q).map (fun x => pre ++ x :: ps) ++ rowsL T (pre ++ [c]) ns ps qs cs
  | _, _, _, _, _ => []
end
def restL (T : Ty) (ns : List String) (ps qs : List Rg) : List (List Rg) := match cutL ps qs with
  | none => [ps]
  | some cs => rowsL T [] ns ps qs cs
mutual
def wt : Rg → Nat
  | .any => 1
  | .rng _ _ => 2
  | .nt _ => 1
  | .mk _ qs => 2 + wtL qs
def wtL : List Rg → Nat
  | [] => 0
  | q :: qs => wt q + wtL qs
end
theorem rr_len (r : Rg) (lo hi c d : Int) : (rr r lo hi c d).length ≤ 2 := by
  unfold rr
  split
  · simp
  · split <;> split <;> simp
theorem left_len (T : Ty) (name : String) (l : List String) (c : String) : (leftM T name l c).length ≤ 1 := by
  unfold leftM; split <;> simp
mutual
theorem restM_len (T : Ty) : ∀ (name : String) (r s : Rg), (restM T name r s).length ≤ wt s
  | _, r, .any => by cases r <;> simp [restM]
  | _, r, .rng c d => by cases r <;> simp only [restM, wt] <;> exact rr_len ..
  | _, r, .nt _ => by cases r <;> simp [restM]
  | name, r, .mk c qs => by
    have key : ∀ ps : List Rg, (match cutL ps qs with
        | none => [ps]
        | some cs => rowsL T [] (fieldsOf T c) ps qs cs).length ≤ 1 + wtL qs := fun ps => by
      split
      · simp
      · rename_i cs _
        have := rowsL_len T [] (fieldsOf T c) ps qs cs
        omega
    have k1 := key (qs.map fun _ => .any)
    cases r with
    | any =>
      have := left_len T name [] c
      simp only [restM, wt, List.length_append, List.length_map]; omega
    | rng a b =>
      have := left_len T name [] c
      simp only [restM, wt, List.length_append, List.length_map]; omega
    | nt l =>
      have := left_len T name l c
      simp only [restM, wt]
      split
      · simp; omega
      · simp only [List.length_append, List.length_map]; omega
    | mk c' ps =>
      have k2 := key ps
      simp only [restM, wt]
      split
      · simp only [List.length_map]; omega
      · simp; omega
theorem rowsL_len (T : Ty) : ∀ (pre : List Rg) (ns : List String) (ps qs cs : List Rg), (rowsL T pre ns ps qs cs).length ≤ wtL qs
  | pre, n :: ns, p :: ps, q :: qs, c :: cs => by
    have h1 := restM_len T n p q
    have h2 := rowsL_len T (pre ++ [c]) ns ps qs cs
    simp only [rowsL, wtL, List.length_append, List.length_map]; omega
  | _, [], _, _, _ => by simp [rowsL]
  | _, _ :: _, [], _, _ => by simp [rowsL]
  | _, _ :: _, _ :: _, [], _ => by simp [rowsL]
  | _, _ :: _, _ :: _, _ :: _, [] => by simp [rowsL]
end
mutual
/-- a region and a simple one, of the type name -/
def RT (T : Ty) : String → Rg → Rg → Prop
  | _, _, .any => True
  | _, .any, .rng _ _ => True
  | _, .rng _ _, .rng _ _ => True
  | name, .any, .mk c qs => c ∈ namesOf T name ∧ (namesOf T name).Nodup ∧ qs.length ≤ 100 ∧ (fieldsOf T c).length = qs.length ∧ RTL T (fieldsOf T c) (qs.map fun _ => .any) qs
  | name, .nt l, .mk c qs => c ∈ namesOf T name ∧ (namesOf T name).Nodup ∧ qs.length ≤ 100 ∧ (fieldsOf T c).length = qs.length ∧ l.Nodup ∧ l.length ≤ 1000 ∧ (∀ x ∈ l, x ∈ namesOf T name) ∧ RTL T (fieldsOf T c) (qs.map fun _ => .any) qs
  | name, .mk c' ps, .mk c qs => c' = c → qs.length ≤ 100 ∧ RTL T (fieldsOf T c) ps qs
  | _, _, _ => False
def RTL (T : Ty) : List String → List Rg → List Rg → Prop
  | [], [], [] => True
  | n :: ns, p :: ps, q :: qs => RT T n p q ∧ Al p q ∧ RTL T ns ps qs
  | _, _, _ => False
end
theorem RTL.al {T : Ty} : ∀ {ns : List String} {ps qs : List Rg}, RTL T ns ps qs → AlL ps qs
  | [], [], [], _ => by simp [AlL]
  | _ :: _, _ :: _, _ :: _, h => by
    simp only [RTL] at h
    simp only [AlL]
    exact ⟨h.2.1, RTL.al h.2.2⟩
  | [], [], _ :: _, h => by simp [RTL] at h
  | [], _ :: _, _, h => by simp [RTL] at h
  | _ :: _, [], _, h => by simp [RTL] at h
  | _ :: _, _ :: _, [], h => by simp [RTL] at h
theorem RTL.len {T : Ty} : ∀ {ns : List String} {ps qs : List Rg}, RTL T ns ps qs → ns.length = ps.length ∧ ps.length = qs.length
  | [], [], [], _ => by simp
  | _ :: _, _ :: _, _ :: _, h => by
    simp only [RTL] at h
    have := RTL.len h.2.2
    simp; omega
  | [], [], _ :: _, h => by simp [RTL] at h
  | [], _ :: _, _, h => by simp [RTL] at h
  | _ :: _, [], _, h => by simp [RTL] at h
  | _ :: _, _ :: _, [], h => by simp [RTL] at h
theorem RTL.get {T : Ty} : ∀ {ns : List String} {ps qs : List Rg} {i : Nat} {n : String} {p q : Rg}, RTL T ns ps qs → ns[i]? = some n → ps[i]? = some p → qs[i]? = some q → RT T n p q
  | _ :: _, _ :: _, _ :: _, 0, _, _, _, h, h1, h2, h3 => by
    simp only [RTL] at h
    simp at h1 h2 h3; subst h1 h2 h3; exact h.1
  | _ :: _, _ :: _, _ :: _, i + 1, _, _, _, h, h1, h2, h3 => by
    simp only [RTL] at h
    exact RTL.get h.2.2 (by simpa using h1) (by simpa using h2) (by simpa using h3)
  | [], _, _, _, _, _, _, _, h1, _, _ => by simp at h1
  | _ :: _, [], _, _, _, _, _, _, _, h2, _ => by simp at h2
  | _ :: _, _ :: _, [], _, _, _, _, _, _, _, h3 => by simp at h3
theorem cutL_len : ∀ {ps qs cs : List Rg}, cutL ps qs = some cs → cs.length = ps.length ∧ ps.length = qs.length
  | [], [], _, h => by simp [cutL] at h; subst h; simp
  | p :: ps, q :: qs, cs, h => by
    unfold cutL at h
    split at h
    · split at h
      · rename_i x hx xs hxs
        cases h
        have := cutL_len hxs
        simp; omega
      · cases h
    · cases h
  | [], _ :: _, _, h => by simp [cutL] at h
  | _ :: _, [], _, h => by simp [cutL] at h
theorem wt_get : ∀ {qs : List Rg} {i : Nat} {q : Rg}, qs[i]? = some q → wt q ≤ wtL qs
  | q :: qs, 0, _, h => by simp at h; subst h; simp [wtL]
  | q :: qs, i + 1, _, h => by
    have := wt_get (qs := qs) (by simpa using h)
    simp [wtL]; omega
  | [], _, _, h => by simp at h
def encW (row : List Rg) : D := .tup (encL row)
/-- the rows from place i on -/
def rowsFrom (T : Ty) (ns : List String) (ps qs cs : List Rg) (i : Nat) : List (List Rg) := rowsL T (cs.take i) (ns.drop i) (ps.drop i) (qs.drop i) (cs.drop i)
theorem rowsFrom_step {T : Ty} {ns : List String} {ps qs cs : List Rg} {i : Nat} (h1 : i < ns.length) (h2 : i < ps.length) (h3 : i < qs.length) (h4 : i < cs.length) :
    rowsFrom T ns ps qs cs i = (restM T ns[i] ps[i] qs[i]).map (fun x => cs.take i ++ x :: ps.drop (i + 1)) ++ rowsFrom T ns ps qs cs (i + 1) := by
  unfold rowsFrom
  rw [List.drop_eq_getElem_cons h1, List.drop_eq_getElem_cons h2, List.drop_eq_getElem_cons h3, List.drop_eq_getElem_cons h4]
  simp only [rowsL]
  rw [List.take_succ_eq_append_getElem h4]
theorem rowsFrom_end {T : Ty} {ns : List String} {ps qs cs : List Rg} {i : Nat} (h : ns.length ≤ i) : rowsFrom T ns ps qs cs i = [] := by
  unfold rowsFrom
  rw [List.drop_eq_nil_of_le h]
  simp [rowsL]

end K06
end

section
set_option maxHeartbeats 0
set_option linter.all false
set_option maxRecDepth 100000
namespace K06
open Ev
abbrev aT (T : Ty) : R := .d (encT T)
theorem encW_map (c : String) (rows : List (List Rg)) : rows.map (fun row => D.tup [.str "make", .str c, encW row]) = (rows.map (Rg.mk c)).map enc := by
  rw [List.map_map]; rfl
theorem any_fields (fs : List String) (qs : List Rg) (h : fs.length = qs.length) : fs.map (fun _ => D.tup [.str "any"]) = encL (qs.map fun _ => .any) := by
  rw [encL_map, List.map_map]
  have : (enc ∘ fun _ : Rg => Rg.any) = fun _ => D.tup [.str "any"] := by funext x; simp [enc]
  rw [this, List.map_const', List.map_const', h]
/-- the comprehension over the rows -/
theorem rows_comp {ρ : Env} {μ : Mem} {k : Nat} {it : It} {elt : E} (c : String) (rows : List (List Rg)) (h1 : it ρ μ = .ok (rows.map fun r => .d (encW r)) μ) (h2 : ∀ row ∈ rows, elt ((wipeE ρ [k]).set k (.v (.d (encW row)))) μ = .ok (.d (.tup [.str "make", .str c, encW row])) μ) (h3 : rows.length ≤ 100000) :
    eComp [k] (tgN k) it tYes elt ρ μ = .ok (.d (.lst ((rows.map (Rg.mk c)).map enc))) μ := by
  have hc : compL (tgN k) tYes elt (rows.map fun r => .d (encW r)) (wipeE ρ [k]) μ = .ok ((rows.filter fun _ => true).map fun row => .d (.tup [.str "make", .str c, encW row])) μ :=
    compL_filter _ _ _ fun row hr => ⟨_, by simp only [tgN], by simp [tYes], fun _ => h2 row hr⟩
  rw [List.filter_eq_self.mpr fun _ _ => rfl] at hc
  rw [eComp_ok h1 hc (by simp; omega), mkL_map, encW_map]
/-- .. over the fields: any for each -/
theorem any_comp {ρ : Env} {μ : Mem} {k : Nat} {it : It} {elt : E} (fs : List String) (h1 : it ρ μ = .ok (fs.map fun r => .d (.str r)) μ) (h2 : ∀ f ∈ fs, elt ((wipeE ρ [k]).set k (.v (.d (.str f)))) μ = .ok (.d (.tup [.str "any"])) μ) (h3 : fs.length ≤ 100000) :
    eComp [k] (tgN k) it tYes elt ρ μ = .ok (.d (.lst (fs.map fun _ => .tup [.str "any"]))) μ := by
  have hc : compL (tgN k) tYes elt (fs.map fun r => .d (.str r)) (wipeE ρ [k]) μ = .ok ((fs.filter fun _ => true).map fun _ => .d (.tup [.str "any"])) μ :=
    compL_filter _ _ _ fun row hr => ⟨_, by simp only [tgN], by simp [tYes], fun _ => h2 row hr⟩
  rw [List.filter_eq_self.mpr fun _ _ => rfl] at hc
  rw [eComp_ok h1 hc (by simp; omega), mkL_map (fun _ : String => D.tup [.str "any"])]
section
variable {n : Nat} {T : Ty} {name c : String} {ps qs : List Rg} {μ : Mem}
end
end K06
end

section
set_option maxHeartbeats 0
set_option linter.all false
set_option maxRecDepth 100000
namespace K06
open Ev
theorem restL_len (T : Ty) (ns : List String) (ps qs : List Rg) : (restL T ns ps qs).length ≤ 1 + wtL qs := by
  unfold restL
  split
  · simp
  · rename_i cs _
    have := rowsL_len T [] ns ps qs cs
    omega
theorem hgtL_any (qs : List Rg) : hgtL (qs.map fun _ => Rg.any) = 0 := by
  induction qs with
  | nil => rfl
  | cons q qs ih => simp [hgtL, hgt, ih]
end K06
end

section
set_option maxHeartbeats 0
set_option linter.all false
set_option maxRecDepth 100000
namespace K06
open Ev
/-- the box: its digits and the place -/
def Bx (digs : List Int) (k : Nat) : Mem := [.lst [.lst (digs.map .int), .int k]]
theorem vw_box (digs : List Int) (k : Nat) : vw (Bx digs k) (.p 0) = .d (.lst [.lst (digs.map .int), .int k]) := rfl
theorem draw_spec (n : Nat) (digs : List Int) (k : Nat) (m : Int) (hm : 0 < m) : ∃ v, 0 ≤ v ∧ v < m ∧ callN P (n + 1) "_law_draw" [.p 0, .d (.int m)] (Bx digs k) = .ok (.d (.int v)) (Bx digs (k + 1)) := by
  rw [callN_run (d := f_law_draw) rfl rfl]
  generalize callN P n = C
  have key : ∀ w : Int, 0 ≤ w % m ∧ w % m < m := fun w => ⟨Int.emod_nonneg _ (by omega), Int.emod_lt_of_pos _ hm⟩
  have s1 : sAs (tgN 2) (eIdx (eV 0) (eC (.int 1))) [.v (.p 0), .v (.d (.int m)), .un] (Bx digs k) = .ok (.nx [.v (.p 0), .v (.d (.int m)), .v (.d (.int k))]) (Bx digs k) := by
    rw [sAs_ok (μ' := Bx digs k) (r := .d (.int k)) (by simp [eIdx, eOp, eV, eC, vw_box, lift])]; rfl
  have s2 : sSet (eV 0) (eC (.int 1)) (eOp addR (eV 2) (eC (.int 1))) [.v (.p 0), .v (.d (.int m)), .v (.d (.int k))] (Bx digs k) = .ok (.nx [.v (.p 0), .v (.d (.int m)), .v (.d (.int k))]) (Bx digs (k + 1)) := by
    simp [sSet, eV, eC, eOp, vw_d, lift, Bx, ixN]
  by_cases h : k < digs.length
  · refine ⟨digs[k] % m, (key _).1, (key _).2, runB_rt ?_ rfl⟩
    simp only [f_law_draw, List.map_cons, List.map_nil, List.length_cons, List.length_nil, Nat.reduceAdd, Nat.reduceSub, List.replicate_succ, List.replicate_zero, List.cons_append, List.nil_append]
    rw [sq_nx s1, sq_nx s2]
    refine sq_rt ?_
    rw [sIf_t (μ' := Bx digs (k + 1)) (by simp [tCmp, eV, vw_d, eBi, evs_cons, evs_nil, eIdx, eOp, eC, vw_box, lift, h])]
    exact sRet_ok (by simp [eOp, eBi, evs_cons, evs_nil, eIdx, eV, eC, vw_d, vw_box, lift, h, hm])
  · refine ⟨((k : Int) * 7 + 3) % m, (key _).1, (key _).2, runB_rt ?_ rfl⟩
    simp only [f_law_draw, List.map_cons, List.map_nil, List.length_cons, List.length_nil, Nat.reduceAdd, Nat.reduceSub, List.replicate_succ, List.replicate_zero, List.cons_append, List.nil_append]
    rw [sq_nx s1, sq_nx s2]
    rw [sq_if_f (μ' := Bx digs (k + 1)) (by simp [tCmp, eV, vw_d, eBi, evs_cons, evs_nil, eIdx, eOp, eC, vw_box, lift]; omega)]
    exact sRet_ok (eOp_ok (eBi1_ok (eOp_ok (eOp_ok (eV_at rfl) eC_ok (mulR_r (by decide))) eC_ok rfl) rfl) (eV_at rfl) (modR_ok hm))
/-! ### the digits -/
theorem cell_spec (n : Nat) (ns : List Int) (k : Nat) (μ : Mem) : ∃ v : Int, callN P (n + 1) "_law_cell" [.scr ns, .d (.int k)] μ = .ok (.d (.int v)) μ := by
  rw [callN_run (d := f_law_cell) rfl rfl]
  generalize callN P n = C
  by_cases h : k < ns.length
  · refine ⟨ns[k], runB_rt (μ' := μ) ?_ rfl⟩
    simp only [f_law_cell, List.map_cons, List.map_nil, List.length_cons, List.length_nil, Nat.reduceAdd, Nat.reduceSub, List.replicate_succ, List.replicate_zero, List.cons_append, List.nil_append]
    refine sq_rt ?_
    rw [sIf_t (μ' := μ) (by simp [eV, eB, vw_d, vw_scr, vw_ls, vw_dic, eBi, evs_nil, evs_cons, lift, eIdx, eOp, eC, tCmp, eTup, eLst, valsR_nil, valsR_cons, tAnd, tOr, tNot, tE, eT, eIf, eCall, tIsN, tNotN, eNeg, eSlc, oN, oE, EqDep, eqD, D.dep, D.depL, h])]
    exact sRet_ok (by simp [eV, eB, vw_d, vw_scr, vw_ls, vw_dic, eBi, evs_nil, evs_cons, lift, eIdx, eOp, eC, tCmp, eTup, eLst, valsR_nil, valsR_cons, tAnd, tOr, tNot, tE, eT, eIf, eCall, tIsN, tNotN, eNeg, eSlc, oN, oE, EqDep, eqD, D.dep, D.depL, h])
  · refine ⟨0, runB_rt (μ' := μ) ?_ rfl⟩
    simp only [f_law_cell, List.map_cons, List.map_nil, List.length_cons, List.length_nil, Nat.reduceAdd, Nat.reduceSub, List.replicate_succ, List.replicate_zero, List.cons_append, List.nil_append]
    rw [sq_if_f (μ' := μ) (by simp [eV, eB, vw_d, vw_scr, vw_ls, vw_dic, eBi, evs_nil, evs_cons, lift, eIdx, eOp, eC, tCmp, eTup, eLst, valsR_nil, valsR_cons, tAnd, tOr, tNot, tE, eT, eIf, eCall, tIsN, tNotN, eNeg, eSlc, oN, oE, EqDep, eqD, D.dep, D.depL]; omega)]
    exact sRet_ok (by simp [eV, eB, vw_d, vw_scr, vw_ls, vw_dic, eBi, evs_nil, evs_cons, lift, eIdx, eOp, eC, tCmp, eTup, eLst, valsR_nil, valsR_cons, tAnd, tOr, tNot, tE, eT, eIf, eCall, tIsN, tNotN, eNeg, eSlc, oN, oE, EqDep, eqD, D.dep, D.depL])
theorem digits_spec (n : Nat) (ns : List Int) (μ : Mem) : ∃ digs : List Int, callN P (n + 2) "_law_digits" [.scr ns, .d (.int 0), .d (.int 50)] μ = .ok (.d (.lst (digs.map .int))) μ := by
  rw [callN_run (d := f_law_digits) rfl rfl]
  have hcell := fun k => cell_spec n ns k μ
  generalize callN P (n + 1) = C at hcell ⊢
  -- the digits of a small cell: twelve
  have small_loop : ∀ (digs : List Int) (k cell seed0 : Int) (x6 : Sl), digs.length ≤ 100000 → ∃ (digs' : List Int) (x6' x7' : Sl), digs'.length ≤ digs.length + 12 ∧
      forL (tgN 6) (sq (sAs (tgN 7) (eOp modR (eBi intR [eOp addR (eOp addR (eOp mulR (eV 7) (eC (.int 16807))) (eOp mulR (eC (.int 7)) (eV 6))) (eC (.int 1))]) (eC (.int 2147483647)))) (sApp 3 (eOp modR (eBi intR [eOp fdivR (eV 7) (eC (.int 997))]) (eC (.int 1000))))) (rangeF 0 12)
        [.v (.scr ns), .v (.d (.int 0)), .v (.d (.int 50)), .own (digs.map fun d => .d (.int d)), .v (.d (.int k)), .v (.d (.int cell)), x6, .v (.d (.int seed0))] μ =
        .ok (.nx [.v (.scr ns), .v (.d (.int 0)), .v (.d (.int 50)), .own (digs'.map fun d => .d (.int d)), .v (.d (.int k)), .v (.d (.int cell)), x6', x7']) μ := by
    intro digs k cell seed0 x6 hl
    obtain ⟨ρ', ⟨digs', y6, seed', rfl, hd⟩, h⟩ := forL_inv (t := tgN 6) (b := sq (sAs (tgN 7) (eOp modR (eBi intR [eOp addR (eOp addR (eOp mulR (eV 7) (eC (.int 16807))) (eOp mulR (eC (.int 7)) (eV 6))) (eC (.int 1))]) (eC (.int 2147483647)))) (sApp 3 (eOp modR (eBi intR [eOp fdivR (eV 7) (eC (.int 997))]) (eC (.int 1000))))) (μ := μ)
      (fun i ρ => ∃ (digs' : List Int) (y6 : Sl) (seed' : Int), ρ = [.v (.scr ns), .v (.d (.int 0)), .v (.d (.int 50)), .own (digs'.map fun d => .d (.int d)), .v (.d (.int k)), .v (.d (.int cell)), y6, .v (.d (.int seed'))] ∧ digs'.length ≤ digs.length + i)
      (xs := rangeF 0 12) (k := 0) (ρ := [.v (.scr ns), .v (.d (.int 0)), .v (.d (.int 50)), .own (digs.map fun d => .d (.int d)), .v (.d (.int k)), .v (.d (.int cell)), x6, .v (.d (.int seed0))]) ⟨digs, x6, seed0, rfl, by simp⟩ (by
        rintro i x ρ hx ⟨digs', y6, seed', rfl, hd⟩
        have hi : i < 12 := by
          have := (List.getElem?_eq_some_iff.mp hx).1
          simpa using this
        rw [getElem_rangeF _ _ _ hi] at hx
        cases hx
        refine ⟨_, by simp only [tgN]; rfl, ?_⟩
        simp only [List.set_cons_succ, List.set_cons_zero]
        refine ⟨_, ⟨digs' ++ [(seed' * 16807 + 7 * (0 + (i : Int)) + 1) % 2147483647 / 997 % 1000], .v (.d (.int (0 + (i : Int)))), (seed' * 16807 + 7 * (0 + (i : Int)) + 1) % 2147483647, rfl, by simp; omega⟩, ?_⟩
        rw [sq_as (μ' := μ) (r := .d (.int ((seed' * 16807 + 7 * (0 + (i : Int)) + 1) % 2147483647))) (eOp_ok (eBi1_ok (eOp_ok (eOp_ok (eOp_ok (eV_at rfl) eC_ok (mulR_r (by decide))) (eOp_ok eC_ok (eV_at rfl) (mulR_l (by decide))) rfl) eC_ok rfl) rfl) eC_ok (modR_ok (by decide)))]
        simp only [List.set_cons_succ, List.set_cons_zero]
        rw [sApp_ok (μ' := μ) (r := .d (.int ((seed' * 16807 + 7 * (0 + (i : Int)) + 1) % 2147483647 / 997 % 1000))) rfl (eOp_ok (eBi1_ok (eOp_ok (eV_at rfl) eC_ok (fdivR_ok (by decide))) rfl) eC_ok (modR_ok (by decide))) (by simp; omega)]
        simp only [List.set_cons_succ, List.set_cons_zero]
        simp)
    exact ⟨digs', y6, _, by simpa using hd, h⟩
  -- of a huge cell: at most sixty
  have big_loop : ∀ (digs : List Int) (k cell : Int) (x6 x7 : Sl), digs.length ≤ 100000 → ∃ (digs' : List Int) (x6' : Sl) (cell' : Int), digs'.length ≤ digs.length + 60 ∧
      forL (tgN 6) (sIf (tCmp gtR (eV 5) (eC (.int 0))) (sq (sApp 3 (eOp modR (eBi intR [eV 5]) (eC (.int 1000)))) (sAs (tgN 5) (eOp fdivR (eV 5) (eC (.int 1000))))) sNil) (rangeF 0 60)
        [.v (.scr ns), .v (.d (.int 0)), .v (.d (.int 50)), .own (digs.map fun d => .d (.int d)), .v (.d (.int k)), .v (.d (.int cell)), x6, x7] μ =
        .ok (.nx [.v (.scr ns), .v (.d (.int 0)), .v (.d (.int 50)), .own (digs'.map fun d => .d (.int d)), .v (.d (.int k)), .v (.d (.int cell')), x6', x7]) μ := by
    intro digs k cell x6 x7 hl
    obtain ⟨ρ', ⟨digs', y6, cell', rfl, hd⟩, h⟩ := forL_inv (t := tgN 6) (b := sIf (tCmp gtR (eV 5) (eC (.int 0))) (sq (sApp 3 (eOp modR (eBi intR [eV 5]) (eC (.int 1000)))) (sAs (tgN 5) (eOp fdivR (eV 5) (eC (.int 1000))))) sNil) (μ := μ)
      (fun i ρ => ∃ (digs' : List Int) (y6 : Sl) (cell' : Int), ρ = [.v (.scr ns), .v (.d (.int 0)), .v (.d (.int 50)), .own (digs'.map fun d => .d (.int d)), .v (.d (.int k)), .v (.d (.int cell')), y6, x7] ∧ digs'.length ≤ digs.length + i)
      (xs := rangeF 0 60) (k := 0) (ρ := [.v (.scr ns), .v (.d (.int 0)), .v (.d (.int 50)), .own (digs.map fun d => .d (.int d)), .v (.d (.int k)), .v (.d (.int cell)), x6, x7]) ⟨digs, x6, cell, rfl, by simp⟩ (by
        rintro i x ρ hx ⟨digs', y6, cell', rfl, hd⟩
        have hi : i < 60 := by
          have := (List.getElem?_eq_some_iff.mp hx).1
          simpa using this
        rw [getElem_rangeF _ _ _ hi] at hx
        cases hx
        refine ⟨_, by simp only [tgN]; rfl, ?_⟩
        simp only [List.set_cons_succ, List.set_cons_zero]
        by_cases hc : 0 < cell'
        · refine ⟨_, ⟨digs' ++ [cell' % 1000], .v (.d (.int (0 + (i : Int)))), cell' / 1000, rfl, by simp; omega⟩, ?_⟩
          rw [sIf_t (tCmp_ok (μ2 := μ) (eV_at rfl) eC_ok (show some (decide (0 < cell')) = some true by rw [decide_eq_true hc]))]
          rw [sq_nx (sApp_ok (μ' := μ) (r := .d (.int (cell' % 1000))) rfl (eOp_ok (eBi1_ok (eV_at rfl) rfl) eC_ok (modR_ok (by decide))) (by simp; omega))]
          simp only [List.set_cons_succ, List.set_cons_zero]
          rw [sAs_ok (μ' := μ) (r := .d (.int (cell' / 1000))) (eOp_ok (eV_at rfl) eC_ok (fdivR_ok (by decide)))]
          simp only [List.set_cons_succ, List.set_cons_zero]
          simp
        · refine ⟨_, ⟨digs', .v (.d (.int (0 + (i : Int)))), cell', rfl, by omega⟩, ?_⟩
          rw [sIf_f (tCmp_ok (μ2 := μ) (eV_at rfl) eC_ok (show some (decide (0 < cell')) = some false by rw [decide_eq_false hc]))]
          exact sNil_ok)
    exact ⟨digs', y6, cell', by simpa using hd, h⟩
  have pow18 : powR (.d (.int 10)) (.d (.int 18)) = some (.d (.int 1000000000000000000)) := by
    rw [powR_ok (by decide)]
    rfl
  obtain ⟨ρ', ⟨digs, x4, x5, x6, x7, rfl, hd⟩, h⟩ := forL_inv (t := tgN 4) (b := (sq (sAs (tgN 5) (eCall C "_law_cell" [eV 0, eV 4]))
  (sq (sIf (tCmp ltR (eV 5) (eC (.int 0))) (sAs (tgN 5) (eOp subR (eC (.int 1)) (eOp mulR (eC (.int 2)) (eV 5)))) sNil)
  (sIf (tCmp geR (eV 5) (eOp powR (eC (.int 10)) (eC (.int 18)))) (sFor (tgN 6) (iRange1 (eC (.int 60)))
  (sIf (tCmp gtR (eV 5) (eC (.int 0))) (sq (sApp 3 (eOp modR (eBi intR [eV 5]) (eC (.int 1000)))) (sAs (tgN 5) (eOp fdivR (eV 5) (eC (.int 1000))))) sNil))
  (sq (sAs (tgN 7) (eOp modR (eBi intR [eOp addR (eOp addR (eOp mulR (eV 5) (eC (.int 48271))) (eOp mulR (eV 4) (eC (.int 69621)))) (eC (.int 11))]) (eC (.int 2147483647))))
  (sFor (tgN 6) (iRange1 (eC (.int 12)))
  (sq (sAs (tgN 7) (eOp modR (eBi intR [eOp addR (eOp addR (eOp mulR (eV 7) (eC (.int 16807))) (eOp mulR (eC (.int 7)) (eV 6))) (eC (.int 1))]) (eC (.int 2147483647)))) (sApp 3 (eOp modR (eBi intR [eOp fdivR (eV 7) (eC (.int 997))]) (eC (.int 1000))))))))))) (μ := μ)
    (fun i ρ => ∃ (digs : List Int) (x4 x5 x6 x7 : Sl), ρ = [.v (.scr ns), .v (.d (.int 0)), .v (.d (.int 50)), .own (digs.map fun d => .d (.int d)), x4, x5, x6, x7] ∧ digs.length ≤ 60 * i)
    (xs := rangeF 0 50) (k := 0) (ρ := [.v (.scr ns), .v (.d (.int 0)), .v (.d (.int 50)), .own [], .un, .un, .un, .un]) ⟨[], _, _, _, _, rfl, by simp⟩ (by
      rintro i x ρ hx ⟨digs, x4, x5, x6, x7, rfl, hd⟩
      have hi : i < 50 := by
        have := (List.getElem?_eq_some_iff.mp hx).1
        simpa using this
      rw [getElem_rangeF _ _ _ hi] at hx
      cases hx
      rw [Int.zero_add]
      rw [Nat.zero_add] at hd ⊢
      refine ⟨_, by simp only [tgN]; rfl, ?_⟩
      simp only [List.set_cons_succ, List.set_cons_zero]
      obtain ⟨v, hv⟩ := hcell i
      have hv1 : eCall C "_law_cell" [eV 0, eV 4] [.v (.scr ns), .v (.d (.int 0)), .v (.d (.int 50)), .own (digs.map fun d => .d (.int d)), .v (.d (.int i)), x5, x6, x7] μ = .ok (.d (.int v)) μ := by simp [eCall, evs_cons, evs_nil, eV, hv]
      rw [sq_as hv1]
      simp only [List.set_cons_succ, List.set_cons_zero]
      obtain ⟨w, hw⟩ : ∃ w : Int, sIf (tCmp ltR (eV 5) (eC (.int 0))) (sAs (tgN 5) (eOp subR (eC (.int 1)) (eOp mulR (eC (.int 2)) (eV 5)))) sNil [.v (.scr ns), .v (.d (.int 0)), .v (.d (.int 50)), .own (digs.map fun d => .d (.int d)), .v (.d (.int i)), .v (.d (.int v)), x6, x7] μ =
          .ok (.nx [.v (.scr ns), .v (.d (.int 0)), .v (.d (.int 50)), .own (digs.map fun d => .d (.int d)), .v (.d (.int i)), .v (.d (.int w)), x6, x7]) μ := by
        by_cases h0 : v < 0
        · refine ⟨1 - 2 * v, ?_⟩
          rw [sIf_t (tCmp_ok (μ2 := μ) (eV_at rfl) eC_ok (show some (decide (v < 0)) = some true by rw [decide_eq_true h0]))]
          rw [sAs_ok (μ' := μ) (r := .d (.int (1 - 2 * v))) (eOp_ok eC_ok (eOp_ok eC_ok (eV_at rfl) (mulR_l (by decide))) rfl)]
          simp only [List.set_cons_succ, List.set_cons_zero]
        · refine ⟨v, ?_⟩
          rw [sIf_f (tCmp_ok (μ2 := μ) (eV_at rfl) eC_ok (show some (decide (v < 0)) = some false by rw [decide_eq_false h0]))]
          exact sNil_ok
      rw [sq_nx hw]
      by_cases hb : (1000000000000000000 : Int) ≤ w
      · rw [sIf_t (tCmp_ok (μ2 := μ) (eV_at rfl) (eOp_ok eC_ok eC_ok pow18) (show some (decide ((1000000000000000000 : Int) ≤ w)) = some true by rw [decide_eq_true hb]))]
        obtain ⟨digs', y6, c', hd', hl⟩ := big_loop digs i w x6 x7 (by omega)
        exact ⟨_, ⟨digs', _, _, _, _, rfl, by omega⟩, sFor_rt (iRange1_nat (n := 60) eC_ok (by omega)) hl⟩
      · rw [sIf_f (tCmp_ok (μ2 := μ) (eV_at rfl) (eOp_ok eC_ok eC_ok pow18) (show some (decide ((1000000000000000000 : Int) ≤ w)) = some false by rw [decide_eq_false hb]))]
        rw [sq_as (μ' := μ) (r := .d (.int ((w * 48271 + (i : Int) * 69621 + 11) % 2147483647))) (eOp_ok (eBi1_ok (eOp_ok (eOp_ok (eOp_ok (eV_at rfl) eC_ok (mulR_r (by decide))) (eOp_ok (eV_at rfl) eC_ok (mulR_r (by decide))) rfl) eC_ok rfl) rfl) eC_ok (modR_ok (by decide)))]
        simp only [List.set_cons_succ, List.set_cons_zero]
        obtain ⟨digs', y6, y7, hd', hl⟩ := small_loop digs i w ((w * 48271 + (i : Int) * 69621 + 11) % 2147483647) x6 (by omega)
        exact ⟨_, ⟨digs', _, _, _, _, rfl, by omega⟩, sFor_rt (iRange1_nat (n := 12) eC_ok (by omega)) hl⟩)
  refine ⟨digs, runB_rt (μ' := μ) ?_ rfl⟩
  simp only [f_law_digits, List.map_cons, List.map_nil, List.length_cons, List.length_nil, Nat.reduceAdd, Nat.reduceSub, List.replicate_succ, List.replicate_zero, List.cons_append, List.nil_append]
  rw [sq_nx (sOwn_lst (ds := []) (μ' := μ) (by simp [eLst, evs_nil]))]
  simp only [List.set_cons_succ, List.set_cons_zero, List.map_nil]
  have hit : iRange2 (eV 1) (eV 2) [.v (.scr ns), .v (.d (.int 0)), .v (.d (.int 50)), .own [], .un, .un, .un, .un] μ = .ok (rangeF 0 50) μ := by
    unfold iRange2
    rw [eV_at rfl, bind_ok, eV_at rfl, bind_ok]
    show (if (inRange62 0 && inRange62 50) = true then _ else _) = _
    rw [if_pos (by decide)]
    rfl
  rw [sq_nx (sFor_rt hit h), sq_nx (sFrz_ok rfl)]
  simp only [List.set_cons_succ, List.set_cons_zero]
  rw [mkL_map]
  exact sRet_ok (eV_at rfl)
end K06
end

section
set_option maxHeartbeats 0
set_option linter.all false
set_option maxRecDepth 100000
namespace K06
open Ev
def nms : List String := ["L", "T", "Nat"]
def abc : List String := ["A", "B", "C"]
/-- a draw, as a natural number -/
theorem draw_nat (n : Nat) (digs : List Int) (k m : Nat) (hm : 0 < m) : ∃ v : Nat, v < m ∧ callN P (n + 1) "_law_draw" [.p 0, .d (.int m)] (Bx digs k) = .ok (.d (.int v)) (Bx digs (k + 1)) := by
  obtain ⟨v, h0, h1, h2⟩ := draw_spec n digs k m (by omega)
  exact ⟨v.toNat, by omega, by rw [h2]; congr 3; omega⟩
/-- what a draw gives, told of any C -/
def Draws (C : Fn) : Prop := ∀ (digs : List Int) (k m : Nat), 0 < m → ∃ v : Nat, v < m ∧ C "_law_draw" [.p 0, .d (.int m)] (Bx digs k) = .ok (.d (.int v)) (Bx digs (k + 1))
theorem draws (n : Nat) : Draws (callN P (n + 1)) := fun digs k m hm => draw_nat n digs k m hm
/-- a draw's expression -/
theorem eDraw {C : Fn} {ρ : Env} {digs : List Int} {k v : Nat} {m : Int} {i : Nat} (hb : ρ[i]? = some (.v (.p 0))) (h : C "_law_draw" [.p 0, .d (.int m)] (Bx digs k) = .ok (.d (.int v)) (Bx digs (k + 1))) : eCall C "_law_draw" [eV i, eC (.int m)] ρ (Bx digs k) = .ok (.d (.int v)) (Bx digs (k + 1)) := by
  unfold eCall
  rw [evs_cons, eV_at hb, bind_ok, evs_cons, eC_ok, bind_ok, evs_nil, bind_ok, bind_ok, bind_ok]
  exact h
/-- int(draw) % len(pool) -/
theorem ePick {C : Fn} {ρ : Env} {digs : List Int} {k v : Nat} {i j : Nat} {pool : List D} (hb : ρ[i]? = some (.v (.p 0))) (hp : ρ[j]? = some (.v (.d (.lst pool)))) (h0 : 0 < pool.length) (h : C "_law_draw" [.p 0, .d (.int 90)] (Bx digs k) = .ok (.d (.int v)) (Bx digs (k + 1))) :
    ∃ (w : Nat) (d : D), w < pool.length ∧ pool[w]? = some d ∧ eIdx (eV j) (eOp modR (eBi intR [eCall C "_law_draw" [eV i, eC (.int 90)]]) (eBi lenR [eV j])) ρ (Bx digs k) = .ok (.d d) (Bx digs (k + 1)) := by
  have hw : v % pool.length < pool.length := Nat.mod_lt _ h0
  refine ⟨v % pool.length, pool[v % pool.length], hw, by simp [hw], ?_⟩
  unfold eIdx
  have e1 : eBi intR [eCall C "_law_draw" [eV i, eC (.int 90)]] ρ (Bx digs k) = .ok (.d (.int v)) (Bx digs (k + 1)) := eBi1_ok (eDraw hb h) rfl
  have e2 : eBi lenR [eV j] ρ (Bx digs (k + 1)) = .ok (.d (.int pool.length)) (Bx digs (k + 1)) := eBi1_ok (eV_at hp) rfl
  have e3 := eOp_ok (f := modR) e1 e2 (z := .d (.int ((v : Int) % (pool.length : Int)))) (modR_ok (by omega))
  refine eOp_ok (eV_at hp) e3 ?_
  rw [vw_d, vw_d, idxR_lst, show ((v : Int) % (pool.length : Int)) = ((v % pool.length : Nat) : Int) by omega, atI_cast]
  simp [hw]
/-- a row's constructors: of that type, fields of the pool -/
def MkOk (names : List String) (nm : String) (ms : List Mk) (cnt : Nat) : Prop :=
  ms.map (fun m => m.1) = (abc.take cnt).map (fun a => a ++ nm) ∧ (∀ m ∈ ms, m.2.length ≤ 2 ∧ ∀ f ∈ m.2, f ∈ "Int" :: names) ∧ ∃ i : Nat, names[i]? = some nm ∧ ∀ m, ms[0]? = some m → ∀ f ∈ m.2, f ∈ "Int" :: names.take i
def RowOk (names : List String) (nm : String) (row : String × List Mk) : Prop := row.1 = nm ∧ ∃ cnt, 1 ≤ cnt ∧ cnt ≤ 3 ∧ (MkOk names nm row.2 cnt ∨ MkOk names nm row.2.reverse cnt)
/-- the drawn types -/
def GoodT (T : Ty) : Prop := ∃ kk, 1 ≤ kk ∧ kk ≤ 3 ∧ T.length = kk ∧ ∀ (i : Nat) (row : String × List Mk), T[i]? = some row → ∃ nm, nms[i]? = some nm ∧ RowOk (nms.take kk) nm row

/-! ### the drawn types -/
/-- one constructor's fields -/
theorem fields_draw {C : Fn} (hC : Draws C) (digs : List Int) (k : Nat) (x1 x2 x3 x4 x7 x8 : Sl) (m : Nat) (pool : List String) (hp : pool ≠ []) : ∃ (k' : Nat) (fs : List String), fs.length ≤ 2 ∧ (∀ f ∈ fs, f ∈ pool) ∧
    eComp [8] (tgN 8) (iRange1 (eOp mulR (eCall C "_law_draw" [eV 0, eC (.int 3)]) (eBi intR [eOr (eT (tCmp gtR (eV 5) (eC (.int 0)))) (eT (tCmp eqR (eCall C "_law_draw" [eV 0, eC (.int 3)]) (eC (.int 0))))]))) tYes
      (eIdx (eV 6) (eOp modR (eBi intR [eCall C "_law_draw" [eV 0, eC (.int 90)]]) (eBi lenR [eV 6]))) [.v (.p 0), x1, x2, x3, x4, .v (.d (.int m)), .v (.d (.lst (pool.map .str))), x7, x8] (Bx digs k) =
      .ok (.d (.lst (fs.map .str))) (Bx digs k') := by
  obtain ⟨v, hv, h1⟩ := hC digs k 3 (by omega)
  -- how many
  obtain ⟨k1, c, hc, h2⟩ : ∃ (k1 c : Nat), c ≤ 2 ∧ iRange1 (eOp mulR (eCall C "_law_draw" [eV 0, eC (.int 3)]) (eBi intR [eOr (eT (tCmp gtR (eV 5) (eC (.int 0)))) (eT (tCmp eqR (eCall C "_law_draw" [eV 0, eC (.int 3)]) (eC (.int 0))))]))
      [.v (.p 0), x1, x2, x3, x4, .v (.d (.int m)), .v (.d (.lst (pool.map .str))), x7, x8] (Bx digs k) = .ok (rangeF 0 c) (Bx digs k1) := by
    have e1 := eDraw (C := C) (ρ := [.v (.p 0), x1, x2, x3, x4, .v (.d (.int m)), .v (.d (.lst (pool.map .str))), x7, x8]) (i := 0) rfl h1
    have hg : tCmp gtR (eV 5) (eC (.int 0)) [.v (.p 0), x1, x2, x3, x4, .v (.d (.int m)), .v (.d (.lst (pool.map .str))), x7, x8] (Bx digs (k + 1)) = .ok (decide (0 < (m : Int))) (Bx digs (k + 1)) := tCmp_ok (eV_at rfl) eC_ok rfl
    by_cases hm : 0 < (m : Int)
    · rw [decide_eq_true hm] at hg
      refine ⟨k + 1, v, by omega, iRange1_nat (eOp_ok (z := .d (.int v)) e1 (eBi1_ok (x := .d (.bl true)) (z := .d (.int 1)) ?_ rfl) ?_) (by omega)⟩
      · unfold eOr eT
        rw [hg]
        simp
      · rw [vw_d, vw_d, mulR_r (by decide), Int.mul_one]
    · rw [decide_eq_false hm] at hg
      obtain ⟨w, hw, h3⟩ := hC digs (k + 1) 3 (by omega)
      have e2 := eDraw (C := C) (ρ := [.v (.p 0), x1, x2, x3, x4, .v (.d (.int m)), .v (.d (.lst (pool.map .str))), x7, x8]) (i := 0) rfl h3
      have hq : tCmp eqR (eCall C "_law_draw" [eV 0, eC (.int 3)]) (eC (.int 0)) [.v (.p 0), x1, x2, x3, x4, .v (.d (.int m)), .v (.d (.lst (pool.map .str))), x7, x8] (Bx digs (k + 1)) = .ok (decide (w = 0)) (Bx digs (k + 1 + 1)) :=
        tCmp_ok e2 eC_ok (by
          rw [vw_d, vw_d, eqR_d, eqD_left (by simp [D.dep]), eqv_int]
          by_cases hz : w = 0
          · simp [hz]
          · simp [hz])
      have hor : eOr (eT (tCmp gtR (eV 5) (eC (.int 0)))) (eT (tCmp eqR (eCall C "_law_draw" [eV 0, eC (.int 3)]) (eC (.int 0)))) [.v (.p 0), x1, x2, x3, x4, .v (.d (.int m)), .v (.d (.lst (pool.map .str))), x7, x8] (Bx digs (k + 1)) = .ok (.d (.bl (decide (w = 0)))) (Bx digs (k + 1 + 1)) := by
        unfold eOr eT
        rw [hg]
        simp [hq]
      by_cases hz : w = 0
      · rw [decide_eq_true hz] at hor
        refine ⟨k + 1 + 1, v, by omega, iRange1_nat (eOp_ok (z := .d (.int v)) e1 (eBi1_ok (z := .d (.int 1)) hor rfl) ?_) (by omega)⟩
        rw [vw_d, vw_d, mulR_r (by decide), Int.mul_one]
      · rw [decide_eq_false hz] at hor
        refine ⟨k + 1 + 1, 0, by omega, iRange1_nat (eOp_ok (z := .d (.int 0)) e1 (eBi1_ok (z := .d (.int 0)) hor rfl) ?_) (by omega)⟩
        rw [vw_d, vw_d, mulR_r (by decide), Int.mul_zero]
  obtain ⟨ys, μ', ⟨k2, fs, e1, e2, e3, e4⟩, h3⟩ := compL_invM (t := tgN 8) (c := tYes) (e := eIdx (eV 6) (eOp modR (eBi intR [eCall C "_law_draw" [eV 0, eC (.int 90)]]) (eBi lenR [eV 6])))
    (ρ := [.v (.p 0), x1, x2, x3, x4, .v (.d (.int m)), .v (.d (.lst (pool.map .str))), x7, .un]) (fun i acc μ => ∃ (k2 : Nat) (fs : List String), μ = Bx digs k2 ∧ acc = fs.map (fun f => .d (.str f)) ∧ fs.length ≤ i ∧ ∀ f ∈ fs, f ∈ pool) (xs := rangeF 0 c) (k := 0) (acc := []) (μ := Bx digs k1)
    ⟨k1, [], rfl, rfl, by simp, by simp⟩ (by
      rintro i x acc μ hx ⟨k2, fs, rfl, rfl, hl, hf⟩
      refine ⟨_, by simp only [tgN]; rfl, .inl ?_⟩
      obtain ⟨w, hw, h3⟩ := hC digs k2 90 (by omega)
      obtain ⟨q, d, q1, q2, q3⟩ := ePick (C := C) (ρ := [.v (.p 0), x1, x2, x3, x4, .v (.d (.int m)), .v (.d (.lst (pool.map .str))), x7, .v x]) (i := 0) (j := 6) (pool := pool.map .str) rfl rfl (by simpa using List.length_pos_iff.mpr hp) h3
      rw [List.getElem?_map] at q2
      obtain ⟨f, hf2, hfd⟩ := Option.map_eq_some_iff.mp q2
      subst hfd
      refine ⟨Bx digs k2, .d (.str f), Bx digs (k2 + 1), by simp [tYes], q3, k2 + 1, fs ++ [f], rfl, by simp, by simp; omega, ?_⟩
      intro g hg
      rcases List.mem_append.mp hg with z | z
      · exact hf g z
      · rw [List.mem_singleton.mp z]; exact List.mem_of_getElem? hf2)
  rw [List.nil_append] at e2
  subst e1 e2
  rw [length_rangeF] at e3
  refine ⟨k2, fs, by omega, e4, ?_⟩
  rw [eComp_ok (own := [8]) h2 h3 (by simp; omega), mkL_map]
theorem add_strs (xs : List String) (h : xs.length ≤ 1000) : addR (.d (.lst [.str "Int"])) (.d (.lst (xs.map .str))) = some (.d (.lst (("Int" :: xs).map .str))) := by
  have hz : [D.str "Int"].length + (xs.map D.str).length ≤ SL := le_SL (by simp; omega)
  rw [addR_lst, if_pos hz]; rfl
theorem short_names : ∀ a ∈ abc, ∀ b ∈ nms, a.length + b.length ≤ 100 := by decide
/-- one turn of the makers' loop -/
theorem maker_turn {C : Fn} (hC : Draws C) (digs : List Int) (k : Nat) (names : List String) (hn : names.length ≤ 3) (x2 : Sl) (i : Nat) (nm : String) (hnm : names[i]? = some nm) (hmem : nm ∈ nms) (ms : List Mk) (hms : ms.length ≤ 10) (m : Nat) (a : String) (ha : abc[m]? = some a) (x6 x7 x8 : Sl) :
    ∃ (k' : Nat) (fs : List String) (y6 y7 y8 : Sl), fs.length ≤ 2 ∧ (∀ f ∈ fs, f ∈ "Int" :: names) ∧ (m = 0 → ∀ f ∈ fs, f ∈ "Int" :: names.take i) ∧
    (sq (sAs (tgN 6) (eOp addR (eLst [eC (.str "Int")]) (eV 1))) (sq (sIf (tCmp eqR (eV 5) (eC (.int 0))) (sAs (tgN 6) (eOp addR (eLst [eC (.str "Int")]) (eSlc (eV 1) oN (oE (eV 3))))) sNil)
    (sq (sAs (tgN 7) (eComp [8] (tgN 8) (iRange1 (eOp mulR (eCall C "_law_draw" [eV 0, eC (.int 3)]) (eBi intR [eOr (eT (tCmp gtR (eV 5) (eC (.int 0)))) (eT (tCmp eqR (eCall C "_law_draw" [eV 0, eC (.int 3)]) (eC (.int 0))))]))) tYes
      (eIdx (eV 6) (eOp modR (eBi intR [eCall C "_law_draw" [eV 0, eC (.int 90)]]) (eBi lenR [eV 6])))))
      (sApp 4 (eTup [eOp addR (eIdx (eLst [eC (.str "A"), eC (.str "B"), eC (.str "C")]) (eV 5)) (eIdx (eV 1) (eV 3)), eBi tupleR [eV 7]]))))) [.v (.p 0), .v (.d (.lst (names.map .str))), x2, .v (.d (.int i)), .own (ms.map fun m => .d (encM m)), .v (.d (.int m)), x6, x7, x8] (Bx digs k) =
    .ok (.nx [.v (.p 0), .v (.d (.lst (names.map .str))), x2, .v (.d (.int i)), .own ((ms ++ [(a ++ nm, fs)]).map fun m => .d (encM m)), .v (.d (.int m)), y6, y7, y8]) (Bx digs k') := by
  have eInt : ∀ (ρ : Env) (μ : Mem), eLst [eC (.str "Int")] ρ μ = .ok (.d (.lst [.str "Int"])) μ := fun ρ μ => by simp [eLst, evs_cons, evs_nil, eC]
  rw [sq_as (eOp_ok (eInt _ _) (eV_at rfl) (add_strs names (by omega)))]
  simp only [List.set_cons_succ, List.set_cons_zero]
  obtain ⟨pool, hp0, hp1, hp2, h2⟩ : ∃ pool : List String, pool ≠ [] ∧ (∀ f ∈ pool, f ∈ "Int" :: names) ∧ (m = 0 → ∀ f ∈ pool, f ∈ "Int" :: names.take i) ∧ sIf (tCmp eqR (eV 5) (eC (.int 0))) (sAs (tgN 6) (eOp addR (eLst [eC (.str "Int")]) (eSlc (eV 1) oN (oE (eV 3))))) sNil
      [.v (.p 0), .v (.d (.lst (names.map .str))), x2, .v (.d (.int i)), .own (ms.map fun m => .d (encM m)), .v (.d (.int m)), .v (.d (.lst (("Int" :: names).map .str))), x7, x8] (Bx digs k) =
      .ok (.nx [.v (.p 0), .v (.d (.lst (names.map .str))), x2, .v (.d (.int i)), .own (ms.map fun m => .d (encM m)), .v (.d (.int m)), .v (.d (.lst (pool.map .str))), x7, x8]) (Bx digs k) := by
    have hq : tCmp eqR (eV 5) (eC (.int 0)) [.v (.p 0), .v (.d (.lst (names.map .str))), x2, .v (.d (.int i)), .own (ms.map fun m => .d (encM m)), .v (.d (.int m)), .v (.d (.lst (("Int" :: names).map .str))), x7, x8] (Bx digs k) = .ok (decide (m = 0)) (Bx digs k) :=
      tCmp_ok (eV_at rfl) eC_ok (by
        rw [vw_d, vw_d, eqR_d, eqD_left (by simp [D.dep]), eqv_int]
        by_cases hz : m = 0
        · simp [hz]
        · simp [hz])
    by_cases hm : m = 0
    · rw [decide_eq_true hm] at hq
      refine ⟨"Int" :: names.take i, by simp, ?_, fun _ f hf => hf, ?_⟩
      · intro f hf
        rcases List.mem_cons.mp hf with z | z
        · rw [z]; exact List.mem_cons_self
        · exact List.mem_cons_of_mem _ (List.mem_of_mem_take z)
      · rw [sIf_t hq]
        have hsl : eSlc (eV 1) oN (oE (eV 3)) [.v (.p 0), .v (.d (.lst (names.map .str))), x2, .v (.d (.int i)), .own (ms.map fun m => .d (encM m)), .v (.d (.int m)), .v (.d (.lst (("Int" :: names).map .str))), x7, x8] (Bx digs k) = .ok (.d (.lst ((names.take i).map .str))) (Bx digs k) := by
          simp [eSlc, eV, oN, oE, vw_d, lift, cut_take, List.map_take]
        rw [sAs_ok (eOp_ok (eInt _ _) hsl (add_strs (names.take i) (by simp; omega)))]
        simp only [List.set_cons_succ, List.set_cons_zero]
    · rw [decide_eq_false hm] at hq
      exact ⟨"Int" :: names, by simp, fun f hf => hf, fun z => absurd z hm, by rw [sIf_f hq]; exact sNil_ok⟩
  rw [sq_nx h2]
  obtain ⟨k', fs, hf1, hf2, h3⟩ := fields_draw hC digs k (.v (.d (.lst (names.map .str)))) x2 (.v (.d (.int i))) (.own (ms.map fun m => .d (encM m))) x7 x8 m pool hp0
  rw [sq_as h3]
  simp only [List.set_cons_succ, List.set_cons_zero]
  refine ⟨k', fs, .v (.d (.lst (pool.map .str))), .v (.d (.lst (fs.map .str))), x8, hf1, fun f hf => hp1 f (hf2 f hf), fun z f hf => hp2 z f (hf2 f hf), ?_⟩
  have hsn := short_names a (List.mem_of_getElem? ha) nm hmem
  have habc : [D.str "A", D.str "B", D.str "C"][m]? = some (.str a) := by
    have : [D.str "A", D.str "B", D.str "C"] = abc.map .str := rfl
    rw [this, List.getElem?_map, ha]; rfl
  have hc : eOp addR (eIdx (eLst [eC (.str "A"), eC (.str "B"), eC (.str "C")]) (eV 5)) (eIdx (eV 1) (eV 3)) [.v (.p 0), .v (.d (.lst (names.map .str))), x2, .v (.d (.int i)), .own (ms.map fun m => .d (encM m)), .v (.d (.int m)), .v (.d (.lst (pool.map .str))), .v (.d (.lst (fs.map .str))), x8] (Bx digs k') = .ok (.d (.str (a ++ nm))) (Bx digs k') := by
    have e1 : eIdx (eLst [eC (.str "A"), eC (.str "B"), eC (.str "C")]) (eV 5) [.v (.p 0), .v (.d (.lst (names.map .str))), x2, .v (.d (.int i)), .own (ms.map fun m => .d (encM m)), .v (.d (.int m)), .v (.d (.lst (pool.map .str))), .v (.d (.lst (fs.map .str))), x8] (Bx digs k') = .ok (.d (.str a)) (Bx digs k') := by
      simp [eIdx, eOp, eLst, evs_cons, evs_nil, eC, eV, vw_d, lift, habc]
    have e2 : eIdx (eV 1) (eV 3) [.v (.p 0), .v (.d (.lst (names.map .str))), x2, .v (.d (.int i)), .own (ms.map fun m => .d (encM m)), .v (.d (.int m)), .v (.d (.lst (pool.map .str))), .v (.d (.lst (fs.map .str))), x8] (Bx digs k') = .ok (.d (.str nm)) (Bx digs k') := by
      simp [eIdx, eOp, eV, vw_d, lift, hnm]
    refine eOp_ok e1 e2 ?_
    rw [vw_d, vw_d, addR_str, if_pos (le_SL (by omega))]
  have ht : eTup [eOp addR (eIdx (eLst [eC (.str "A"), eC (.str "B"), eC (.str "C")]) (eV 5)) (eIdx (eV 1) (eV 3)), eBi tupleR [eV 7]] [.v (.p 0), .v (.d (.lst (names.map .str))), x2, .v (.d (.int i)), .own (ms.map fun m => .d (encM m)), .v (.d (.int m)), .v (.d (.lst (pool.map .str))), .v (.d (.lst (fs.map .str))), x8] (Bx digs k') = .ok (.d (encM (a ++ nm, fs))) (Bx digs k') := by
    unfold eTup
    rw [evs_cons, hc, bind_ok, evs_cons, eBi1_ok (eV_at rfl) (show tupleR [vw _ _] = some (.d (.tup (fs.map .str))) from rfl), bind_ok, evs_nil, bind_ok, bind_ok, bind_ok]
    simp [encM, encF]
  rw [sApp_ok rfl ht (by simp; omega)]
  simp only [List.set_cons_succ, List.set_cons_zero]
  simp
/-- one row -/
theorem row_turn {C : Fn} (hC : Draws C) (digs : List Int) (k : Nat) (names : List String) (hn : names.length ≤ 3) (found : Ty) (hf : found.length ≤ 10) (i : Nat) (nm : String) (hnm : names[i]? = some nm) (hmem : nm ∈ nms) (x4 x5 x6 x7 x8 : Sl) :
    ∃ (k' : Nat) (row : String × List Mk) (y4 y5 y6 y7 y8 : Sl), RowOk names nm row ∧
    (sq (sOwn 4 (eLst []))
    (sq (sFor (tgN 5) (iRange1 (eOp addR (eC (.int 1)) (eCall C "_law_draw" [eV 0, eC (.int 3)]))) (sq (sAs (tgN 6) (eOp addR (eLst [eC (.str "Int")]) (eV 1))) (sq (sIf (tCmp eqR (eV 5) (eC (.int 0))) (sAs (tgN 6) (eOp addR (eLst [eC (.str "Int")]) (eSlc (eV 1) oN (oE (eV 3))))) sNil)
    (sq (sAs (tgN 7) (eComp [8] (tgN 8) (iRange1 (eOp mulR (eCall C "_law_draw" [eV 0, eC (.int 3)]) (eBi intR [eOr (eT (tCmp gtR (eV 5) (eC (.int 0)))) (eT (tCmp eqR (eCall C "_law_draw" [eV 0, eC (.int 3)]) (eC (.int 0))))]))) tYes
      (eIdx (eV 6) (eOp modR (eBi intR [eCall C "_law_draw" [eV 0, eC (.int 90)]]) (eBi lenR [eV 6])))))
      (sApp 4 (eTup [eOp addR (eIdx (eLst [eC (.str "A"), eC (.str "B"), eC (.str "C")]) (eV 5)) (eIdx (eV 1) (eV 3)), eBi tupleR [eV 7]]))))))
      (sq (sIf (tCmp eqR (eCall C "_law_draw" [eV 0, eC (.int 3)]) (eC (.int 0))) (sRev 4) sNil)
        (sApp 2 (eTup [eIdx (eV 1) (eV 3), eBi tupleR [eB 4]]))))) [.v (.p 0), .v (.d (.lst (names.map .str))), .own (found.map fun r => .d (encRow r)), .v (.d (.int i)), x4, x5, x6, x7, x8] (Bx digs k) =
    .ok (.nx [.v (.p 0), .v (.d (.lst (names.map .str))), .own ((found ++ [row]).map fun r => .d (encRow r)), .v (.d (.int i)), y4, y5, y6, y7, y8]) (Bx digs k') := by
  rw [sq_nx (sOwn_lst (ds := []) (μ' := Bx digs k) (by simp [eLst, evs_nil]))]
  simp only [List.set_cons_succ, List.set_cons_zero, List.map_nil]
  obtain ⟨v, hv, h1⟩ := hC digs k 3 (by omega)
  have hcnt : iRange1 (eOp addR (eC (.int 1)) (eCall C "_law_draw" [eV 0, eC (.int 3)])) [.v (.p 0), .v (.d (.lst (names.map .str))), .own (found.map fun r => .d (encRow r)), .v (.d (.int i)), .own [], x5, x6, x7, x8] (Bx digs k) = .ok (rangeF 0 (1 + v)) (Bx digs (k + 1)) :=
    iRange1_nat (n := 1 + v) (eOp_ok eC_ok (eDraw rfl h1) (by rw [vw_d, vw_d, addR_int]; rfl)) (by omega)
  obtain ⟨ρ', μ', ⟨k2, ms, y5, y6, y7, y8, rfl, rfl, hms⟩, hl⟩ := forL_invM (t := tgN 5) (b := (sq (sAs (tgN 6) (eOp addR (eLst [eC (.str "Int")]) (eV 1))) (sq (sIf (tCmp eqR (eV 5) (eC (.int 0))) (sAs (tgN 6) (eOp addR (eLst [eC (.str "Int")]) (eSlc (eV 1) oN (oE (eV 3))))) sNil)
    (sq (sAs (tgN 7) (eComp [8] (tgN 8) (iRange1 (eOp mulR (eCall C "_law_draw" [eV 0, eC (.int 3)]) (eBi intR [eOr (eT (tCmp gtR (eV 5) (eC (.int 0)))) (eT (tCmp eqR (eCall C "_law_draw" [eV 0, eC (.int 3)]) (eC (.int 0))))]))) tYes
      (eIdx (eV 6) (eOp modR (eBi intR [eCall C "_law_draw" [eV 0, eC (.int 90)]]) (eBi lenR [eV 6])))))
      (sApp 4 (eTup [eOp addR (eIdx (eLst [eC (.str "A"), eC (.str "B"), eC (.str "C")]) (eV 5)) (eIdx (eV 1) (eV 3)), eBi tupleR [eV 7]]))))))
    (fun m ρ μ => ∃ (k2 : Nat) (ms : List Mk) (y5 y6 y7 y8 : Sl), ρ = [.v (.p 0), .v (.d (.lst (names.map .str))), .own (found.map fun r => .d (encRow r)), .v (.d (.int i)), .own (ms.map fun m => .d (encM m)), y5, y6, y7, y8] ∧ μ = Bx digs k2 ∧ MkOk names nm ms m)
    (xs := rangeF 0 (1 + v)) (k := 0) (ρ := [.v (.p 0), .v (.d (.lst (names.map .str))), .own (found.map fun r => .d (encRow r)), .v (.d (.int i)), .own [], x5, x6, x7, x8]) (μ := Bx digs (k + 1)) ⟨k + 1, [], _, _, _, _, rfl, rfl, by simp [MkOk]; exact ⟨i, hnm⟩⟩ (by
      rintro m x ρ μ hx ⟨k2, ms, y5, y6, y7, y8, rfl, rfl, hms⟩
      have hi : m < 1 + v := by
        have := (List.getElem?_eq_some_iff.mp hx).1
        simpa using this
      rw [getElem_rangeF _ _ _ hi] at hx
      cases hx
      rw [Int.zero_add]
      rw [Nat.zero_add] at hms ⊢
      refine ⟨_, by simp only [tgN]; rfl, ?_⟩
      simp only [List.set_cons_succ, List.set_cons_zero]
      have hm3 : m < abc.length := by simp [abc]; omega
      have hlen : ms.length = m := by
        have := congrArg List.length hms.1
        simp at this; omega
      obtain ⟨k3, fs, z6, z7, z8, hf1, hf2, hf3, ht⟩ := maker_turn hC digs k2 names hn (.own (found.map fun r => .d (encRow r))) i nm hnm hmem ms (by omega) m abc[m] (by simp [hm3]) y6 y7 y8
      refine ⟨_, _, ⟨k3, ms ++ [(abc[m] ++ nm, fs)], .v (.d (.int m)), z6, z7, z8, rfl, rfl, ?_⟩, ht⟩
      refine ⟨?_, ?_, ?_⟩
      · rw [List.map_append, hms.1, List.take_succ_eq_append_getElem hm3, List.map_append]; rfl
      · intro q hq
        rcases List.mem_append.mp hq with z | z
        · exact hms.2.1 q z
        · rw [List.mem_singleton.mp z]; exact ⟨hf1, hf2⟩
      · by_cases hm0 : m = 0
        · refine ⟨i, hnm, fun q hq => ?_⟩
          have hms0 : ms = [] := List.eq_nil_of_length_eq_zero (by omega)
          rw [hms0] at hq
          obtain rfl := Option.some.inj hq
          exact hf3 hm0
        · obtain ⟨i', hi', hq'⟩ := hms.2.2
          refine ⟨i', hi', fun q hq => hq' q ?_⟩
          rw [List.getElem?_append_left (by omega)] at hq
          exact hq)
  rw [Nat.zero_add, length_rangeF] at hms
  rw [sq_nx (sFor_rt hcnt hl)]
  obtain ⟨w, hw, h2⟩ := hC digs k2 3 (by omega)
  have hq : tCmp eqR (eCall C "_law_draw" [eV 0, eC (.int 3)]) (eC (.int 0)) [.v (.p 0), .v (.d (.lst (names.map .str))), .own (found.map fun r => .d (encRow r)), .v (.d (.int i)), .own (ms.map fun m => .d (encM m)), y5, y6, y7, y8] (Bx digs k2) = .ok (decide (w = 0)) (Bx digs (k2 + 1)) :=
    tCmp_ok (eDraw rfl h2) eC_ok (by
      rw [vw_d, vw_d, eqR_d, eqD_left (by simp [D.dep]), eqv_int]
      by_cases hz : w = 0
      · simp [hz]
      · simp [hz])
  have hlen : ms.length ≤ 3 := by
    have := congrArg List.length hms.1
    simp [abc] at this; omega
  obtain ⟨ms2, hms2, hrow, h3⟩ : ∃ ms2 : List Mk, ms2.length ≤ 3 ∧ RowOk names nm (nm, ms2) ∧ sIf (tCmp eqR (eCall C "_law_draw" [eV 0, eC (.int 3)]) (eC (.int 0))) (sRev 4) sNil
      [.v (.p 0), .v (.d (.lst (names.map .str))), .own (found.map fun r => .d (encRow r)), .v (.d (.int i)), .own (ms.map fun m => .d (encM m)), y5, y6, y7, y8] (Bx digs k2) =
      .ok (.nx [.v (.p 0), .v (.d (.lst (names.map .str))), .own (found.map fun r => .d (encRow r)), .v (.d (.int i)), .own (ms2.map fun m => .d (encM m)), y5, y6, y7, y8]) (Bx digs (k2 + 1)) := by
    by_cases hz : w = 0
    · rw [decide_eq_true hz] at hq
      refine ⟨ms.reverse, by simpa using hlen, ⟨rfl, 1 + v, by omega, by omega, .inr (by simpa using hms)⟩, ?_⟩
      rw [sIf_t hq]
      simp [sRev]
    · rw [decide_eq_false hz] at hq
      refine ⟨ms, hlen, ⟨rfl, 1 + v, by omega, by omega, .inl hms⟩, ?_⟩
      rw [sIf_f hq]
      exact sNil_ok
  rw [sq_nx h3]
  have ht : eTup [eIdx (eV 1) (eV 3), eBi tupleR [eB 4]] [.v (.p 0), .v (.d (.lst (names.map .str))), .own (found.map fun r => .d (encRow r)), .v (.d (.int i)), .own (ms2.map fun m => .d (encM m)), y5, y6, y7, y8] (Bx digs (k2 + 1)) = .ok (.d (encRow (nm, ms2))) (Bx digs (k2 + 1)) := by
    have e2 : eIdx (eV 1) (eV 3) [.v (.p 0), .v (.d (.lst (names.map .str))), .own (found.map fun r => .d (encRow r)), .v (.d (.int i)), .own (ms2.map fun m => .d (encM m)), y5, y6, y7, y8] (Bx digs (k2 + 1)) = .ok (.d (.str nm)) (Bx digs (k2 + 1)) := by
      simp [eIdx, eOp, eV, vw_d, lift, hnm]
    have e3 : eBi tupleR [eB 4] [.v (.p 0), .v (.d (.lst (names.map .str))), .own (found.map fun r => .d (encRow r)), .v (.d (.int i)), .own (ms2.map fun m => .d (encM m)), y5, y6, y7, y8] (Bx digs (k2 + 1)) = .ok (.d (encMs ms2)) (Bx digs (k2 + 1)) := by
      simp [eBi, evs_cons, evs_nil, eB, mkL_map, vw_d, lift, encMs]
    unfold eTup
    rw [evs_cons, e2, bind_ok, evs_cons, e3, bind_ok, evs_nil, bind_ok, bind_ok, bind_ok]
    simp [encRow]
  refine ⟨k2 + 1, (nm, ms2), .own (ms2.map fun m => .d (encM m)), y5, y6, y7, y8, hrow, ?_⟩
  rw [sApp_ok rfl ht (by simp; omega)]
  simp only [List.set_cons_succ, List.set_cons_zero]
  simp
theorem types_spec (n : Nat) (digs : List Int) (k : Nat) : ∃ (T : Ty) (k' : Nat), GoodT T ∧ callN P (n + 2) "_law_types" [.p 0] (Bx digs k) = .ok (.d (encT T)) (Bx digs k') := by
  rw [callN_run (d := f_law_types) rfl rfl]
  have hC := draws n
  generalize callN P (n + 1) = C at hC ⊢
  obtain ⟨v, hv, h1⟩ := hC digs k 3 (by omega)
  have hnms : (eLst [eC (.str "L"), eC (.str "T"), eC (.str "Nat")]) [.v (.p 0), .un, .un, .un, .un, .un, .un, .un, .un] (Bx digs k) = .ok (.d (.lst (nms.map .str))) (Bx digs k) := by
    simp [eLst, evs_cons, evs_nil, eC, nms]
  have hnames : eSlc (eLst [eC (.str "L"), eC (.str "T"), eC (.str "Nat")]) oN (oE (eOp addR (eC (.int 1)) (eCall C "_law_draw" [eV 0, eC (.int 3)]))) [.v (.p 0), .un, .un, .un, .un, .un, .un, .un, .un] (Bx digs k) = .ok (.d (.lst ((nms.take (1 + v)).map .str))) (Bx digs (k + 1)) := by
    have e1 : eOp addR (eC (.int 1)) (eCall C "_law_draw" [eV 0, eC (.int 3)]) [.v (.p 0), .un, .un, .un, .un, .un, .un, .un, .un] (Bx digs k) = .ok (.d (.int ((1 + v : Nat) : Int))) (Bx digs (k + 1)) := eOp_ok eC_ok (eDraw rfl h1) (by rw [vw_d, vw_d, addR_int]; rfl)
    unfold eSlc oN oE
    rw [hnms, bind_ok, bind_ok, e1, bind_ok]
    show lift (slcR (vw (Bx digs (k + 1)) (.d (.lst (nms.map .str)))) none (some ((1 + v : Nat) : Int))) (Bx digs (k + 1)) = _
    rw [vw_d, slcR_lst, cut_take, ← List.map_take]
    rfl
  have hnl : (nms.take (1 + v)).length = 1 + v := by simp [nms]; omega
  obtain ⟨ρ', μ', ⟨k2, T, y3, y4, y5, y6, y7, y8, rfl, rfl, hT1, hT2⟩, hl⟩ := forL_invM (t := tgN 3) (b := (sq (sOwn 4 (eLst []))
    (sq (sFor (tgN 5) (iRange1 (eOp addR (eC (.int 1)) (eCall C "_law_draw" [eV 0, eC (.int 3)]))) (sq (sAs (tgN 6) (eOp addR (eLst [eC (.str "Int")]) (eV 1))) (sq (sIf (tCmp eqR (eV 5) (eC (.int 0))) (sAs (tgN 6) (eOp addR (eLst [eC (.str "Int")]) (eSlc (eV 1) oN (oE (eV 3))))) sNil)
    (sq (sAs (tgN 7) (eComp [8] (tgN 8) (iRange1 (eOp mulR (eCall C "_law_draw" [eV 0, eC (.int 3)]) (eBi intR [eOr (eT (tCmp gtR (eV 5) (eC (.int 0)))) (eT (tCmp eqR (eCall C "_law_draw" [eV 0, eC (.int 3)]) (eC (.int 0))))]))) tYes
      (eIdx (eV 6) (eOp modR (eBi intR [eCall C "_law_draw" [eV 0, eC (.int 90)]]) (eBi lenR [eV 6])))))
      (sApp 4 (eTup [eOp addR (eIdx (eLst [eC (.str "A"), eC (.str "B"), eC (.str "C")]) (eV 5)) (eIdx (eV 1) (eV 3)), eBi tupleR [eV 7]]))))))
      (sq (sIf (tCmp eqR (eCall C "_law_draw" [eV 0, eC (.int 3)]) (eC (.int 0))) (sRev 4) sNil)
        (sApp 2 (eTup [eIdx (eV 1) (eV 3), eBi tupleR [eB 4]]))))))
    (fun i ρ μ => ∃ (k2 : Nat) (T : Ty) (y3 y4 y5 y6 y7 y8 : Sl), ρ = [.v (.p 0), .v (.d (.lst ((nms.take (1 + v)).map .str))), .own (T.map fun r => .d (encRow r)), y3, y4, y5, y6, y7, y8] ∧ μ = Bx digs k2 ∧ T.length = i ∧
      ∀ (j : Nat) (row : String × List Mk), T[j]? = some row → ∃ nm, nms[j]? = some nm ∧ RowOk (nms.take (1 + v)) nm row)
    (xs := rangeF 0 (1 + v)) (k := 0) (ρ := [.v (.p 0), .v (.d (.lst ((nms.take (1 + v)).map .str))), .own [], .un, .un, .un, .un, .un, .un]) (μ := Bx digs (k + 1)) ⟨k + 1, [], _, _, _, _, _, _, rfl, rfl, rfl, by simp⟩ (by
      rintro i x ρ μ hx ⟨k2, T, y3, y4, y5, y6, y7, y8, rfl, rfl, hT1, hT2⟩
      have hi : i < 1 + v := by
        have := (List.getElem?_eq_some_iff.mp hx).1
        simpa using this
      rw [getElem_rangeF _ _ _ hi] at hx
      cases hx
      rw [Int.zero_add]
      rw [Nat.zero_add] at hT1 ⊢
      refine ⟨_, by simp only [tgN]; rfl, ?_⟩
      simp only [List.set_cons_succ, List.set_cons_zero]
      have hi3 : i < nms.length := by simp [nms]; omega
      have hnm : (nms.take (1 + v))[i]? = some nms[i] := by rw [List.getElem?_take_of_lt hi]; simp [hi3]
      obtain ⟨k3, row, z4, z5, z6, z7, z8, hrow, ht⟩ := row_turn hC digs k2 (nms.take (1 + v)) (by omega) T (by omega) i nms[i] hnm (List.getElem_mem hi3) y4 y5 y6 y7 y8
      refine ⟨_, _, ⟨k3, T ++ [row], .v (.d (.int i)), z4, z5, z6, z7, z8, rfl, rfl, by simp [hT1], ?_⟩, ht⟩
      intro j r hj
      by_cases hlt : j < T.length
      · rw [List.getElem?_append_left hlt] at hj; exact hT2 j r hj
      · rw [List.getElem?_append_right (by omega)] at hj
        have hj0 : j - T.length = 0 := by
          by_cases h0 : j - T.length = 0
          · exact h0
          · rw [List.getElem?_eq_none (by simp; omega)] at hj; cases hj
        rw [hj0] at hj
        cases hj
        have : j = i := by omega
        subst this
        exact ⟨nms[j], by simp [hi3], hrow⟩)
  rw [Nat.zero_add, length_rangeF] at hT1
  refine ⟨T, k2, ⟨1 + v, by omega, by omega, hT1, hT2⟩, runB_rt (μ' := Bx digs k2) ?_ rfl⟩
  simp only [f_law_types, List.map_cons, List.map_nil, List.length_cons, List.length_nil, Nat.reduceAdd, Nat.reduceSub, List.replicate_succ, List.replicate_zero, List.cons_append, List.nil_append]
  rw [sq_as hnames]
  simp only [List.set_cons_succ, List.set_cons_zero]
  rw [sq_nx (sOwn_lst (ds := []) (μ' := Bx digs (k + 1)) (by simp [eLst, evs_nil]))]
  simp only [List.set_cons_succ, List.set_cons_zero, List.map_nil]
  have hit : iRange1 (eBi lenR [eV 1]) [.v (.p 0), .v (.d (.lst ((nms.take (1 + v)).map .str))), .own [], .un, .un, .un, .un, .un, .un] (Bx digs (k + 1)) = .ok (rangeF 0 (1 + v)) (Bx digs (k + 1)) :=
    iRange1_nat (n := 1 + v) (eBi1_ok (eV_at rfl) (by rw [vw_d, lenR_lst, List.length_map, hnl])) (by omega)
  rw [sq_nx (sFor_rt hit hl)]
  exact sRet_ok (by simp [eBi, evs_cons, evs_nil, eB, mkL_map, vw_d, lift, encT])
end K06
end

section
set_option maxHeartbeats 0
set_option linter.all false
set_option maxRecDepth 100000
namespace K06
open Ev
/-! ### what holds of the drawn types -/
theorem abc_nodup : ∀ cnt, cnt ≤ 3 → ∀ nm ∈ nms, ((abc.take cnt).map fun a => a ++ nm).Nodup := by decide
theorem abc_inj : ∀ a ∈ abc, ∀ b ∈ abc, ∀ n ∈ nms, ∀ m ∈ nms, a ++ n = b ++ m → n = m := by decide
theorem abc_short : ∀ a ∈ abc, ∀ n ∈ nms, (a ++ n).length ≤ 8 := by decide
theorem nms_inj {i j : Nat} {n : String} (h1 : nms[i]? = some n) (h2 : nms[j]? = some n) : i = j := by
  have hn : nms.Nodup := by decide
  exact (List.getElem?_inj (List.getElem?_eq_some_iff.mp h1).1 hn).mp (by rw [h1, h2])
theorem MkOk.len {names : List String} {nm : String} {ms : List Mk} {cnt : Nat} (h : MkOk names nm ms cnt) (hc : cnt ≤ 3) : ms.length = cnt := by
  have := congrArg List.length h.1
  simp [abc] at this; omega
section
variable {names : List String} {nm : String} {row : String × List Mk}
theorem RowOk.len (h : RowOk names nm row) : 1 ≤ row.2.length ∧ row.2.length ≤ 3 := by
  obtain ⟨_, cnt, h1, h2, h3 | h3⟩ := h
  · have := h3.len h2; omega
  · have := h3.len h2; simp at this; omega
theorem RowOk.nodup (h : RowOk names nm row) (hn : nm ∈ nms) : (row.2.map fun m => m.1).Nodup := by
  obtain ⟨_, cnt, h1, h2, h3 | h3⟩ := h
  · rw [h3.1]; exact abc_nodup cnt h2 nm hn
  · have := abc_nodup cnt h2 nm hn
    rw [← h3.1, List.map_reverse] at this
    exact (List.reverse_perm _).nodup_iff.mp this
theorem RowOk.mem (h : RowOk names nm row) {m : Mk} (hm : m ∈ row.2) : (∃ a ∈ abc, m.1 = a ++ nm) ∧ m.2.length ≤ 2 ∧ ∀ f ∈ m.2, f ∈ "Int" :: names := by
  have key : ∀ {ms : List Mk} {cnt : Nat}, MkOk names nm ms cnt → m ∈ ms → (∃ a ∈ abc, m.1 = a ++ nm) ∧ m.2.length ≤ 2 ∧ ∀ f ∈ m.2, f ∈ "Int" :: names := fun {ms cnt} hk hmm => by
    refine ⟨?_, hk.2.1 m hmm⟩
    have : m.1 ∈ ms.map fun m => m.1 := List.mem_map.mpr ⟨m, hmm, rfl⟩
    rw [hk.1] at this
    obtain ⟨a, ha, e⟩ := List.mem_map.mp this
    exact ⟨a, List.mem_of_mem_take ha, e.symm⟩
  obtain ⟨_, cnt, h1, h2, h3 | h3⟩ := h
  · exact key h3 hm
  · exact key h3 (by simpa using hm)
end
section
variable {T : Ty}
theorem makers_row (g : GoodT T) {name : String} {row : String × List Mk} (h : T.find? (fun r => r.1 == name) = some row) : row.1 = name ∧ ∃ i : Nat, T[i]? = some row ∧ nms[i]? = some name ∧ RowOk (nms.take T.length) name row := by
  obtain ⟨kk, h1, h2, h3, h4⟩ := g
  have e := List.find?_some h
  have e : row.1 = name := by simpa using e
  obtain ⟨i, hi, hr⟩ := List.mem_iff_getElem.mp (List.mem_of_find?_eq_some h)
  have hi2 : T[i]? = some row := by rw [List.getElem?_eq_getElem hi, hr]
  obtain ⟨nm, hn, hro⟩ := h4 i row hi2
  have : nm = name := hro.1.symm.trans e
  subst this
  rw [h3]
  exact ⟨e, i, hi2, hn, hro⟩
theorem makersOf_le (g : GoodT T) (name : String) : (makersOf T name).length ≤ 3 := by
  unfold makersOf
  cases h : T.find? (fun r => r.1 == name) with
  | none => simp
  | some row =>
    obtain ⟨_, i, _, _, hr⟩ := makers_row g h
    exact hr.len.2
theorem namesOf_nodup (g : GoodT T) (name : String) : (namesOf T name).Nodup := by
  unfold namesOf makersOf
  cases h : T.find? (fun r => r.1 == name) with
  | none => simp
  | some row =>
    obtain ⟨_, i, _, hn, hr⟩ := makers_row g h
    exact hr.nodup (List.mem_of_getElem? hn)
theorem makersOf_pos (g : GoodT T) {i : Nat} {name : String} (hi : i < T.length) (hn : nms[i]? = some name) : makersOf T name ≠ [] := by
  obtain ⟨kk, h1, h2, h3, h4⟩ := g
  have hi2 : T[i]? = some T[i] := by simp [hi]
  obtain ⟨nm, hn2, hro⟩ := h4 i T[i] hi2
  rw [hn] at hn2
  cases hn2
  unfold makersOf
  cases h : T.find? (fun r => r.1 == name) with
  | none =>
    have := List.find?_eq_none.mp h T[i] (List.getElem_mem hi)
    simp [hro.1] at this
  | some row =>
    obtain ⟨_, j, _, _, hr⟩ := makers_row ⟨kk, h1, h2, h3, h4⟩ h
    have := hr.len.1
    intro z
    have z : row.2 = [] := z
    rw [z] at this; simp at this
/-- the names that may be asked for: Int, and the drawn types -/
def TyNm (T : Ty) (name : String) : Prop := name = "Int" ∨ ∃ i : Nat, i < T.length ∧ nms[i]? = some name
theorem maker_fields (g : GoodT T) {name : String} {m : Mk} (hm : m ∈ makersOf T name) : fieldsOf T m.1 = m.2 ∧ m.2.length ≤ 2 ∧ (∀ f ∈ m.2, TyNm T f) ∧ m.1.length ≤ 8 := by
  unfold makersOf at hm
  cases h : T.find? (fun r => r.1 == name) with
  | none => rw [h] at hm; simp at hm
  | some row =>
    rw [h] at hm
    have hm : m ∈ row.2 := hm
    obtain ⟨e, i, hi, hn, hr⟩ := makers_row g h
    obtain ⟨⟨a, ha, ea⟩, hl, hf⟩ := hr.mem hm
    have hnm := List.mem_of_getElem? hn
    refine ⟨?_, hl, fun f hff => ?_, by rw [ea]; exact abc_short a ha name hnm⟩
    · unfold fieldsOf
      have uniq : ∀ r ∈ T, (r.2.find? (fun q => q.1 == m.1)).isSome = true → r = row := fun r hr2 hs => by
        obtain ⟨q, hq⟩ := Option.isSome_iff_exists.mp hs
        have hq1 : q.1 = m.1 := by simpa using List.find?_some hq
        have hq2 := List.mem_of_find?_eq_some hq
        obtain ⟨j, hj, hrj⟩ := List.mem_iff_getElem.mp hr2
        have hj2 : T[j]? = some r := by rw [List.getElem?_eq_getElem hj, hrj]
        obtain ⟨kk, h1, h2, h3, h4⟩ := g
        obtain ⟨nm, hn2, hro⟩ := h4 j r hj2
        obtain ⟨⟨b, hb, eb⟩, _, _⟩ := hro.mem hq2
        have : nm = name := abc_inj b hb a ha nm (List.mem_of_getElem? hn2) name hnm (by rw [← eb, ← ea, hq1])
        subst this
        have : j = i := nms_inj hn2 hn
        subst this
        rw [hj2] at hi; exact Option.some.inj hi
      have hsome : (row.2.find? (fun q => q.1 == m.1)).isSome = true := by
        rw [List.find?_isSome]
        exact ⟨m, hm, by simp⟩
      cases hf2 : T.find? (fun r => (r.2.find? (fun q : Mk => q.1 == m.1)).isSome) with
      | none =>
        have := List.find?_eq_none.mp hf2 row (List.mem_of_getElem? hi)
        rw [hsome] at this; simp at this
      | some r =>
        have hr3 := uniq r (List.mem_of_find?_eq_some hf2) (by simpa using List.find?_some hf2)
        subst hr3
        show (match r.2.find? (fun q => q.1 == m.1) with
          | some m => m.2
          | none => []) = m.2
        cases hq : r.2.find? (fun q => q.1 == m.1) with
        | none => rw [hq] at hsome; cases hsome
        | some q =>
          have hq1 : q.1 = m.1 := by simpa using List.find?_some hq
          have hq2 := List.mem_of_find?_eq_some hq
          have hnd := hr.nodup hnm
          have : q = m := by
            obtain ⟨x, hx, ex⟩ := List.mem_iff_getElem.mp hq2
            obtain ⟨y, hy, ey⟩ := List.mem_iff_getElem.mp hm
            have : x = y := (List.getElem?_inj (l := r.2.map fun m => m.1) (by simpa using hx) hnd).mp (by simp [hx, hy, ex, ey, hq1])
            subst this
            rw [← ex, ← ey]
          rw [this]
    · rcases List.mem_cons.mp (hf f hff) with z | z
      · exact .inl z
      · obtain ⟨j, hj, ej⟩ := List.mem_iff_getElem.mp z
        refine .inr ⟨j, by simp at hj; omega, ?_⟩
        have : (nms.take T.length)[j]? = some f := by rw [List.getElem?_eq_getElem hj, ej]
        rwa [List.getElem?_take_of_lt (by simp at hj; omega)] at this
theorem fieldsOf_le (g : GoodT T) (c : String) : (fieldsOf T c).length ≤ 2 := by
  unfold fieldsOf
  cases h : T.find? (fun r => (r.2.find? (fun q : Mk => q.1 == c)).isSome) with
  | none => simp
  | some r =>
    show (match r.2.find? (fun q : Mk => q.1 == c) with
      | some m => m.2
      | none => []).length ≤ 2
    cases hq : r.2.find? (fun q : Mk => q.1 == c) with
    | none => simp
    | some m =>
      obtain ⟨j, hj, hrj⟩ := List.mem_iff_getElem.mp (List.mem_of_find?_eq_some h)
      obtain ⟨kk, h1, h2, h3, h4⟩ := g
      obtain ⟨nm, hn2, hro⟩ := h4 j r (by rw [List.getElem?_eq_getElem hj, hrj])
      exact (hro.mem (List.mem_of_find?_eq_some hq)).2.1
end
end K06
end

section
set_option maxHeartbeats 0
set_option linter.all false
set_option maxRecDepth 100000
namespace K06
open Ev
/-! ### drawn regions -/
/-- a region of the type name, at most d deep; nt only where fl -/
def Wr (fl : Bool) (T : Ty) : Nat → String → Rg → Prop
  | _, _, .any => True
  | _, name, .rng a b => name = "Int" ∧ -99 ≤ a ∧ a ≤ 99 ∧ -99 ≤ b ∧ b ≤ 99 ∧ a ≤ b
  | _, name, .nt l => fl = true ∧ name ≠ "Int" ∧ l.Nodup ∧ (∀ x ∈ l, x ∈ namesOf T name) ∧ l.length < (makersOf T name).length
  | 0, _, .mk _ _ => False
  | d + 1, name, .mk c ps => name ≠ "Int" ∧ ∃ fs, (c, fs) ∈ makersOf T name ∧ fs.length = ps.length ∧ ∀ (i : Nat) (f : String) (p : Rg), fs[i]? = some f → ps[i]? = some p → Wr fl T d f p
theorem Wr.any {fl : Bool} {T : Ty} {d : Nat} {name : String} : Wr fl T d name .any := by cases d <;> simp [Wr]
theorem ePickT {C : Fn} {ρ : Env} {digs : List Int} {k v : Nat} {i j : Nat} {pool : List D} (hb : ρ[i]? = some (.v (.p 0))) (hp : ρ[j]? = some (.v (.d (.tup pool)))) (h0 : 0 < pool.length) (h : C "_law_draw" [.p 0, .d (.int 90)] (Bx digs k) = .ok (.d (.int v)) (Bx digs (k + 1))) :
    ∃ (w : Nat) (d : D), w < pool.length ∧ pool[w]? = some d ∧ eIdx (eV j) (eOp modR (eBi intR [eCall C "_law_draw" [eV i, eC (.int 90)]]) (eBi lenR [eV j])) ρ (Bx digs k) = .ok (.d d) (Bx digs (k + 1)) := by
  have hw : v % pool.length < pool.length := Nat.mod_lt _ h0
  refine ⟨v % pool.length, pool[v % pool.length], hw, by simp [hw], ?_⟩
  unfold eIdx
  have e1 : eBi intR [eCall C "_law_draw" [eV i, eC (.int 90)]] ρ (Bx digs k) = .ok (.d (.int v)) (Bx digs (k + 1)) := eBi1_ok (eDraw hb h) rfl
  have e2 : eBi lenR [eV j] ρ (Bx digs (k + 1)) = .ok (.d (.int pool.length)) (Bx digs (k + 1)) := eBi1_ok (eV_at hp) rfl
  have e3 := eOp_ok (f := modR) e1 e2 (z := .d (.int ((v : Int) % (pool.length : Int)))) (modR_ok (by omega))
  refine eOp_ok (eV_at hp) e3 ?_
  rw [vw_d, vw_d, idxR_tup, show ((v : Int) % (pool.length : Int)) = ((v % pool.length : Nat) : Int) by omega, atI_cast]
  simp [hw]
theorem tCmp_eqi {a b : E} {ρ : Env} {μ μ1 μ2 : Mem} {x y : Nat} (ha : a ρ μ = .ok (.d (.int x)) μ1) (hb : b ρ μ1 = .ok (.d (.int y)) μ2) : tCmp eqR a b ρ μ = .ok (decide (x = y)) μ2 :=
  tCmp_ok ha hb (by
    rw [vw_d, vw_d, eqR_d, eqD_left (by simp [D.dep]), eqv_int]
    by_cases hz : x = y
    · simp [hz]
    · simp [hz]; omega)
theorem tCmp_eqs {a b : E} {ρ : Env} {μ μ1 μ2 : Mem} {x y : String} (ha : a ρ μ = .ok (.d (.str x)) μ1) (hb : b ρ μ1 = .ok (.d (.str y)) μ2) : tCmp eqR a b ρ μ = .ok (decide (x = y)) μ2 :=
  tCmp_ok ha hb (by
    rw [vw_d, vw_d, eqR_d, eqD_left (by simp [D.dep]), eqv_str]
    by_cases hz : x = y
    · simp [hz]
    · simp [hz])
theorem tOr_ok {a b : T} {ρ : Env} {μ μ1 μ2 : Mem} {x y : Bool} (ha : a ρ μ = .ok x μ1) (hb : x = false → b ρ μ1 = .ok y μ2) (hx : x = true → y = true ∧ μ2 = μ1) : tOr a b ρ μ = .ok (x || y) μ2 := by
  unfold tOr
  rw [ha, bind_ok]
  cases x with
  | true => obtain ⟨h1, h2⟩ := hx rfl; subst h1 h2; rfl
  | false => simpa using hb rfl
/-- the parts, each drawn -/
theorem parts_draw {C : Fn} {T : Ty} {fl : Bool} {d : Nat} {f : String} {elt : E} {slot : Nat} {ρ ρw : Env} {digs : List Int} {k : Nat} {it : It} (fs : List String) (hit : it ρ (Bx digs k) = .ok (fs.map fun x => .d (.str x)) (Bx digs k)) (hw : wipeE ρ [slot] = ρw) (hfs : fs.length ≤ 1000)
    (hel : ∀ (x : String) (k : Nat), x ∈ fs → ∃ (r : Rg) (k' : Nat), Wr fl T d x r ∧ elt (ρw.set slot (.v (.d (.str x)))) (Bx digs k) = .ok (.d (enc r)) (Bx digs k')) :
    ∃ (rs : List Rg) (k' : Nat), rs.length = fs.length ∧ (∀ (i : Nat) (g : String) (p : Rg), fs[i]? = some g → rs[i]? = some p → Wr fl T d g p) ∧ eComp [slot] (tgN slot) it tYes elt ρ (Bx digs k) = .ok (.d (.lst (encL rs))) (Bx digs k') := by
  obtain ⟨ys, μ', ⟨k2, rs, rfl, e2, e3, e4⟩, h3⟩ := compL_invM (t := tgN slot) (c := tYes) (e := elt) (ρ := ρw)
    (fun i acc μ => ∃ (k2 : Nat) (rs : List Rg), μ = Bx digs k2 ∧ acc = rs.map (fun r => .d (enc r)) ∧ rs.length = i ∧ ∀ (j : Nat) (g : String) (p : Rg), fs[j]? = some g → rs[j]? = some p → Wr fl T d g p)
    (xs := fs.map fun x => .d (.str x)) (k := 0) (acc := []) (μ := Bx digs k) ⟨k, [], rfl, rfl, rfl, by simp⟩ (by
      rintro i x acc μ hx ⟨k2, rs, rfl, rfl, hl, hf⟩
      rw [List.getElem?_map] at hx
      obtain ⟨g, hg, hx⟩ := Option.map_eq_some_iff.mp hx
      subst hx
      obtain ⟨r, k3, h1, h2⟩ := hel g k2 (List.mem_of_getElem? hg)
      refine ⟨_, by simp only [tgN], .inl ⟨Bx digs k2, .d (enc r), Bx digs k3, by simp [tYes], h2, k3, rs ++ [r], rfl, by simp, by simp [hl], ?_⟩⟩
      intro j g' p hj hp
      by_cases hlt : j < rs.length
      · rw [List.getElem?_append_left hlt] at hp; exact hf j g' p hj hp
      · rw [List.getElem?_append_right (by omega)] at hp
        have hj0 : j - rs.length = 0 := by
          by_cases h0 : j - rs.length = 0
          · exact h0
          · rw [List.getElem?_eq_none (by simp; omega)] at hp; cases hp
        rw [hj0] at hp
        cases hp
        have : j = i := by omega
        subst this
        rw [hg] at hj; cases hj
        exact h1)
  rw [List.nil_append] at e2
  subst e2
  rw [Nat.zero_add, List.length_map] at e3
  refine ⟨rs, k2, e3, e4, ?_⟩
  rw [eComp_ok hit (by rw [hw]; exact h3) (by simp; omega), mkL_map, encL_map]
/-- low, low + more: a range -/
theorem rng_tup {C : Fn} {ρ : Env} {digs : List Int} {k : Nat} {a b : Int} {i : Nat} {e : E} (h1 : eV i ρ (Bx digs k) = .ok (.d (.int a)) (Bx digs k)) (h2 : eOp addR (eV i) e ρ (Bx digs k) = .ok (.d (.int b)) (Bx digs (k + 1))) :
    eTup [eC (.str "range"), eV i, eOp addR (eV i) e] ρ (Bx digs k) = .ok (.d (enc (.rng a b))) (Bx digs (k + 1)) := by
  unfold eTup
  rw [evs_cons, eC_ok, bind_ok, evs_cons, h1, bind_ok, evs_cons, h2, bind_ok, evs_nil, bind_ok, bind_ok, bind_ok, bind_ok]
  simp [enc]
theorem mk_tup {ρ : Env} {μ μ' : Mem} {c : String} {rs : List Rg} {i : Nat} {e : E} (h1 : eV i ρ μ = .ok (.d (.str c)) μ) (h2 : e ρ μ = .ok (.d (.lst (encL rs))) μ') : eTup [eC (.str "make"), eV i, eBi tupleR [e]] ρ μ = .ok (.d (enc (.mk c rs))) μ' := by
  unfold eTup
  rw [evs_cons, eC_ok, bind_ok, evs_cons, h1, bind_ok, evs_cons, eBi1_ok (z := .d (.tup (encL rs))) h2 (by rw [vw_d, tupleR_lst]), bind_ok, evs_nil, bind_ok, bind_ok, bind_ok, bind_ok]
  simp [enc]
theorem simple_spec {T : Ty} (g : GoodT T) : ∀ (d n : Nat) (digs : List Int) (k : Nat) (name : String), TyNm T name → d + 2 ≤ n → ∃ (r : Rg) (k' : Nat), Wr false T d name r ∧ callN P n "_law_plain_simple" [.p 0, .d (encT T), .d (.str name), .d (.int d)] (Bx digs k) = .ok (.d (enc r)) (Bx digs k')
  | d, 0, _, _, _, _, h => by omega
  | d, 1, _, _, _, _, h => by omega
  | d, n + 2, digs, k, name, hty, hn => by
    have hrec : ∀ d', d = d' + 1 → ∀ (x : String) (k : Nat), TyNm T x → ∃ (r : Rg) (k' : Nat), Wr false T d' x r ∧ callN P (n + 1) "_law_plain_simple" [.p 0, .d (encT T), .d (.str x), .d (.int d')] (Bx digs k) = .ok (.d (enc r)) (Bx digs k') :=
      fun d' e x k hx => simple_spec g d' (n + 1) digs k x hx (by omega)
    rw [callN_run (d := f_law_plain_simple) rfl rfl]
    have hC := draws n
    have hmk := makers_spec n T name
    generalize callN P (n + 1) = C at hC hrec hmk ⊢
    -- the first test
    obtain ⟨b, k1, ht, hb⟩ : ∃ (b : Bool) (k1 : Nat), tOr (tCmp eqR (eV 3) (eC (.int 0))) (tCmp eqR (eCall C "_law_draw" [eV 0, eC (.int 3)]) (eC (.int 0))) [.v (.p 0), .v (.d (encT T)), .v (.d (.str name)), .v (.d (.int d)), .un, .un, .un, .un, .un] (Bx digs k) = .ok b (Bx digs k1) ∧ (b = false → d ≠ 0) := by
      have h0 : tCmp eqR (eV 3) (eC (.int 0)) [.v (.p 0), .v (.d (encT T)), .v (.d (.str name)), .v (.d (.int d)), .un, .un, .un, .un, .un] (Bx digs k) = .ok (decide (d = 0)) (Bx digs k) := tCmp_eqi (y := 0) (eV_at rfl) eC_ok
      by_cases hd : d = 0
      · rw [decide_eq_true hd] at h0
        exact ⟨true, k, by unfold tOr; rw [h0]; rfl, by simp⟩
      · rw [decide_eq_false hd] at h0
        obtain ⟨v, hv, h1⟩ := hC digs k 3 (by omega)
        refine ⟨decide (v = 0), k + 1, ?_, fun _ => hd⟩
        unfold tOr
        rw [h0, bind_ok]
        exact tCmp_eqi (y := 0) (eDraw rfl h1) eC_ok
    cases b with
    | true =>
      refine ⟨.any, k1, Wr.any, runB_rt ?_ rfl⟩
      simp only [f_law_plain_simple, List.map_cons, List.map_nil, List.length_cons, List.length_nil, Nat.reduceAdd, Nat.reduceSub, List.replicate_succ, List.replicate_zero, List.cons_append, List.nil_append]
      refine sq_rt ?_
      rw [sIf_t ht]
      exact sRet_ok (by simp [eTup, evs_cons, evs_nil, eC, enc])
    | false =>
      have hd := hb rfl
      obtain ⟨d', rfl⟩ : ∃ d', d = d' + 1 := ⟨d - 1, by omega⟩
      have hi : tCmp eqR (eV 2) (eC (.str "Int")) [.v (.p 0), .v (.d (encT T)), .v (.d (.str name)), .v (.d (.int ((d' + 1 : Nat) : Int))), .un, .un, .un, .un, .un] (Bx digs k1) = .ok (decide (name = "Int")) (Bx digs k1) := tCmp_eqs (eV_at rfl) eC_ok
      by_cases hint : name = "Int"
      · rw [decide_eq_true hint] at hi
        obtain ⟨v, hv, h1⟩ := hC digs k1 9 (by omega)
        obtain ⟨w, hw, h2⟩ := hC digs (k1 + 1) 4 (by omega)
        replace h1 : C "_law_draw" [.p 0, .d (.int 9)] (Bx digs k1) = .ok (.d (.int v)) (Bx digs (k1 + 1)) := h1
        replace h2 : C "_law_draw" [.p 0, .d (.int 4)] (Bx digs (k1 + 1)) = .ok (.d (.int w)) (Bx digs (k1 + 1 + 1)) := h2
        refine ⟨.rng ((v : Int) - 5) ((v : Int) - 5 + w), k1 + 1 + 1, by simp only [Wr]; exact ⟨hint, by omega, by omega, by omega, by omega, by omega⟩, runB_rt ?_ rfl⟩
        simp only [f_law_plain_simple, List.map_cons, List.map_nil, List.length_cons, List.length_nil, Nat.reduceAdd, Nat.reduceSub, List.replicate_succ, List.replicate_zero, List.cons_append, List.nil_append]
        rw [sq_if_f ht]
        refine sq_rt ?_
        rw [sIf_t hi]
        rw [sq_as (eOp_ok (z := .d (.int ((v : Int) - 5))) (eDraw rfl h1) eC_ok rfl)]
        simp only [List.set_cons_succ, List.set_cons_zero]
        exact sRet_ok (rng_tup (C := C) (eV_at rfl) (eOp_ok (eV_at rfl) (eDraw rfl h2) rfl))
      · rw [decide_eq_false hint] at hi
        have hpos : makersOf T name ≠ [] := by
          rcases hty with h | ⟨i, h1, h2⟩
          · exact absurd h hint
          · exact makersOf_pos g h1 h2
        have hm1 : eCall C "_law_makers" [eV 1, eV 2] [.v (.p 0), .v (.d (encT T)), .v (.d (.str name)), .v (.d (.int ((d' + 1 : Nat) : Int))), .un, .un, .un, .un, .un] (Bx digs k1) = .ok (.d (encMs (makersOf T name))) (Bx digs k1) := by simp [eCall, evs_cons, evs_nil, eV, hmk]
        obtain ⟨v, hv, h1⟩ := hC digs k1 90 (by omega)
        obtain ⟨w, q, hw, hq, hpick⟩ := ePickT (C := C) (ρ := [.v (.p 0), .v (.d (encT T)), .v (.d (.str name)), .v (.d (.int ((d' + 1 : Nat) : Int))), .un, .v (.d (encMs (makersOf T name))), .un, .un, .un]) (i := 0) (j := 5) (pool := (makersOf T name).map encM) rfl rfl (by simpa using List.length_pos_iff.mpr hpos) h1
        rw [List.getElem?_map] at hq
        obtain ⟨m, hm, hqm⟩ := Option.map_eq_some_iff.mp hq
        subst hqm
        have hmem := List.mem_of_getElem? hm
        obtain ⟨mf1, mf2, mf3, mf4⟩ := maker_fields g hmem
        obtain ⟨rs, k2, r1, r2, r3⟩ := parts_draw (C := C) (T := T) (fl := false) (d := d') (f := name) (elt := eCall C "_law_plain_simple" [eV 0, eV 1, eV 8, eOp subR (eV 3) (eC (.int 1))]) (slot := 8)
          (ρ := [.v (.p 0), .v (.d (encT T)), .v (.d (.str name)), .v (.d (.int ((d' + 1 : Nat) : Int))), .un, .v (.d (encMs (makersOf T name))), .v (.d (.str m.1)), .v (.d (encF m.2)), .un]) (digs := digs) (k := k1 + 1) (it := iE (eV 7)) m.2
          (by rw [iE_tup (μ' := Bx digs (k1 + 1)) (ds := m.2.map .str) (eV_at rfl), List.map_map]; rfl) rfl (by omega) (by
            intro x k hx
            obtain ⟨r, k', e1, e2⟩ := hrec d' rfl x k (mf3 x hx)
            refine ⟨r, k', e1, ?_⟩
            have hsub : eOp subR (eV 3) (eC (.int 1)) [.v (.p 0), .v (.d (encT T)), .v (.d (.str name)), .v (.d (.int ((d' + 1 : Nat) : Int))), .un, .v (.d (encMs (makersOf T name))), .v (.d (.str m.1)), .v (.d (encF m.2)), .v (.d (.str x))] (Bx digs k) = .ok (.d (.int d')) (Bx digs k) :=
              eOp_ok (eV_at rfl) eC_ok (by rw [vw_d, vw_d, subR_int]; congr 3; omega)
            simp only [wipeE, List.set_cons_succ, List.set_cons_zero]
            unfold eCall
            rw [evs_cons, eV_at rfl, bind_ok, evs_cons, eV_at rfl, bind_ok, evs_cons, eV_at rfl, bind_ok, evs_cons, hsub, bind_ok, evs_nil, bind_ok, bind_ok, bind_ok, bind_ok, bind_ok]
            exact e2)
        refine ⟨.mk m.1 rs, k2, ?_, runB_rt ?_ rfl⟩
        · simp only [Wr]
          exact ⟨hint, m.2, hmem, r1.symm, r2⟩
        · simp only [f_law_plain_simple, List.map_cons, List.map_nil, List.length_cons, List.length_nil, Nat.reduceAdd, Nat.reduceSub, List.replicate_succ, List.replicate_zero, List.cons_append, List.nil_append]
          rw [sq_if_f ht, sq_if_f hi, sq_as hm1]
          simp only [List.set_cons_succ, List.set_cons_zero]
          rw [sq_nx (sAs_gen hpick (by simp only [tgT, encM, tgs, tgN, List.map_cons, List.map_nil, Option.bind_some]; rfl))]
          simp only [List.set_cons_succ, List.set_cons_zero]
          exact sRet_ok (mk_tup (eV_at rfl) r3)
end K06
end

section
set_option maxHeartbeats 0
set_option linter.all false
set_option maxRecDepth 100000
namespace K06
open Ev
theorem tAnd_ok {a b : T} {ρ : Env} {μ μ1 : Mem} {x y : Bool} (ha : a ρ μ = .ok x μ1) (hb : b ρ μ1 = .ok y μ1) : tAnd a b ρ μ = .ok (x && y) μ1 := by
  unfold tAnd
  rw [ha, bind_ok]
  cases x with
  | true => simpa using hb
  | false => rfl
theorem tOr_pure {a b : T} {ρ : Env} {μ μ1 : Mem} {x y : Bool} (ha : a ρ μ = .ok x μ1) (hb : b ρ μ1 = .ok y μ1) : tOr a b ρ μ = .ok (x || y) μ1 := by
  unfold tOr
  rw [ha, bind_ok]
  cases x with
  | true => rfl
  | false => simpa using hb
theorem tCh_ok {f g : R → R → Option Bool} {a b c : E} {ρ : Env} {μ : Mem} {x y z : R} {k k2 : Bool} (ha : a ρ μ = .ok x μ) (hb : b ρ μ = .ok y μ) (hc : c ρ μ = .ok z μ) (hf : f (vw μ x) (vw μ y) = some k) (hg : g (vw μ y) (vw μ z) = some k2) : tCh f g a b c ρ μ = .ok (k && k2) μ := by
  unfold tCh
  rw [ha, bind_ok, hb, bind_ok, hf]
  cases k with
  | true => simp [lift, hc, hg]
  | false => rfl
/-- makers, some of them by draw -/
theorem left_draw {C : Fn} (hC : Draws C) {ρ ρw : Env} {digs : List Int} {k : Nat} {it : It} (ms : List (String × List String)) (hit : it ρ (Bx digs k) = .ok ((ms.map encM).map .d) (Bx digs k)) (hw : wipeE ρ [8, 9] = ρw) (hb : ρ[0]? = some (.v (.p 0))) (hlen : ρw.length = 11) (hb0 : ρw[0]? = some (.v (.p 0))) (hms : ms.length ≤ 1000) :
    ∃ (l : List String) (k' : Nat), l.Sublist (ms.map (·.1)) ∧ eComp [8, 9] (tgT [(tgN 8), (tgN 9)]) it (tCmp eqR (eCall C "_law_draw" [(eV 0), (eC (.int 2))]) (eC (.int 0))) (eV 8) ρ (Bx digs k) = .ok (.d (.lst (l.map .str))) (Bx digs k') := by
  obtain ⟨ys, μ', ⟨k2, l, rfl, e2, e3⟩, h3⟩ := compL_invM (t := tgT [(tgN 8), (tgN 9)]) (c := tCmp eqR (eCall C "_law_draw" [(eV 0), (eC (.int 2))]) (eC (.int 0))) (e := eV 8) (ρ := ρw)
    (fun i acc μ => ∃ (k2 : Nat) (l : List String), μ = Bx digs k2 ∧ acc = l.map (fun r => .d (.str r)) ∧ l.Sublist ((ms.take i).map (·.1)))
    (xs := (ms.map encM).map .d) (k := 0) (acc := []) (μ := Bx digs k) ⟨k, [], rfl, rfl, by simp⟩ (by
      rintro i x acc μ hx ⟨k2, l, rfl, rfl, hl⟩
      rw [List.getElem?_map, List.getElem?_map] at hx
      obtain ⟨g, hg, hx⟩ := Option.map_eq_some_iff.mp hx
      subst hx
      obtain ⟨m, hm, hg⟩ := Option.map_eq_some_iff.mp hg
      subst hg
      obtain ⟨v, hv, h1⟩ := hC digs k2 2 (by omega)
      have ht : (ms.take (0 + i + 1)).map (·.1) = (ms.take (0 + i)).map (·.1) ++ [m.1] := by
        rw [Nat.zero_add, List.take_add_one, hm]; simp
      refine ⟨(ρw.set 8 (.v (.d (.str m.1)))).set 9 (.v (.d (encF m.2))), by simp only [tgT, encM, tgs, tgN, List.map_cons, List.map_nil, Option.bind_some], ?_⟩
      have hc : tCmp eqR (eCall C "_law_draw" [(eV 0), (eC (.int 2))]) (eC (.int 0)) ((ρw.set 8 (.v (.d (.str m.1)))).set 9 (.v (.d (encF m.2)))) (Bx digs k2) = .ok (decide (v = 0)) (Bx digs (k2 + 1)) := tCmp_eqi (y := 0) (eDraw (by simp [hb0]) h1) eC_ok
      by_cases hv0 : v = 0
      · rw [decide_eq_true hv0] at hc
        exact .inl ⟨_, _, _, hc, eV_at (r := .d (.str m.1)) (by simp [hlen]), k2 + 1, l ++ [m.1], rfl, by simp, by rw [ht]; exact List.Sublist.append hl (List.Sublist.refl _)⟩
      · rw [decide_eq_false hv0] at hc
        exact .inr ⟨_, hc, k2 + 1, l, rfl, rfl, by rw [ht]; exact hl.trans (List.sublist_append_left _ _)⟩)
  rw [List.nil_append] at e2
  subst e2
  rw [Nat.zero_add, List.length_map, List.length_map, List.take_length] at e3
  refine ⟨l, k2, e3, ?_⟩
  have := e3.length_le
  rw [List.length_map] at this
  rw [eComp_ok hit (by rw [hw]; exact h3) (by simp; omega), mkL_map]
abbrev rgE (T : Ty) (name : String) (d : Nat) (kd : Nat) (x6 x7 x8 x9 : Sl) : Env := [.v (.p 0), .v (.d (encT T)), .v (.d (.str name)), .v (.d (.int d)), .v (.d (.int kd)), .un, x6, x7, x8, x9, .un]
/-- the last step: a maker, its parts drawn -/
theorem region_make {C : Fn} {T : Ty} (g : GoodT T) (hC : Draws C) {d' : Nat} {name : String} {kd : Nat} {x7 : Sl} {digs : List Int} {k1 : Nat}
    (hne : name ≠ "Int") (hpos : makersOf T name ≠ [])
    (hrec : ∀ (x : String) (k : Nat), TyNm T x → ∃ (r : Rg) (k' : Nat), Wr true T d' x r ∧ C "_law_region" [.p 0, .d (encT T), .d (.str x), .d (.int d')] (Bx digs k) = .ok (.d (enc r)) (Bx digs k')) :
    ∃ (r : Rg) (k' : Nat), Wr true T (d' + 1) name r ∧
      sq (sAs (tgT [(tgN 8), (tgN 9)]) (eIdx (eV 6) (eOp modR (eBi intR [(eCall C "_law_draw" [(eV 0), (eC (.int 90))])]) (eBi lenR [(eV 6)]))))
        (sRet (eTup [(eC (.str "make")), (eV 8), (eBi tupleR [(eComp [10] (tgN 10) (iE (eV 9)) tYes (eCall C "_law_region" [(eV 0), (eV 1), (eV 10), (eOp subR (eV 3) (eC (.int 1)))]))])]))
        (rgE T name (d' + 1) kd (.v (.d (encMs (makersOf T name)))) x7 .un .un) (Bx digs k1) = .ok (.rt (.d (enc r))) (Bx digs k') := by
  obtain ⟨v, hv, h1⟩ := hC digs k1 90 (by omega)
  obtain ⟨w, q, hw, hq, hpick⟩ := ePickT (C := C) (ρ := rgE T name (d' + 1) kd (.v (.d (encMs (makersOf T name)))) x7 .un .un) (i := 0) (j := 6) (pool := (makersOf T name).map encM) rfl rfl (by simpa using List.length_pos_iff.mpr hpos) h1
  rw [List.getElem?_map] at hq
  obtain ⟨m, hm, hqm⟩ := Option.map_eq_some_iff.mp hq
  subst hqm
  have hmem := List.mem_of_getElem? hm
  obtain ⟨mf1, mf2, mf3, mf4⟩ := maker_fields g hmem
  obtain ⟨rs, k2, r1, r2, r3⟩ := parts_draw (C := C) (T := T) (fl := true) (d := d') (f := name) (elt := eCall C "_law_region" [eV 0, eV 1, eV 10, eOp subR (eV 3) (eC (.int 1))]) (slot := 10)
    (ρ := rgE T name (d' + 1) kd (.v (.d (encMs (makersOf T name)))) x7 (.v (.d (.str m.1))) (.v (.d (encF m.2)))) (digs := digs) (k := k1 + 1) (it := iE (eV 9)) m.2
    (by rw [iE_tup (μ' := Bx digs (k1 + 1)) (ds := m.2.map .str) (eV_at rfl), List.map_map]; rfl) rfl (by omega) (by
      intro x k hx
      obtain ⟨r, k', e1, e2⟩ := hrec x k (mf3 x hx)
      refine ⟨r, k', e1, ?_⟩
      have hsub : eOp subR (eV 3) (eC (.int 1)) [.v (.p 0), .v (.d (encT T)), .v (.d (.str name)), .v (.d (.int ((d' + 1 : Nat) : Int))), .v (.d (.int kd)), .un, .v (.d (encMs (makersOf T name))), x7, .v (.d (.str m.1)), .v (.d (encF m.2)), .v (.d (.str x))] (Bx digs k) = .ok (.d (.int d')) (Bx digs k) :=
        eOp_ok (eV_at rfl) eC_ok (by rw [vw_d, vw_d, subR_int]; congr 3; omega)
      simp only [wipeE, rgE, List.set_cons_succ, List.set_cons_zero]
      unfold eCall
      rw [evs_cons, eV_at rfl, bind_ok, evs_cons, eV_at rfl, bind_ok, evs_cons, eV_at rfl, bind_ok, evs_cons, hsub, bind_ok, evs_nil, bind_ok, bind_ok, bind_ok, bind_ok, bind_ok]
      exact e2)
  refine ⟨.mk m.1 rs, k2, ?_, ?_⟩
  · simp only [Wr]
    exact ⟨hne, m.2, hmem, r1.symm, r2⟩
  · rw [sq_nx (sAs_gen hpick (by simp only [rgE, tgT, encM, tgs, tgN, List.map_cons, List.map_nil, Option.bind_some]; rfl))]
    simp only [rgE, List.set_cons_succ, List.set_cons_zero]
    exact sRet_ok (mk_tup (eV_at rfl) r3)
theorem region_spec {T : Ty} (g : GoodT T) : ∀ (d n : Nat) (digs : List Int) (k : Nat) (name : String), TyNm T name → d + 2 ≤ n → ∃ (r : Rg) (k' : Nat), Wr true T d name r ∧ callN P n "_law_region" [.p 0, .d (encT T), .d (.str name), .d (.int d)] (Bx digs k) = .ok (.d (enc r)) (Bx digs k')
  | d, 0, _, _, _, _, h => by omega
  | d, 1, _, _, _, _, h => by omega
  | d, n + 2, digs, k, name, hty, hn => by
    have hrec : ∀ d', d = d' + 1 → ∀ (x : String) (k : Nat), TyNm T x → ∃ (r : Rg) (k' : Nat), Wr true T d' x r ∧ callN P (n + 1) "_law_region" [.p 0, .d (encT T), .d (.str x), .d (.int d')] (Bx digs k) = .ok (.d (enc r)) (Bx digs k') :=
      fun d' e x k hx => region_spec g d' (n + 1) digs k x hx (by omega)
    rw [callN_run (d := f_law_region) rfl rfl]
    have hC := draws n
    have hmk := makers_spec n T name
    generalize callN P (n + 1) = C at hC hrec hmk ⊢
    obtain ⟨kd, hkd, h0⟩ := hC digs k 4 (by omega)
    replace h0 : C "_law_draw" [.p 0, .d (.int 4)] (Bx digs k) = .ok (.d (.int kd)) (Bx digs (k + 1)) := h0
    -- the first test
    have ht : tOr (tCmp eqR (eV 4) (eC (.int 0))) (tCmp eqR (eV 3) (eC (.int 0))) (rgE T name d kd .un .un .un .un) (Bx digs (k + 1)) = .ok (decide (kd = 0) || decide (d = 0)) (Bx digs (k + 1)) :=
      tOr_pure (tCmp_eqi (y := 0) (eV_at rfl) eC_ok) (tCmp_eqi (y := 0) (eV_at rfl) eC_ok)
    have hk : sAs (tgN 4) (eCall C "_law_draw" [(eV 0), (eC (.int 4))]) [.v (.p 0), .v (.d (encT T)), .v (.d (.str name)), .v (.d (.int d)), .un, .un, .un, .un, .un, .un, .un] (Bx digs k) = .ok (.nx (rgE T name d kd .un .un .un .un)) (Bx digs (k + 1)) := sAs_ok (eDraw rfl h0)
    by_cases hz : kd = 0 ∨ d = 0
    · rw [show (decide (kd = 0) || decide (d = 0)) = true by simpa using hz] at ht
      refine ⟨.any, k + 1, Wr.any, runB_rt ?_ rfl⟩
      simp only [f_law_region, List.map_cons, List.map_nil, List.length_cons, List.length_nil, Nat.reduceAdd, Nat.reduceSub, List.replicate_succ, List.replicate_zero, List.cons_append, List.nil_append]
      rw [sq_nx hk]
      refine sq_rt ?_
      rw [sIf_t ht]
      exact sRet_ok (by simp [eTup, evs_cons, evs_nil, eC, enc])
    · rw [show (decide (kd = 0) || decide (d = 0)) = false by simpa using hz] at ht
      obtain ⟨d', rfl⟩ : ∃ d', d = d' + 1 := ⟨d - 1, by omega⟩
      have hi : tCmp eqR (eV 2) (eC (.str "Int")) (rgE T name (d' + 1) kd .un .un .un .un) (Bx digs (k + 1)) = .ok (decide (name = "Int")) (Bx digs (k + 1)) := tCmp_eqs (eV_at rfl) eC_ok
      by_cases hint : name = "Int"
      · rw [decide_eq_true hint] at hi
        obtain ⟨v, hv, h1⟩ := hC digs (k + 1) 9 (by omega)
        obtain ⟨w, hw, h2⟩ := hC digs (k + 1 + 1) 7 (by omega)
        replace h1 : C "_law_draw" [.p 0, .d (.int 9)] (Bx digs (k + 1)) = .ok (.d (.int v)) (Bx digs (k + 1 + 1)) := h1
        replace h2 : C "_law_draw" [.p 0, .d (.int 7)] (Bx digs (k + 1 + 1)) = .ok (.d (.int w)) (Bx digs (k + 1 + 1 + 1)) := h2
        refine ⟨.rng ((v : Int) - 5) ((v : Int) - 5 + w), k + 1 + 1 + 1, by simp only [Wr]; exact ⟨hint, by omega, by omega, by omega, by omega, by omega⟩, runB_rt ?_ rfl⟩
        simp only [f_law_region, List.map_cons, List.map_nil, List.length_cons, List.length_nil, Nat.reduceAdd, Nat.reduceSub, List.replicate_succ, List.replicate_zero, List.cons_append, List.nil_append]
        rw [sq_nx hk, sq_if_f ht]
        refine sq_rt ?_
        rw [sIf_t hi]
        rw [sq_as (eOp_ok (z := .d (.int ((v : Int) - 5))) (eDraw rfl h1) eC_ok rfl)]
        simp only [rgE, List.set_cons_succ, List.set_cons_zero]
        exact sRet_ok (rng_tup (C := C) (eV_at rfl) (eOp_ok (eV_at rfl) (eDraw rfl h2) rfl))
      · rw [decide_eq_false hint] at hi
        have hpos : makersOf T name ≠ [] := by
          rcases hty with h | ⟨i, h1, h2⟩
          · exact absurd h hint
          · exact makersOf_pos g h1 h2
        have hm3 := makersOf_le g name
        have hm1 : eCall C "_law_makers" [eV 1, eV 2] (rgE T name (d' + 1) kd .un .un .un .un) (Bx digs (k + 1)) = .ok (.d (encMs (makersOf T name))) (Bx digs (k + 1)) := by simp [rgE, eCall, evs_cons, evs_nil, eV, hmk]
        have hs : sAs (tgN 6) (eCall C "_law_makers" [eV 1, eV 2]) (rgE T name (d' + 1) kd .un .un .un .un) (Bx digs (k + 1)) = .ok (.nx (rgE T name (d' + 1) kd (.v (.d (encMs (makersOf T name)))) .un .un .un)) (Bx digs (k + 1)) := sAs_ok hm1
        have hlen : eBi lenR [eV 6] (rgE T name (d' + 1) kd (.v (.d (encMs (makersOf T name)))) .un .un .un) (Bx digs (k + 1)) = .ok (.d (.int (makersOf T name).length)) (Bx digs (k + 1)) :=
          eBi1_ok (eV_at rfl) (by rw [vw_d]; simp [encMs])
        have ht2 : tAnd (tCmp eqR (eV 4) (eC (.int 1))) (tCmp gtR (eBi lenR [(eV 6)]) (eC (.int 1))) (rgE T name (d' + 1) kd (.v (.d (encMs (makersOf T name)))) .un .un .un) (Bx digs (k + 1)) = .ok (decide (kd = 1) && decide ((1 : Int) < (makersOf T name).length)) (Bx digs (k + 1)) :=
          tAnd_ok (tCmp_eqi (y := 1) (eV_at rfl) eC_ok) (tCmp_ok hlen eC_ok (by rw [vw_d, vw_d, gtR_int]))
        cases hb : (decide (kd = 1) && decide ((1 : Int) < (makersOf T name).length)) with
        | false =>
          rw [hb] at ht2
          obtain ⟨r, k', e1, e2⟩ := region_make g hC (x7 := .un) (kd := kd) (digs := digs) (k1 := k + 1) hint hpos (hrec d' rfl)
          refine ⟨r, k', e1, runB_rt ?_ rfl⟩
          simp only [f_law_region, List.map_cons, List.map_nil, List.length_cons, List.length_nil, Nat.reduceAdd, Nat.reduceSub, List.replicate_succ, List.replicate_zero, List.cons_append, List.nil_append]
          rw [sq_nx hk, sq_if_f ht, sq_if_f hi, sq_nx hs, sq_if_f ht2]
          exact e2
        | true =>
          rw [hb] at ht2
          obtain ⟨l, k2, l1, l2⟩ := left_draw hC (ρ := rgE T name (d' + 1) kd (.v (.d (encMs (makersOf T name)))) .un .un .un) (digs := digs) (k := k + 1) (it := iE (eV 6)) (makersOf T name) (iE_tup (eV_at rfl)) rfl rfl rfl rfl (by omega)
          have hl2 : sAs (tgN 7) (eComp [8, 9] (tgT [(tgN 8), (tgN 9)]) (iE (eV 6)) (tCmp eqR (eCall C "_law_draw" [(eV 0), (eC (.int 2))]) (eC (.int 0))) (eV 8)) (rgE T name (d' + 1) kd (.v (.d (encMs (makersOf T name)))) .un .un .un) (Bx digs (k + 1)) = .ok (.nx (rgE T name (d' + 1) kd (.v (.d (encMs (makersOf T name)))) (.v (.d (.lst (l.map .str)))) .un .un)) (Bx digs k2) := sAs_ok l2
          have ht3 : tCh ltR ltR (eC (.int 0)) (eBi lenR [(eV 7)]) (eBi lenR [(eV 6)]) (rgE T name (d' + 1) kd (.v (.d (encMs (makersOf T name)))) (.v (.d (.lst (l.map .str)))) .un .un) (Bx digs k2) = .ok (decide ((0 : Int) < l.length) && decide ((l.length : Int) < (makersOf T name).length)) (Bx digs k2) :=
            tCh_ok (y := .d (.int l.length)) eC_ok (eBi1_ok (eV_at rfl) (by rw [vw_d]; simp)) (eBi1_ok (z := .d (.int (makersOf T name).length)) (eV_at rfl) (by rw [vw_d]; simp [encMs])) (by rw [vw_d, vw_d, ltR_int]) (by rw [vw_d, vw_d, ltR_int])
          cases hb2 : (decide ((0 : Int) < l.length) && decide ((l.length : Int) < (makersOf T name).length)) with
          | true =>
            rw [hb2] at ht3
            refine ⟨.nt l, k2, ?_, runB_rt ?_ rfl⟩
            · simp only [Wr]
              exact ⟨trivial, hint, (namesOf_nodup g name).sublist l1, fun x hx => l1.subset hx, by rw [Bool.and_eq_true, decide_eq_true_eq, decide_eq_true_eq] at hb2; omega⟩
            · simp only [f_law_region, List.map_cons, List.map_nil, List.length_cons, List.length_nil, Nat.reduceAdd, Nat.reduceSub, List.replicate_succ, List.replicate_zero, List.cons_append, List.nil_append]
              rw [sq_nx hk, sq_if_f ht, sq_if_f hi, sq_nx hs]
              refine sq_rt ?_
              rw [sIf_t ht2, sq_nx hl2, sIf_t ht3]
              refine sRet_ok ?_
              unfold eTup
              rw [evs_cons, eC_ok, bind_ok, evs_cons, eBi1_ok (z := .d (.tup (l.map .str))) (eV_at rfl) (by rw [vw_d, tupleR_lst]), bind_ok, evs_nil, bind_ok, bind_ok, bind_ok]
              simp [enc]
          | false =>
            rw [hb2] at ht3
            obtain ⟨r, k', e1, e2⟩ := region_make g hC (x7 := .v (.d (.lst (l.map .str)))) (kd := kd) (digs := digs) (k1 := k2) hint hpos (hrec d' rfl)
            refine ⟨r, k', e1, runB_rt ?_ rfl⟩
            simp only [f_law_region, List.map_cons, List.map_nil, List.length_cons, List.length_nil, Nat.reduceAdd, Nat.reduceSub, List.replicate_succ, List.replicate_zero, List.cons_append, List.nil_append]
            rw [sq_nx hk, sq_if_f ht, sq_if_f hi, sq_nx hs]
            rw [sq_nx (by rw [sIf_t ht2, sq_nx hl2, sIf_f ht3]; exact sNil_ok)]
            exact e2
end K06
end

section
set_option maxHeartbeats 0
set_option linter.all false
set_option maxRecDepth 100000
namespace K06
open Ev
/-! ### drawn regions fit -/
section
variable {fl : Bool} {T : Ty} {d : Nat} {name : String}
theorem Wr.rng2 {a b : Int} (h : Wr fl T d name (.rng a b)) : name = "Int" ∧ -99 ≤ a ∧ a ≤ 99 ∧ -99 ≤ b ∧ b ≤ 99 ∧ a ≤ b := by cases d <;> simpa only [Wr] using h
theorem Wr.rng {a b : Int} (h : Wr fl T d name (.rng a b)) : name = "Int" ∧ -99 ≤ a ∧ a ≤ 99 ∧ -99 ≤ b ∧ b ≤ 99 := let ⟨h1, h2, h3, h4, h5, _⟩ := h.rng2; ⟨h1, h2, h3, h4, h5⟩
theorem Wr.nt2 {l : List String} (h : Wr fl T d name (.nt l)) : fl = true ∧ name ≠ "Int" ∧ l.Nodup ∧ (∀ x ∈ l, x ∈ namesOf T name) ∧ l.length < (makersOf T name).length := by cases d <;> simpa only [Wr] using h
theorem Wr.nt {l : List String} (h : Wr fl T d name (.nt l)) : fl = true ∧ name ≠ "Int" ∧ l.Nodup ∧ ∀ x ∈ l, x ∈ namesOf T name := ⟨h.nt2.1, h.nt2.2.1, h.nt2.2.2.1, h.nt2.2.2.2.1⟩
theorem Wr.mk {c : String} {ps : List Rg} (h : Wr fl T d name (.mk c ps)) : ∃ d', d = d' + 1 ∧ name ≠ "Int" ∧ ∃ fs, (c, fs) ∈ makersOf T name ∧ fs.length = ps.length ∧ ∀ (i : Nat) (f : String) (p : Rg), fs[i]? = some f → ps[i]? = some p → Wr fl T d' f p := by
  cases d with
  | zero => simp only [Wr] at h
  | succ d' => exact ⟨d', rfl, by simpa only [Wr] using h⟩
end
theorem AlL_get : ∀ {ps qs : List Rg}, ps.length = qs.length → (∀ (i : Nat) (p q : Rg), ps[i]? = some p → qs[i]? = some q → Al p q) → AlL ps qs
  | [], [], _, _ => by simp only [AlL]
  | [], _ :: _, h, _ => by simp at h
  | _ :: _, [], h, _ => by simp at h
  | p :: ps, q :: qs, h, f => by
    simp only [AlL]
    exact ⟨f 0 p q rfl rfl, AlL_get (by simpa using h) fun i p q h1 h2 => f (i + 1) p q (by simpa using h1) (by simpa using h2)⟩
theorem RTL_get {T : Ty} : ∀ {ns : List String} {ps qs : List Rg}, ns.length = ps.length → ps.length = qs.length → (∀ (i : Nat) (n : String) (p q : Rg), ns[i]? = some n → ps[i]? = some p → qs[i]? = some q → RT T n p q ∧ Al p q) → RTL T ns ps qs
  | [], [], [], _, _, _ => by simp only [RTL]
  | [], _ :: _, _, h, _, _ => by simp at h
  | _ :: _, [], _, h, _, _ => by simp at h
  | _, [], _ :: _, _, h, _ => by simp at h
  | _, _ :: _, [], _, h, _ => by simp at h
  | n :: ns, p :: ps, q :: qs, h1, h2, f => by
    simp only [RTL]
    obtain ⟨a, b⟩ := f 0 n p q rfl rfl rfl
    exact ⟨a, b, RTL_get (by simpa using h1) (by simpa using h2) fun i n p q h1 h2 h3 => f (i + 1) n p q (by simpa using h1) (by simpa using h2) (by simpa using h3)⟩
theorem same_fields {T : Ty} (g : GoodT T) {name : String} {c : String} {fs gs : List String} (h1 : (c, fs) ∈ makersOf T name) (h2 : (c, gs) ∈ makersOf T name) : fs = gs := by
  have a := (maker_fields g h1).1
  have b := (maker_fields g h2).1
  exact a.symm.trans b
theorem Wr.al {T : Ty} (g : GoodT T) : ∀ {d d2 : Nat} {name : String} {r s : Rg}, Wr true T d name r → Wr false T d2 name s → Al r s
  | d, d2, name, r, .any, _, _ => by cases r <;> simp only [Al]
  | d, d2, name, r, .nt l, _, h2 => by have := h2.nt.1; simp at this
  | d, d2, name, .any, .rng _ _, _, _ => by simp only [Al]
  | d, d2, name, .rng _ _, .rng _ _, _, _ => by simp only [Al]
  | d, d2, name, .nt _, .rng _ _, h1, h2 => absurd h2.rng.1 h1.nt.2.1
  | d, d2, name, .mk _ _, .rng _ _, h1, h2 => by obtain ⟨_, _, h, _⟩ := h1.mk; exact absurd h2.rng.1 h
  | d, d2, name, .any, .mk _ _, _, _ => by simp only [Al]
  | d, d2, name, .rng _ _, .mk _ _, h1, h2 => by obtain ⟨_, _, h, _⟩ := h2.mk; exact absurd h1.rng.1 h
  | d, d2, name, .nt _, .mk _ _, _, _ => by simp only [Al]
  | d, d2, name, .mk c ps, .mk c' qs, h1, h2 => by
    simp only [Al]
    intro hc; subst hc
    obtain ⟨d', rfl, _, fs, m1, l1, f1⟩ := h1.mk
    obtain ⟨d2', rfl, _, gs, m2, l2, f2⟩ := h2.mk
    obtain rfl := same_fields g m1 m2
    have := (maker_fields g m1).2.1
    simp only at this
    refine ⟨by omega, AlL_get (by omega) fun i p q hp hq => ?_⟩
    have hi := (List.getElem?_eq_some_iff.mp hp).1
    have hf : fs[i]? = some fs[i] := by simp
    exact Wr.al g (f1 i _ p hf hp) (f2 i _ q hf hq)
theorem Wr.rt {T : Ty} (g : GoodT T) : ∀ {d d2 : Nat} {name : String} {r s : Rg}, Wr true T d name r → Wr false T d2 name s → RT T name r s
  | d, d2, name, r, .any, _, _ => by cases r <;> simp only [RT]
  | d, d2, name, r, .nt l, _, h2 => by have := h2.nt.1; simp at this
  | d, d2, name, .any, .rng _ _, _, _ => by simp only [RT]
  | d, d2, name, .rng _ _, .rng _ _, _, _ => by simp only [RT]
  | d, d2, name, .nt _, .rng _ _, h1, h2 => absurd h2.rng.1 h1.nt.2.1
  | d, d2, name, .mk _ _, .rng _ _, h1, h2 => by obtain ⟨_, _, h, _⟩ := h1.mk; exact absurd h2.rng.1 h
  | d, d2, name, .any, .mk c qs, _, h2 => by
    obtain ⟨d2', rfl, _, gs, m2, l2, f2⟩ := h2.mk
    obtain ⟨e1, e2, e3, e4⟩ := maker_fields g m2
    simp only at e1 e2 e3 e4
    simp only [RT]
    refine ⟨List.mem_map.mpr ⟨_, m2, rfl⟩, namesOf_nodup g name, by omega, by rw [e1]; exact l2, ?_⟩
    rw [e1]
    refine RTL_get (by simpa using l2) (by simp) fun i n p q h1 h2 h3 => ?_
    rw [List.getElem?_map] at h2
    obtain ⟨_, _, rfl⟩ := Option.map_eq_some_iff.mp h2
    exact ⟨Wr.rt g (d := 0) Wr.any (f2 i n q h1 h3), Wr.al g (d := 0) Wr.any (f2 i n q h1 h3)⟩
  | d, d2, name, .rng _ _, .mk _ _, h1, h2 => by obtain ⟨_, _, h, _⟩ := h2.mk; exact absurd h1.rng.1 h
  | d, d2, name, .nt l, .mk c qs, h1, h2 => by
    obtain ⟨d2', rfl, _, gs, m2, l2, f2⟩ := h2.mk
    obtain ⟨e1, e2, e3, e4⟩ := maker_fields g m2
    obtain ⟨_, _, n1, n2⟩ := h1.nt
    simp only at e1 e2 e3 e4
    have hl : l.length ≤ (namesOf T name).length := n1.length_le_of_subset n2
    have := makersOf_le g name
    have hn : (namesOf T name).length = (makersOf T name).length := by simp [namesOf]
    simp only [RT]
    refine ⟨List.mem_map.mpr ⟨_, m2, rfl⟩, namesOf_nodup g name, by omega, by rw [e1]; exact l2, n1, by omega, n2, ?_⟩
    rw [e1]
    refine RTL_get (by simpa using l2) (by simp) fun i n p q h1 h2 h3 => ?_
    rw [List.getElem?_map] at h2
    obtain ⟨_, _, rfl⟩ := Option.map_eq_some_iff.mp h2
    exact ⟨Wr.rt g (d := 0) Wr.any (f2 i n q h1 h3), Wr.al g (d := 0) Wr.any (f2 i n q h1 h3)⟩
  | d, d2, name, .mk c' ps, .mk c qs, h1, h2 => by
    simp only [RT]
    intro hc; subst hc
    obtain ⟨d', rfl, _, fs, m1, l1, f1⟩ := h1.mk
    obtain ⟨d2', rfl, _, gs, m2, l2, f2⟩ := h2.mk
    obtain rfl := same_fields g m1 m2
    obtain ⟨e1, e2, e3, e4⟩ := maker_fields g m2
    simp only at e1 e2 e3 e4
    refine ⟨by omega, ?_⟩
    rw [e1]
    exact RTL_get l1 (by omega) fun i n p q h1 h2 h3 => ⟨Wr.rt g (f1 i n p h1 h2) (f2 i n q h1 h3), Wr.al g (f1 i n p h1 h2) (f2 i n q h1 h3)⟩
termination_by d d2 => d2
end K06
end

section
set_option maxHeartbeats 0
set_option linter.all false
set_option maxRecDepth 100000
namespace K06
open Ev
/-! ### how large the answers grow -/
/-- short words, small numbers, at most two parts, at most d deep -/
def Bd (B : Int) : Nat → Rg → Prop
  | _, .any => True
  | _, .rng a b => -B ≤ a ∧ a ≤ B ∧ -B ≤ b ∧ b ≤ B
  | _, .nt l => l.length ≤ 3 ∧ ∀ x ∈ l, x.length ≤ 8
  | 0, .mk _ _ => False
  | d + 1, .mk c ps => c.length ≤ 8 ∧ ps.length ≤ 2 ∧ ∀ p ∈ ps, Bd B d p
section
variable {B : Int} {d : Nat}
theorem Bd.any : Bd B d .any := by cases d <;> simp only [Bd]
theorem Bd_rng {a b : Int} : Bd B d (.rng a b) ↔ -B ≤ a ∧ a ≤ B ∧ -B ≤ b ∧ b ≤ B := by cases d <;> simp only [Bd]
theorem Bd_nt {l : List String} : Bd B d (.nt l) ↔ l.length ≤ 3 ∧ ∀ x ∈ l, x.length ≤ 8 := by cases d <;> simp only [Bd]
theorem Bd_mk {c : String} {ps : List Rg} : Bd B d (.mk c ps) ↔ ∃ d', d = d' + 1 ∧ c.length ≤ 8 ∧ ps.length ≤ 2 ∧ ∀ p ∈ ps, Bd B d' p := by
  cases d with
  | zero => simp only [Bd]; exact ⟨fun h => h.elim, fun ⟨_, h, _⟩ => by omega⟩
  | succ d' => simp only [Bd]; exact ⟨fun h => ⟨d', rfl, h⟩, fun ⟨_, h, h2⟩ => by cases h; exact h2⟩
end
theorem Bd.mono {B B' : Int} (hB : B ≤ B') : ∀ {d : Nat} {r : Rg}, Bd B d r → Bd B' d r
  | _, .any, _ => Bd.any
  | _, .rng _ _, h => by rw [Bd_rng] at h ⊢; omega
  | _, .nt _, h => by rw [Bd_nt] at h ⊢; exact h
  | d, .mk c ps, h => by
    rw [Bd_mk] at h ⊢
    obtain ⟨d', rfl, h1, h2, h3⟩ := h
    exact ⟨d', rfl, h1, h2, fun p hp => Bd.mono hB (h3 p hp)⟩
def Kc : Nat → Nat
  | 0 => 400
  | d + 1 => 400 + 2 * (Kc d + 2)
theorem costL_le {K : Nat} : ∀ {ds : List D}, (∀ x ∈ ds, x.cost ≤ K) → D.costL ds ≤ ds.length * (K + 2)
  | [], _ => by simp [D.costL]
  | d :: ds, h => by
    have h1 := h d (by simp)
    have h2 := costL_le (fun x hx => h x (List.mem_cons_of_mem _ hx))
    rw [D.costL, List.length_cons, Nat.succ_mul]; omega
theorem depL_le {K : Nat} : ∀ {ds : List D}, (∀ x ∈ ds, x.dep ≤ K) → D.depL ds ≤ K
  | [], _ => by simp [D.depL]
  | d :: ds, h => by
    have h1 := h d (by simp)
    have h2 := depL_le (fun x hx => h x (List.mem_cons_of_mem _ hx))
    rw [D.depL]; omega
theorem Kc_ge (d : Nat) : 400 ≤ Kc d := by cases d <;> simp [Kc]; 
theorem Bd.cost {B : Int} (hB : B ≤ 100000) : ∀ {d : Nat} {r : Rg}, Bd B d r → (enc r).cost ≤ Kc d
  | d, .any, _ => by have := Kc_ge d; simp [enc, D.cost, D.costL, String.length]; omega
  | d, .rng a b, h => by
    have := Kc_ge d
    rw [Bd_rng] at h
    have ha : a.natAbs < 1000000000000 := by omega
    have hb : b.natAbs < 1000000000000 := by omega
    simp only [enc, D.cost, D.costL, if_pos ha, if_pos hb, show ("range" : String).length = 5 from rfl]; omega
  | d, .nt l, h => by
    have := Kc_ge d
    rw [Bd_nt] at h
    have hc : D.costL (l.map .str) ≤ (l.map D.str).length * (82 + 2) := costL_le (by
      intro x hx
      obtain ⟨y, hy, rfl⟩ := List.mem_map.mp hx
      have := h.2 y hy
      rw [D.cost]; omega)
    rw [List.length_map] at hc
    have h1 := h.1
    simp only [enc, D.cost, D.costL, show ("not" : String).length = 3 from rfl]; omega
  | d, .mk c ps, h => by
    rw [Bd_mk] at h
    obtain ⟨d', rfl, h1, h2, h3⟩ := h
    have hc : D.costL (encL ps) ≤ (encL ps).length * (Kc d' + 2) := costL_le (by
      intro x hx
      rw [encL_map] at hx
      obtain ⟨y, hy, rfl⟩ := List.mem_map.mp hx
      exact Bd.cost hB (h3 y hy))
    rw [encL_len] at hc
    have hm : ps.length * (Kc d' + 2) ≤ 2 * (Kc d' + 2) := Nat.mul_le_mul_right _ h2
    simp only [enc, D.cost, D.costL, Kc, show ("make" : String).length = 4 from rfl]; omega
theorem Bd.dep {B : Int} : ∀ {d : Nat} {r : Rg}, Bd B d r → (enc r).dep ≤ 2 * d + 2
  | d, .any, _ => by simp [enc, D.dep, D.depL]
  | d, .rng a b, h => by simp [enc, D.dep, D.depL]
  | d, .nt l, h => by
    have hc : D.depL (l.map .str) ≤ 0 := depL_le (by
      intro x hx
      obtain ⟨y, hy, rfl⟩ := List.mem_map.mp hx
      simp [D.dep])
    simp only [enc, D.dep, D.depL]; omega
  | d, .mk c ps, h => by
    rw [Bd_mk] at h
    obtain ⟨d', rfl, h1, h2, h3⟩ := h
    have hc : D.depL (encL ps) ≤ 2 * d' + 2 := depL_le (by
      intro x hx
      rw [encL_map] at hx
      obtain ⟨y, hy, rfl⟩ := List.mem_map.mp hx
      exact Bd.dep (h3 y hy))
    simp only [enc, D.dep, D.depL]; omega
theorem Bd.wt {B : Int} : ∀ {d : Nat} {r : Rg}, Bd B d r → wt r + 4 ≤ 4 * 2 ^ (d + 1)
  | d, .any, _ => by have := Nat.one_le_two_pow (n := d); simp only [K06.wt]; omega
  | d, .rng a b, h => by have := Nat.one_le_two_pow (n := d); simp only [K06.wt]; omega
  | d, .nt l, h => by have := Nat.one_le_two_pow (n := d); simp only [K06.wt]; omega
  | d, .mk c ps, h => by
    rw [Bd_mk] at h
    obtain ⟨d', rfl, h1, h2, h3⟩ := h
    have hp := Nat.one_le_two_pow (n := d')
    match ps, h2, h3 with
    | [], _, _ => simp only [K06.wt, wtL]; omega
    | [p], _, h3 =>
      have := Bd.wt (h3 p (by simp))
      simp only [K06.wt, wtL]; omega
    | [p, q], _, h3 =>
      have := Bd.wt (h3 p (by simp))
      have := Bd.wt (h3 q (by simp))
      simp only [K06.wt, wtL]; omega
    | _ :: _ :: _ :: _, h, _ => simp at h
theorem Bd.hgt {B : Int} : ∀ {d : Nat} {r : Rg}, Bd B d r → hgt r ≤ d
  | d, .any, _ => by simp [K06.hgt]
  | d, .rng a b, h => by simp [K06.hgt]
  | d, .nt l, h => by simp [K06.hgt]
  | d, .mk c ps, h => by
    rw [Bd_mk] at h
    obtain ⟨d', rfl, h1, h2, h3⟩ := h
    have : hgtL ps ≤ d' := by
      clear h2
      induction ps with
      | nil => simp [hgtL]
      | cons p ps ih =>
        have := Bd.hgt (h3 p (by simp))
        have := ih fun q hq => h3 q (List.mem_cons_of_mem _ hq)
        simp only [hgtL]; omega
    simp only [K06.hgt]; omega
end K06
end

section
set_option maxHeartbeats 0
set_option linter.all false
set_option maxRecDepth 100000
namespace K06
open Ev
/-! ### the bounds of what is cut and of what rests -/
mutual
theorem cutM_bd {B : Int} : ∀ {d : Nat} {r s x : Rg}, Bd B d r → Bd B d s → cutM r s = some x → Bd B d x
  | d, r, .any, x, hr, _, h => by cases r <;> simp [cutM] at h <;> subst h <;> exact hr
  | d, .any, .rng a b, x, _, hs, h => by simp [cutM] at h; subst h; exact hs
  | d, .any, .nt l, x, _, hs, h => by simp [cutM] at h; subst h; exact hs
  | d, .any, .mk c qs, x, _, hs, h => by simp [cutM] at h; subst h; exact hs
  | d, .rng a b, .rng c e, x, hr, hs, h => by
    rw [Bd_rng] at hr hs
    simp only [cutM] at h
    obtain ⟨lo, hlo⟩ : ∃ lo, lo = (if c > a then c else a) := ⟨_, rfl⟩
    obtain ⟨hi, hhi⟩ : ∃ hi, hi = (if e < b then e else b) := ⟨_, rfl⟩
    rw [← hlo, ← hhi] at h
    have b1 : -B ≤ lo ∧ lo ≤ B := by rw [hlo]; split <;> omega
    have b2 : -B ≤ hi ∧ hi ≤ B := by rw [hhi]; split <;> omega
    split at h
    · cases h
      rw [Bd_rng]
      omega
    · cases h
  | d, .rng a b, .nt l, x, _, _, h => by simp [cutM] at h
  | d, .rng a b, .mk c qs, x, _, _, h => by simp [cutM] at h
  | d, .nt l, .rng a b, x, _, _, h => by simp [cutM] at h
  | d, .nt l, .nt l', x, _, _, h => by simp [cutM] at h
  | d, .nt l, .mk c qs, x, _, hs, h => by
    simp only [cutM] at h
    split at h
    · cases h
    · cases h; exact hs
  | d, .mk c ps, .rng a b, x, _, _, h => by simp [cutM] at h
  | d, .mk c ps, .nt l', x, _, _, h => by simp [cutM] at h
  | d, .mk c ps, .mk c' qs, x, hr, hs, h => by
    rw [Bd_mk] at hr hs
    obtain ⟨d', rfl, h1, h2, h3⟩ := hr
    obtain ⟨d'', e, h4, h5, h6⟩ := hs
    obtain rfl : d' = d'' := by omega
    simp only [cutM] at h
    split at h
    · cases hc : cutL ps qs with
      | none => rw [hc] at h; cases h
      | some xs =>
        rw [hc] at h
        cases h
        obtain ⟨a, b⟩ := cutL_bd h3 h6 hc
        rw [Bd_mk]
        exact ⟨d', rfl, h1, by omega, b⟩
    · cases h
theorem cutL_bd {B : Int} : ∀ {d : Nat} {ps qs xs : List Rg}, (∀ p ∈ ps, Bd B d p) → (∀ q ∈ qs, Bd B d q) → cutL ps qs = some xs → xs.length = ps.length ∧ ∀ x ∈ xs, Bd B d x
  | d, [], [], xs, _, _, h => by simp [cutL] at h; subst h; simp
  | d, [], _ :: _, xs, _, _, h => by simp [cutL] at h
  | d, _ :: _, [], xs, _, _, h => by simp [cutL] at h
  | d, p :: ps, q :: qs, xs, h1, h2, h => by
    simp only [cutL] at h
    cases hp : cutM p q with
    | none => rw [hp] at h; cases h
    | some y =>
      rw [hp] at h
      cases hl : cutL ps qs with
      | none => rw [hl] at h; cases h
      | some ys =>
        rw [hl] at h
        cases h
        have a := cutM_bd (h1 p (by simp)) (h2 q (by simp)) hp
        obtain ⟨b, c⟩ := cutL_bd (fun p hp => h1 p (List.mem_cons_of_mem _ hp)) (fun p hp => h2 p (List.mem_cons_of_mem _ hp)) hl
        exact ⟨by simp [b], by
          intro x hx
          rcases List.mem_cons.mp hx with rfl | hx
          · exact a
          · exact c x hx⟩
end
theorem rr_bd {B : Int} {d : Nat} {r : Rg} {lo hi c e : Int} (hr : Bd B d r) (h1 : -B ≤ lo ∧ lo ≤ B ∧ -B ≤ hi ∧ hi ≤ B) (h2 : -B ≤ c ∧ c ≤ B ∧ -B ≤ e ∧ e ≤ B) : ∀ x ∈ rr r lo hi c e, Bd (B + 1) d x := by
  intro x hx
  unfold rr at hx
  split at hx
  · rw [List.mem_singleton] at hx; subst hx; exact hr.mono (by omega)
  · rcases List.mem_append.mp hx with hx | hx
    · split at hx
      · rw [List.mem_singleton] at hx; subst hx; rw [Bd_rng]; omega
      · simp at hx
    · split at hx
      · rw [List.mem_singleton] at hx; subst hx; rw [Bd_rng]; omega
      · simp at hx
/-- the names of the types: few and short -/
def Nk (T : Ty) : Prop := ∀ name, (namesOf T name).length ≤ 3 ∧ ∀ x ∈ namesOf T name, x.length ≤ 8
theorem left_bd {B : Int} {d : Nat} {T : Ty} (hT : Nk T) {name : String} {l : List String} {c : String} : ∀ x ∈ leftM T name l c, Bd B d x := by
  intro x hx
  obtain ⟨h1, h2⟩ := hT name
  unfold leftM at hx
  split at hx
  · rw [List.mem_singleton] at hx; subst hx
    rw [Bd_nt]
    exact ⟨by omega, fun y hy => h2 y (List.mem_filter.mp hy).1⟩
  · simp at hx
theorem any_bd {B : Int} {d : Nat} (qs : List Rg) : ∀ p ∈ qs.map (fun _ => Rg.any), Bd B d p := by
  intro p hp
  obtain ⟨_, _, rfl⟩ := List.mem_map.mp hp
  exact Bd.any
mutual
theorem restM_bd {B : Int} (hB : 99 ≤ B) {T : Ty} (hT : Nk T) : ∀ {d : Nat} {name : String} {r s : Rg}, Bd B d r → Bd B d s → ∀ x ∈ restM T name r s, Bd (B + 1) d x
  | d, name, r, .any, _, _, x, hx => by cases r <;> simp [restM] at hx
  | d, name, r, .nt _, _, _, x, hx => by cases r <;> simp [restM] at hx
  | d, name, .any, .rng a b, hr, hs, x, hx => by rw [Bd_rng] at hs; simp only [restM] at hx; exact rr_bd hr (by omega) hs x hx
  | d, name, .nt _, .rng a b, hr, hs, x, hx => by rw [Bd_rng] at hs; simp only [restM] at hx; exact rr_bd hr (by omega) hs x hx
  | d, name, .mk _ _, .rng a b, hr, hs, x, hx => by rw [Bd_rng] at hs; simp only [restM] at hx; exact rr_bd hr (by omega) hs x hx
  | d, name, .rng _ _, .rng a b, hr, hs, x, hx => by rw [Bd_rng] at hs; simp only [restM] at hx; exact rr_bd hr (Bd_rng.mp hr) hs x hx
  | d, name, .any, .mk c qs, hr, hs, x, hx => by
    rw [Bd_mk] at hs
    obtain ⟨d', rfl, h4, h5, h6⟩ := hs
    simp only [restM] at hx
    rcases List.mem_append.mp hx with hx | hx
    · exact left_bd hT x hx
    · obtain ⟨row, hrow, rfl⟩ := List.mem_map.mp hx
      have := restL_bd hB hT (d := d') (ns := fieldsOf T c) (ps := qs.map fun _ => .any) (qs := qs) (any_bd qs) h6 row hrow
      rw [List.length_map] at this
      rw [Bd_mk]
      exact ⟨d', rfl, h4, by omega, this.2⟩
  | d, name, .rng _ _, .mk c qs, hr, hs, x, hx => by
    rw [Bd_mk] at hs
    obtain ⟨d', rfl, h4, h5, h6⟩ := hs
    simp only [restM] at hx
    rcases List.mem_append.mp hx with hx | hx
    · exact left_bd hT x hx
    · obtain ⟨row, hrow, rfl⟩ := List.mem_map.mp hx
      have := restL_bd hB hT (d := d') (ns := fieldsOf T c) (ps := qs.map fun _ => .any) (qs := qs) (any_bd qs) h6 row hrow
      rw [List.length_map] at this
      rw [Bd_mk]
      exact ⟨d', rfl, h4, by omega, this.2⟩
  | d, name, .nt l, .mk c qs, hr, hs, x, hx => by
    rw [Bd_mk] at hs
    obtain ⟨d', rfl, h4, h5, h6⟩ := hs
    simp only [restM] at hx
    split at hx
    · rw [List.mem_singleton] at hx; subst hx; exact hr.mono (by omega)
    rcases List.mem_append.mp hx with hx | hx
    · exact left_bd hT x hx
    · obtain ⟨row, hrow, rfl⟩ := List.mem_map.mp hx
      have := restL_bd hB hT (d := d') (ns := fieldsOf T c) (ps := qs.map fun _ => .any) (qs := qs) (any_bd qs) h6 row hrow
      rw [List.length_map] at this
      rw [Bd_mk]
      exact ⟨d', rfl, h4, by omega, this.2⟩
  | d, name, .mk c' ps, .mk c qs, hr, hs, x, hx => by
    have hr0 := hr
    rw [Bd_mk] at hs hr
    obtain ⟨d', rfl, h4, h5, h6⟩ := hs
    obtain ⟨d'', e, h7, h8, h9⟩ := hr
    obtain rfl : d' = d'' := by omega
    simp only [restM] at hx
    split at hx
    · obtain ⟨row, hrow, rfl⟩ := List.mem_map.mp hx
      have := restL_bd hB hT (d := d') (ns := fieldsOf T c) (ps := ps) (qs := qs) h9 h6 row hrow
      rw [Bd_mk]
      exact ⟨d', rfl, h4, by omega, this.2⟩
    · rw [List.mem_singleton] at hx; subst hx; exact hr0.mono (by omega)
theorem restL_bd {B : Int} (hB : 99 ≤ B) {T : Ty} (hT : Nk T) {d : Nat} {ns : List String} {ps qs : List Rg} (hp : ∀ p ∈ ps, Bd B d p) (hq : ∀ q ∈ qs, Bd B d q) :
    ∀ row ∈ (match cutL ps qs with | none => [ps] | some cs => rowsL T [] ns ps qs cs), row.length = ps.length ∧ ∀ x ∈ row, Bd (B + 1) d x := by
  intro row hrow
  cases hc : cutL ps qs with
  | none =>
    rw [hc] at hrow
    simp only [List.mem_singleton] at hrow; subst hrow
    exact ⟨rfl, fun x hx => (hp x hx).mono (by omega)⟩
  | some cs =>
    rw [hc] at hrow
    have h1 := (cutL_bd hp hq hc).2
    have := rowsL_bd hB hT (pre := []) (ns := ns) (by simp) hp hq h1 row hrow
    simpa using this
theorem rowsL_bd {B : Int} (hB : 99 ≤ B) {T : Ty} (hT : Nk T) : ∀ {d : Nat} {pre : List Rg} {ns : List String} {ps qs cs : List Rg}, (∀ x ∈ pre, Bd (B + 1) d x) → (∀ p ∈ ps, Bd B d p) → (∀ q ∈ qs, Bd B d q) → (∀ q ∈ cs, Bd B d q) →
    ∀ row ∈ rowsL T pre ns ps qs cs, row.length = pre.length + ps.length ∧ ∀ x ∈ row, Bd (B + 1) d x
  | d, pre, n :: ns, p :: ps, q :: qs, c :: cs, h1, h2, h3, h4, row, hx => by
    simp only [rowsL] at hx
    rcases List.mem_append.mp hx with hx | hx
    · obtain ⟨y, hy, rfl⟩ := List.mem_map.mp hx
      have := restM_bd hB hT (h2 p (by simp)) (h3 q (by simp)) y hy
      refine ⟨by simp, fun x hx => ?_⟩
      rcases List.mem_append.mp hx with hx | hx
      · exact h1 x hx
      rcases List.mem_cons.mp hx with rfl | hx
      · exact this
      · exact (h2 x (List.mem_cons_of_mem _ hx)).mono (by omega)
    · have := rowsL_bd hB hT (pre := pre ++ [c]) (by
        intro x hx
        rcases List.mem_append.mp hx with hx | hx
        · exact h1 x hx
        · rw [List.mem_singleton] at hx; subst hx; exact (h4 x (by simp)).mono (by omega)) (fun x hx => h2 x (List.mem_cons_of_mem _ hx)) (fun x hx => h3 x (List.mem_cons_of_mem _ hx)) (fun x hx => h4 x (List.mem_cons_of_mem _ hx)) row hx
      refine ⟨by rw [this.1]; simp; omega, this.2⟩
  | d, pre, [], ps, qs, cs, _, _, _, _, row, hx => by simp [rowsL] at hx
  | d, pre, _ :: _, [], qs, cs, _, _, _, _, row, hx => by simp [rowsL] at hx
  | d, pre, _ :: _, _ :: _, [], cs, _, _, _, _, row, hx => by simp [rowsL] at hx
  | d, pre, _ :: _, _ :: _, _ :: _, [], _, _, _, _, row, hx => by simp [rowsL] at hx
end
end K06
end

section
set_option maxHeartbeats 0
set_option linter.all false
set_option maxRecDepth 100000
namespace K06
open Ev
/-! ### the two last looks -/
theorem repr_ok {x : D} (h1 : x.dep ≤ EqDep) (h2 : x.cost ≤ SL) : reprR [.d x] = some (.rep x) := by
  show (if x.dep ≤ EqDep ∧ x.cost ≤ SL then some (R.rep x) else none) = _
  rw [if_pos ⟨h1, h2⟩]
theorem Bd.encO_ok {d : Nat} {o : Option Rg} (hd : d ≤ 3) (h : ∀ x, o = some x → Bd 101 d x) : (encO o).dep ≤ EqDep ∧ (encO o).cost ≤ SL := by
  cases o with
  | none => exact ⟨by decide, by decide⟩
  | some x =>
    have a := (h x rfl).cost (by omega)
    have b := (h x rfl).dep
    have : Kc d ≤ Kc 3 := by
      rcases d with _ | _ | _ | _ | d
      · decide
      · decide
      · decide
      · decide
      · omega
    have e : Kc 3 ≤ 10000 := by decide
    rw [encO_some, EqDep, SL]
    exact ⟨by omega, by omega⟩
theorem Bd.list_ok {xs : List Rg} {k : Nat} (hk : xs.length ≤ k) (h : ∀ x ∈ xs, Bd 101 3 x) : D.depL (xs.map enc) ≤ 8 ∧ D.costL (xs.map enc) ≤ k * 10002 := by
  have e : Kc 3 ≤ 10000 := by decide
  refine ⟨depL_le fun x hx => ?_, Nat.le_trans (costL_le (K := 10000) fun x hx => ?_) (by rw [List.length_map]; exact Nat.mul_le_mul_right _ hk)⟩
  · obtain ⟨y, hy, rfl⟩ := List.mem_map.mp hx
    exact (h y hy).dep
  · obtain ⟨y, hy, rfl⟩ := List.mem_map.mp hx
    exact Nat.le_trans ((h y hy).cost (by omega)) e
theorem wtL_le {k : Nat} : ∀ {qs : List Rg}, (∀ q ∈ qs, wt q ≤ k) → wtL qs ≤ qs.length * k
  | [], _ => by simp [wtL]
  | q :: qs, h => by
    have a := h q (by simp)
    have b := wtL_le (fun q hq => h q (List.mem_cons_of_mem _ hq))
    rw [wtL, List.length_cons, Nat.succ_mul]; omega
theorem hgtL_le {k : Nat} : ∀ {qs : List Rg}, (∀ q ∈ qs, hgt q ≤ k) → hgtL qs ≤ k
  | [], _ => by simp [hgtL]
  | q :: qs, h => by
    have a := h q (by simp)
    have b := hgtL_le (fun q hq => h q (List.mem_cons_of_mem _ hq))
    rw [hgtL]; omega
theorem Nk_good {T : Ty} (g : GoodT T) : Nk T := fun name => by
  refine ⟨by have := makersOf_le g name; simpa [namesOf] using this, fun x hx => ?_⟩
  obtain ⟨m, hm, rfl⟩ := List.mem_map.mp hx
  exact (maker_fields g hm).2.2.2
theorem Wr.bd {fl : Bool} {T : Ty} (g : GoodT T) : ∀ {d : Nat} {name : String} {r : Rg}, Wr fl T d name r → Bd 100 d r
  | d, name, .any, _ => Bd.any
  | d, name, .rng a b, h => by rw [Bd_rng]; have := h.rng.2; omega
  | d, name, .nt l, h => by
    obtain ⟨_, _, n1, n2⟩ := h.nt
    obtain ⟨a, b⟩ := Nk_good g name
    have hl : l.length ≤ (namesOf T name).length := n1.length_le_of_subset n2
    rw [Bd_nt]
    exact ⟨by omega, fun x hx => b x (n2 x hx)⟩
  | d, name, .mk c ps, h => by
    obtain ⟨d', rfl, _, fs, m1, l1, f1⟩ := h.mk
    obtain ⟨e1, e2, e3, e4⟩ := maker_fields g m1
    simp only at e1 e2 e3 e4
    rw [Bd_mk]
    refine ⟨d', rfl, e4, by omega, fun p hp => ?_⟩
    obtain ⟨i, hi, hp⟩ := List.mem_iff_getElem.mp hp
    have hf : fs[i]? = some fs[i] := by simp
    exact Wr.bd g (f1 i _ p hf (by rw [List.getElem?_eq_getElem hi, hp]))
termination_by d => d
end K06
end

section
set_option maxHeartbeats 0
set_option linter.all false
set_option maxRecDepth 100000
namespace K06
open Ev
/-! ### values, and which regions hold them -/
inductive Vl where
  | int (i : Int) | mk (c : String) (vs : List Vl)
mutual
def encV : Vl → D
  | .int i => .tup [.str "int", .int i]
  | .mk c vs => .tup [.str "make", .str c, .tup (encVs vs)]
def encVs : List Vl → List D
  | [] => []
  | v :: vs => encV v :: encVs vs
end
theorem encVs_map : ∀ vs : List Vl, encVs vs = vs.map encV
  | [] => rfl
  | v :: vs => by rw [encVs, encVs_map vs]; rfl
mutual
/-- the region holds the value -/
def hd : Rg → Vl → Bool
  | .any, _ => true
  | .rng a b, .int i => decide (a ≤ i) && decide (i ≤ b)
  | .nt l, .mk c _ => !decide (c ∈ l)
  | .mk c ps, .mk c' vs => decide (c = c') && hdL ps vs
  | .rng _ _, .mk _ _ => false
  | .nt _, .int _ => false
  | .mk _ _, .int _ => false
def hdL : List Rg → List Vl → Bool
  | p :: ps, v :: vs => hd p v && hdL ps vs
  | [], [] => true
  | [], _ :: _ => false
  | _ :: _, [] => false
end
mutual
/-- the question makes sense -/
def Hv : Rg → Vl → Prop
  | .any, _ => True
  | .rng _ _, .int _ => True
  | .nt _, .mk _ _ => True
  | .mk c ps, .mk c' vs => c = c' → HvL ps vs
  | .rng _ _, .mk _ _ => False
  | .nt _, .int _ => False
  | .mk _ _, .int _ => False
def HvL : List Rg → List Vl → Prop
  | p :: ps, v :: vs => Hv p v ∧ HvL ps vs
  | [], [] => True
  | [], _ :: _ => False
  | _ :: _, [] => False
end
theorem HvL.len : ∀ {ps : List Rg} {vs : List Vl}, HvL ps vs → ps.length = vs.length
  | [], [], _ => rfl
  | [], _ :: _, h => by simp [HvL] at h
  | _ :: _, [], h => by simp [HvL] at h
  | p :: ps, v :: vs, h => by simp only [HvL] at h; simp [HvL.len h.2]
theorem HvL.get : ∀ {ps : List Rg} {vs : List Vl} {i : Nat} {p : Rg} {v : Vl}, HvL ps vs → ps[i]? = some p → vs[i]? = some v → Hv p v
  | p :: ps, v :: vs, 0, _, _, h, h1, h2 => by
    simp only [HvL] at h; simp at h1 h2; subst h1 h2; exact h.1
  | p :: ps, v :: vs, i + 1, _, _, h, h1, h2 => by
    simp only [HvL] at h; exact HvL.get h.2 (by simpa using h1) (by simpa using h2)
  | [], _, _, _, _, _, h1, _ => by simp at h1
  | _ :: _, [], _, _, _, _, _, h2 => by simp at h2
theorem HvL_append : ∀ {ps : List Rg} {vs : List Vl} {qs : List Rg} {ws : List Vl}, HvL ps vs → HvL qs ws → HvL (ps ++ qs) (vs ++ ws)
  | [], [], _, _, _, h => h
  | [], _ :: _, _, _, h, _ => by simp [HvL] at h
  | _ :: _, [], _, _, h, _ => by simp [HvL] at h
  | p :: ps, v :: vs, _, _, h, h2 => by simp only [HvL] at h; simp only [List.cons_append, HvL]; exact ⟨h.1, HvL_append h.2 h2⟩
theorem hdL_append : ∀ {ps : List Rg} {vs : List Vl} {qs : List Rg} {ws : List Vl}, ps.length = vs.length → hdL (ps ++ qs) (vs ++ ws) = (hdL ps vs && hdL qs ws)
  | [], [], _, _, _ => by simp [hdL]
  | [], _ :: _, _, _, h => by simp at h
  | _ :: _, [], _, _, h => by simp at h
  | p :: ps, v :: vs, _, _, h => by simp only [List.cons_append, hdL]; rw [hdL_append (by simpa using h), Bool.and_assoc]
def CutP (r s : Rg) (v : Vl) : Prop := (cutM r s = none → (hd r v && hd s v) = false) ∧ ∀ x, cutM r s = some x → Hv x v ∧ hd x v = (hd r v && hd s v)
theorem cut_hd_any (r : Rg) (v : Vl) (h1 : Hv r v) : CutP r .any v := by
  have e : cutM r .any = some r := by cases r <;> simp [cutM]
  unfold CutP
  rw [e]
  refine ⟨(fun h => by cases h), fun x hx => ?_⟩
  obtain rfl := Option.some.inj hx
  exact ⟨h1, by simp [hd]⟩
theorem any_cut_hd (s : Rg) (v : Vl) (h1 : Hv s v) (e : cutM .any s = some s) : CutP .any s v := by
  unfold CutP
  rw [e]
  refine ⟨(fun h => by cases h), fun x hx => ?_⟩
  obtain rfl := Option.some.inj hx
  exact ⟨h1, by simp [hd]⟩
theorem rng_cut_hd (a b c d i : Int) : CutP (.rng a b) (.rng c d) (.int i) := by
  unfold CutP
  simp only [cutM]
  by_cases hc : (if c > a then c else a) ≤ (if d < b then d else b)
  · rw [if_pos hc]
    refine ⟨(fun h => by cases h), fun x hx => ?_⟩
    obtain rfl := Option.some.inj hx
    refine ⟨by simp [Hv], ?_⟩
    simp only [hd]
    rw [Bool.eq_iff_iff]
    simp only [Bool.and_eq_true, decide_eq_true_eq]
    split <;> split <;> omega
  · rw [if_neg hc]
    refine ⟨fun _ => ?_, fun x h => by cases h⟩
    simp only [hd]
    rw [Bool.eq_false_iff]
    intro hh
    simp only [Bool.and_eq_true, decide_eq_true_eq] at hh
    apply hc
    split <;> split <;> omega
theorem nt_cut_hd (l : List String) (c c' : String) (qs : List Rg) (vs : List Vl) (h2 : Hv (.mk c qs) (.mk c' vs)) : CutP (.nt l) (.mk c qs) (.mk c' vs) := by
  unfold CutP
  simp only [cutM]
  by_cases hc : c ∈ l
  · rw [if_pos hc]
    refine ⟨fun _ => ?_, fun x h => by cases h⟩
    simp only [hd]
    by_cases e : c = c'
    · subst e; simp [hc]
    · simp [e]
  · rw [if_neg hc]
    refine ⟨(fun h => by cases h), fun x hx => ?_⟩
    obtain rfl := Option.some.inj hx
    refine ⟨h2, ?_⟩
    simp only [hd]
    by_cases e : c = c'
    · subst e; simp [hc]
    · simp [e]
def CutPL (ps qs : List Rg) (vs : List Vl) : Prop := (cutL ps qs = none → (hdL ps vs && hdL qs vs) = false) ∧ ∀ xs, cutL ps qs = some xs → HvL xs vs ∧ hdL xs vs = (hdL ps vs && hdL qs vs)
theorem mk_cut_hd (c c' c'' : String) (ps qs : List Rg) (vs : List Vl) (h : c = c' → c = c'' → CutPL ps qs vs) : CutP (.mk c ps) (.mk c' qs) (.mk c'' vs) := by
  unfold CutP
  simp only [cutM]
  by_cases e : c = c'
  · subst e
    rw [if_pos rfl]
    by_cases e2 : c = c''
    · subst e2
      obtain ⟨k1, k2⟩ := h rfl rfl
      cases hc : cutL ps qs with
      | none =>
        refine ⟨fun _ => ?_, fun x h => by cases h⟩
        simp only [hd, decide_true, Bool.true_and]
        exact k1 hc
      | some xs =>
        refine ⟨(fun h => by cases h), fun x hx => ?_⟩
        obtain rfl := Option.some.inj hx
        obtain ⟨k3, k4⟩ := k2 xs hc
        refine ⟨by simp only [Hv]; exact fun _ => k3, ?_⟩
        simp only [hd, decide_true, Bool.true_and]
        exact k4
    · cases hc : cutL ps qs with
      | none => exact ⟨fun _ => by simp [hd, e2], fun x h => by cases h⟩
      | some xs =>
        refine ⟨(fun h => by cases h), fun x hx => ?_⟩
        obtain rfl := Option.some.inj hx
        exact ⟨by simp only [Hv]; exact fun z => absurd z e2, by simp [hd, e2]⟩
  · rw [if_neg e]
    refine ⟨fun _ => ?_, fun x h => by cases h⟩
    simp only [hd]
    by_cases e2 : c = c''
    · subst e2; simp [Ne.symm e]
    · simp [e2]
theorem cons_cut_hd (p q : Rg) (ps qs : List Rg) (v : Vl) (vs : List Vl) (a : CutP p q v) (b : CutPL ps qs vs) : CutPL (p :: ps) (q :: qs) (v :: vs) := by
  obtain ⟨a1, a2⟩ := a
  obtain ⟨b1, b2⟩ := b
  unfold CutPL
  simp only [cutL, hdL]
  cases hc : cutM p q with
  | none =>
    refine ⟨fun _ => ?_, fun x h => by cases h⟩
    have := a1 hc
    revert this
    cases hd p v <;> cases hd q v <;> simp
  | some x =>
    obtain ⟨a3, a4⟩ := a2 x hc
    cases hc2 : cutL ps qs with
    | none =>
      refine ⟨fun _ => ?_, fun x h => by cases h⟩
      have := b1 hc2
      revert this
      cases hd p v <;> cases hd q v <;> cases hdL ps vs <;> cases hdL qs vs <;> simp
    | some ys =>
      obtain ⟨b3, b4⟩ := b2 ys hc2
      refine ⟨(fun h => by cases h), fun xs hx => ?_⟩
      obtain rfl := Option.some.inj hx
      refine ⟨by simp only [HvL]; exact ⟨a3, b3⟩, ?_⟩
      simp only [hdL, a4, b4]
      cases hd p v <;> cases hd q v <;> cases hdL ps vs <;> cases hdL qs vs <;> rfl
/-- a cut holds what both hold -/
theorem cut_hd_n : ∀ n : Nat, (∀ (r s : Rg) (v : Vl), sizeOf r < n → Al r s → Hv r v → Hv s v → CutP r s v) ∧ ∀ (ps qs : List Rg) (vs : List Vl), sizeOf ps < n → AlL ps qs → HvL ps vs → HvL qs vs → CutPL ps qs vs
  | 0 => ⟨fun _ _ _ h => absurd h (Nat.not_lt_zero _), fun _ _ _ h => absurd h (Nat.not_lt_zero _)⟩
  | n + 1 => by
    obtain ⟨ih1, ih2⟩ := cut_hd_n n
    constructor
    · intro r s v hn ha h1 h2
      cases s with
      | any => exact cut_hd_any r v h1
      | nt l => cases r <;> simp [Al] at ha
      | rng c d =>
        cases r with
        | any => exact any_cut_hd _ v h2 (by simp [cutM])
        | rng a b =>
          cases v with
          | int i => exact rng_cut_hd a b c d i
          | mk _ _ => simp [Hv] at h1
        | nt _ => simp [Al] at ha
        | mk _ _ => simp [Al] at ha
      | mk c' qs =>
        cases r with
        | any => exact any_cut_hd _ v h2 (by simp [cutM])
        | rng a b => simp [Al] at ha
        | nt l =>
          cases v with
          | int i => simp [Hv] at h1
          | mk c'' vs => exact nt_cut_hd l c' c'' qs vs h2
        | mk c ps =>
          cases v with
          | int i => simp [Hv] at h1
          | mk c'' vs =>
            simp only [Al] at ha
            simp only [Hv] at h1 h2
            refine mk_cut_hd c c' c'' ps qs vs fun e1 e2 => ?_
            refine ih2 ps qs vs ?_ (ha e1).2 (h1 e2) (h2 (by rw [← e1]; exact e2))
            simp at hn; omega
    · intro ps qs vs hn ha h1 h2
      match ps, qs, vs, hn, ha, h1, h2 with
      | [], [], [], _, _, _, _ =>
        unfold CutPL
        simp [cutL, HvL, hdL]
      | [], [], _ :: _, _, _, h, _ => simp [HvL] at h
      | [], _ :: _, _, _, h, _, _ => simp [AlL] at h
      | _ :: _, [], _, _, h, _, _ => simp [AlL] at h
      | _ :: _, _ :: _, [], _, _, h, _ => simp [HvL] at h
      | p :: ps, q :: qs, v :: vs, hn, ha, h1, h2 =>
        simp only [AlL] at ha
        simp only [HvL] at h1 h2
        simp at hn
        exact cons_cut_hd p q ps qs v vs (ih1 p q v (by omega) ha.1 h1.1 h2.1) (ih2 ps qs vs (by omega) ha.2 h1.2 h2.2)
theorem cut_hd (r s : Rg) (v : Vl) (ha : Al r s) (h1 : Hv r v) (h2 : Hv s v) : CutP r s v := (cut_hd_n (sizeOf r + 1)).1 r s v (Nat.lt_succ_self _) ha h1 h2
theorem cutL_hd (ps qs : List Rg) (vs : List Vl) (ha : AlL ps qs) (h1 : HvL ps vs) (h2 : HvL qs vs) : CutPL ps qs vs := (cut_hd_n (sizeOf ps + 1)).2 ps qs vs (Nat.lt_succ_self _) ha h1 h2
/-! ### values of a type -/
def Wv (T : Ty) : Nat → String → Vl → Prop
  | _, name, .int i => name = "Int" ∧ -99 ≤ i ∧ i ≤ 99
  | 0, _, .mk _ _ => False
  | d + 1, name, .mk c vs => name ≠ "Int" ∧ ∃ fs, (c, fs) ∈ makersOf T name ∧ fs.length = vs.length ∧ ∀ (i : Nat) (f : String) (v : Vl), fs[i]? = some f → vs[i]? = some v → Wv T d f v
section
variable {T : Ty} {d d2 : Nat} {name : String} {fl : Bool}
theorem Wv.int {i : Int} (h : Wv T d name (.int i)) : name = "Int" ∧ -99 ≤ i ∧ i ≤ 99 := by cases d <;> simpa only [Wv] using h
theorem Wv.mk {c : String} {vs : List Vl} (h : Wv T d name (.mk c vs)) : ∃ d', d = d' + 1 ∧ name ≠ "Int" ∧ ∃ fs, (c, fs) ∈ makersOf T name ∧ fs.length = vs.length ∧ ∀ (i : Nat) (f : String) (v : Vl), fs[i]? = some f → vs[i]? = some v → Wv T d' f v := by
  cases d with
  | zero => simp only [Wv] at h
  | succ d' => exact ⟨d', rfl, by simpa only [Wv] using h⟩
end
theorem HvL_get : ∀ {ps : List Rg} {vs : List Vl}, ps.length = vs.length → (∀ (i : Nat) (p : Rg) (v : Vl), ps[i]? = some p → vs[i]? = some v → Hv p v) → HvL ps vs
  | [], [], _, _ => by simp only [HvL]
  | [], _ :: _, h, _ => by simp at h
  | _ :: _, [], h, _ => by simp at h
  | p :: ps, v :: vs, h, f => by
    simp only [HvL]
    exact ⟨f 0 p v rfl rfl, HvL_get (by simpa using h) fun i p v h1 h2 => f (i + 1) p v (by simpa using h1) (by simpa using h2)⟩
theorem Wr.hv {T : Ty} (g : GoodT T) {fl : Bool} : ∀ {d d2 : Nat} {name : String} {r : Rg} {v : Vl}, Wr fl T d name r → Wv T d2 name v → Hv r v
  | d, d2, name, .any, v, _, _ => by simp only [Hv]
  | d, d2, name, .rng _ _, .int _, _, _ => by simp only [Hv]
  | d, d2, name, .rng _ _, .mk _ _, h1, h2 => by obtain ⟨_, _, h, _⟩ := h2.mk; exact absurd h1.rng.1 h
  | d, d2, name, .nt _, .mk _ _, _, _ => by simp only [Hv]
  | d, d2, name, .nt _, .int _, h1, h2 => absurd h2.int.1 h1.nt.2.1
  | d, d2, name, .mk _ _, .int _, h1, h2 => by obtain ⟨_, _, h, _⟩ := h1.mk; exact absurd h2.int.1 h
  | d, d2, name, .mk c ps, .mk c' vs, h1, h2 => by
    simp only [Hv]
    rintro rfl
    obtain ⟨d', rfl, _, fs, m1, l1, f1⟩ := h1.mk
    obtain ⟨d'', rfl, _, gs, m2, l2, f2⟩ := h2.mk
    obtain rfl := same_fields g m1 m2
    refine HvL_get (by omega) fun i p v hp hv => ?_
    have hi : i < fs.length := by have := (List.getElem?_eq_some_iff.mp hp).1; omega
    exact Wr.hv g (f1 i fs[i] p (by simp) hp) (f2 i fs[i] v (by simp) hv)
termination_by d => d
end K06
end

section
set_option maxHeartbeats 0
set_option linter.all false
set_option maxRecDepth 100000
namespace K06
open Ev
/-! ### what is left holds what only the region holds, by one part -/
theorem countP_one {α : Type} (x : α) (p : α → Bool) : [x].countP p = (p x).toNat := by
  rw [List.countP_singleton]; cases p x <;> rfl
def RestP (T : Ty) (name : String) (r s : Rg) (v : Vl) : Prop := (∀ x ∈ restM T name r s, Hv x v) ∧ (restM T name r s).countP (fun x => hd x v) = (hd r v && !hd s v).toNat
def RowsQ (rows : List (List Rg)) (vs : List Vl) (b : Bool) : Prop := (∀ row ∈ rows, HvL row vs) ∧ rows.countP (fun x => hdL x vs) = b.toNat
theorem countP_no {α : Type} (l : List α) (p : α → Bool) (h : ∀ x ∈ l, p x = false) : l.countP p = 0 := by
  rw [List.countP_eq_zero]
  intro x hx
  rw [h x hx]; decide
theorem toNat_eq {b : Bool} {P : Prop} [Decidable P] (h : b = true ↔ P) : b.toNat = if P then 1 else 0 := by
  cases b with
  | true => rw [if_pos (h.mp rfl)]; rfl
  | false => rw [if_neg (fun z => by have := h.mpr z; cases this)]; rfl
theorem rr_hd (r : Rg) (lo hi c d i : Int) (hr : hd r (.int i) = (decide (lo ≤ i) && decide (i ≤ hi))) (hv : Hv r (.int i)) (hcd : c ≤ d) : (∀ x ∈ rr r lo hi c d, Hv x (.int i)) ∧ (rr r lo hi c d).countP (fun x => hd x (.int i)) = (hd r (.int i) && !hd (.rng c d) (.int i)).toNat := by
  have e0 : (hd r (.int i) && !hd (.rng c d) (.int i)).toNat = if (lo ≤ i ∧ i ≤ hi) ∧ ¬ (c ≤ i ∧ i ≤ d) then 1 else 0 := toNat_eq (by
    rw [hr]
    simp only [hd, Bool.and_eq_true, Bool.not_eq_true', Bool.and_eq_false_iff, decide_eq_true_eq, decide_eq_false_iff_not]
    omega)
  rw [e0]
  unfold rr
  by_cases h : d < lo ∨ hi < c
  · rw [if_pos h]
    refine ⟨fun x hx => by rw [List.mem_singleton.mp hx]; exact hv, ?_⟩
    rw [countP_one]
    refine toNat_eq ?_
    rw [hr]
    simp only [Bool.and_eq_true, decide_eq_true_eq]
    omega
  · rw [if_neg h]
    refine ⟨fun x hx => ?_, ?_⟩
    · rcases List.mem_append.mp hx with hx | hx
      · split at hx
        · rw [List.mem_singleton.mp hx]; simp [Hv]
        · cases hx
      · split at hx
        · rw [List.mem_singleton.mp hx]; simp [Hv]
        · cases hx
    · rw [List.countP_append]
      have e1 : (if lo < c then [Rg.rng lo (c - 1)] else []).countP (fun x => hd x (.int i)) = if lo ≤ i ∧ i < c then 1 else 0 := by
        split
        · rw [countP_one]
          refine toNat_eq ?_
          simp only [hd, Bool.and_eq_true, decide_eq_true_eq]
          omega
        · rw [if_neg (by omega)]; rfl
      have e2 : (if d < hi then [Rg.rng (d + 1) hi] else []).countP (fun x => hd x (.int i)) = if d < i ∧ i ≤ hi then 1 else 0 := by
        split
        · rw [countP_one]
          refine toNat_eq ?_
          simp only [hd, Bool.and_eq_true, decide_eq_true_eq]
          omega
        · rw [if_neg (by omega)]; rfl
      rw [e1, e2]
      by_cases a : lo ≤ i ∧ i < c <;> by_cases b : d < i ∧ i ≤ hi
      · omega
      · rw [if_pos a, if_neg b, if_pos (by omega)]
      · rw [if_neg a, if_pos b, if_pos (by omega)]
      · rw [if_neg a, if_neg b, if_neg (by omega)]
theorem rows_cons {T : Ty} {n : String} {p q c : Rg} {v : Vl} {pre : List Rg} {vpre : List Vl} {ns : List String} {ps qs cs : List Rg} {vs : List Vl} (a : RestP T n p q v) (hc : hd c v = (hd p v && hd q v)) (hpre : HvL pre vpre) (hps : HvL ps vs)
    (b : RowsQ (rowsL T (pre ++ [c]) ns ps qs cs) (vpre ++ [v] ++ vs) (hdL (pre ++ [c]) (vpre ++ [v]) && (hdL ps vs && !hdL qs vs))) :
    RowsQ (rowsL T pre (n :: ns) (p :: ps) (q :: qs) (c :: cs)) (vpre ++ v :: vs) (hdL pre vpre && (hdL (p :: ps) (v :: vs) && !hdL (q :: qs) (v :: vs))) := by
  obtain ⟨a1, a2⟩ := a
  obtain ⟨b1, b2⟩ := b
  have ev : vpre ++ [v] ++ vs = vpre ++ v :: vs := by simp
  rw [ev] at b1 b2
  simp only [rowsL]
  refine ⟨fun row hrow => ?_, ?_⟩
  · rcases List.mem_append.mp hrow with h | h
    · obtain ⟨x, hx, rfl⟩ := List.mem_map.mp h
      exact HvL_append hpre (by simp only [HvL]; exact ⟨a1 x hx, hps⟩)
    · exact b1 row h
  · rw [List.countP_append, b2, List.countP_map]
    have e1 : (restM T n p q).countP ((fun x => hdL x (vpre ++ v :: vs)) ∘ fun x => pre ++ x :: ps) = if (hdL pre vpre && hdL ps vs) = true then (restM T n p q).countP (fun x => hd x v) else 0 := by
      have e0 : ((fun x => hdL x (vpre ++ v :: vs)) ∘ fun x => pre ++ x :: ps) = fun x => hdL pre vpre && (hd x v && hdL ps vs) := by
        funext x
        simp only [Function.comp_apply]
        rw [hdL_append hpre.len, hdL]
      rw [e0]
      cases h1 : hdL pre vpre with
      | false => exact countP_no _ _ fun x _ => rfl
      | true =>
        cases h2 : hdL ps vs with
        | false => exact countP_no _ _ fun x _ => by simp
        | true => simp
    rw [e1, a2, hdL_append hpre.len]
    simp only [hdL, hc, Bool.and_true]
    cases hdL pre vpre <;> cases hd p v <;> cases hd q v <;> cases hdL ps vs <;> cases hdL qs vs <;> simp
/-- typed alike, place by place -/
def TL (T : Ty) (d d2 d3 : Nat) : List String → List Rg → List Rg → List Vl → Prop
  | [], [], [], [] => True
  | n :: ns, p :: ps, q :: qs, v :: vs => Wr true T d n p ∧ Wr false T d2 n q ∧ Wv T d3 n v ∧ TL T d d2 d3 ns ps qs vs
  | _, _, _, _ => False
theorem TL_get {T : Ty} {d d2 d3 : Nat} : ∀ {ns : List String} {ps qs : List Rg} {vs : List Vl}, ps.length = ns.length → qs.length = ns.length → vs.length = ns.length →
    (∀ (i : Nat) (n : String) (p : Rg), ns[i]? = some n → ps[i]? = some p → Wr true T d n p) → (∀ (i : Nat) (n : String) (p : Rg), ns[i]? = some n → qs[i]? = some p → Wr false T d2 n p) →
    (∀ (i : Nat) (n : String) (p : Vl), ns[i]? = some n → vs[i]? = some p → Wv T d3 n p) → TL T d d2 d3 ns ps qs vs
  | [], [], [], [], _, _, _, _, _, _ => by simp only [TL]
  | [], _ :: _, _, _, h, _, _, _, _, _ => by simp at h
  | [], [], _ :: _, _, _, h, _, _, _, _ => by simp at h
  | [], [], [], _ :: _, _, _, h, _, _, _ => by simp at h
  | _ :: _, [], _, _, h, _, _, _, _, _ => by simp at h
  | _ :: _, _ :: _, [], _, _, h, _, _, _, _ => by simp at h
  | _ :: _, _ :: _, _ :: _, [], _, _, h, _, _, _ => by simp at h
  | n :: ns, p :: ps, q :: qs, v :: vs, h1, h2, h3, f1, f2, f3 => by
    simp only [TL]
    exact ⟨f1 0 n p rfl rfl, f2 0 n q rfl rfl, f3 0 n v rfl rfl, TL_get (by simpa using h1) (by simpa using h2) (by simpa using h3)
      (fun i n p a b => f1 (i + 1) n p (by simpa using a) (by simpa using b)) (fun i n p a b => f2 (i + 1) n p (by simpa using a) (by simpa using b)) (fun i n p a b => f3 (i + 1) n p (by simpa using a) (by simpa using b))⟩
theorem TL.fst {T : Ty} (g : GoodT T) {d d2 d3 : Nat} : ∀ {ns : List String} {ps qs : List Rg} {vs : List Vl}, TL T d d2 d3 ns ps qs vs → HvL ps vs ∧ HvL qs vs ∧ AlL ps qs
  | [], [], [], [], _ => by simp [HvL, AlL]
  | n :: ns, p :: ps, q :: qs, v :: vs, h => by
    simp only [TL] at h
    obtain ⟨h1, h2, h3, h4⟩ := h
    obtain ⟨k1, k2, k3⟩ := TL.fst g h4
    simp only [HvL, AlL]
    exact ⟨⟨h1.hv g h3, k1⟩, ⟨h2.hv g h3, k2⟩, Wr.al g h1 h2, k3⟩
  | [], _ :: _, _, _, h => by simp [TL] at h
  | [], [], _ :: _, _, h => by simp [TL] at h
  | [], [], [], _ :: _, h => by simp [TL] at h
  | _ :: _, [], _, _, h => by simp [TL] at h
  | _ :: _, _ :: _, [], _, h => by simp [TL] at h
  | _ :: _, _ :: _, _ :: _, [], h => by simp [TL] at h
theorem mk_rows {c c' : String} {rows : List (List Rg)} {vs : List Vl} {b : Bool} (h : c = c' → RowsQ rows vs b) : (∀ x ∈ rows.map (Rg.mk c), Hv x (.mk c' vs)) ∧ (rows.map (Rg.mk c)).countP (fun x => hd x (.mk c' vs)) = (decide (c = c') && b).toNat := by
  refine ⟨fun x hx => ?_, ?_⟩
  · obtain ⟨row, hrow, rfl⟩ := List.mem_map.mp hx
    simp only [Hv]
    exact fun e => (h e).1 row hrow
  · rw [List.countP_map]
    by_cases e : c = c'
    · subst e
      have e0 : ((fun x => hd x (.mk c vs)) ∘ Rg.mk c) = fun row => hdL row vs := by
        funext row
        simp [hd]
      rw [e0, (h rfl).2]
      simp
    · rw [countP_no]
      · simp [e]
      · intro row _
        simp [hd, e]
theorem left_hd {T : Ty} {name c c' : String} {l : List String} {vs : List Vl} (hm : c' ∈ namesOf T name) : (∀ x ∈ leftM T name l c, Hv x (.mk c' vs)) ∧ (leftM T name l c).countP (fun x => hd x (.mk c' vs)) = (!decide (c' ∈ l) && !decide (c = c')).toNat := by
  unfold leftM
  split
  · refine ⟨fun x hx => by rw [List.mem_singleton.mp hx]; simp [Hv], ?_⟩
    rw [countP_one]
    congr 1
    simp only [hd]
    rw [Bool.eq_iff_iff]
    simp only [List.mem_filter, hm, true_and, decide_eq_true_eq, Bool.not_eq_true', decide_eq_false_iff_not, Bool.and_eq_true, not_or]
    constructor
    · rintro ⟨h1, h2⟩; exact ⟨h1, fun z => h2 z.symm⟩
    · rintro ⟨h1, h2⟩; exact ⟨h1, fun z => h2 z.symm⟩
  · rename_i hn
    refine ⟨(fun x hx => by cases hx), ?_⟩
    have hle := List.length_filter_le (fun x => decide (x ∈ l ∨ x = c)) (namesOf T name)
    have hall := List.length_filter_eq_length_iff.mp (show ((namesOf T name).filter fun x => decide (x ∈ l ∨ x = c)).length = (namesOf T name).length by omega) c' hm
    rw [decide_eq_true_eq] at hall
    have : (!decide (c' ∈ l) && !decide (c = c')) = false := by
      rcases hall with h | h
      · simp [h]
      · simp [h]
    rw [this]; rfl
theorem hdL_any : ∀ {qs : List Rg} {vs : List Vl}, qs.length = vs.length → hdL (qs.map fun _ => Rg.any) vs = true
  | [], [], _ => rfl
  | [], _ :: _, h => by simp at h
  | _ :: _, [], h => by simp at h
  | q :: qs, v :: vs, h => by simp only [List.map_cons, hdL, hd, Bool.true_and]; exact hdL_any (by simpa using h)
/-- the rows behind a cut that there is, or the whole -/
theorem restL_of {T : Ty} (g : GoodT T) {d d2 d3 : Nat} {ns : List String} {ps qs : List Rg} {vs : List Vl} (t : TL T d d2 d3 ns ps qs vs)
    (h : ∀ cs, cutL ps qs = some cs → RowsQ (rowsL T [] ns ps qs cs) ([] ++ vs) (hdL [] [] && (hdL ps vs && !hdL qs vs))) : RowsQ (restL T ns ps qs) vs (hdL ps vs && !hdL qs vs) := by
  obtain ⟨h1, h2, h3⟩ := t.fst g
  obtain ⟨k1, k2⟩ := cutL_hd ps qs vs h3 h1 h2
  unfold restL
  cases hc : cutL ps qs with
  | none =>
    refine ⟨fun row hr => by rw [List.mem_singleton.mp hr]; exact h1, ?_⟩
    rw [countP_one]
    have := k1 hc
    revert this
    cases hdL ps vs <;> cases hdL qs vs <;> simp
  | some cs =>
    have := h cs hc
    simpa [hdL] using this
/-- the law of the rest -/
theorem rest_hd_n {T : Ty} (g : GoodT T) : ∀ n : Nat, (∀ (d d2 d3 : Nat) (name : String) (r s : Rg) (v : Vl), sizeOf s < n → Wr true T d name r → Wr false T d2 name s → Wv T d3 name v → RestP T name r s v) ∧
    ∀ (d d2 d3 : Nat) (ns : List String) (ps qs : List Rg) (vs : List Vl) (cs pre : List Rg) (vpre : List Vl), sizeOf qs < n → TL T d d2 d3 ns ps qs vs → cutL ps qs = some cs → HvL pre vpre → RowsQ (rowsL T pre ns ps qs cs) (vpre ++ vs) (hdL pre vpre && (hdL ps vs && !hdL qs vs))
  | 0 => ⟨fun _ _ _ _ _ _ _ h => absurd h (Nat.not_lt_zero _), fun _ _ _ _ _ _ _ _ _ _ h => absurd h (Nat.not_lt_zero _)⟩
  | n + 1 => by
    obtain ⟨ih1, ih2⟩ := rest_hd_n g n
    constructor
    · intro d d2 d3 name r s v hn h1 h2 h3
      cases s with
      | any =>
        have e : restM T name r .any = [] := by cases r <;> simp [restM]
        unfold RestP
        rw [e]
        simp [hd]
      | nt l => have := h2.nt.1; simp at this
      | rng c d' =>
        have hcd : c ≤ d' := h2.rng2.2.2.2.2.2
        cases v with
        | mk _ _ =>
          obtain ⟨_, _, hne, _⟩ := h3.mk
          exact absurd h2.rng.1 hne
        | int i =>
          have hi := h3.int
          unfold RestP
          cases r with
          | any =>
            simp only [restM]
            exact rr_hd .any (-99) 99 c d' i (by simp only [hd]; rw [eq_comm]; simp only [Bool.and_eq_true, decide_eq_true_eq]; omega) (by simp [Hv]) hcd
          | rng a b =>
            simp only [restM]
            exact rr_hd (.rng a b) a b c d' i (by simp only [hd]) (by simp [Hv]) hcd
          | nt l => exact absurd hi.1 h1.nt.2.1
          | mk _ _ =>
            obtain ⟨_, _, hne, _⟩ := h1.mk
            exact absurd hi.1 hne
      | mk c qs =>
        obtain ⟨e2, rfl, hne, fs, m2, l2, f2⟩ := h2.mk
        obtain ⟨me1, me2, me3, me4⟩ := maker_fields g m2
        simp only at me1 me2 me3 me4
        have hcn : c ∈ namesOf T name := List.mem_map.mpr ⟨_, m2, rfl⟩
        cases v with
        | int i => exact absurd h3.int.1 hne
        | mk c'' vs =>
          obtain ⟨e3, rfl, _, gs, m3, l3, f3⟩ := h3.mk
          have hc'' : c'' ∈ namesOf T name := List.mem_map.mpr ⟨_, m3, rfl⟩
          have hsz : sizeOf qs < n := by simp at hn; omega
          -- the rows behind parts ps
          have rows : ∀ (dd : Nat) (ps : List Rg), ps.length = qs.length → (∀ (i : Nat) (f : String) (p : Rg), fs[i]? = some f → ps[i]? = some p → Wr true T dd f p) → c = c'' → RowsQ (restL T (fieldsOf T c) ps qs) vs (hdL ps vs && !hdL qs vs) := by
            intro dd ps hl hf e
            subst e
            obtain rfl := same_fields g m2 m3
            rw [me1]
            have t : TL T dd e2 e3 fs ps qs vs := TL_get (by omega) (by omega) (by omega) hf f2 f3
            exact restL_of g t fun cs hcs => ih2 dd e2 e3 fs ps qs vs cs [] [] hsz t hcs (by simp [HvL])
          have anys := rows 0 (qs.map fun _ => Rg.any) (by simp) (fun i f p _ hp => by
            rw [List.getElem?_map] at hp
            obtain ⟨_, _, rfl⟩ := Option.map_eq_some_iff.mp hp
            exact Wr.any)
          have hany : c = c'' → hdL (qs.map fun _ => Rg.any) vs = true := fun e => by
            subst e
            obtain rfl := same_fields g m2 m3
            exact hdL_any (by omega)
          unfold RestP
          cases r with
          | any =>
            have e : restM T name .any (.mk c qs) = leftM T name [] c ++ (restL T (fieldsOf T c) (qs.map fun _ => Rg.any) qs).map (.mk c) := by simp only [restM, restL]
            rw [e]
            obtain ⟨a1, a2⟩ := left_hd (T := T) (name := name) (c := c) (l := []) (vs := vs) hc''
            obtain ⟨b1, b2⟩ := mk_rows anys
            refine ⟨fun x hx => (List.mem_append.mp hx).elim (a1 x) (b1 x), ?_⟩
            rw [List.countP_append, a2, b2]
            simp only [hd]
            by_cases e : c = c''
            · simp [e, hany e]
            · simp [e]
          | rng a b => exact absurd h1.rng.1 hne
          | nt l =>
            by_cases hl : c ∈ l
            · have e : restM T name (.nt l) (.mk c qs) = [.nt l] := by simp only [restM]; rw [if_pos hl]
              rw [e]
              refine ⟨fun x hx => by rw [List.mem_singleton.mp hx]; simp [Hv], ?_⟩
              rw [countP_one]
              simp only [hd]
              by_cases e : c = c''
              · subst e; simp [hl]
              · simp [e]
            · have e : restM T name (.nt l) (.mk c qs) = leftM T name l c ++ (restL T (fieldsOf T c) (qs.map fun _ => Rg.any) qs).map (.mk c) := by simp only [restM, restL]; rw [if_neg hl]
              rw [e]
              obtain ⟨a1, a2⟩ := left_hd (T := T) (name := name) (c := c) (l := l) (vs := vs) hc''
              obtain ⟨b1, b2⟩ := mk_rows anys
              refine ⟨fun x hx => (List.mem_append.mp hx).elim (a1 x) (b1 x), ?_⟩
              rw [List.countP_append, a2, b2]
              simp only [hd]
              by_cases e : c = c''
              · subst e; simp [hl, hany rfl]
              · simp [e]
          | mk c' ps =>
            obtain ⟨e1, rfl, _, fs', m1, l1, f1⟩ := h1.mk
            by_cases e : c' = c
            · subst e
              obtain rfl := same_fields g m1 m2
              have e : restM T name (.mk c' ps) (.mk c' qs) = (restL T (fieldsOf T c') ps qs).map (.mk c') := by simp only [restM, restL]; exact if_pos trivial
              rw [e]
              have := rows e1 ps (by omega) f1
              obtain ⟨b1, b2⟩ := mk_rows this
              refine ⟨b1, ?_⟩
              rw [b2]
              simp only [hd]
              by_cases e : c' = c''
              · simp [e]
              · simp [e]
            · have e2 : restM T name (.mk c' ps) (.mk c qs) = [.mk c' ps] := by simp only [restM]; rw [if_neg e]
              rw [e2]
              refine ⟨fun x hx => by rw [List.mem_singleton.mp hx]; exact h1.hv g h3, ?_⟩
              rw [countP_one]
              simp only [hd]
              by_cases e3 : c' = c''
              · subst e3; simp [Ne.symm e]
              · simp [e3]
    · intro d d2 d3 ns ps qs vs cs pre vpre hn t hcs hpre
      match ns, ps, qs, vs, hn, t, hcs with
      | [], [], [], [], _, _, hcs =>
        simp [cutL] at hcs
        subst hcs
        unfold RowsQ
        simp [rowsL, hdL]
      | n' :: ns, p :: ps, q :: qs, v :: vs, hn, t, hcs =>
        have t0 := t
        simp only [TL] at t
        obtain ⟨w1, w2, w3, t⟩ := t
        obtain ⟨k1, k2, k3⟩ := t.fst g
        simp at hn
        simp only [cutL] at hcs
        cases hc : cutM p q with
        | none => rw [hc] at hcs; cases hcs
        | some x =>
          rw [hc] at hcs
          cases hc2 : cutL ps qs with
          | none => rw [hc2] at hcs; cases hcs
          | some ys =>
            rw [hc2] at hcs
            obtain rfl := Option.some.inj hcs
            obtain ⟨c1, c2⟩ := (cut_hd p q v (Wr.al g w1 w2) (w1.hv g w3) (w2.hv g w3)).2 x hc
            have hpre2 : HvL (pre ++ [x]) (vpre ++ [v]) := HvL_append hpre (by simp only [HvL]; exact ⟨c1, trivial⟩)
            exact rows_cons (ih1 d d2 d3 n' p q v (by omega) w1 w2 w3) c2 hpre k1 (ih2 d d2 d3 ns ps qs vs ys (pre ++ [x]) (vpre ++ [v]) (by omega) t hc2 hpre2)
      | [], _ :: _, _, _, _, h, _ => simp [TL] at h
      | [], [], _ :: _, _, _, h, _ => simp [TL] at h
      | [], [], [], _ :: _, _, h, _ => simp [TL] at h
      | _ :: _, [], _, _, _, h, _ => simp [TL] at h
      | _ :: _, _ :: _, [], _, _, h, _ => simp [TL] at h
      | _ :: _, _ :: _, _ :: _, [], _, h, _ => simp [TL] at h
theorem rest_hd {T : Ty} (g : GoodT T) {d d2 d3 : Nat} {name : String} {r s : Rg} {v : Vl} (h1 : Wr true T d name r) (h2 : Wr false T d2 name s) (h3 : Wv T d3 name v) : RestP T name r s v := (rest_hd_n g (sizeOf s + 1)).1 d d2 d3 name r s v (Nat.lt_succ_self _) h1 h2 h3
theorem restL_hd {T : Ty} (g : GoodT T) {d d2 d3 : Nat} {ns : List String} {ps qs : List Rg} {vs : List Vl} (t : TL T d d2 d3 ns ps qs vs) : RowsQ (restL T ns ps qs) vs (hdL ps vs && !hdL qs vs) :=
  restL_of g t fun cs hcs => (rest_hd_n g (sizeOf qs + 1)).2 d d2 d3 ns ps qs vs cs [] [] (Nat.lt_succ_self _) t hcs (by simp [HvL])
end K06
end

section
set_option maxHeartbeats 0
set_option linter.all false
set_option maxRecDepth 100000
namespace K06
open Ev
/-! ### the looks: holds, _law_holds, _law_fits, _law_in -/
theorem ix_ok {a b : E} {ρ : Env} {μ μ1 μ2 : Mem} {ds : List D} {k : Nat} {x : D} (ha : a ρ μ = .ok (.d (.tup ds)) μ1) (hb : b ρ μ1 = .ok (.d (.int k)) μ2) (hx : ds[k]? = some x) : eIdx a b ρ μ = .ok (.d x) μ2 := by
  unfold eIdx
  refine eOp_ok ha hb ?_
  rw [vw_d, vw_d]
  show (atI ds (k : Int)).map R.d = _
  rw [atI_nat, hx]; rfl
theorem ixc_ok {a : E} {ρ : Env} {μ μ1 : Mem} {ds : List D} {i : Int} {x : D} (ha : a ρ μ = .ok (.d (.tup ds)) μ1) (hx : atI ds i = some x) : eIdx a (eC (.int i)) ρ μ = .ok (.d x) μ1 := by
  unfold eIdx
  refine eOp_ok ha eC_ok ?_
  rw [vw_d, vw_d]
  show (atI ds i).map R.d = _
  rw [hx]; rfl
theorem ixl_ok {a b : E} {ρ : Env} {μ μ1 μ2 : Mem} {ds : List D} {k : Nat} {x : D} (ha : a ρ μ = .ok (.d (.lst ds)) μ1) (hb : b ρ μ1 = .ok (.d (.int k)) μ2) (hx : ds[k]? = some x) : eIdx a b ρ μ = .ok (.d x) μ2 := by
  unfold eIdx
  refine eOp_ok ha hb ?_
  rw [vw_d, vw_d]
  show (atI ds (k : Int)).map R.d = _
  rw [atI_nat, hx]; rfl
theorem eT_ok {t : Ev.T} {ρ : Env} {μ μ1 : Mem} {b : Bool} (h : t ρ μ = .ok b μ1) : eT t ρ μ = .ok (.d (.bl b)) μ1 := by unfold eT; rw [h]; rfl
theorem eAll_ok {k b : Bool} {own : List Nat} {t : Tg} {it : It} {elt : E} {ρ : Env} {μ μ1 μ2 : Mem} {xs : List R} (h1 : it ρ μ = .ok xs μ1) (h2 : allL k t elt xs (wipeE ρ own) μ1 = .ok b μ2) : eAll k own t it elt ρ μ = .ok (.d (.bl b)) μ2 := by
  unfold eAll; rw [h1, bind_ok, h2]; rfl
theorem allL_map {t : Tg} {elt : E} {ρ : Env} {μ : Mem} : ∀ {xs : List R} {ys : List Bool}, xs.length = ys.length → (∀ (i : Nat) (x : R) (y : Bool), xs[i]? = some x → ys[i]? = some y → ∃ ρ1, t x ρ = some ρ1 ∧ elt ρ1 μ = .ok (.d (.bl y)) μ) → allL true t elt xs ρ μ = .ok (ys.all id) μ
  | [], [], _, _ => rfl
  | [], _ :: _, h, _ => by simp at h
  | _ :: _, [], h, _ => by simp at h
  | x :: xs, y :: ys, h, f => by
    obtain ⟨ρ1, h1, h2⟩ := f 0 x y rfl rfl
    rw [allL_cons, h1]
    dsimp only
    rw [h2]
    have ih := allL_map (t := t) (elt := elt) (ρ := ρ) (μ := μ) (xs := xs) (ys := ys) (by simpa using h) fun i x y a b => f (i + 1) x y (by simpa using a) (by simpa using b)
    cases y with
    | true => rw [nx_ok, bind_ok]; dsimp only; rw [if_pos rfl, ih]; simp
    | false => rw [nx_ok, bind_ok]; dsimp only; rw [if_neg (by decide)]; simp
theorem hdL_zip : ∀ {ps : List Rg} {vs : List Vl}, ps.length = vs.length → hdL ps vs = ((ps.zip vs).map fun p => hd p.1 p.2).all id
  | [], [], _ => rfl
  | [], _ :: _, h => by simp at h
  | _ :: _, [], h => by simp at h
  | p :: ps, v :: vs, h => by simp only [hdL, List.zip_cons_cons, List.map_cons, List.all_cons, id]; rw [hdL_zip (by simpa using h)]
theorem encL_get' {rs : List Rg} {i : Nat} {p : Rg} (h : rs[i]? = some p) : (encL rs)[i]? = some (enc p) := by rw [encL_map, List.getElem?_map, h]; rfl
theorem encVs_get {rs : List Vl} {i : Nat} {p : Vl} (h : rs[i]? = some p) : (encVs rs)[i]? = some (encV p) := by rw [encVs_map, List.getElem?_map, h]; rfl
theorem nin_str {l : List String} {c : String} : ninR (.d (.str c)) (.d (.tup (l.map .str))) = some (!decide (c ∈ l)) := by
  show ((if min (D.dep (.str c)) (D.depL (l.map .str)) ≤ EqDep then some ((l.map D.str).any fun y => y.eqv (.str c)) else none)).map not = _
  rw [if_pos (by rw [depL_str]; simp), any_str]; rfl
theorem str_eq (c c' : String) : eqR (.d (.str c)) (.d (.str c')) = some (decide (c = c')) := by
  show eqD _ _ = _
  rw [eqD_left (by simp [D.dep])]
  simp only [D.eqv]
  congr 1
theorem str_ne (c c' : String) : neR (.d (.str c)) (.d (.str c')) = some (!decide (c = c')) := by
  show (eqR _ _).map not = _
  rw [str_eq]; rfl
/-- the head of a written region -/
def hdS : Rg → String
  | .any => "any"
  | .rng _ _ => "range"
  | .nt _ => "not"
  | .mk _ _ => "make"
theorem enc_hd (r : Rg) : ∃ ds, enc r = .tup ds ∧ atI ds 0 = some (.str (hdS r)) := by
  cases r <;> exact ⟨_, by simp only [enc]; rfl, rfl⟩
theorem is_hd {i : Nat} {ρ : Env} {μ : Mem} {r : Rg} {s : String} {b : Bool} (h : ρ[i]? = some (.v (.d (enc r)))) (hb : decide (hdS r = s) = b) : tCmp eqR (eIdx (eV i) (eC (.int 0))) (eC (.str s)) ρ μ = .ok b μ := by
  obtain ⟨ds, e1, e2⟩ := enc_hd r
  rw [e1] at h
  exact tCmp_ok (ixc_ok (eV_at h) e2) eC_ok (by rw [vw_d, vw_d, str_eq, hb])
theorem is_any {i : Nat} {ρ : Env} {μ : Mem} {r : Rg} {b : Bool} (h : ρ[i]? = some (.v (.d (enc r)))) (hb : decide (hdS r = "any") = b) : tCmp eqR (eV i) (eC (.tup [.str "any"])) ρ μ = .ok b μ := by
  refine tCmp_ok (eV_at h) eC_ok ?_
  rw [vw_d, vw_d]
  show eqD _ _ = _
  rw [eqD_right (by simp [D.dep, D.depL])]
  subst hb
  cases r <;> simp [enc, D.eqv, D.eqvL, hdS]
theorem rng_look {ρ : Env} {μ : Mem} {a b i : Int} (h0 : ρ[0]? = some (.v (.d (enc (.rng a b))))) (h1 : ρ[1]? = some (.v (.d (encV (.int i))))) : eT (tCh leR leR (eIdx (eV 0) (eC (.int 1))) (eIdx (eV 1) (eC (.int 1))) (eIdx (eV 0) (eC (.int 2)))) ρ μ = .ok (.d (.bl (hd (.rng a b) (.int i)))) μ := by
  have e0 : eV 0 ρ μ = .ok (.d (.tup [.str "range", .int a, .int b])) μ := by rw [eV_at h0]; simp [enc]
  have e1 : eV 1 ρ μ = .ok (.d (.tup [.str "int", .int i])) μ := by rw [eV_at h1]; simp [encV]
  refine eT_ok ?_
  unfold tCh
  rw [ixc_ok e0 rfl, bind_ok, ixc_ok e1 rfl, bind_ok]
  show (lift (some (decide (a ≤ i))) μ).bind _ = _
  rw [lift_some, bind_ok]
  simp only [hd]
  by_cases h : a ≤ i
  · rw [decide_eq_true h, if_pos rfl, ixc_ok e0 rfl, bind_ok, Bool.true_and]
    rfl
  · rw [decide_eq_false h, if_neg (by decide), Bool.false_and]
theorem nt_look {ρ : Env} {μ : Mem} {l : List String} {c : String} {vs : List Vl} (h0 : ρ[0]? = some (.v (.d (enc (.nt l))))) (h1 : ρ[1]? = some (.v (.d (encV (.mk c vs))))) : eT (tCmp ninR (eIdx (eV 1) (eC (.int 1))) (eIdx (eV 0) (eC (.int 1)))) ρ μ = .ok (.d (.bl (hd (.nt l) (.mk c vs)))) μ := by
  have e0 : eV 0 ρ μ = .ok (.d (.tup [.str "not", .tup (l.map .str)])) μ := by rw [eV_at h0]; simp [enc]
  have e1 : eV 1 ρ μ = .ok (.d (.tup [.str "make", .str c, .tup (encVs vs)])) μ := by rw [eV_at h1]; simp [encV]
  exact eT_ok (tCmp_ok (ixc_ok e1 rfl) (ixc_ok e0 rfl) (by rw [vw_d, vw_d, nin_str]; rfl))
theorem holds_spec : ∀ (n : Nat) (r : Rg) (v : Vl) (μ : Mem), Hv r v → hgt r < n → callN P n "holds" [.d (enc r), .d (encV v)] μ = .ok (.d (.bl (hd r v))) μ
  | 0, _, _, _, _, h => absurd h (Nat.not_lt_zero _)
  | n + 1, r, v, μ, hv, hn => by
    rw [callN_run (d := f_holds) rfl rfl]
    have ih := holds_spec n
    generalize callN P n = C at ih ⊢
    refine runB_rt (μ' := μ) ?_ rfl
    simp only [f_holds, List.map_cons, List.map_nil, List.length_cons, List.length_nil, Nat.reduceAdd, Nat.reduceSub, List.replicate_succ, List.replicate_zero, List.cons_append, List.nil_append]
    cases r with
    | any =>
      refine sq_rt ?_
      rw [sIf_t (is_any (r := .any) rfl rfl)]
      exact sRet_ok (by rw [eC_ok]; simp [hd])
    | rng a b =>
      cases v with
      | mk _ _ => simp [Hv] at hv
      | int i =>
        rw [sq_if_f (is_any (r := .rng a b) rfl rfl)]
        refine sq_rt ?_
        rw [sIf_t (is_hd (r := .rng a b) rfl rfl)]
        exact sRet_ok (rng_look rfl rfl)
    | nt l =>
      cases v with
      | int i => simp [Hv] at hv
      | mk c vs =>
        rw [sq_if_f (is_any (r := .nt l) rfl rfl), sq_if_f (is_hd (r := .nt l) rfl rfl)]
        refine sq_rt ?_
        rw [sIf_t (is_hd (r := .nt l) rfl rfl)]
        exact sRet_ok (nt_look rfl rfl)
    | mk c ps =>
      cases v with
      | int i => simp [Hv] at hv
      | mk c' vs =>
        simp only [Hv] at hv
        rw [sq_if_f (is_any (r := .mk c ps) rfl rfl), sq_if_f (is_hd (r := .mk c ps) rfl rfl), sq_if_f (is_hd (r := .mk c ps) rfl rfl)]
        refine sRet_ok ?_
        have e0 : eV 0 [.v (.d (enc (.mk c ps))), .v (.d (encV (.mk c' vs))), .un, .un] μ = .ok (.d (.tup [.str "make", .str c, .tup (encL ps)])) μ := by rw [eV_at rfl]; simp [enc]
        have e1 : eV 1 [.v (.d (enc (.mk c ps))), .v (.d (encV (.mk c' vs))), .un, .un] μ = .ok (.d (.tup [.str "make", .str c', .tup (encVs vs)])) μ := by rw [eV_at rfl]; simp [encV]
        unfold eAnd
        rw [eT_ok (tCmp_ok (ixc_ok e0 rfl) (ixc_ok e1 rfl) (by rw [vw_d, vw_d, str_eq])), bind_ok]
        simp only [hd]
        by_cases e : c = c'
        · subst e
          rw [decide_eq_true rfl]
          show eAll _ _ _ _ _ _ _ = _
          rw [Bool.true_and]
          have hvl := hv rfl
          have hl := hvl.len
          rw [hdL_zip hl]
          refine eAll_ok (iEnum_tup (ixc_ok e0 rfl)) ?_
          refine allL_map (by rw [length_enumF, encL_map]; simp; omega) fun i x y hx hy => ?_
          rw [getElem_enumF, encL_map, List.getElem?_map] at hx
          obtain ⟨z, hz, hx⟩ := Option.map_eq_some_iff.mp hx
          obtain ⟨p, hp, hz⟩ := Option.map_eq_some_iff.mp hz
          subst hx hz
          rw [List.getElem?_map] at hy
          obtain ⟨pv, hpv, hy⟩ := Option.map_eq_some_iff.mp hy
          obtain ⟨h1, h2⟩ := List.getElem?_zip_eq_some.mp hpv
          rw [hp] at h1
          obtain rfl := Option.some.inj h1
          subst hy
          rw [Nat.zero_add]
          refine ⟨[.v (.d (enc (.mk c ps))), .v (.d (encV (.mk c vs))), .v (.d (.int i)), .v (.d (enc pv.1))], by simp only [tgT, tgs, tgN, wipeE, List.map_cons, List.map_nil, Option.bind_some, List.set_cons_succ, List.set_cons_zero], ?_⟩
          unfold eCall
          have e1' : eV 1 [.v (.d (enc (.mk c ps))), .v (.d (encV (.mk c vs))), .v (.d (.int i)), .v (.d (enc pv.1))] μ = .ok (.d (.tup [.str "make", .str c, .tup (encVs vs)])) μ := by rw [eV_at rfl]; simp [encV]
          rw [evs_cons, eV_at rfl, bind_ok, evs_cons, ix_ok (ixc_ok e1' rfl) (eV_at rfl) (encVs_get h2), bind_ok, evs_nil, bind_ok, bind_ok, bind_ok]
          have hg := hgt_get hp
          exact ih pv.1 pv.2 μ (hvl.get hp h2) (by simp only [hgt] at hn; omega)
        · rw [decide_eq_false e]
          rfl
end K06
end

section
set_option maxHeartbeats 0
set_option linter.all false
set_option maxRecDepth 100000
namespace K06
open Ev
theorem tE_bl {e : E} {ρ : Env} {μ μ1 : Mem} {b : Bool} (h : e ρ μ = .ok (.d (.bl b)) μ1) : tE e ρ μ = .ok b μ1 := by unfold tE; rw [h]; rfl
theorem tNot_ok {t : Ev.T} {ρ : Env} {μ μ1 : Mem} {b : Bool} (h : t ρ μ = .ok b μ1) : tNot t ρ μ = .ok (!b) μ1 := by unfold tNot; rw [h]; rfl
/-- for x in ..: if not look: return False -/
theorem look_for {j : Nat} {e : E} {μ : Mem} (I : Env → Prop) : ∀ {xs : List R} {ys : List Bool} {ρ : Env}, I ρ → xs.length = ys.length → (∀ (ρ : Env) (x : R), I ρ → I (ρ.set j (.v x))) →
    (∀ (i : Nat) (x : R) (y : Bool) (ρ : Env), I ρ → xs[i]? = some x → ys[i]? = some y → e (ρ.set j (.v x)) μ = .ok (.d (.bl y)) μ) →
    (ys.all id = true → ∃ ρ', I ρ' ∧ forL (tgN j) (sIf (tNot (tE e)) (sRet (eC (.bl false))) sNil) xs ρ μ = .ok (.nx ρ') μ) ∧ (ys.all id = false → forL (tgN j) (sIf (tNot (tE e)) (sRet (eC (.bl false))) sNil) xs ρ μ = .ok (.rt (.d (.bl false))) μ)
  | [], [], ρ, hI, _, _, _ => ⟨fun _ => ⟨ρ, hI, rfl⟩, fun h => by simp at h⟩
  | [], _ :: _, _, _, h, _, _ => by simp at h
  | _ :: _, [], _, _, h, _, _ => by simp at h
  | x :: xs, y :: ys, ρ, hI, hl, hs, h => by
    have h0 := h 0 x y ρ hI rfl rfl
    have hI2 := hs ρ x hI
    obtain ⟨a, b⟩ := look_for (j := j) (e := e) (μ := μ) I (xs := xs) (ys := ys) hI2 (by simpa using hl) hs fun i x y ρ hI a b => h (i + 1) x y ρ hI (by simpa using a) (by simpa using b)
    have ht := tNot_ok (tE_bl h0)
    cases y with
    | true =>
      have e1 : forL (tgN j) (sIf (tNot (tE e)) (sRet (eC (.bl false))) sNil) (x :: xs) ρ μ = forL (tgN j) (sIf (tNot (tE e)) (sRet (eC (.bl false))) sNil) xs (ρ.set j (.v x)) μ := by
        simp only [forL, tgN]
        rw [sIf_f ht, sNil_ok, bind_ok]
      rw [e1]
      have e2 : (true :: ys).all id = ys.all id := by simp
      rw [e2]
      exact ⟨a, b⟩
    | false =>
      refine ⟨fun h => by simp at h, fun _ => ?_⟩
      simp only [forL, tgN]
      rw [sIf_t ht, sRet_ok eC_ok, bind_ok]
theorem look_all {j : Nat} {e : E} {it : It} {ρ : Env} {μ : Mem} (I : Env → Prop) {xs : List R} {ys : List Bool} (hI : I ρ) (hit : it ρ μ = .ok xs μ) (hl : xs.length = ys.length) (hs : ∀ (ρ : Env) (x : R), I ρ → I (ρ.set j (.v x)))
    (h : ∀ (i : Nat) (x : R) (y : Bool) (ρ : Env), I ρ → xs[i]? = some x → ys[i]? = some y → e (ρ.set j (.v x)) μ = .ok (.d (.bl y)) μ) :
    sq (sFor (tgN j) it (sIf (tNot (tE e)) (sRet (eC (.bl false))) sNil)) (sRet (eC (.bl true))) ρ μ = .ok (.rt (.d (.bl (ys.all id)))) μ := by
  obtain ⟨a, b⟩ := look_for (j := j) (e := e) (μ := μ) I hI hl hs h
  cases hy : ys.all id with
  | true =>
    obtain ⟨ρ', _, e1⟩ := a hy
    rw [sq_nx (sFor_rt hit e1)]
    exact sRet_ok eC_ok
  | false => exact sq_rt (sFor_rt hit (b hy))
theorem call2' {C : Fn} {f : String} {a b : E} {ρ : Env} {μ : Mem} {x y : R} {o : Out R} (ha : a ρ μ = .ok x μ) (hb : b ρ μ = .ok y μ) (h : C f [x, y] μ = o) : eCall C f [a, b] ρ μ = o := by
  unfold eCall
  rw [evs_cons, ha, bind_ok, evs_cons, hb, bind_ok, evs_nil, bind_ok, bind_ok, bind_ok]; exact h
theorem zip_row {ps : List Rg} {vs : List Vl} {i : Nat} {y : Bool} (h : ((ps.zip vs).map fun p => hd p.1 p.2)[i]? = some y) : ∃ p v, ps[i]? = some p ∧ vs[i]? = some v ∧ y = hd p v := by
  rw [List.getElem?_map] at h
  obtain ⟨pv, hpv, hy⟩ := Option.map_eq_some_iff.mp h
  obtain ⟨h1, h2⟩ := List.getElem?_zip_eq_some.mp hpv
  exact ⟨_, _, h1, h2, hy.symm⟩
theorem lholds_spec {T : Ty} (g : GoodT T) : ∀ (n : Nat) (d : Nat) (name : String) (r : Rg) (v : Vl) (μ : Mem), Wv T d name v → Hv r v → hgt r < n → callN P n "_law_holds" [.d (enc r), .d (encV v)] μ = .ok (.d (.bl (hd r v))) μ
  | 0, _, _, _, _, _, _, _, h => absurd h (Nat.not_lt_zero _)
  | n + 1, d, name, r, v, μ, hw, hv, hn => by
    rw [callN_run (d := f_law_holds) rfl rfl]
    have ih := lholds_spec g n
    generalize callN P n = C at ih ⊢
    refine runB_rt (μ' := μ) ?_ rfl
    simp only [f_law_holds, List.map_cons, List.map_nil, List.length_cons, List.length_nil, Nat.reduceAdd, Nat.reduceSub, List.replicate_succ, List.replicate_zero, List.cons_append, List.nil_append]
    cases r with
    | any =>
      refine sq_rt ?_
      rw [sIf_t (is_hd (r := .any) rfl rfl)]
      exact sRet_ok (by rw [eC_ok]; simp [hd])
    | rng a b =>
      cases v with
      | mk _ _ => simp [Hv] at hv
      | int i =>
        rw [sq_if_f (is_hd (r := .rng a b) rfl rfl)]
        refine sq_rt ?_
        rw [sIf_t (is_hd (r := .rng a b) rfl rfl)]
        exact sRet_ok (rng_look rfl rfl)
    | nt l =>
      cases v with
      | int i => simp [Hv] at hv
      | mk c vs =>
        rw [sq_if_f (is_hd (r := .nt l) rfl rfl), sq_if_f (is_hd (r := .nt l) rfl rfl)]
        refine sq_rt ?_
        rw [sIf_t (is_hd (r := .nt l) rfl rfl)]
        exact sRet_ok (nt_look rfl rfl)
    | mk c ps =>
      cases v with
      | int i => simp [Hv] at hv
      | mk c' vs =>
        simp only [Hv] at hv
        rw [sq_if_f (is_hd (r := .mk c ps) rfl rfl), sq_if_f (is_hd (r := .mk c ps) rfl rfl), sq_if_f (is_hd (r := .mk c ps) rfl rfl)]
        have e0 : ∀ x : Sl, eV 0 [.v (.d (enc (.mk c ps))), .v (.d (encV (.mk c' vs))), x] μ = .ok (.d (.tup [.str "make", .str c, .tup (encL ps)])) μ := fun x => by rw [eV_at rfl]; simp [enc]
        have e1 : ∀ x : Sl, eV 1 [.v (.d (enc (.mk c ps))), .v (.d (encV (.mk c' vs))), x] μ = .ok (.d (.tup [.str "make", .str c', .tup (encVs vs)])) μ := fun x => by rw [eV_at rfl]; simp [encV]
        have e2 := tCmp_ok (f := neR) (ixc_ok (i := 1) (e0 .un) rfl) (ixc_ok (i := 1) (e1 .un) rfl) (by rw [vw_d, vw_d, str_ne])
        simp only [hd]
        by_cases e : c = c'
        · subst e
          rw [decide_eq_true rfl] at e2 ⊢
          rw [sq_if_f e2, Bool.true_and]
          have hvl := hv rfl
          have hl := hvl.len
          obtain ⟨d', rfl, _, fs, m1, l1, f1⟩ := hw.mk
          have hf2 := (maker_fields g m1).2.1
          simp only at hf2
          rw [hdL_zip hl]
          refine look_all (fun ρ => ∃ x : Sl, ρ = [.v (.d (enc (.mk c ps))), .v (.d (encV (.mk c vs))), x]) (xs := rangeF 0 ps.length) ⟨_, rfl⟩ ?_ (by simp; omega) ?_ ?_
          · exact iRange1_nat (eBi1_ok (ixc_ok (i := 2) (e0 .un) rfl) (by rw [vw_d, lenR_tup, encL_map, List.length_map])) (by omega)
          · rintro ρ x ⟨y, rfl⟩
            exact ⟨.v x, by simp only [List.set_cons_succ, List.set_cons_zero]⟩
          · rintro i x y ρ ⟨s, rfl⟩ hx hy
            obtain ⟨p, v, hp, hv', rfl⟩ := zip_row hy
            have hil : i < ps.length := (List.getElem?_eq_some_iff.mp hp).1
            rw [getElem_rangeF _ _ _ hil, Int.zero_add] at hx
            obtain rfl := Option.some.inj hx
            simp only [List.set_cons_succ, List.set_cons_zero]
            have hg := hgt_get hp
            exact call2' (ix_ok (ixc_ok (i := 2) (e0 _) rfl) (eV_at rfl) (encL_get' hp)) (ix_ok (ixc_ok (i := 2) (e1 _) rfl) (eV_at rfl) (encVs_get hv')) (ih d' fs[i] p v μ (f1 i fs[i] v (by simp) hv') (hvl.get hp hv') (by simp only [hgt] at hn; omega))
        · rw [decide_eq_false e] at e2 ⊢
          refine sq_rt ?_
          rw [sIf_t e2]
          exact sRet_ok eC_ok
end K06
end

section
set_option maxHeartbeats 0
set_option linter.all false
set_option maxRecDepth 100000
namespace K06
open Ev
/-! ### heights, in plain words -/
abbrev Hf := String → Option Nat
def known (F : Hf) (m : Mk) : Bool := m.2.all fun k => (F k).isSome
def mh (F : Hf) (m : Mk) : Nat := (m.2.map fun k => (F k).getD 0).foldl max 0 + 1
def rowsF (F : Hf) (ms : List Mk) : List Nat := (ms.filter (known F)).map (mh F)
def mn : List Nat → Nat
  | [] => 0
  | x :: xs => xs.foldl min x
theorem le_max (a : Nat) : ∀ (l : List Nat) (a : Nat), a ≤ l.foldl max a ∧ ∀ x ∈ l, x ≤ l.foldl max a
  | [], a => ⟨Nat.le_refl _, fun x h => by cases h⟩
  | y :: l, a => by
    obtain ⟨h1, h2⟩ := le_max a l (max a y)
    rw [List.foldl_cons]
    refine ⟨Nat.le_trans (Nat.le_max_left _ _) h1, fun x hx => ?_⟩
    rcases List.mem_cons.mp hx with rfl | hx
    · exact Nat.le_trans (Nat.le_max_right _ _) h1
    · exact h2 x hx
theorem max_le {b : Nat} : ∀ {l : List Nat} {a : Nat}, a ≤ b → (∀ x ∈ l, x ≤ b) → l.foldl max a ≤ b
  | [], a, h, _ => h
  | y :: l, a, h, h2 => by
    rw [List.foldl_cons]
    exact max_le (Nat.max_le.mpr ⟨h, h2 y (by simp)⟩) fun x hx => h2 x (by simp [hx])
theorem min_le : ∀ (l : List Nat) (a : Nat), l.foldl min a ≤ a ∧ (∀ x ∈ l, l.foldl min a ≤ x) ∧ (l.foldl min a = a ∨ l.foldl min a ∈ l)
  | [], a => ⟨Nat.le_refl _, (fun x h => by cases h), .inl rfl⟩
  | y :: l, a => by
    obtain ⟨h1, h2, h3⟩ := min_le l (min a y)
    rw [List.foldl_cons]
    refine ⟨Nat.le_trans h1 (Nat.min_le_left _ _), fun x hx => ?_, ?_⟩
    · rcases List.mem_cons.mp hx with rfl | hx
      · exact Nat.le_trans h1 (Nat.min_le_right _ _)
      · exact h2 x hx
    · rcases h3 with h3 | h3
      · rw [h3]
        by_cases h : a ≤ y
        · exact .inl (Nat.min_eq_left h)
        · exact .inr (by rw [Nat.min_eq_right (by omega)]; simp)
      · exact .inr (by simp [h3])
theorem mn_le {l : List Nat} {x : Nat} (h : x ∈ l) : mn l ≤ x := by
  cases l with
  | nil => cases h
  | cons y l =>
    obtain ⟨h1, h2, _⟩ := min_le l y
    rcases List.mem_cons.mp h with rfl | h
    · exact h1
    · exact h2 x h
theorem mn_mem {l : List Nat} (h : l ≠ []) : mn l ∈ l := by
  cases l with
  | nil => exact absurd rfl h
  | cons y l =>
    rcases (min_le l y).2.2 with h3 | h3
    · show l.foldl min y ∈ _
      rw [h3]; simp
    · exact List.mem_cons_of_mem _ h3
theorem mh_pos (F : Hf) (m : Mk) : 1 ≤ mh F m := by unfold mh; omega
theorem mh_field {F : Hf} {m : Mk} {f : String} {h : Nat} (hf : f ∈ m.2) (hh : F f = some h) : h + 1 ≤ mh F m := by
  have := (le_max 0 (m.2.map fun k => (F k).getD 0) 0).2 h (List.mem_map.mpr ⟨f, hf, by rw [hh]; rfl⟩)
  unfold mh; omega
theorem mh_le {F : Hf} {m : Mk} {b : Nat} (h : ∀ f ∈ m.2, (F f).getD 0 ≤ b) : mh F m ≤ b + 1 := by
  have : (m.2.map fun k => (F k).getD 0).foldl max 0 ≤ b := max_le (Nat.zero_le _) fun x hx => by
    obtain ⟨f, hf, rfl⟩ := List.mem_map.mp hx
    exact h f hf
  unfold mh; omega
theorem mh_congr {F G : Hf} {m : Mk} (h : ∀ f ∈ m.2, F f = G f) : mh F m = mh G m := by
  unfold mh
  have : (m.2.map fun k => (F k).getD 0) = m.2.map fun k => (G k).getD 0 := List.map_congr_left fun f hf => by rw [h f hf]
  rw [this]
/-- one type's step -/
def stepF (F : Hf) (row : String × List Mk) : Hf := if rowsF F row.2 = [] then F else fun x => if x = row.1 then some (mn (rowsF F row.2)) else F x
def passF (F : Hf) (T : Ty) : Hf := T.foldl stepF F
def F0 : Hf := fun x => if x = "Int" then some 0 else none
/-- the heights stand -/
structure Fix (T : Ty) (F : Hf) : Prop where
  fix : ∀ row ∈ T, stepF F row = F
theorem Fix.pass {T : Ty} {F : Hf} (h : Fix T F) : passF F T = F := by
  obtain ⟨h⟩ := h
  have key : ∀ (S : Ty), (∀ row ∈ S, row ∈ T) → passF F S = F := by
    intro S
    induction S with
    | nil => intro _; rfl
    | cons r S ih =>
      intro hs
      show passF (stepF F r) S = F
      rw [h r (hs r (by simp))]
      exact ih fun row hr => hs row (by simp [hr])
  exact key T fun _ h => h
/-- what is known when the first i types are done -/
structure Don (T : Ty) (i : Nat) (F : Hf) : Prop where
  int : F "Int" = some 0
  dom : ∀ x, (F x).isSome = true ↔ x = "Int" ∨ ∃ j : Nat, j < i ∧ nms[j]? = some x
  bd : ∀ (j : Nat) (x : String), j < i → nms[j]? = some x → ∃ h, F x = some h ∧ 1 ≤ h ∧ h ≤ j + 1
  loc : ∀ (j : Nat) (row : String × List Mk), j < i → T[j]? = some row → ∃ m ∈ row.2, known F m = true ∧ F row.1 = some (mh F m)
  low : ∀ (j : Nat) (row : String × List Mk) (m : Mk) (h : Nat), j < i → T[j]? = some row → m ∈ row.2 → (∀ f ∈ m.2, f = "Int" ∨ ∃ l : Nat, l < j ∧ nms[l]? = some f) → F row.1 = some h → h ≤ mh F m
theorem Don.zero (T : Ty) : Don T 0 F0 where
  int := rfl
  dom := fun x => by
    unfold F0
    by_cases h : x = "Int"
    · simp [h]
    · simp [h]
  bd := fun j x h => absurd h (Nat.not_lt_zero _)
  loc := fun j row h => absurd h (Nat.not_lt_zero _)
  low := fun j row m h hj => absurd hj (Nat.not_lt_zero _)
theorem nms_int : ∀ x ∈ nms, x ≠ "Int" := by decide
/-- the row's own first constructor has no field of its type or of a later one -/
theorem row_first {T : Ty} (g : GoodT T) {i : Nat} {row : String × List Mk} (hr : T[i]? = some row) : nms[i]? = some row.1 ∧ i < 3 ∧ (∃ m ∈ row.2, ∀ f ∈ m.2, f = "Int" ∨ ∃ l : Nat, l < i ∧ nms[l]? = some f) ∧ ∀ m ∈ row.2, ∀ f ∈ m.2, f = "Int" ∨ ∃ l : Nat, l < T.length ∧ nms[l]? = some f := by
  obtain ⟨kk, k1, k2, hT, hrow⟩ := g
  obtain ⟨nm, n1, hok⟩ := hrow i row hr
  obtain ⟨e1, cnt, c1, c2, hmk⟩ := id hok
  have hi : i < T.length := (List.getElem?_eq_some_iff.mp hr).1
  have tk : ∀ {j : Nat} {f : String} {n : Nat}, f ∈ (nms.take n).take j → ∃ l : Nat, l < j ∧ nms[l]? = some f := fun {j f n} h => by
    obtain ⟨l, hl, e⟩ := List.mem_iff_getElem.mp h
    simp at hl
    refine ⟨l, by omega, ?_⟩
    rw [List.getElem_take, List.getElem_take] at e
    rw [← e]; simp
  have first : ∀ ms : List Mk, MkOk (nms.take kk) nm ms cnt → ∃ m ∈ ms, ∀ f ∈ m.2, f = "Int" ∨ ∃ l : Nat, l < i ∧ nms[l]? = some f := fun ms h => by
    have hl := h.len c2
    obtain ⟨i', h1, h2⟩ := h.2.2
    have hi' : nms[i']? = some nm := by
      rw [List.getElem?_take] at h1
      split at h1
      · exact h1
      · cases h1
    obtain rfl := nms_inj hi' n1
    have hm : ms[0]? = some ms[0] := List.getElem?_eq_getElem (by omega)
    refine ⟨ms[0], List.getElem_mem _, fun f hf => ?_⟩
    rcases List.mem_cons.mp (h2 _ hm f hf) with z | z
    · exact .inl z
    · exact .inr (tk z)
  refine ⟨by rw [e1]; exact n1, ?_, ?_, fun m hm f hf => ?_⟩
  · have := (List.getElem?_eq_some_iff.mp n1).1
    simpa [nms] using this
  · rcases hmk with h | h
    · exact first _ h
    · obtain ⟨m, hm, hf⟩ := first _ h
      exact ⟨m, by simpa using hm, hf⟩
  · rcases List.mem_cons.mp ((hok.mem hm).2.2 f hf) with z | z
    · exact .inl z
    · obtain ⟨l, hl, e⟩ := List.mem_iff_getElem.mp z
      simp at hl
      refine .inr ⟨l, by omega, ?_⟩
      rw [List.getElem_take] at e
      rw [← e]; simp
theorem known_iff {F : Hf} {m : Mk} : known F m = true ↔ ∀ f ∈ m.2, (F f).isSome = true := by unfold known; simp
/-- the next type -/
theorem Don.step {T : Ty} (g : GoodT T) {i : Nat} {F : Hf} {row : String × List Mk} (hr : T[i]? = some row) (d : Don T i F) : Don T (i + 1) (stepF F row) := by
  obtain ⟨n1, i3, ⟨m0, hm0, hf0⟩, hall⟩ := row_first g hr
  have knw : ∀ m : Mk, (∀ f ∈ m.2, f = "Int" ∨ ∃ l : Nat, l < i ∧ nms[l]? = some f) ↔ known F m = true := fun m => by
    rw [known_iff]
    exact ⟨fun h f hf => (d.dom f).mpr (h f hf), fun h f hf => (d.dom f).mp (h f hf)⟩
  have hne : rowsF F row.2 ≠ [] := by
    have : mh F m0 ∈ rowsF F row.2 := List.mem_map.mpr ⟨m0, List.mem_filter.mpr ⟨hm0, (knw m0).mp hf0⟩, rfl⟩
    exact List.ne_nil_of_mem this
  have hstep : stepF F row = fun x => if x = row.1 then some (mn (rowsF F row.2)) else F x := by unfold stepF; rw [if_neg hne]
  have nint : row.1 ≠ "Int" := nms_int _ (List.mem_of_getElem? n1)
  have nold : ∀ (j : Nat) (x : String), j < i → nms[j]? = some x → x ≠ row.1 := fun j x hj hx e => by
    rw [e] at hx
    have := nms_inj hx n1
    omega
  have old : ∀ f, (f = "Int" ∨ ∃ l : Nat, l < i ∧ nms[l]? = some f) → stepF F row f = F f := fun f hf => by
    rw [hstep]
    rcases hf with z | ⟨l, hl, z⟩
    · rw [z]; exact if_neg (Ne.symm nint)
    · exact if_neg (nold l f hl z)
  have own : stepF F row row.1 = some (mn (rowsF F row.2)) := by rw [hstep]; exact if_pos rfl
  obtain ⟨mm, hmm, emm⟩ := List.mem_map.mp (mn_mem hne)
  obtain ⟨hmm1, hmm2⟩ := List.mem_filter.mp hmm
  have emm : mh F mm = mn (rowsF F row.2) := emm
  have same : ∀ m : Mk, known F m = true → mh (stepF F row) m = mh F m := fun m hm => mh_congr fun f hf => old f ((knw m).mpr hm f hf)
  have keepK : ∀ m : Mk, known F m = true → known (stepF F row) m = true := fun m hm => by
    rw [known_iff] at hm ⊢
    intro f hf
    have := hm f hf
    rw [old f ((d.dom f).mp this)]; exact this
  refine ⟨by rw [old _ (.inl rfl)]; exact d.int, fun x => ?_, fun j x hj hx => ?_, fun j row' hj hr' => ?_, fun j row' m h hj hr' hm hf hh => ?_⟩
  · by_cases hx : x = row.1
    · subst hx
      rw [own]
      exact ⟨fun _ => .inr ⟨i, Nat.lt_succ_self _, n1⟩, fun _ => rfl⟩
    · rw [hstep]
      show (if x = row.1 then _ else F x).isSome = true ↔ _
      rw [if_neg hx, d.dom x]
      constructor
      · rintro (z | ⟨j, hj, z⟩)
        · exact .inl z
        · exact .inr ⟨j, by omega, z⟩
      · rintro (z | ⟨j, hj, z⟩)
        · exact .inl z
        · by_cases hji : j = i
          · subst hji
            rw [n1] at z
            exact absurd (Option.some.inj z).symm hx
          · exact .inr ⟨j, by omega, z⟩
  · by_cases hji : j = i
    · subst hji
      rw [n1] at hx
      obtain rfl := Option.some.inj hx
      refine ⟨_, own, ?_, ?_⟩
      · rw [← emm]; exact mh_pos F mm
      · have h1 : mn (rowsF F row.2) ≤ mh F m0 := mn_le (List.mem_map.mpr ⟨m0, List.mem_filter.mpr ⟨hm0, (knw m0).mp hf0⟩, rfl⟩)
        refine Nat.le_trans h1 (mh_le fun f hf => ?_)
        rcases hf0 f hf with z | ⟨l, hl, z⟩
        · rw [z, d.int]; exact Nat.zero_le _
        · obtain ⟨h, e, _, h3⟩ := d.bd l f hl z
          rw [e]
          show h ≤ j
          omega
    · have hj' : j < i := by omega
      obtain ⟨h, e, h2, h3⟩ := d.bd j x hj' hx
      exact ⟨h, by rw [old x (.inr ⟨j, hj', hx⟩)]; exact e, h2, h3⟩
  · by_cases hji : j = i
    · subst hji
      rw [hr] at hr'
      obtain rfl := Option.some.inj hr'
      exact ⟨mm, hmm1, keepK mm hmm2, by rw [own, same mm hmm2, emm]⟩
    · have hj' : j < i := by omega
      obtain ⟨m, h1, h2, h3⟩ := d.loc j row' hj' hr'
      exact ⟨m, h1, keepK m h2, by rw [old _ (.inr ⟨j, hj', (row_first g hr').1⟩), same m h2]; exact h3⟩
  · by_cases hji : j = i
    · subst hji
      rw [hr] at hr'
      obtain rfl := Option.some.inj hr'
      rw [own] at hh
      obtain rfl := Option.some.inj hh
      have hk := (knw m).mp hf
      rw [same m hk]
      exact mn_le (List.mem_map.mpr ⟨m, List.mem_filter.mpr ⟨hm, hk⟩, rfl⟩)
    · have hj' : j < i := by omega
      have hk : known F m = true := (knw m).mp fun f hff => (hf f hff).imp id fun ⟨l, hl, z⟩ => ⟨l, by omega, z⟩
      rw [old _ (.inr ⟨j, hj', (row_first g hr').1⟩)] at hh
      rw [same m hk]
      exact d.low j row' m h hj' hr' hm hf hh
theorem Don.pass {T : Ty} (g : GoodT T) : ∀ (S : Ty) (i : Nat) (F : Hf), i ≤ T.length → T.drop i = S → Don T i F → Don T T.length (passF F S)
  | [], i, F, h0, h, d => by
    have hl : T.length = i := by
      have := congrArg List.length h
      simp at this; omega
    show Don T T.length F
    rw [hl]; exact d
  | row :: S, i, F, h0, h, d => by
    have hi : i < T.length := by
      by_cases hi : i < T.length
      · exact hi
      · rw [List.drop_of_length_le (by omega)] at h; cases h
    rw [List.drop_eq_getElem_cons hi] at h
    obtain ⟨h1, h2⟩ := List.cons.inj h
    show Don T T.length (passF (stepF F row) S)
    exact Don.pass g S (i + 1) _ hi h2 (d.step g (by rw [List.getElem?_eq_getElem hi, h1]))
theorem Don.fix {T : Ty} (g : GoodT T) {F : Hf} (d : Don T T.length F) : Fix T F := ⟨fun row hrow => by
  obtain ⟨j, hj, hr⟩ := List.mem_iff_getElem.mp hrow
  have hr : T[j]? = some row := by rw [List.getElem?_eq_getElem hj, hr]
  obtain ⟨n1, j3, _, hall⟩ := row_first g hr
  obtain ⟨m, hm, hk, hF⟩ := d.loc j row hj hr
  have hin : mh F m ∈ rowsF F row.2 := List.mem_map.mpr ⟨m, List.mem_filter.mpr ⟨hm, hk⟩, rfl⟩
  have hne : rowsF F row.2 ≠ [] := List.ne_nil_of_mem hin
  have hkk : T.length ≤ 3 := by obtain ⟨kk, a, b, c, _⟩ := g; omega
  have eq : mn (rowsF F row.2) = mh F m := by
    refine Nat.le_antisymm (mn_le hin) ?_
    obtain ⟨m', hm', e'⟩ := List.mem_map.mp (mn_mem hne)
    obtain ⟨hm1, hm2⟩ := List.mem_filter.mp hm'
    have e' : mh F m' = mn (rowsF F row.2) := e'
    rw [← e']
    by_cases hall' : ∀ f ∈ m'.2, f = "Int" ∨ ∃ l : Nat, l < j ∧ nms[l]? = some f
    · exact d.low j row m' _ hj hr hm1 hall' hF
    · simp only [Classical.not_forall] at hall'
      obtain ⟨f, hf, hnf⟩ := hall'
      rcases hall m' hm1 f hf with z | ⟨l, hl, z⟩
      · exact absurd (.inl z) hnf
      · have hlj : j ≤ l := by
          by_cases h : l < j
          · exact absurd (.inr ⟨l, h, z⟩) hnf
          · omega
        obtain ⟨hf', e1, e2, e3⟩ := d.bd l f hl z
        have := mh_field hf e1
        obtain ⟨hx, x1, x2, x3⟩ := d.bd j row.1 hj n1
        rw [x1] at hF
        have hF := Option.some.inj hF
        by_cases h : l = j
        · subst h
          rw [n1] at z
          obtain rfl := Option.some.inj z
          rw [x1] at e1
          have := Option.some.inj e1
          omega
        · omega
  unfold stepF
  rw [if_neg hne, eq]
  funext x
  by_cases hx : x = row.1
  · rw [if_pos hx, hx]; exact hF.symm
  · rw [if_neg hx]⟩
def passN (T : Ty) : Nat → Hf
  | 0 => F0
  | n + 1 => passF (passN T n) T
theorem passN_don {T : Ty} (g : GoodT T) : ∀ n, Don T T.length (passN T (n + 1))
  | 0 => Don.pass g T 0 F0 (Nat.zero_le _) rfl (Don.zero T)
  | n + 1 => by
    have h := passN_don g n
    show Don T T.length (passF (passN T (n + 1)) T)
    rw [(h.fix g).pass]; exact h
end K06
end

section
set_option maxHeartbeats 0
set_option linter.all false
set_option maxRecDepth 100000
namespace K06
open Ev
/-! ### heights, as the law writes them -/
def dn (n : Nat) : D := .int (n : Int)
def DicF (kvs : List (Ky × R)) (F : Hf) : Prop := ∀ x, valK kvs (.s x) = (F x).map fun n : Nat => .d (.int (n : Int))
theorem valK_put (k k' : Ky) (v : R) (kvs : List (Ky × R)) : valK (putK kvs k v) k' = if k' = k then some v else valK kvs k' := by
  have m1 : ∀ kvs : List (Ky × R), k' ≠ k → valK (kvs.map fun kv => if kv.1 = k then (kv.1, v) else kv) k' = valK kvs k' := by
    intro kvs hne
    induction kvs with
    | nil => rfl
    | cons p kvs ih =>
      unfold valK at ih ⊢
      rw [List.map_cons, List.find?_cons, List.find?_cons]
      have e : (if p.1 = k then (p.1, v) else p).1 = p.1 := by split <;> rfl
      rw [e]
      by_cases h : p.1 = k'
      · rw [decide_eq_true h]
        have h2 : p.1 ≠ k := fun z => hne (h.symm.trans z)
        rw [if_neg h2]
      · rw [decide_eq_false h]; exact ih
  have m2 : ∀ kvs : List (Ky × R), kvs.any (fun kv => decide (kv.1 = k)) = true → valK (kvs.map fun kv => if kv.1 = k then (kv.1, v) else kv) k = some v := by
    intro kvs
    induction kvs with
    | nil => intro h; simp at h
    | cons p kvs ih =>
      intro h
      unfold valK at ih ⊢
      rw [List.map_cons, List.find?_cons]
      have e : (if p.1 = k then (p.1, v) else p).1 = p.1 := by split <;> rfl
      rw [e]
      by_cases h1 : p.1 = k
      · rw [decide_eq_true h1, if_pos h1]; rfl
      · rw [decide_eq_false h1]
        refine ih ?_
        simpa [h1] using h
  have m3 : ∀ kvs : List (Ky × R), kvs.any (fun kv => decide (kv.1 = k)) = false → valK (kvs ++ [(k, v)]) k' = if k' = k then some v else valK kvs k' := by
    intro kvs
    induction kvs with
    | nil =>
      intro _
      unfold valK
      rw [List.nil_append, List.find?_cons]
      by_cases h : k' = k
      · rw [if_pos h, decide_eq_true h.symm]; rfl
      · rw [if_neg h, decide_eq_false (fun z => h z.symm)]
    | cons p kvs ih =>
      intro h
      rw [List.any_cons, Bool.or_eq_false_iff] at h
      have ih := ih h.2
      have hp : p.1 ≠ k := by simpa using h.1
      unfold valK at ih ⊢
      rw [List.cons_append, List.find?_cons, List.find?_cons]
      by_cases h1 : p.1 = k'
      · rw [decide_eq_true h1, if_neg (fun z => hp (h1.trans z))]
      · rw [decide_eq_false h1]; exact ih
  unfold putK
  cases ha : kvs.any (fun kv => decide (kv.1 = k)) with
  | true =>
    rw [if_pos rfl]
    by_cases h : k' = k
    · rw [if_pos h, h]; exact m2 kvs ha
    · rw [if_neg h]; exact m1 kvs h
  | false => rw [if_neg (by decide)]; exact m3 kvs ha
theorem putK_len (kvs : List (Ky × R)) (k : Ky) (v : R) : (putK kvs k v).length ≤ kvs.length + 1 := by
  unfold putK
  split
  · simp
  · simp
theorem DicF.put {kvs : List (Ky × R)} {F : Hf} (h : DicF kvs F) (x : String) (n : Nat) : DicF (putK kvs (.s x) (.d (.int n))) (fun y => if y = x then some n else F y) := fun y => by
  rw [valK_put]
  show _ = (if y = x then some n else F y).map fun n : Nat => R.d (.int (n : Int))
  by_cases e : y = x
  · rw [if_pos (by rw [e]), if_pos e]; rfl
  · rw [if_neg (fun z => e (by injection z)), if_neg e]; exact h y
theorem maxI_nat : ∀ (l : List Nat) (a : Nat), maxI (a : Int) (l.map fun (n : Nat) => (n : Int)) = ((l.foldl max a : Nat) : Int)
  | [], a => rfl
  | y :: l, a => by
    rw [List.map_cons, maxI, List.foldl_cons]
    have e : (if (y : Int) > (a : Int) then (y : Int) else (a : Int)) = ((max a y : Nat) : Int) := by split <;> omega
    rw [e]; exact maxI_nat l _
theorem minI_nat : ∀ (l : List Nat) (a : Nat), minI (a : Int) (l.map fun (n : Nat) => (n : Int)) = ((l.foldl min a : Nat) : Int)
  | [], a => rfl
  | y :: l, a => by
    rw [List.map_cons, minI, List.foldl_cons]
    have e : (if (y : Int) < (a : Int) then (y : Int) else (a : Int)) = ((min a y : Nat) : Int) := by split <;> omega
    rw [e]; exact minI_nat l _
theorem ints_map (l : List Int) : intsD (l.map D.int) = some l := by
  induction l with
  | nil => rfl
  | cons a l ih => rw [List.map_cons]; show (intsD (l.map D.int)).map (a :: ·) = _; rw [ih]; rfl
theorem maxR_nat (l : List Nat) : maxR [.d (.lst (.int 0 :: l.map dn))] = some (.d (.int ((l.foldl max 0 : Nat) : Int))) := by
  have e : (D.int 0 :: l.map dn) = ((0 : Int) :: l.map fun (n : Nat) => (n : Int)).map D.int := by simp [dn]
  show (match intsD (D.int 0 :: l.map dn) with
    | some (x :: xs) => some (R.d (.int (maxI x xs)))
    | _ => none) = _
  rw [e, ints_map]
  show some (R.d (.int (maxI 0 (l.map fun (n : Nat) => (n : Int))))) = _
  rw [← maxI_nat l 0]; rfl
theorem minR_nat (l : List Nat) (h : l ≠ []) : minR [.d (.lst (l.map dn))] = some (.d (.int (mn l : Int))) := by
  cases l with
  | nil => exact absurd rfl h
  | cons y l =>
    have e : ((y :: l).map dn) = ((y : Int) :: l.map fun (n : Nat) => (n : Int)).map D.int := by simp [dn]
    show (match intsD ((y :: l).map dn) with
      | some (x :: xs) => some (R.d (.int (minI x xs)))
      | _ => none) = _
    rw [e, ints_map]
    show some (R.d (.int (minI (y : Int) (l.map fun (n : Nat) => (n : Int))))) = _
    rw [minI_nat]; rfl
abbrev hE (T : Ty) (kvs : List (Ky × R)) (x2 x3 x4 x5 x6 x7 x8 : Sl) : Env := [.v (.d (encT T)), .odic kvs, x2, x3, x4, x5, x6, x7, x8]
theorem rows_eval {T : Ty} {kvs : List (Ky × R)} {F : Hf} (hF : DicF kvs F) (ms : List Mk) (hms : ms.length ≤ 1000) (hfs : ∀ m ∈ ms, m.2.length ≤ 1000) {x2 x3 x5 x6 x7 x8 : Sl} {μ : Mem} :
    eComp [7, 8] (tgT [(tgN 7), (tgN 8)]) (iE (eV 4)) (tCmp eqR (eBi lenR [(eComp [6] (tgN 6) (iE (eV 8)) (tCmp ninR (eV 6) (eB 1)) (eV 6))]) (eC (.int 0))) (eOp addR (eBi maxR [(eOp addR (eLst [(eC (.int 0))]) (eComp [6] (tgN 6) (iE (eV 8)) tYes (eIdx (eB 1) (eV 6))))]) (eC (.int 1)))
      (hE T kvs x2 x3 (.v (.d (encMs ms))) x5 x6 x7 x8) μ = .ok (.d (.lst ((rowsF F ms).map dn))) μ := by
  have hB : ∀ (s5 s6 s7 s8 : Sl), eB 1 (hE T kvs x2 x3 (.v (.d (encMs ms))) s5 s6 s7 s8) μ = .ok (.dic kvs) μ := fun _ _ _ _ => by unfold eB; rfl
  have hcomp := compL_filter (t := tgT [(tgN 7), (tgN 8)]) (c := tCmp eqR (eBi lenR [(eComp [6] (tgN 6) (iE (eV 8)) (tCmp ninR (eV 6) (eB 1)) (eV 6))]) (eC (.int 0))) (e := eOp addR (eBi maxR [(eOp addR (eLst [(eC (.int 0))]) (eComp [6] (tgN 6) (iE (eV 8)) tYes (eIdx (eB 1) (eV 6))))]) (eC (.int 1)))
    (ρ := hE T kvs x2 x3 (.v (.d (encMs ms))) x5 x6 .un .un) (μ := μ) (fun m : Mk => R.d (encM m)) (fun m => R.d (.int (mh F m : Int))) (known F) (xs := ms) (by
      intro m hm
      have hfl := hfs m hm
      refine ⟨hE T kvs x2 x3 (.v (.d (encMs ms))) x5 x6 (.v (.d (.str m.1))) (.v (.d (encF m.2))), by simp only [encM, tgT, tgs, tgN, List.map_cons, List.map_nil, Option.bind_some, List.set_cons_succ, List.set_cons_zero], ?_, fun hk => ?_⟩
      · have h1 := compL_filter (t := tgN 6) (c := tCmp ninR (eV 6) (eB 1)) (e := eV 6) (ρ := hE T kvs x2 x3 (.v (.d (encMs ms))) x5 .un (.v (.d (.str m.1))) (.v (.d (encF m.2)))) (μ := μ) (fun k : String => R.d (.str k)) (fun k => R.d (.str k)) (fun k => !(F k).isSome) (xs := m.2) (by
          intro k hk
          refine ⟨hE T kvs x2 x3 (.v (.d (encMs ms))) x5 (.v (.d (.str k))) (.v (.d (.str m.1))) (.v (.d (encF m.2))), by simp only [tgN, List.set_cons_succ, List.set_cons_zero], ?_, fun _ => eV_at rfl⟩
          refine tCmp_ok (eV_at rfl) (hB _ _ _ _) ?_
          rw [vw_d, vw_dic]
          show (some (valK kvs (.s k)).isSome).map not = _
          rw [hF k]
          cases F k <;> rfl)
        have e1 : eComp [6] (tgN 6) (iE (eV 8)) (tCmp ninR (eV 6) (eB 1)) (eV 6) (hE T kvs x2 x3 (.v (.d (encMs ms))) x5 x6 (.v (.d (.str m.1))) (.v (.d (encF m.2)))) μ = .ok (.d (.lst ((m.2.filter fun k => !(F k).isSome).map .str))) μ := by
          rw [eComp_ok (iE_tup (ds := m.2.map .str) (eV_at rfl)) (by rw [List.map_map]; exact h1) (by rw [List.length_map]; exact Nat.le_trans (List.length_filter_le _ _) (by omega)), mkL_map]
        refine tCmp_ok (eBi1_ok e1 (by rw [vw_d, lenR_lst])) eC_ok ?_
        rw [vw_d, vw_d, eqR_d, eqD_left (by simp [D.dep]), eqv_int]
        congr 1
        rw [List.length_map]
        unfold known
        rw [Bool.eq_iff_iff, beq_iff_eq, List.all_eq_true]
        constructor
        · intro h
          have h : (m.2.filter fun k => !(F k).isSome) = [] := List.eq_nil_of_length_eq_zero (by omega)
          intro k hk
          have := List.filter_eq_nil_iff.mp h k hk
          cases e : F k with
          | none => exact absurd (by rw [e]; rfl) this
          | some n => rfl
        · intro h
          have : (m.2.filter fun k => !(F k).isSome) = [] := List.filter_eq_nil_iff.mpr fun k hk => by rw [h k hk]; decide
          rw [this]; rfl
      · have h2 : compL (tgN 6) tYes (eIdx (eB 1) (eV 6)) (m.2.map fun k => R.d (.str k)) (hE T kvs x2 x3 (.v (.d (encMs ms))) x5 .un (.v (.d (.str m.1))) (.v (.d (encF m.2)))) μ = .ok (m.2.map fun k => R.d (.int ((F k).getD 0 : Int))) μ := by
          refine compL_map (by simp) fun i x y hx hy => ?_
          rw [List.getElem?_map] at hx hy
          obtain ⟨k, hk1, hx⟩ := Option.map_eq_some_iff.mp hx
          rw [hk1] at hy
          obtain rfl := Option.some.inj hy
          subst hx
          refine ⟨hE T kvs x2 x3 (.v (.d (encMs ms))) x5 (.v (.d (.str k))) (.v (.d (.str m.1))) (.v (.d (encF m.2))), by simp only [tgN, List.set_cons_succ, List.set_cons_zero], by simp [tYes], ?_⟩
          unfold eIdx
          refine eOp_ok (hB _ _ _ _) (eV_at rfl) ?_
          rw [vw_dic, vw_d]
          show valK kvs (.s k) = _
          rw [hF k]
          have hs := (known_iff.mp hk) k (List.mem_of_getElem? hk1)
          cases e : F k with
          | none => rw [e] at hs; cases hs
          | some n =>
            show _ = some (R.d (.int (((F k).getD 0 : Nat) : Int)))
            rw [e]; rfl
        have e2 : eComp [6] (tgN 6) (iE (eV 8)) tYes (eIdx (eB 1) (eV 6)) (hE T kvs x2 x3 (.v (.d (encMs ms))) x5 x6 (.v (.d (.str m.1))) (.v (.d (encF m.2)))) μ = .ok (.d (.lst ((m.2.map fun k => (F k).getD 0).map dn))) μ := by
          rw [eComp_ok (iE_tup (ds := m.2.map .str) (eV_at rfl)) (by rw [List.map_map]; exact h2) (by rw [List.length_map]; omega), mkL_map, List.map_map]; rfl
        refine eOp_ok (eBi1_ok (eOp_ok (x := .d (.lst [.int 0])) (by simp [eLst, evs_cons, evs_nil, eC]) e2 (z := .d (.lst (.int 0 :: (m.2.map fun k => (F k).getD 0).map dn))) ?_) (by rw [vw_d]; exact maxR_nat _)) eC_ok ?_
        · rw [vw_d, vw_d, addR_lst, if_pos (le_SL (by simp; omega))]; rfl
        · rw [vw_d, vw_d, addR_int]
          unfold mh
          congr 3)
  have hr : (rowsF F ms).length ≤ 1000 := by
    unfold rowsF
    rw [List.length_map]
    exact Nat.le_trans (List.length_filter_le _ _) hms
  rw [eComp_ok (iE_tup (ds := ms.map encM) (eV_at rfl)) (by rw [List.map_map]; exact hcomp) (by rw [List.length_map]; exact Nat.le_trans (List.length_filter_le _ _) (by omega)), mkL_map]
  unfold rowsF
  rw [List.map_map]; rfl
/-- a type's step, as written -/
theorem height_step {T : Ty} {kvs : List (Ky × R)} {F : Hf} (hF : DicF kvs F) (row : String × List Mk) (hms : row.2.length ≤ 1000) (hfs : ∀ m ∈ row.2, m.2.length ≤ 1000) (hk : kvs.length ≤ 1000) {x2 x5 x6 x7 x8 : Sl} {μ : Mem} :
    ∃ (kvs' : List (Ky × R)) (y5 : Sl), DicF kvs' (stepF F row) ∧ kvs'.length ≤ kvs.length + 1 ∧
    (sq (sAs (tgN 5) (eComp [7, 8] (tgT [(tgN 7), (tgN 8)]) (iE (eV 4)) (tCmp eqR (eBi lenR [(eComp [6] (tgN 6) (iE (eV 8)) (tCmp ninR (eV 6) (eB 1)) (eV 6))]) (eC (.int 0))) (eOp addR (eBi maxR [(eOp addR (eLst [(eC (.int 0))]) (eComp [6] (tgN 6) (iE (eV 8)) tYes (eIdx (eB 1) (eV 6))))]) (eC (.int 1)))))
      (sIf (tCmp gtR (eBi lenR [(eV 5)]) (eC (.int 0))) (sSetD 1 (eV 3) (eBi minR [(eV 5)])) sNil)) (hE T kvs x2 (.v (.d (.str row.1))) (.v (.d (encMs row.2))) x5 x6 x7 x8) μ =
      .ok (.nx (hE T kvs' x2 (.v (.d (.str row.1))) (.v (.d (encMs row.2))) y5 x6 x7 x8)) μ := by
  rw [sq_as (rows_eval hF row.2 hms hfs)]
  simp only [List.set_cons_succ, List.set_cons_zero]
  have hl : (rowsF F row.2).length ≤ 1000 := by
    unfold rowsF
    rw [List.length_map]
    exact Nat.le_trans (List.length_filter_le _ _) hms
  by_cases hne : rowsF F row.2 = []
  · refine ⟨kvs, .v (.d (.lst ((rowsF F row.2).map dn))), by unfold stepF; rw [if_pos hne]; exact hF, by omega, ?_⟩
    rw [sIf_f (tCmp_ok (μ2 := μ) (z := false) (eBi1_ok (μ1 := μ) (eV_at rfl) (by rw [vw_d, lenR_lst])) eC_ok (by rw [vw_d, vw_d, hne]; rfl))]
    exact sNil_ok
  · refine ⟨putK kvs (.s row.1) (.d (.int (mn (rowsF F row.2) : Int))), .v (.d (.lst ((rowsF F row.2).map dn))), by unfold stepF; rw [if_neg hne]; exact hF.put _ _, putK_len _ _ _, ?_⟩
    have hpos : 0 < (rowsF F row.2).length := List.length_pos_iff.mpr hne
    rw [sIf_t (tCmp_ok (μ2 := μ) (z := true) (eBi1_ok (μ1 := μ) (eV_at rfl) (by rw [vw_d, lenR_lst])) eC_ok (by
      rw [vw_d, vw_d, List.length_map]
      show some (decide ((0 : Int) < ((rowsF F row.2).length : Int))) = _
      rw [decide_eq_true (by omega)]))]
    unfold sSetD
    rw [eBi1_ok (μ1 := μ) (eV_at rfl) (by rw [vw_d]; exact minR_nat _ hne), bind_ok]
    show (eV 3 _ μ).bind _ = _
    rw [eV_at rfl, bind_ok]
    show (if kvs.length < SL then _ else _) = _
    rw [if_pos (lt_SL (by omega))]
    simp only [List.set_cons_succ, List.set_cons_zero]
theorem heights_spec (n : Nat) {T : Ty} (g : GoodT T) (μ : Mem) : ∃ kvs, DicF kvs (passN T (T.length + 1)) ∧ callN P (n + 1) "_law_heights" [.d (encT T)] μ = .ok (.dic kvs) μ := by
  have hT : T.length ≤ 3 := by obtain ⟨kk, a, b, c, _⟩ := g; omega
  have hrow : ∀ row ∈ T, row.2.length ≤ 3 ∧ ∀ m ∈ row.2, m.2.length ≤ 2 := fun row hr => by
    obtain ⟨kk, a, b, c, d⟩ := g
    obtain ⟨i, hi, e⟩ := List.mem_iff_getElem.mp hr
    obtain ⟨nm, n1, hok⟩ := d i row (by rw [List.getElem?_eq_getElem hi, e])
    exact ⟨hok.len.2, fun m hm => (hok.mem hm).2.1⟩
  rw [callN_run (d := f_law_heights) rfl rfl]
  generalize callN P n = C
  -- one pass
  have pass : ∀ (kvs : List (Ky × R)) (F : Hf) (x2 x3 x4 x5 x6 x7 x8 : Sl), DicF kvs F → kvs.length ≤ 500 → ∃ (kvs' : List (Ky × R)) (y3 y4 y5 : Sl), DicF kvs' (passF F T) ∧ kvs'.length ≤ kvs.length + 3 ∧
      sFor (tgT [(tgN 3), (tgN 4)]) (iE (eV 0)) (sq (sAs (tgN 5) (eComp [7, 8] (tgT [(tgN 7), (tgN 8)]) (iE (eV 4)) (tCmp eqR (eBi lenR [(eComp [6] (tgN 6) (iE (eV 8)) (tCmp ninR (eV 6) (eB 1)) (eV 6))]) (eC (.int 0))) (eOp addR (eBi maxR [(eOp addR (eLst [(eC (.int 0))]) (eComp [6] (tgN 6) (iE (eV 8)) tYes (eIdx (eB 1) (eV 6))))]) (eC (.int 1)))))
      (sIf (tCmp gtR (eBi lenR [(eV 5)]) (eC (.int 0))) (sSetD 1 (eV 3) (eBi minR [(eV 5)])) sNil)) (hE T kvs x2 x3 x4 x5 x6 x7 x8) μ = .ok (.nx (hE T kvs' x2 y3 y4 y5 x6 x7 x8)) μ := by
    intro kvs F x2 x3 x4 x5 x6 x7 x8 hF hk
    obtain ⟨ρ', ⟨kvs', y3, y4, y5, rfl, h1, h2⟩, h3⟩ := forL_inv (t := tgT [(tgN 3), (tgN 4)]) (b := (sq (sAs (tgN 5) (eComp [7, 8] (tgT [(tgN 7), (tgN 8)]) (iE (eV 4)) (tCmp eqR (eBi lenR [(eComp [6] (tgN 6) (iE (eV 8)) (tCmp ninR (eV 6) (eB 1)) (eV 6))]) (eC (.int 0))) (eOp addR (eBi maxR [(eOp addR (eLst [(eC (.int 0))]) (eComp [6] (tgN 6) (iE (eV 8)) tYes (eIdx (eB 1) (eV 6))))]) (eC (.int 1)))))
      (sIf (tCmp gtR (eBi lenR [(eV 5)]) (eC (.int 0))) (sSetD 1 (eV 3) (eBi minR [(eV 5)])) sNil))) (μ := μ)
      (fun i ρ => ∃ (kvs' : List (Ky × R)) (y3 y4 y5 : Sl), ρ = hE T kvs' x2 y3 y4 y5 x6 x7 x8 ∧ DicF kvs' (passF F (T.take i)) ∧ kvs'.length ≤ kvs.length + i)
      (xs := T.map fun r => .d (encRow r)) (k := 0) (ρ := hE T kvs x2 x3 x4 x5 x6 x7 x8) ⟨kvs, x3, x4, x5, rfl, by simpa [passF] using hF, by omega⟩ (by
        rintro i x ρ hx ⟨kvs', y3, y4, y5, rfl, h1, h2⟩
        rw [Nat.zero_add] at h1 h2 ⊢
        rw [List.getElem?_map] at hx
        obtain ⟨row, hr, hx⟩ := Option.map_eq_some_iff.mp hx
        subst hx
        have hmem := List.mem_of_getElem? hr
        have hi : i < T.length := (List.getElem?_eq_some_iff.mp hr).1
        obtain ⟨q1, q2⟩ := hrow row hmem
        refine ⟨hE T kvs' x2 (.v (.d (.str row.1))) (.v (.d (encMs row.2))) y5 x6 x7 x8, by simp only [encRow, tgT, tgs, tgN, List.map_cons, List.map_nil, Option.bind_some, List.set_cons_succ, List.set_cons_zero], ?_⟩
        obtain ⟨kvs2, z5, h4, h5, h6⟩ := height_step (T := T) h1 row (by omega) (fun m hm => by have := q2 m hm; omega) (by omega) (x2 := x2) (x5 := y5) (x6 := x6) (x7 := x7) (x8 := x8) (μ := μ)
        refine ⟨_, ⟨kvs2, _, _, z5, rfl, ?_, by omega⟩, h6⟩
        rw [List.take_add_one, hr]
        simp only [passF, Option.toList_some, List.foldl_append, List.foldl_cons, List.foldl_nil]
        exact h4)
    rw [Nat.zero_add, List.length_map] at h1 h2
    rw [List.take_length] at h1
    exact ⟨kvs', y3, y4, y5, h1, by omega, sFor_rt (by rw [iE_tup (ds := T.map encRow) (eV_at rfl), List.map_map]; rfl) h3⟩
  have start : DicF [(.s "Int", .d (.int 0))] F0 := fun x => by
    unfold valK F0
    rw [List.find?_cons]
    by_cases h : x = "Int"
    · subst h; rfl
    · rw [if_neg h, decide_eq_false (fun z => h (by injection z with z; exact z.symm))]; rfl
  obtain ⟨ρ', ⟨kvs', y2, y3, y4, y5, rfl, h1, h2⟩, h3⟩ := forL_inv (t := tgN 2) (b := (sFor (tgT [(tgN 3), (tgN 4)]) (iE (eV 0)) (sq (sAs (tgN 5) (eComp [7, 8] (tgT [(tgN 7), (tgN 8)]) (iE (eV 4)) (tCmp eqR (eBi lenR [(eComp [6] (tgN 6) (iE (eV 8)) (tCmp ninR (eV 6) (eB 1)) (eV 6))]) (eC (.int 0))) (eOp addR (eBi maxR [(eOp addR (eLst [(eC (.int 0))]) (eComp [6] (tgN 6) (iE (eV 8)) tYes (eIdx (eB 1) (eV 6))))]) (eC (.int 1)))))
      (sIf (tCmp gtR (eBi lenR [(eV 5)]) (eC (.int 0))) (sSetD 1 (eV 3) (eBi minR [(eV 5)])) sNil)))) (μ := μ)
    (fun i ρ => ∃ (kvs' : List (Ky × R)) (y2 y3 y4 y5 : Sl), ρ = hE T kvs' y2 y3 y4 y5 .un .un .un ∧ DicF kvs' (passN T i) ∧ kvs'.length ≤ 1 + 3 * i)
    (xs := rangeF 0 (T.length + 1)) (k := 0) (ρ := hE T [(.s "Int", .d (.int 0))] .un .un .un .un .un .un .un) ⟨_, _, _, _, _, rfl, start, by simp⟩ (by
      rintro i x ρ hx ⟨kvs', y2, y3, y4, y5, rfl, h1, h2⟩
      rw [Nat.zero_add] at h1 h2 ⊢
      have hi : i < T.length + 1 := by
        have := (List.getElem?_eq_some_iff.mp hx).1
        simpa using this
      refine ⟨hE T kvs' (.v x) y3 y4 y5 .un .un .un, by simp only [tgN, List.set_cons_succ, List.set_cons_zero], ?_⟩
      obtain ⟨kvs2, z3, z4, z5, h4, h5, h6⟩ := pass kvs' (passN T i) (.v x) y3 y4 y5 .un .un .un h1 (by omega)
      exact ⟨_, ⟨kvs2, _, z3, z4, z5, rfl, h4, by omega⟩, h6⟩)
  rw [Nat.zero_add, length_rangeF] at h1
  refine ⟨kvs', h1, runB_rt (μ' := μ) ?_ rfl⟩
  simp only [f_law_heights, List.map_cons, List.map_nil, List.length_cons, List.length_nil, Nat.reduceAdd, Nat.reduceSub, List.replicate_succ, List.replicate_zero, List.cons_append, List.nil_append]
  have hD : eDic [(eC (.str "Int")), (eC (.int 0))] [.v (.d (encT T)), .un, .un, .un, .un, .un, .un, .un, .un] μ = .ok (.dic [(.s "Int", .d (.int 0))]) μ := by
    unfold eDic
    rw [evs_cons, eC_ok, bind_ok, evs_cons, eC_ok, bind_ok, evs_nil, bind_ok, bind_ok, bind_ok]
    rfl
  rw [sq_nx (show sOwn 1 _ _ μ = _ from by unfold sOwn; rw [hD]; rfl)]
  simp only [List.set_cons_succ, List.set_cons_zero]
  rw [sq_nx (sFor_rt (iRange1_nat (n := T.length + 1) (eOp_ok (eBi1_ok (eV_at rfl) (by rw [vw_d, encT, lenR_tup, List.length_map])) eC_ok (by rw [vw_d, vw_d, addR_int]; rfl)) (by omega)) h3)]
  rw [sq_nx (show sFrz 1 _ μ = .ok (.nx (List.set _ 1 (.v (.dic kvs')))) μ from by unfold sFrz; rfl)]
  simp only [List.set_cons_succ, List.set_cons_zero]
  exact sRet_ok (eV_at rfl)
end K06
end

section
set_option maxHeartbeats 0
set_option linter.all false
set_option maxRecDepth 100000
namespace K06
open Ev
/-! ### values drawn -/
theorem Wv.mono {T : Ty} : ∀ {d d2 : Nat} {name : String} {v : Vl}, d ≤ d2 → Wv T d name v → Wv T d2 name v
  | d, d2, name, .int i, _, h => by
    have := h.int
    cases d2 <;> simpa only [Wv] using this
  | d, d2, name, .mk c vs, hd, h => by
    obtain ⟨d', rfl, h1, fs, h2, h3, h4⟩ := h.mk
    obtain ⟨d2', rfl⟩ : ∃ x, d2 = x + 1 := ⟨d2 - 1, by omega⟩
    simp only [Wv]
    exact ⟨h1, fs, h2, h3, fun i f v a b => Wv.mono (by omega) (h4 i f v a b)⟩
termination_by d => d
/-- a list of drawn values -/
theorem draws_comp {α : Type} {Q : α → Vl → Prop} {own : List Nat} {t : Tg} {elt : E} {ρ ρw : Env} {it : It} {digs : List Int} {k : Nat} (items : List α) (encI : α → R) (env1 : α → Env) (hit : it ρ (Bx digs k) = .ok (items.map encI) (Bx digs k)) (hw : wipeE ρ own = ρw) (hlen : items.length ≤ 1000)
    (ht : ∀ x ∈ items, t (encI x) ρw = some (env1 x)) (hel : ∀ (x : α) (k : Nat), x ∈ items → ∃ (v : Vl) (k' : Nat), Q x v ∧ elt (env1 x) (Bx digs k) = .ok (.d (encV v)) (Bx digs k')) :
    ∃ (vs : List Vl) (k' : Nat), vs.length = items.length ∧ (∀ (i : Nat) (x : α) (v : Vl), items[i]? = some x → vs[i]? = some v → Q x v) ∧ eComp own t it tYes elt ρ (Bx digs k) = .ok (.d (.lst (encVs vs))) (Bx digs k') := by
  obtain ⟨ys, μ', ⟨k2, rs, rfl, e2, e3, e4⟩, h3⟩ := compL_invM (t := t) (c := tYes) (e := elt) (ρ := ρw)
    (fun i acc μ => ∃ (k2 : Nat) (rs : List Vl), μ = Bx digs k2 ∧ acc = rs.map (fun r => .d (encV r)) ∧ rs.length = i ∧ ∀ (j : Nat) (g : α) (p : Vl), items[j]? = some g → rs[j]? = some p → Q g p)
    (xs := items.map encI) (k := 0) (acc := []) (μ := Bx digs k) ⟨k, [], rfl, rfl, rfl, by simp⟩ (by
      rintro i x acc μ hx ⟨k2, rs, rfl, rfl, hl, hf⟩
      rw [List.getElem?_map] at hx
      obtain ⟨g, hg, hx⟩ := Option.map_eq_some_iff.mp hx
      subst hx
      have hm := List.mem_of_getElem? hg
      obtain ⟨r, k3, h1, h2⟩ := hel g k2 hm
      refine ⟨env1 g, ht g hm, .inl ⟨Bx digs k2, .d (encV r), Bx digs k3, by simp [tYes], h2, k3, rs ++ [r], rfl, by simp, by simp [hl], ?_⟩⟩
      intro j g' p hj hp
      by_cases hlt : j < rs.length
      · rw [List.getElem?_append_left hlt] at hp; exact hf j g' p hj hp
      · rw [List.getElem?_append_right (by omega)] at hp
        have hj0 : j - rs.length = 0 := by
          by_cases h0 : j - rs.length = 0
          · exact h0
          · rw [List.getElem?_eq_none (by simp; omega)] at hp; cases hp
        rw [hj0] at hp
        cases hp
        have : j = i := by omega
        subst this
        rw [hg] at hj; cases hj
        exact h1)
  rw [List.nil_append] at e2
  subst e2
  rw [Nat.zero_add, List.length_map] at e3
  refine ⟨rs, k2, e3, e4, ?_⟩
  rw [eComp_ok hit (by rw [hw]; exact h3) (by simp; omega), mkL_map, encVs_map]
/-- the heights at hand -/
structure HtOk (T : Ty) (F : Hf) (kvs : List (Ky × R)) : Prop where
  dic : DicF kvs F
  don : Don T T.length F
theorem HtOk.known {T : Ty} {F : Hf} {kvs : List (Ky × R)} (h : HtOk T F kvs) {name : String} (hn : TyNm T name) : ∃ a, F name = some a ∧ a ≤ 3 ∧ (name ≠ "Int" → 1 ≤ a) ∧ (name = "Int" → a = 0) := by
  rcases hn with rfl | ⟨i, hi, e⟩
  · exact ⟨0, h.don.int, by omega, fun z => absurd rfl z, fun _ => rfl⟩
  · obtain ⟨a, e1, e2, e3⟩ := h.don.bd i name hi e
    have := (List.getElem?_eq_some_iff.mp e).1
    refine ⟨a, e1, by simp [nms] at this; omega, fun _ => e2, fun z => absurd z (nms_int _ (List.mem_of_getElem? e))⟩
theorem mk_tupV {ρ : Env} {μ μ' : Mem} {c : String} {rs : List Vl} {a e : E} (h1 : a ρ μ = .ok (.d (.str c)) μ) (h2 : e ρ μ = .ok (.d (.lst (encVs rs))) μ') : eTup [eC (.str "make"), a, eBi tupleR [e]] ρ μ = .ok (.d (encV (.mk c rs))) μ' := by
  unfold eTup
  rw [evs_cons, eC_ok, bind_ok, evs_cons, h1, bind_ok, evs_cons, eBi1_ok h2 (by rw [vw_d, tupleR_lst]), bind_ok, evs_nil, bind_ok, bind_ok, bind_ok, bind_ok]
  simp [encV]
theorem forL_ex {α : Type} {t : Tg} {b : S} {μ : Mem} (enc : α → R) (p : α → Bool) (Q : R → Mem → Prop) (I : Env → Prop) : ∀ {xs : List α} {ρ : Env}, I ρ → (∃ x ∈ xs, p x = true) →
    (∀ x ∈ xs, ∀ ρ, I ρ → ∃ ρ1, t (enc x) ρ = some ρ1 ∧ (p x = true → ∃ r μ', Q r μ' ∧ b ρ1 μ = .ok (.rt r) μ') ∧ (p x = false → ∃ ρ2, I ρ2 ∧ b ρ1 μ = .ok (.nx ρ2) μ)) →
    ∃ r μ', Q r μ' ∧ forL t b (xs.map enc) ρ μ = .ok (.rt r) μ'
  | [], _, _, h, _ => by obtain ⟨x, hx, _⟩ := h; cases hx
  | x :: xs, ρ, hI, h, hb => by
    obtain ⟨ρ1, h1, h2, h3⟩ := hb x List.mem_cons_self ρ hI
    cases hp : p x with
    | true =>
      obtain ⟨r, μ', q, e⟩ := h2 hp
      refine ⟨r, μ', q, ?_⟩
      rw [List.map_cons]; unfold forL; rw [h1]; simp [e]
    | false =>
      obtain ⟨ρ2, hI2, e⟩ := h3 hp
      obtain ⟨y, hy, hpy⟩ := h
      have hy2 : ∃ x ∈ xs, p x = true := by
        rcases List.mem_cons.mp hy with rfl | hy
        · rw [hp] at hpy; cases hpy
        · exact ⟨y, hy, hpy⟩
      obtain ⟨r, μ', q, e2⟩ := forL_ex enc p Q I hI2 hy2 fun y hy => hb y (List.mem_cons_of_mem _ hy)
      refine ⟨r, μ', q, ?_⟩
      rw [List.map_cons]; unfold forL; rw [h1]; simp [e, e2]
abbrev leE (T : Ty) (kvs : List (Ky × R)) (name : String) (x3 x4 x5 : Sl) : Env := [.v (.d (encT T)), .v (.dic kvs), .v (.d (.str name)), x3, x4, x5]
theorem tCmp_eqI {a b : E} {ρ : Env} {μ μ1 μ2 : Mem} {x y : Int} (ha : a ρ μ = .ok (.d (.int x)) μ1) (hb : b ρ μ1 = .ok (.d (.int y)) μ2) : tCmp eqR a b ρ μ = .ok (decide (x = y)) μ2 :=
  tCmp_ok ha hb (by
    rw [vw_d, vw_d, eqR_d, eqD_left (by simp [D.dep]), eqv_int]
    by_cases hz : x = y
    · simp [hz]
    · simp [hz])
theorem least_spec {T : Ty} (g : GoodT T) {F : Hf} {kvs : List (Ky × R)} (H : HtOk T F kvs) (digs : List Int) : ∀ (n : Nat) (name : String) (h k : Nat), TyNm T name → F name = some h → h + 2 ≤ n →
    ∃ (v : Vl) (k' : Nat), Wv T h name v ∧ callN P n "_law_least" [.d (encT T), .dic kvs, .d (.str name)] (Bx digs k) = .ok (.d (encV v)) (Bx digs k')
  | 0, _, _, _, _, _, hn => by omega
  | 1, _, _, _, _, _, hn => by omega
  | n + 2, name, h, k, hty, hh, hn => by
    have ih := least_spec g H digs (n + 1)
    rw [callN_run (d := f_law_least) rfl rfl]
    have hmk := makers_spec n T name
    generalize callN P (n + 1) = C at ih hmk ⊢
    have hi : tCmp eqR (eV 2) (eC (.str "Int")) (leE T kvs name .un .un .un) (Bx digs k) = .ok (decide (name = "Int")) (Bx digs k) := tCmp_eqs (eV_at rfl) eC_ok
    by_cases hint : name = "Int"
    · rw [decide_eq_true hint] at hi
      refine ⟨.int 0, k, by cases h <;> simp [Wv, hint], runB_rt ?_ rfl⟩
      simp only [f_law_least, List.map_cons, List.map_nil, List.length_cons, List.length_nil, Nat.reduceAdd, Nat.reduceSub, List.replicate_succ, List.replicate_zero, List.cons_append, List.nil_append]
      refine sq_rt ?_
      rw [sIf_t hi]
      exact sRet_ok (by simp [eTup, evs_cons, evs_nil, eC, encV])
    · rw [decide_eq_false hint] at hi
      obtain ⟨j, hj, hnm⟩ : ∃ i : Nat, i < T.length ∧ nms[i]? = some name := by
        rcases hty with h | h
        · exact absurd h hint
        · exact h
      -- the row
      obtain ⟨row, hrow, hrn, hmo⟩ : ∃ row, T[j]? = some row ∧ row.1 = name ∧ makersOf T name = row.2 := by
        have hpos := makersOf_pos g hj hnm
        unfold makersOf at hpos ⊢
        cases hf : T.find? (fun r => r.1 == name) with
        | none => rw [hf] at hpos; exact absurd rfl hpos
        | some row =>
          obtain ⟨e1, i, e2, e3, e4⟩ := makers_row g hf
          obtain rfl := nms_inj e3 hnm
          exact ⟨row, e2, e1, rfl⟩
      obtain ⟨m0, hm0, hk0, hF0⟩ := H.don.loc j row hj hrow
      rw [hrn, hh] at hF0
      have hF0 := Option.some.inj hF0
      have hm3 := makersOf_le g name
      -- a maker's own height
      have hcond : ∀ (m : Mk) (s5 : Sl), m ∈ makersOf T name → tCmp eqR (eOp addR (eBi maxR [(eOp addR (eLst [(eC (.int 0))]) (eComp [5] (tgN 5) (iE (eV 4)) tYes (eGet2 (eV 1) (eV 5) (eC (.int 99)))))]) (eC (.int 1))) (eIdx (eV 1) (eV 2)) (leE T kvs name (.v (.d (.str m.1))) (.v (.d (encF m.2))) s5) (Bx digs k) = .ok (decide (mh F m = h)) (Bx digs k) := by
        intro m s5 hm
        obtain ⟨mf1, mf2, mf3, mf4⟩ := maker_fields g hm
        have h2 : compL (tgN 5) tYes (eGet2 (eV 1) (eV 5) (eC (.int 99))) (m.2.map fun k => R.d (.str k)) (leE T kvs name (.v (.d (.str m.1))) (.v (.d (encF m.2))) .un) (Bx digs k) = .ok (m.2.map fun k => R.d (dn ((F k).getD 0))) (Bx digs k) := by
          refine compL_map (by simp) fun i x y hx hy => ?_
          rw [List.getElem?_map] at hx hy
          obtain ⟨q, hq, hx⟩ := Option.map_eq_some_iff.mp hx
          rw [hq] at hy
          obtain rfl := Option.some.inj hy
          subst hx
          refine ⟨leE T kvs name (.v (.d (.str m.1))) (.v (.d (encF m.2))) (.v (.d (.str q))), by simp only [tgN, List.set_cons_succ, List.set_cons_zero], by simp [tYes], ?_⟩
          obtain ⟨a, e1, _⟩ := H.known (mf3 q (List.mem_of_getElem? hq))
          unfold eGet2
          rw [eV_at rfl, bind_ok]
          show (eV 5 _ _).bind _ = _
          rw [eV_at rfl, bind_ok, eC_ok, bind_ok]
          show lift (some ((valK kvs (.s q)).getD (.d (.int 99)))) _ = _
          show _ = Out.ok (R.d (dn ((F q).getD 0))) _
          rw [H.dic q, e1]
          rfl
        have e2 : eComp [5] (tgN 5) (iE (eV 4)) tYes (eGet2 (eV 1) (eV 5) (eC (.int 99))) (leE T kvs name (.v (.d (.str m.1))) (.v (.d (encF m.2))) s5) (Bx digs k) = .ok (.d (.lst ((m.2.map fun k => (F k).getD 0).map dn))) (Bx digs k) := by
          rw [eComp_ok (iE_tup (ds := m.2.map .str) (eV_at rfl)) (by rw [List.map_map]; exact h2) (by rw [List.length_map]; omega), mkL_map, List.map_map]; rfl
        refine (tCmp_eqI (x := ((mh F m : Nat) : Int)) (y := ((h : Nat) : Int)) (μ1 := Bx digs k) (μ2 := Bx digs k) (eOp_ok (eBi1_ok (eOp_ok (x := .d (.lst [.int 0])) (by simp [eLst, evs_cons, evs_nil, eC]) e2 (z := .d (.lst (.int 0 :: (m.2.map fun k => (F k).getD 0).map dn))) ?_) (by rw [vw_d]; exact maxR_nat _)) eC_ok ?_) ?_).trans ?_
        · rw [vw_d, vw_d, addR_lst, if_pos (le_SL (by simp; omega))]; rfl
        · rw [vw_d, vw_d, addR_int]
          unfold mh
          congr 3
        · unfold eIdx
          refine eOp_ok (eV_at rfl) (eV_at rfl) ?_
          rw [vw_dic, vw_d]
          show valK kvs (.s name) = _
          rw [H.dic name, hh]; rfl
        · congr 1
          rw [Bool.eq_iff_iff, decide_eq_true_eq, decide_eq_true_eq]; omega
      obtain ⟨r, μ', ⟨v, k', hv, rfl, rfl⟩, hl⟩ := forL_ex (t := tgT [(tgN 3), (tgN 4)]) (b := sIf (tCmp eqR (eOp addR (eBi maxR [(eOp addR (eLst [(eC (.int 0))]) (eComp [5] (tgN 5) (iE (eV 4)) tYes (eGet2 (eV 1) (eV 5) (eC (.int 99)))))]) (eC (.int 1))) (eIdx (eV 1) (eV 2))) (sRet (eTup [(eC (.str "make")), (eV 3), (eBi tupleR [(eComp [5] (tgN 5) (iE (eV 4)) tYes (eCall C "_law_least" [(eV 0), (eV 1), (eV 5)]))])])) sNil) (μ := Bx digs k)
        (fun m : Mk => R.d (encM m)) (fun m => decide (mh F m = h)) (fun r μ' => ∃ (v : Vl) (k' : Nat), Wv T h name v ∧ r = .d (encV v) ∧ μ' = Bx digs k') (fun ρ => ∃ x3 x4 x5, ρ = leE T kvs name x3 x4 x5)
        (xs := makersOf T name) (ρ := leE T kvs name .un .un .un) ⟨_, _, _, rfl⟩ ⟨m0, by rw [hmo]; exact hm0, by rw [decide_eq_true_eq]; exact hF0.symm⟩ (by
          rintro m hm ρ ⟨x3, x4, x5, rfl⟩
          refine ⟨leE T kvs name (.v (.d (.str m.1))) (.v (.d (encF m.2))) x5, by simp only [encM, tgT, tgs, tgN, List.map_cons, List.map_nil, Option.bind_some, List.set_cons_succ, List.set_cons_zero], fun hp => ?_, fun hp => ?_⟩
          · rw [decide_eq_true_eq] at hp
            obtain ⟨mf1, mf2, mf3, mf4⟩ := maker_fields g hm
            obtain ⟨vs, k2, v1, v2, v3⟩ := draws_comp (Q := fun f v => ∃ a, F f = some a ∧ a + 1 ≤ h ∧ Wv T a f v) (own := [5]) (t := tgN 5) (elt := eCall C "_law_least" [(eV 0), (eV 1), (eV 5)]) (ρ := leE T kvs name (.v (.d (.str m.1))) (.v (.d (encF m.2))) x5) (it := iE (eV 4)) (digs := digs) (k := k) m.2 (fun f => R.d (.str f)) (fun f => leE T kvs name (.v (.d (.str m.1))) (.v (.d (encF m.2))) (.v (.d (.str f))))
              (by rw [iE_tup (ds := m.2.map .str) (eV_at rfl), List.map_map]; rfl) rfl (by omega) (fun x _ => by simp only [tgN, wipeE, List.set_cons_succ, List.set_cons_zero]) (fun f k2 hf => by
                obtain ⟨a, e1, e2, _⟩ := H.known (mf3 f hf)
                have h1 := mh_field hf e1
                obtain ⟨v, k3, w1, w2⟩ := ih f a k2 (mf3 f hf) e1 (by omega)
                refine ⟨v, k3, ⟨a, e1, by omega, w1⟩, ?_⟩
                unfold eCall
                rw [evs_cons, eV_at rfl, bind_ok, evs_cons, eV_at rfl, bind_ok, evs_cons, eV_at rfl, bind_ok, evs_nil, bind_ok, bind_ok, bind_ok, bind_ok]
                exact w2)
            refine ⟨_, _, ⟨.mk m.1 vs, k2, ?_, rfl, rfl⟩, ?_⟩
            · have hpos := mh_pos F m
              obtain ⟨h', rfl⟩ : ∃ x, h = x + 1 := ⟨h - 1, by omega⟩
              simp only [Wv]
              refine ⟨hint, m.2, hm, v1.symm, fun i f v a b => ?_⟩
              obtain ⟨c, _, c2, c3⟩ := v2 i f v a b
              exact c3.mono (by omega)
            · have hc := hcond m x5 hm
              rw [decide_eq_true hp] at hc
              rw [sIf_t hc]
              exact sRet_ok (mk_tupV (eV_at rfl) v3)
          · refine ⟨leE T kvs name (.v (.d (.str m.1))) (.v (.d (encF m.2))) x5, ⟨_, _, _, rfl⟩, ?_⟩
            have hc := hcond m x5 hm
            rw [hp] at hc
            rw [sIf_f hc]
            exact sNil_ok)
      refine ⟨v, k', hv, runB_rt ?_ (by rfl)⟩
      simp only [f_law_least, List.map_cons, List.map_nil, List.length_cons, List.length_nil, Nat.reduceAdd, Nat.reduceSub, List.replicate_succ, List.replicate_zero, List.cons_append, List.nil_append]
      rw [sq_if_f hi]
      refine sq_rt (sFor_rt (iE_tup (ds := (makersOf T name).map encM) ?_) (by rw [List.map_map]; exact hl))
      unfold eCall
      rw [evs_cons, eV_at rfl, bind_ok, evs_cons, eV_at rfl, bind_ok, evs_nil, bind_ok, bind_ok, bind_ok]
      exact hmk _
abbrev vaE (T : Ty) (kvs : List (Ky × R)) (name : String) (d : Nat) (x5 x6 x7 x8 : Sl) : Env := [.v (.p 0), .v (.d (encT T)), .v (.dic kvs), .v (.d (.str name)), .v (.d (.int (d : Int))), x5, x6, x7, x8]
theorem value_spec {T : Ty} (g : GoodT T) {F : Hf} {kvs : List (Ky × R)} (H : HtOk T F kvs) (digs : List Int) : ∀ (d n : Nat) (name : String) (k : Nat), TyNm T name → 1 ≤ d → d + 6 ≤ n →
    ∃ (v : Vl) (k' : Nat), Wv T (d + 3) name v ∧ callN P n "_law_value" [.p 0, .d (encT T), .dic kvs, .d (.str name), .d (.int (d : Int))] (Bx digs k) = .ok (.d (encV v)) (Bx digs k')
  | 0, _, _, _, _, h, _ => by omega
  | d, 0, _, _, _, _, hn => by omega
  | d, 1, _, _, _, _, hn => by omega
  | d + 1, n + 2, name, k, hty, hd, hn => by
    have ih := fun (h : 1 ≤ d) (name : String) (k : Nat) (hty : TyNm T name) => value_spec g H digs d (n + 1) name k hty h (by omega)
    rw [callN_run (d := f_law_value) rfl rfl]
    have hC := draws n
    have hmk := makers_spec n T name
    have hls := least_spec g H digs (n + 1)
    generalize callN P (n + 1) = C at ih hC hmk hls ⊢
    have hi : tCmp eqR (eV 3) (eC (.str "Int")) (vaE T kvs name (d + 1) .un .un .un .un) (Bx digs k) = .ok (decide (name = "Int")) (Bx digs k) := tCmp_eqs (eV_at rfl) eC_ok
    by_cases hint : name = "Int"
    · rw [decide_eq_true hint] at hi
      obtain ⟨v1, hv1, h1⟩ := hC digs k 7 (by omega)
      obtain ⟨v2, hv2, h2⟩ := hC digs (k + 1) 199 (by omega)
      obtain ⟨v3, hv3, h3⟩ := hC digs (k + 1 + 1) 2 (by omega)
      replace h1 : C "_law_draw" [.p 0, .d (.int 7)] (Bx digs k) = .ok (.d (.int v1)) (Bx digs (k + 1)) := h1
      replace h2 : C "_law_draw" [.p 0, .d (.int 199)] (Bx digs (k + 1)) = .ok (.d (.int v2)) (Bx digs (k + 1 + 1)) := h2
      replace h3 : C "_law_draw" [.p 0, .d (.int 2)] (Bx digs (k + 1 + 1)) = .ok (.d (.int v3)) (Bx digs (k + 1 + 1 + 1)) := h3
      have a1 : eOp subR (eCall C "_law_draw" [(eV 0), (eC (.int 7))]) (eC (.int 3)) (vaE T kvs name (d + 1) .un .un .un .un) (Bx digs k) = .ok (.d (.int ((v1 : Int) - 3))) (Bx digs (k + 1)) := eOp_ok (eDraw rfl h1) eC_ok rfl
      have a2 : eOp subR (eCall C "_law_draw" [(eV 0), (eC (.int 199))]) (eC (.int 99)) (vaE T kvs name (d + 1) .un .un .un .un) (Bx digs (k + 1)) = .ok (.d (.int ((v2 : Int) - 99))) (Bx digs (k + 1 + 1)) := eOp_ok (eDraw rfl h2) eC_ok rfl
      have a3 : eLst [(eOp subR (eCall C "_law_draw" [(eV 0), (eC (.int 7))]) (eC (.int 3))), (eOp subR (eCall C "_law_draw" [(eV 0), (eC (.int 199))]) (eC (.int 99)))] (vaE T kvs name (d + 1) .un .un .un .un) (Bx digs k) = .ok (.d (.lst [.int ((v1 : Int) - 3), .int ((v2 : Int) - 99)])) (Bx digs (k + 1 + 1)) := by
        unfold eLst
        rw [evs_cons, a1, bind_ok, evs_cons, a2, bind_ok, evs_nil, bind_ok, bind_ok, bind_ok]
        rfl
      obtain ⟨i, hi1, hi2, hi3⟩ : ∃ i : Int, -99 ≤ i ∧ i ≤ 99 ∧ [D.int ((v1 : Int) - 3), D.int ((v2 : Int) - 99)][v3]? = some (.int i) := by
        obtain rfl | rfl : v3 = 0 ∨ v3 = 1 := by omega
        · exact ⟨(v1 : Int) - 3, by omega, by omega, rfl⟩
        · exact ⟨(v2 : Int) - 99, by omega, by omega, rfl⟩
      refine ⟨.int i, k + 1 + 1 + 1, by simp only [Wv]; exact ⟨hint, hi1, hi2⟩, runB_rt ?_ rfl⟩
      simp only [f_law_value, List.map_cons, List.map_nil, List.length_cons, List.length_nil, Nat.reduceAdd, Nat.reduceSub, List.replicate_succ, List.replicate_zero, List.cons_append, List.nil_append]
      refine sq_rt ?_
      rw [sIf_t hi]
      refine sRet_ok ?_
      unfold eTup
      rw [evs_cons, eC_ok, bind_ok, evs_cons, ixl_ok a3 (eDraw rfl h3) hi3, bind_ok, evs_nil, bind_ok, bind_ok, bind_ok]
      simp [encV]
    · rw [decide_eq_false hint] at hi
      obtain ⟨j, hj, hnm⟩ : ∃ i : Nat, i < T.length ∧ nms[i]? = some name := by
        rcases hty with h | h
        · exact absurd h hint
        · exact h
      have hpos := makersOf_pos g hj hnm
      have hm3 := makersOf_le g name
      obtain ⟨h, hF, h3, hp1, _⟩ := H.known (.inr ⟨j, hj, hnm⟩)
      have hp1 := hp1 hint
      obtain ⟨v, hv, h1⟩ := hC digs k 90 (by omega)
      obtain ⟨w, q, hw, hq, hpick⟩ := ePickT (C := C) (ρ := vaE T kvs name (d + 1) (.v (.d (encMs (makersOf T name)))) .un .un .un) (i := 0) (j := 5) (pool := (makersOf T name).map encM) rfl rfl (by simpa using List.length_pos_iff.mpr hpos) h1
      rw [List.getElem?_map] at hq
      obtain ⟨m, hm, hqm⟩ := Option.map_eq_some_iff.mp hq
      subst hqm
      have hmem := List.mem_of_getElem? hm
      obtain ⟨mf1, mf2, mf3, mf4⟩ := maker_fields g hmem
      have hmk1 : eCall C "_law_makers" [(eV 1), (eV 3)] (vaE T kvs name (d + 1) .un .un .un .un) (Bx digs k) = .ok (.d (encMs (makersOf T name))) (Bx digs k) := by
        unfold eCall
        rw [evs_cons, eV_at rfl, bind_ok, evs_cons, eV_at rfl, bind_ok, evs_nil, bind_ok, bind_ok, bind_ok]
        exact hmk _
      have hle : tCmp leR (eV 4) (eIdx (eV 2) (eV 3)) (vaE T kvs name (d + 1) (.v (.d (encMs (makersOf T name)))) (.v (.d (.str m.1))) (.v (.d (encF m.2))) .un) (Bx digs (k + 1)) = .ok (decide (d + 1 ≤ h)) (Bx digs (k + 1)) := by
        refine tCmp_ok (x := .d (.int ((d + 1 : Nat) : Int))) (y := .d (.int (h : Int))) (μ1 := Bx digs (k + 1)) (eV_at rfl) ?_ ?_
        · unfold eIdx
          refine eOp_ok (eV_at rfl) (eV_at rfl) ?_
          rw [vw_dic, vw_d]
          show valK kvs (.s name) = _
          rw [H.dic name, hF]; rfl
        · rw [vw_d, vw_d]
          show some (decide (((d + 1 : Nat) : Int) ≤ (h : Int))) = _
          congr 1
          rw [Bool.eq_iff_iff, decide_eq_true_eq, decide_eq_true_eq]; omega
      have head : ∀ (b : S) (r : Fl) (μ' : Mem), b (vaE T kvs name (d + 1) (.v (.d (encMs (makersOf T name)))) (.v (.d (.str m.1))) (.v (.d (encF m.2))) .un) (Bx digs (k + 1)) = .ok r μ' →
          sq (sIf (tCmp eqR (eV 3) (eC (.str "Int"))) (sRet (eTup [(eC (.str "int")), (eIdx (eLst [(eOp subR (eCall C "_law_draw" [(eV 0), (eC (.int 7))]) (eC (.int 3))), (eOp subR (eCall C "_law_draw" [(eV 0), (eC (.int 199))]) (eC (.int 99)))]) (eCall C "_law_draw" [(eV 0), (eC (.int 2))]))])) sNil)
            (sq (sAs (tgN 5) (eCall C "_law_makers" [(eV 1), (eV 3)]))
            (sq (sAs (tgT [(tgN 6), (tgN 7)]) (eIdx (eV 5) (eOp modR (eBi intR [(eCall C "_law_draw" [(eV 0), (eC (.int 90))])]) (eBi lenR [(eV 5)])))) b)) (vaE T kvs name (d + 1) .un .un .un .un) (Bx digs k) = .ok r μ' := fun b r μ' hb => by
        rw [sq_if_f hi, sq_as hmk1]
        simp only [List.set_cons_succ, List.set_cons_zero]
        rw [sq_nx (sAs_gen hpick (by simp only [tgT, encM, tgs, tgN, List.map_cons, List.map_nil, Option.bind_some]; rfl))]
        simp only [List.set_cons_succ, List.set_cons_zero]
        exact hb
      by_cases hdh : d + 1 ≤ h
      · rw [decide_eq_true hdh] at hle
        obtain ⟨u, k2, u1, u2⟩ := hls name h (k + 1) (.inr ⟨j, hj, hnm⟩) hF (by omega)
        refine ⟨u, k2, u1.mono (by omega), runB_rt ?_ rfl⟩
        simp only [f_law_value, List.map_cons, List.map_nil, List.length_cons, List.length_nil, Nat.reduceAdd, Nat.reduceSub, List.replicate_succ, List.replicate_zero, List.cons_append, List.nil_append]
        refine head _ _ _ ?_
        refine sq_rt ?_
        rw [sIf_t hle]
        refine sRet_ok ?_
        unfold eCall
        rw [evs_cons, eV_at rfl, bind_ok, evs_cons, eV_at rfl, bind_ok, evs_cons, eV_at rfl, bind_ok, evs_nil, bind_ok, bind_ok, bind_ok, bind_ok]
        exact u2
      · rw [decide_eq_false hdh] at hle
        have hd1 : 1 ≤ d := by omega
        obtain ⟨vs, k2, v1, v2, v3⟩ := draws_comp (Q := fun f v => Wv T (d + 3) f v) (own := [8]) (t := tgN 8) (elt := eCall C "_law_value" [(eV 0), (eV 1), (eV 2), (eV 8), (eOp subR (eV 4) (eC (.int 1)))]) (ρ := vaE T kvs name (d + 1) (.v (.d (encMs (makersOf T name)))) (.v (.d (.str m.1))) (.v (.d (encF m.2))) .un) (it := iE (eV 7)) (digs := digs) (k := k + 1) m.2 (fun f => R.d (.str f))
          (fun f => vaE T kvs name (d + 1) (.v (.d (encMs (makersOf T name)))) (.v (.d (.str m.1))) (.v (.d (encF m.2))) (.v (.d (.str f))))
          (by rw [iE_tup (ds := m.2.map .str) (eV_at rfl), List.map_map]; rfl) rfl (by omega) (fun x _ => by simp only [tgN, wipeE, List.set_cons_succ, List.set_cons_zero]) (fun f k2 hf => by
            obtain ⟨v, k3, w1, w2⟩ := ih hd1 f k2 (mf3 f hf)
            refine ⟨v, k3, w1, ?_⟩
            have hsub : eOp subR (eV 4) (eC (.int 1)) (vaE T kvs name (d + 1) (.v (.d (encMs (makersOf T name)))) (.v (.d (.str m.1))) (.v (.d (encF m.2))) (.v (.d (.str f)))) (Bx digs k2) = .ok (.d (.int (d : Int))) (Bx digs k2) :=
              eOp_ok (x := .d (.int ((d + 1 : Nat) : Int))) (eV_at rfl) eC_ok (by rw [vw_d, vw_d, subR_int]; congr 3; omega)
            unfold eCall
            rw [evs_cons, eV_at rfl, bind_ok, evs_cons, eV_at rfl, bind_ok, evs_cons, eV_at rfl, bind_ok, evs_cons, eV_at rfl, bind_ok, evs_cons, hsub, bind_ok, evs_nil, bind_ok, bind_ok, bind_ok, bind_ok, bind_ok, bind_ok]
            exact w2)
        refine ⟨.mk m.1 vs, k2, ?_, runB_rt ?_ rfl⟩
        · show Wv T (d + 3 + 1) name (.mk m.1 vs)
          simp only [Wv]
          exact ⟨hint, m.2, hmem, v1.symm, v2⟩
        · simp only [f_law_value, List.map_cons, List.map_nil, List.length_cons, List.length_nil, Nat.reduceAdd, Nat.reduceSub, List.replicate_succ, List.replicate_zero, List.cons_append, List.nil_append]
          refine head _ _ _ ?_
          rw [sq_if_f hle]
          exact sRet_ok (mk_tupV (eV_at rfl) v3)
end K06
end

section
set_option maxHeartbeats 0
set_option linter.all false
set_option maxRecDepth 100000
namespace K06
open Ev
/-! ### least heights -/
structure Mins (T : Ty) (F : Hf) : Prop where
  int : F "Int" = some 0
  tot : ∀ x, TyNm T x → ∃ a, F x = some a
  bd : ∀ x a, F x = some a → a ≤ 3 ∧ a ≤ T.length
  low : ∀ row ∈ T, ∀ m ∈ row.2, ∀ h, F row.1 = some h → h ≤ mh F m
  att : ∀ row ∈ T, ∃ m ∈ row.2, F row.1 = some (mh F m)
  dom : ∀ x, (F x).isSome = true → x = "Int" ∨ ∃ row ∈ T, row.1 = x
theorem row_nm {T : Ty} (g : GoodT T) {row : String × List Mk} (hr : row ∈ T) : ∃ j : Nat, j < T.length ∧ T[j]? = some row ∧ nms[j]? = some row.1 := by
  obtain ⟨j, hj, e⟩ := List.mem_iff_getElem.mp hr
  have hr : T[j]? = some row := by rw [List.getElem?_eq_getElem hj, e]
  exact ⟨j, hj, hr, (row_first g hr).1⟩
theorem row_of {T : Ty} (g : GoodT T) {j : Nat} {x : String} (hj : j < T.length) (hx : nms[j]? = some x) : ∃ row ∈ T, row.1 = x := by
  have hr : T[j]? = some T[j] := List.getElem?_eq_getElem hj
  have h := (row_first g hr).1
  rw [hx] at h
  exact ⟨T[j], List.getElem_mem hj, (Option.some.inj h).symm⟩
theorem mins_of {T : Ty} (g : GoodT T) {F : Hf} {kvs : List (Ky × R)} (H : HtOk T F kvs) : Mins T F where
  int := H.don.int
  tot := fun x hx => by obtain ⟨a, h, _⟩ := H.known hx; exact ⟨a, h⟩
  bd := fun x a hx => by
    have hl : T.length ≤ 3 := by obtain ⟨kk, a, b, c, _⟩ := g; omega
    rcases (H.don.dom x).mp (by rw [hx]; rfl) with rfl | ⟨j, hj, hn⟩
    · have := H.don.int
      rw [hx] at this
      have := Option.some.inj this
      omega
    · obtain ⟨h, e1, e2, e3⟩ := H.don.bd j x hj hn
      rw [hx] at e1
      have := Option.some.inj e1
      omega
  low := fun row hr m hm h hh => by
    have hf := (H.don.fix g).fix row hr
    obtain ⟨j, hj, e1, e2⟩ := row_nm g hr
    have hall := (row_first g e1).2.2.2 m hm
    have hk : known F m = true := known_iff.mpr fun f hf => by
      rcases hall f hf with z | ⟨l, hl, z⟩
      · exact (H.don.dom f).mpr (.inl z)
      · exact (H.don.dom f).mpr (.inr ⟨l, hl, z⟩)
    have hin : mh F m ∈ rowsF F row.2 := List.mem_map.mpr ⟨m, List.mem_filter.mpr ⟨hm, hk⟩, rfl⟩
    have hne : rowsF F row.2 ≠ [] := List.ne_nil_of_mem hin
    have := congrFun hf row.1
    unfold stepF at this
    rw [if_neg hne, if_pos rfl, hh] at this
    have := Option.some.inj this
    have := mn_le hin
    omega
  att := fun row hr => by
    obtain ⟨j, hj, e1, e2⟩ := row_nm g hr
    obtain ⟨m, hm, _, h⟩ := H.don.loc j row hj e1
    exact ⟨m, hm, h⟩
  dom := fun x hx => by
    rcases (H.don.dom x).mp hx with h | ⟨j, hj, hn⟩
    · exact .inl h
    · exact .inr (row_of g hj hn)
/-- what is known of heights up to k -/
def lim (F : Hf) (k : Nat) : Hf := fun x => (F x).filter fun a => decide (a ≤ k)
theorem lim_some {F : Hf} {k a : Nat} {x : String} : lim F k x = some a ↔ F x = some a ∧ a ≤ k := by
  unfold lim
  rw [Option.filter_eq_some_iff, decide_eq_true_eq]
theorem lim_none {F : Hf} {k : Nat} {x : String} : lim F k x = none ↔ ∀ a, F x = some a → k < a := by
  unfold lim
  rw [Option.filter_eq_none_iff]
  constructor
  · intro h a ha
    have := h a ha
    simpa using this
  · intro h a ha
    have := h a ha
    simpa using this
theorem mh_lim {F : Hf} {k : Nat} {m : Mk} (h : known (lim F k) m = true) : mh (lim F k) m = mh F m := mh_congr fun f hf => by
  have := known_iff.mp h f hf
  obtain ⟨a, ha⟩ := Option.isSome_iff_exists.mp this
  rw [ha, (lim_some.mp ha).1]
theorem Mins.fld {T : Ty} {F : Hf} (M : Mins T F) (g : GoodT T) {row : String × List Mk} (hr : row ∈ T) {m : Mk} (hm : m ∈ row.2) {f : String} (hf : f ∈ m.2) : ∃ a, F f = some a := by
  obtain ⟨j, hj, e1, e2⟩ := row_nm g hr
  rcases (row_first g e1).2.2.2 m hm f hf with z | ⟨l, hl, z⟩
  · exact M.tot f (.inl z)
  · exact M.tot f (.inr ⟨l, hl, z⟩)
theorem Mins.pos {T : Ty} {F : Hf} (M : Mins T F) {row : String × List Mk} (hr : row ∈ T) {a : Nat} (h : F row.1 = some a) : 1 ≤ a := by
  obtain ⟨m, hm, e⟩ := M.att row hr
  rw [h] at e
  have := Option.some.inj e
  have := mh_pos F m
  omega
/-- which types get the height k + 1 -/
theorem Mins.turn {T : Ty} {F : Hf} (M : Mins T F) (g : GoodT T) {row : String × List Mk} (hr : row ∈ T) {k : Nat} (hn : lim F k row.1 = none) :
    (row.2.any fun m => known (lim F k) m && decide (mh (lim F k) m = k + 1)) = true ↔ F row.1 = some (k + 1) := by
  rw [List.any_eq_true]
  constructor
  · rintro ⟨m, hm, h⟩
    rw [Bool.and_eq_true, decide_eq_true_eq] at h
    obtain ⟨h1, h2⟩ := h
    rw [mh_lim h1] at h2
    obtain ⟨m0, hm0, h0⟩ := M.att row hr
    have := M.low row hr m hm _ h0
    have := lim_none.mp hn _ h0
    rw [h0]
    congr 1
    omega
  · intro h
    obtain ⟨m, hm, e⟩ := M.att row hr
    rw [h] at e
    have e := Option.some.inj e
    have hk : known (lim F k) m = true := known_iff.mpr fun f hf => by
      obtain ⟨a, ha⟩ := M.fld g hr hm hf
      have := mh_field hf ha
      rw [lim_some.mpr ⟨ha, by omega⟩]
      rfl
    refine ⟨m, hm, ?_⟩
    rw [Bool.and_eq_true, decide_eq_true_eq, mh_lim hk]
    exact ⟨hk, e.symm⟩
/-! ### the program's heights -/
abbrev mE (kvs : List (Ky × R)) (fs : List String) (x2 : Sl) : Env := [.v (.dic kvs), .v (.d (encF fs)), x2]
theorem made_spec (n : Nat) {kvs : List (Ky × R)} {G : Hf} (hG : DicF kvs G) (m : Mk) (hm : m.2.length ≤ 1000) (μ : Mem) :
    callN P (n + 1) "made_height" [.dic kvs, .d (encF m.2)] μ = .ok (.d (if known G m then .int ((mh G m : Nat) : Int) else .non)) μ := by
  rw [callN_run (d := f_made_height) rfl rfl]
  generalize callN P n = C
  refine runB_rt (μ' := μ) ?_ rfl
  simp only [f_made_height, List.map_cons, List.map_nil, List.length_cons, List.length_nil, Nat.reduceAdd, Nat.reduceSub, List.replicate_succ, List.replicate_zero, List.cons_append, List.nil_append]
  have hk : (m.2.any fun f => !(G f).isSome) = !known G m := by
    unfold known
    rw [List.not_all_eq_any_not]
  have h1 : eAll false [2] (tgN 2) (iE (eV 1)) (eT (tCmp ninR (eV 2) (eV 0))) (mE kvs m.2 .un) μ = .ok (.d (.bl (!known G m))) μ := by
    refine eAll_ok (iE_tup (ds := m.2.map .str) (eV_at rfl)) ?_
    rw [List.map_map, ← hk]
    refine anyL_map (fun f : String => R.d (.str f)) (fun f => !(G f).isSome) fun f hf => ⟨mE kvs m.2 (.v (.d (.str f))), by simp only [tgN, mE, wipeE, List.set_cons_succ, List.set_cons_zero], eT_ok (tCmp_ok (eV_at rfl) (eV_at rfl) ?_)⟩
    rw [vw_d, vw_dic]
    show (some (valK kvs (.s f)).isSome).map not = _
    rw [hG f]
    cases G f <;> rfl
  cases hkn : known G m with
  | false =>
    rw [hkn] at h1
    refine sq_rt ?_
    rw [sIf_t (tE_bl h1)]
    exact sRet_ok eC_ok
  | true =>
    rw [hkn] at h1
    rw [sq_if_f (tE_bl h1)]
    refine sRet_ok ?_
    have h2 := compL_each (t := tgN 2) (e := eIdx (eV 0) (eV 2)) (ρ := mE kvs m.2 .un) (μ := μ) (fun f : String => R.d (.str f)) (fun f => R.d (dn ((G f).getD 0))) (xs := m.2) fun f hf => by
      refine ⟨mE kvs m.2 (.v (.d (.str f))), by simp only [tgN, mE, List.set_cons_succ, List.set_cons_zero], ?_⟩
      unfold eIdx
      refine eOp_ok (eV_at rfl) (eV_at rfl) ?_
      rw [vw_dic, vw_d]
      show valK kvs (.s f) = _
      rw [hG f]
      obtain ⟨a, ha⟩ := Option.isSome_iff_exists.mp (known_iff.mp hkn f hf)
      rw [ha]; rfl
    have e2 : eComp [2] (tgN 2) (iE (eV 1)) tYes (eIdx (eV 0) (eV 2)) (mE kvs m.2 .un) μ = .ok (.d (.lst ((m.2.map fun k => (G k).getD 0).map dn))) μ := by
      rw [eComp_ok (iE_tup (ds := m.2.map .str) (eV_at rfl)) (by rw [List.map_map]; exact h2) (by rw [List.length_map]; omega), mkL_map, List.map_map]; rfl
    refine eOp_ok eC_ok (eBi1_ok (eOp_ok (x := .d (.lst [.int 0])) (eLst1 eC_ok) e2 (z := .d (.lst (.int 0 :: (m.2.map fun k => (G k).getD 0).map dn))) ?_) (by rw [vw_d]; exact maxR_nat _)) ?_
    · rw [vw_d, vw_d, addR_lst, if_pos (le_SL (by simp; omega))]; rfl
    · rw [vw_d, vw_d, addR_int, if_pos rfl]
      unfold mh
      congr 3
      omega
abbrev oE (T : Ty) (kvs : List (Ky × R)) (x2 x3 x4 x5 x6 x7 : Sl) : Env := [.v (.d (encT T)), .odic kvs, x2, x3, x4, x5, x6, x7]
def mBody (C : Fn) : S := sIf (tCmp eqR (eCall C "made_height" [(eV 3), (eV 7)]) (eV 2)) (sSetD 1 (eV 4) (eV 2)) sNil
/-- the makers of a type -/
theorem makers_loop {C : Fn} {T : Ty} {kvs0 : List (Ky × R)} {G : Hf} (hC : ∀ (m : Mk), m.2.length ≤ 2 → ∀ μ, C "made_height" [.dic kvs0, .d (encF m.2)] μ = .ok (.d (if known G m then .int ((mh G m : Nat) : Int) else .non)) μ)
    {k : Nat} {nm : String} {x5 : Sl} {μ : Mem} : ∀ (ms : List Mk) (kvs : List (Ky × R)) (H : Hf) (x6 x7 : Sl), (∀ m ∈ ms, m.2.length ≤ 2) → DicF kvs H → kvs.length + ms.length ≤ 1000 →
    ∃ (kvs' : List (Ky × R)) (y6 y7 : Sl), DicF kvs' (if ms.any (fun m => known G m && decide (mh G m = k)) then (fun x => if x = nm then some k else H x) else H) ∧ kvs'.length ≤ kvs.length + ms.length ∧
      forL (tgT [(tgN 6), (tgN 7)]) (mBody C) (ms.map fun m => R.d (encM m)) (oE T kvs (.v (.d (.int (k : Int)))) (.v (.dic kvs0)) (.v (.d (.str nm))) x5 x6 x7) μ = .ok (.nx (oE T kvs' (.v (.d (.int (k : Int)))) (.v (.dic kvs0)) (.v (.d (.str nm))) x5 y6 y7)) μ
  | [], kvs, H, x6, x7, _, hH, _ => ⟨kvs, x6, x7, by simpa using hH, by simp, rfl⟩
  | m :: ms, kvs, H, x6, x7, h2, hH, hl => by
    rw [List.length_cons] at hl
    have hc := hC m (h2 m List.mem_cons_self) μ
    have ht : tgT [(tgN 6), (tgN 7)] (R.d (encM m)) (oE T kvs (.v (.d (.int (k : Int)))) (.v (.dic kvs0)) (.v (.d (.str nm))) x5 x6 x7) = some (oE T kvs (.v (.d (.int (k : Int)))) (.v (.dic kvs0)) (.v (.d (.str nm))) x5 (.v (.d (.str m.1))) (.v (.d (encF m.2)))) := by
      simp only [encM, tgT, tgs, tgN, List.map_cons, List.map_nil, Option.bind_some, List.set_cons_succ, List.set_cons_zero]
    have hcond : tCmp eqR (eCall C "made_height" [(eV 3), (eV 7)]) (eV 2) (oE T kvs (.v (.d (.int (k : Int)))) (.v (.dic kvs0)) (.v (.d (.str nm))) x5 (.v (.d (.str m.1))) (.v (.d (encF m.2)))) μ = .ok (known G m && decide (mh G m = k)) μ := by
      refine tCmp_ok (call2 (eV_at rfl) (eV_at rfl) hc) (eV_at rfl) ?_
      rw [vw_d, vw_d]
      cases hk : known G m with
      | false =>
        rw [if_neg (by simp), eqR_d, eqD_left (by simp [D.dep]), Bool.false_and]
        simp [D.eqv]
      | true =>
        rw [if_pos rfl, eqR_d, eqD_left (by simp [D.dep]), Bool.true_and, eqv_int]
        congr 1
        rw [Bool.eq_iff_iff, beq_iff_eq, decide_eq_true_eq]
        omega
    have step : ∃ kvs1, DicF kvs1 (if (known G m && decide (mh G m = k)) = true then (fun x => if x = nm then some k else H x) else H) ∧ kvs1.length ≤ kvs.length + 1 ∧
        mBody C (oE T kvs (.v (.d (.int (k : Int)))) (.v (.dic kvs0)) (.v (.d (.str nm))) x5 (.v (.d (.str m.1))) (.v (.d (encF m.2)))) μ = .ok (.nx (oE T kvs1 (.v (.d (.int (k : Int)))) (.v (.dic kvs0)) (.v (.d (.str nm))) x5 (.v (.d (.str m.1))) (.v (.d (encF m.2))))) μ := by
      unfold mBody
      cases hb : known G m && decide (mh G m = k) with
      | false =>
        rw [hb] at hcond
        refine ⟨kvs, by rw [if_neg (by simp)]; exact hH, by omega, ?_⟩
        rw [sIf_f hcond]
        exact sNil_ok
      | true =>
        rw [hb] at hcond
        refine ⟨putK kvs (.s nm) (.d (.int (k : Int))), by rw [if_pos rfl]; exact hH.put _ _, putK_len _ _ _, ?_⟩
        rw [sIf_t hcond]
        unfold sSetD
        rw [eV_at rfl, bind_ok]
        show (eV 4 _ μ).bind _ = _
        rw [eV_at rfl, bind_ok]
        show (if kvs.length < SL then _ else _) = _
        rw [if_pos (lt_SL (by omega))]
        simp only [oE, List.set_cons_succ, List.set_cons_zero]
    obtain ⟨kvs1, s1, s2, s3⟩ := step
    obtain ⟨kvs', y6, y7, r1, r2, r3⟩ := makers_loop (T := T) (x5 := x5) (μ := μ) hC ms kvs1 _ (.v (.d (.str m.1))) (.v (.d (encF m.2))) (fun m hm => h2 m (List.mem_cons_of_mem _ hm)) s1 (by omega)
    refine ⟨kvs', y6, y7, ?_, by rw [List.length_cons]; omega, ?_⟩
    · rw [List.any_cons]
      cases hb : known G m && decide (mh G m = k) with
      | false => simp only [hb, Bool.false_or, Bool.false_eq_true, if_false] at r1 ⊢; exact r1
      | true =>
        rw [hb] at r1
        rw [Bool.true_or, if_pos rfl]
        rw [if_pos rfl] at r1
        split at r1
        · refine fun x => (r1 x).trans ?_
          congr 1
          by_cases hx : x = nm
          · simp [hx]
          · simp [hx]
        · exact r1
    · rw [List.map_cons, forL_nx ht s3]
      exact r3
/-- the types of a round -/
def rBody (C : Fn) : S := sIf (tCmp ninR (eV 4) (eB 1)) (sFor (tgT [(tgN 6), (tgN 7)]) (iE (eV 5)) (mBody C)) sNil
theorem round_loop {C : Fn} {T : Ty} (g : GoodT T) {F : Hf} (M : Mins T F) {kvs0 : List (Ky × R)} {k : Nat} (hC : ∀ (m : Mk), m.2.length ≤ 2 → ∀ μ, C "made_height" [.dic kvs0, .d (encF m.2)] μ = .ok (.d (if known (lim F k) m then .int ((mh (lim F k) m : Nat) : Int) else .non)) μ)
    {μ : Mem} : ∀ (rows : List (String × List Mk)) (i : Nat) (kvs : List (Ky × R)) (H : Hf) (x4 x5 x6 x7 : Sl), T.drop i = rows → i ≤ T.length →
    (∀ x, H x = if (T.take i).any (fun r => r.1 == x) then lim F (k + 1) x else lim F k x) → DicF kvs H → kvs.length + 3 * rows.length ≤ 900 →
    ∃ (kvs' : List (Ky × R)) (y4 y5 y6 y7 : Sl), DicF kvs' (fun x => if T.any (fun r => r.1 == x) then lim F (k + 1) x else lim F k x) ∧ kvs'.length ≤ kvs.length + 3 * rows.length ∧
      forL (tgT [(tgN 4), (tgN 5)]) (rBody C) (rows.map fun r => R.d (encRow r)) (oE T kvs (.v (.d (.int ((k + 1 : Nat) : Int)))) (.v (.dic kvs0)) x4 x5 x6 x7) μ = .ok (.nx (oE T kvs' (.v (.d (.int ((k + 1 : Nat) : Int)))) (.v (.dic kvs0)) y4 y5 y6 y7)) μ
  | [], i, kvs, H, x4, x5, x6, x7, hd, hi, hH, hk, _ => by
    have : T.length ≤ i := by
      have := congrArg List.length hd
      simp at this
      omega
    rw [List.take_of_length_le this] at hH
    refine ⟨kvs, x4, x5, x6, x7, fun x => (hk x).trans (by rw [hH x]), by simp, rfl⟩
  | row :: rows, i, kvs, H, x4, x5, x6, x7, hd, hi, hH, hk, hl => by
    rw [List.length_cons] at hl
    have hlt : i < T.length := by
      by_cases h : i < T.length
      · exact h
      · rw [List.drop_of_length_le (by omega)] at hd; cases hd
    rw [List.drop_eq_getElem_cons hlt] at hd
    obtain ⟨hd1, hd2⟩ := List.cons.inj hd
    have hr : T[i]? = some row := by rw [List.getElem?_eq_getElem hlt, hd1]
    have hmem := List.mem_of_getElem? hr
    have hnm := (row_first g hr).1
    have hrow : row.2.length ≤ 3 ∧ ∀ m ∈ row.2, m.2.length ≤ 2 := by
      obtain ⟨kk, a, b, c, d⟩ := g
      obtain ⟨nm, n1, hok⟩ := d i row hr
      exact ⟨hok.len.2, fun m hm => (hok.mem hm).2.1⟩
    have hnew : (T.take i).any (fun r => r.1 == row.1) = false := by
      cases h : (T.take i).any (fun r => r.1 == row.1) with
      | false => rfl
      | true =>
        obtain ⟨r, hr2, e⟩ := List.any_eq_true.mp h
        obtain ⟨j, hj, e2⟩ := List.mem_iff_getElem.mp hr2
        simp at hj
        rw [List.getElem_take] at e2
        have h3 := (row_first g (show T[j]? = some r by rw [List.getElem?_eq_getElem (by omega), e2])).1
        rw [beq_iff_eq.mp e] at h3
        have := nms_inj h3 hnm
        omega
    have hHr : H row.1 = lim F k row.1 := by rw [hH row.1, hnew]; rfl
    have hnext : ∀ (H2 : Hf), H2 row.1 = lim F (k + 1) row.1 → (∀ x, x ≠ row.1 → H2 x = H x) → ∀ x, H2 x = if (T.take (i + 1)).any (fun r => r.1 == x) then lim F (k + 1) x else lim F k x := fun H2 h1 h2 x => by
      rw [List.take_add_one, hr, List.any_append]
      show H2 x = if (_ || (row.1 == x || false)) = true then _ else _
      rw [Bool.or_false]
      by_cases hx : x = row.1
      · subst hx
        rw [if_pos (by simp)]
        exact h1
      · rw [h2 x hx, hH x, show (row.1 == x) = false from beq_false_of_ne fun z => hx z.symm, Bool.or_false]
    have ht : tgT [(tgN 4), (tgN 5)] (R.d (encRow row)) (oE T kvs (.v (.d (.int ((k + 1 : Nat) : Int)))) (.v (.dic kvs0)) x4 x5 x6 x7) = some (oE T kvs (.v (.d (.int ((k + 1 : Nat) : Int)))) (.v (.dic kvs0)) (.v (.d (.str row.1))) (.v (.d (encMs row.2))) x6 x7) := by
      simp only [encRow, tgT, tgs, tgN, List.map_cons, List.map_nil, Option.bind_some, List.set_cons_succ, List.set_cons_zero]
    have hcond : tCmp ninR (eV 4) (eB 1) (oE T kvs (.v (.d (.int ((k + 1 : Nat) : Int)))) (.v (.dic kvs0)) (.v (.d (.str row.1))) (.v (.d (encMs row.2))) x6 x7) μ = .ok (!(lim F k row.1).isSome) μ := by
      refine tCmp_ok (eV_at rfl) (y := .dic kvs) (by unfold eB; rfl) ?_
      rw [vw_d, vw_dic]
      show (some (valK kvs (.s row.1)).isSome).map not = _
      rw [hk row.1, hHr]
      cases lim F k row.1 <;> rfl
    have step : ∃ kvs1 H1 y6 y7, DicF kvs1 H1 ∧ (∀ x, H1 x = if (T.take (i + 1)).any (fun r => r.1 == x) then lim F (k + 1) x else lim F k x) ∧ kvs1.length ≤ kvs.length + 3 ∧
        rBody C (oE T kvs (.v (.d (.int ((k + 1 : Nat) : Int)))) (.v (.dic kvs0)) (.v (.d (.str row.1))) (.v (.d (encMs row.2))) x6 x7) μ = .ok (.nx (oE T kvs1 (.v (.d (.int ((k + 1 : Nat) : Int)))) (.v (.dic kvs0)) (.v (.d (.str row.1))) (.v (.d (encMs row.2))) y6 y7)) μ := by
      unfold rBody
      cases hs : lim F k row.1 with
      | some a =>
        rw [hs] at hcond
        refine ⟨kvs, H, x6, x7, hk, hnext H ?_ fun x hx => rfl, by omega, ?_⟩
        · rw [hHr, hs]
          have := lim_some.mp hs
          exact (lim_some.mpr ⟨this.1, by omega⟩).symm
        · rw [sIf_f hcond]
          exact sNil_ok
      | none =>
        rw [hs] at hcond
        obtain ⟨kvs1, y6, y7, m1, m2, m3⟩ := makers_loop (T := T) (k := k + 1) (nm := row.1) (x5 := .v (.d (encMs row.2))) (μ := μ) hC row.2 kvs H x6 x7 hrow.2 hk (by omega)
        refine ⟨kvs1, _, y6, y7, m1, hnext _ ?_ fun x hx => ?_, by omega, ?_⟩
        · have ht := M.turn g hmem hs
          by_cases hF : F row.1 = some (k + 1)
          · rw [if_pos (ht.mpr hF)]
            show (if row.1 = row.1 then some (k + 1) else H row.1) = _
            rw [if_pos rfl]
            exact (lim_some.mpr ⟨hF, by omega⟩).symm
          · rw [if_neg fun z => hF (ht.mp z), hHr, hs]
            refine (lim_none.mpr fun a ha => ?_).symm
            have := lim_none.mp hs a ha
            by_cases hz : a = k + 1
            · subst hz; exact absurd ha hF
            · omega
        · split
          · exact if_neg hx
          · rfl
        · rw [sIf_t hcond]
          exact sFor_rt (iE_tup (ds := row.2.map encM) (eV_at rfl)) (by rw [List.map_map]; exact m3)
    obtain ⟨kvs1, H1, y6, y7, s1, s2, s3, s4⟩ := step
    obtain ⟨kvs', z4, z5, z6, z7, r1, r2, r3⟩ := round_loop g M hC (μ := μ) rows (i + 1) kvs1 H1 (.v (.d (.str row.1))) (.v (.d (encMs row.2))) y6 y7 hd2 hlt s2 s1 (by omega)
    refine ⟨kvs', z4, z5, z6, z7, r1, by rw [List.length_cons]; omega, ?_⟩
    rw [List.map_cons, forL_nx ht s4]
    exact r3
theorem DicF.eq {kvs : List (Ky × R)} {F G : Hf} (h : DicF kvs F) (e : ∀ x, F x = G x) : DicF kvs G := fun x => by rw [h x, e x]
theorem heights_of_spec (n : Nat) {T : Ty} (g : GoodT T) {F : Hf} (M : Mins T F) (μ : Mem) : ∃ kvs, DicF kvs F ∧ callN P (n + 2) "heights_of" [.d (encT T)] μ = .ok (.dic kvs) μ := by
  have hT : T.length ≤ 3 := by obtain ⟨kk, a, b, c, _⟩ := g; omega
  rw [callN_run (d := f_heights_of) rfl rfl]
  have hC := fun {kvs : List (Ky × R)} {G : Hf} (hG : DicF kvs G) (m : Mk) (hm : m.2.length ≤ 2) (μ : Mem) => made_spec n hG m (by omega) μ
  generalize callN P (n + 1) = C at hC ⊢
  have start : DicF [(.s "Int", .d (.int 0))] (lim F 0) := fun x => by
    unfold valK
    rw [List.find?_cons]
    by_cases h : x = "Int"
    · subst h
      rw [lim_some.mpr ⟨M.int, Nat.le_refl 0⟩]; rfl
    · have : lim F 0 x = none := lim_none.mpr fun a ha => by
        rcases M.dom x (by rw [ha]; rfl) with z | ⟨row, hr, z⟩
        · exact absurd z h
        · subst z
          exact M.pos hr ha
      rw [this, decide_eq_false (fun z => h (by injection z with z; exact z.symm))]; rfl
  have all : ∀ k x, (if T.any (fun r => r.1 == x) then lim F (k + 1) x else lim F k x) = lim F (k + 1) x := fun k x => by
    split
    · rfl
    · rename_i h
      cases hF : F x with
      | none => rw [lim_none.mpr (by rw [hF]; intro a z; cases z), lim_none.mpr (by rw [hF]; intro a z; cases z)]
      | some a =>
        rcases M.dom x (by rw [hF]; rfl) with z | ⟨row, hr, z⟩
        · subst z
          rw [lim_some.mpr ⟨M.int, Nat.zero_le _⟩, lim_some.mpr ⟨M.int, Nat.zero_le _⟩]
        · exact absurd (List.any_eq_true.mpr ⟨row, hr, by rw [z]; simp⟩) h
  obtain ⟨ρ', ⟨kvs', y2, y3, y4, y5, y6, y7, rfl, h1, h2⟩, h3⟩ := forL_inv (t := tgN 2) (b := (sq (sAs (tgN 3) (eBi dictR [(eB 1)])) (sFor (tgT [(tgN 4), (tgN 5)]) (iE (eV 0)) (rBody C)))) (μ := μ)
    (fun i ρ => ∃ (kvs' : List (Ky × R)) (y2 y3 y4 y5 y6 y7 : Sl), ρ = oE T kvs' y2 y3 y4 y5 y6 y7 ∧ DicF kvs' (lim F i) ∧ kvs'.length ≤ 1 + 9 * i)
    (xs := rangeF 1 (T.length + 1)) (k := 0) (ρ := oE T [(.s "Int", .d (.int 0))] .un .un .un .un .un .un) ⟨_, _, _, _, _, _, _, rfl, start, by simp⟩ (by
      rintro i x ρ hx ⟨kvs', y2, y3, y4, y5, y6, y7, rfl, h1, h2⟩
      rw [Nat.zero_add] at h1 h2 ⊢
      have hi : i < T.length + 1 := by
        have := (List.getElem?_eq_some_iff.mp hx).1
        simpa using this
      rw [getElem_rangeF _ _ _ hi, show (1 : Int) + (i : Int) = ((i + 1 : Nat) : Int) by omega] at hx
      obtain rfl := Option.some.inj hx
      refine ⟨oE T kvs' (.v (.d (.int ((i + 1 : Nat) : Int)))) y3 y4 y5 y6 y7, by simp only [tgN, oE, List.set_cons_succ, List.set_cons_zero], ?_⟩
      obtain ⟨kvs2, z4, z5, z6, z7, r1, r2, r3⟩ := round_loop g M (kvs0 := kvs') (k := i) (hC h1) (μ := μ) T 0 kvs' (lim F i) y4 y5 y6 y7 (by simp) (by omega) (fun x => by simp) h1 (by omega)
      refine ⟨_, ⟨kvs2, .v (.d (.int ((i + 1 : Nat) : Int))), .v (.dic kvs'), z4, z5, z6, z7, rfl, r1.eq (all i), by omega⟩, ?_⟩
      rw [sq_as (eBi1_ok (x := .dic kvs') (z := .dic kvs') (by unfold eB; rfl) (by rw [vw_dic]; rfl))]
      simp only [oE, List.set_cons_succ, List.set_cons_zero]
      exact sFor_rt (iE_tup (ds := T.map encRow) (eV_at rfl)) (by rw [List.map_map]; exact r3))
  rw [Nat.zero_add, length_rangeF] at h1
  have hfin : ∀ x, lim F (T.length + 1) x = F x := fun x => by
    cases hF : F x with
    | none => exact lim_none.mpr (by rw [hF]; intro a z; cases z)
    | some a => exact lim_some.mpr ⟨hF, by have := (M.bd x a hF).2; omega⟩
  refine ⟨kvs', h1.eq hfin, runB_rt (μ' := μ) ?_ rfl⟩
  simp only [f_heights_of, List.map_cons, List.map_nil, List.length_cons, List.length_nil, Nat.reduceAdd, Nat.reduceSub, List.replicate_succ, List.replicate_zero, List.cons_append, List.nil_append]
  have hD : eDic [(eC (.str "Int")), (eC (.int 0))] [.v (.d (encT T)), .un, .un, .un, .un, .un, .un, .un] μ = .ok (.dic [(.s "Int", .d (.int 0))]) μ := by
    unfold eDic
    rw [evs_cons, eC_ok, bind_ok, evs_cons, eC_ok, bind_ok, evs_nil, bind_ok, bind_ok, bind_ok]
    rfl
  rw [sq_nx (show sOwn 1 _ _ μ = _ from by unfold sOwn; rw [hD]; rfl)]
  simp only [List.set_cons_succ, List.set_cons_zero]
  have hit : iRange2 (eC (.int 1)) (eOp addR (eBi lenR [(eV 0)]) (eC (.int 2))) (oE T [(.s "Int", .d (.int 0))] .un .un .un .un .un .un) μ = .ok (rangeF 1 (T.length + 1)) μ :=
    iRange2_nat (k := 1) (n := T.length + 1) eC_ok (eOp_ok (eBi1_ok (eV_at rfl) (by rw [vw_d, encT, lenR_tup, List.length_map])) eC_ok (by rw [vw_d, vw_d, addR_int]; congr 3; omega)) (by omega)
  refine (sq_nx (sFor_rt hit h3)).trans ?_
  rw [sq_nx (show sFrz 1 _ μ = .ok (.nx (List.set _ 1 (.v (.dic kvs')))) μ from by unfold sFrz; rfl)]
  simp only [oE, List.set_cons_succ, List.set_cons_zero]
  exact sRet_ok (eV_at rfl)
theorem least_height_spec (n : Nat) {T : Ty} (g : GoodT T) {F : Hf} (M : Mins T F) {x : String} {a : Nat} (ha : F x = some a) (μ : Mem) : callN P (n + 3) "least_height" [.d (encT T), .d (.str x)] μ = .ok (.d (.int (a : Int))) μ := by
  rw [callN_run (d := f_least_height) rfl rfl]
  obtain ⟨kvs, h1, h2⟩ := heights_of_spec n g M μ
  generalize callN P (n + 2) = C at h2 ⊢
  refine runB_rt (μ' := μ) ?_ rfl
  simp only [f_least_height, List.map_cons, List.map_nil, List.length_cons, List.length_nil, Nat.reduceAdd, Nat.reduceSub, List.replicate_succ, List.replicate_zero, List.cons_append, List.nil_append]
  refine sRet_ok ?_
  unfold eGet1
  rw [call1 (eV_at rfl) h2, bind_ok]
  show (eV 1 _ _).bind _ = _
  rw [eV_at rfl, bind_ok]
  show lift (some ((valK kvs (.s x)).getD (.d .non))) _ = _
  rw [h1 x, ha]
  rfl
end K06
end

section
set_option maxHeartbeats 0
set_option linter.all false
set_option maxRecDepth 100000
namespace K06
open Ev
/-! ### least values -/
def madeV (F : Hf) (lv : String → Vl) (ms : List Mk) (h : Nat) : Vl := match ms.find? (fun m => decide (mh F m = h)) with
  | some m => .mk m.1 (m.2.map lv)
  | none => .int 0
def leastV (T : Ty) (F : Hf) : Nat → String → Vl
  | 0, _ => .int 0
  | d + 1, name => if name = "Int" then .int 0 else madeV F (leastV T F d) (makersOf T name) ((F name).getD 0)
theorem mkrow {T : Ty} (g : GoodT T) {name : String} (hty : TyNm T name) (hint : name ≠ "Int") : ∃ row ∈ T, row.1 = name ∧ makersOf T name = row.2 := by
  rcases hty with h | ⟨j, hj, hnm⟩
  · exact absurd h hint
  · have hpos := makersOf_pos g hj hnm
    unfold makersOf at hpos ⊢
    cases hf : T.find? (fun r => r.1 == name) with
    | none => rw [hf] at hpos; exact absurd rfl hpos
    | some row =>
      obtain ⟨e1, i, e2, e3, e4⟩ := makers_row g hf
      exact ⟨row, List.mem_of_getElem? e2, e1, rfl⟩
/-- 1 + max([0] + heights) -/
theorem hgt_of {ρ : Env} {μ : Mem} {e : E} {F : Hf} {m : Mk} (hm : m.2.length ≤ 1000) (h : e ρ μ = .ok (.d (.lst ((m.2.map fun k => (F k).getD 0).map dn))) μ) :
    eBi maxR [(eOp addR (eLst [(eC (.int 0))]) e)] ρ μ = .ok (.d (.int (((m.2.map fun k => (F k).getD 0).foldl max 0 : Nat) : Int))) μ :=
  eBi1_ok (eOp_ok (x := .d (.lst [.int 0])) (eLst1 eC_ok) h (z := .d (.lst (.int 0 :: (m.2.map fun k => (F k).getD 0).map dn))) (by rw [vw_d, vw_d, addR_lst, if_pos (le_SL (by simp; omega))]; rfl)) (by rw [vw_d]; exact maxR_nat _)
theorem one_hgt {ρ : Env} {μ : Mem} {e : E} {F : Hf} {m : Mk} (h : e ρ μ = .ok (.d (.int (((m.2.map fun k => (F k).getD 0).foldl max 0 : Nat) : Int))) μ) : eOp addR (eC (.int 1)) e ρ μ = .ok (.d (.int ((mh F m : Nat) : Int))) μ :=
  eOp_ok eC_ok h (by rw [vw_d, vw_d, addR_int]; unfold mh; congr 3; omega)
theorem hgt_one {ρ : Env} {μ : Mem} {e : E} {F : Hf} {m : Mk} (h : e ρ μ = .ok (.d (.int (((m.2.map fun k => (F k).getD 0).foldl max 0 : Nat) : Int))) μ) : eOp addR e (eC (.int 1)) ρ μ = .ok (.d (.int ((mh F m : Nat) : Int))) μ :=
  eOp_ok h eC_ok (by rw [vw_d, vw_d, addR_int]; unfold mh; congr 3)
theorem tCmp_eqn {a b : E} {ρ : Env} {μ μ1 μ2 : Mem} {x y : Nat} (ha : a ρ μ = .ok (.d (.int ((x : Nat) : Int))) μ1) (hb : b ρ μ1 = .ok (.d (.int ((y : Nat) : Int))) μ2) : tCmp eqR a b ρ μ = .ok (decide (x = y)) μ2 :=
  (tCmp_eqI ha hb).trans (by congr 1; rw [Bool.eq_iff_iff, decide_eq_true_eq, decide_eq_true_eq]; omega)
theorem no_non (l : List Nat) : ninR (.d .non) (.d (.lst (l.map dn))) = some true := by
  rw [ninR_eq, inR_lst, if_pos (by simp [D.dep])]
  have : ((l.map dn).any fun y => y.eqv .non) = false := by
    rw [List.any_map, List.any_eq_false]
    intro x _
    simp [dn, D.eqv]
  rw [this]
  rfl
abbrev lmE (T : Ty) (X : D) (h : Nat) (x3 x4 x5 x6 : Sl) : Env := [.v (.d (encT T)), .v (.d X), .v (.d (.int (h : Int))), x3, x4, x5, x6]
theorem mkV {ρ : Env} {μ μ' : Mem} {c : String} {fs : List String} {lv : String → Vl} {a e : E} (h1 : a ρ μ = .ok (.d (.str c)) μ) (h2 : e ρ μ = .ok (.d (.lst (fs.map fun f => encV (lv f)))) μ') : eTup [eC (.str "make"), a, eBi tupleR [e]] ρ μ = .ok (.d (encV (.mk c (fs.map lv)))) μ' :=
  mk_tupV h1 (by rw [h2, encVs_map, List.map_map]; rfl)
theorem least_made_ok {C : Fn} {T : Ty} {F : Hf} {lv : String → Vl} {μ : Mem} {ms : List Mk} {X : D} {h : Nat} (hX : ∀ (ρ : Env), ρ[1]? = some (.v (.d X)) → iE (eV 1) ρ μ = .ok (ms.map fun m => R.d (encM m)) μ) (hn : ms.length ≤ 1000) (hf2 : ∀ m ∈ ms, m.2.length ≤ 2)
    (hh : ∀ m ∈ ms, ∀ f ∈ m.2, ∃ a, F f = some a ∧ C "least_height" [.d (encT T), .d (.str f)] μ = .ok (.d (.int (a : Int))) μ) (hl : ∀ m ∈ ms, mh F m = h → ∀ f ∈ m.2, C "least_value" [.d (encT T), .d (.str f)] μ = .ok (.d (encV (lv f))) μ)
    (hex : ∃ m ∈ ms, mh F m = h) : runB 7 (f_least_made.body C) [.d (encT T), .d X, .d (.int (h : Int))] μ = .ok (.d (encV (madeV F lv ms h))) μ := by
  refine runB_rt (μ' := μ) ?_ rfl
  simp only [f_least_made, List.map_cons, List.map_nil, List.length_cons, List.length_nil, Nat.reduceAdd, Nat.reduceSub, List.replicate_succ, List.replicate_zero, List.cons_append, List.nil_append]
  have hcmp : ∀ (m : Mk) (x5 x6 : Sl), m ∈ ms → eComp [6] (tgN 6) (iE (eV 4)) tYes (eCall C "least_height" [(eV 0), (eV 6)]) (lmE T X h (.v (.d (.str m.1))) (.v (.d (encF m.2))) x5 x6) μ = .ok (.d (.lst ((m.2.map fun k => (F k).getD 0).map dn))) μ := fun m x5 x6 hm => by
    have hm2 := hf2 m hm
    have h2 := compL_each (t := tgN 6) (e := eCall C "least_height" [(eV 0), (eV 6)]) (ρ := lmE T X h (.v (.d (.str m.1))) (.v (.d (encF m.2))) x5 .un) (μ := μ) (fun f : String => R.d (.str f)) (fun f => R.d (dn ((F f).getD 0))) (xs := m.2) fun f hf => by
      refine ⟨lmE T X h (.v (.d (.str m.1))) (.v (.d (encF m.2))) x5 (.v (.d (.str f))), by simp only [tgN, lmE, List.set_cons_succ, List.set_cons_zero], ?_⟩
      obtain ⟨a, ha, hc⟩ := hh m hm f hf
      rw [ha]
      exact call2 (eV_at rfl) (eV_at rfl) hc
    rw [eComp_ok (iE_tup (ds := m.2.map .str) (eV_at rfl)) (by simp only [wipeE, lmE, List.set_cons_succ, List.set_cons_zero]; rw [List.map_map]; exact h2) (by rw [List.length_map]; omega), mkL_map, List.map_map]; rfl
  have hcond : ∀ (m : Mk) (x6 : Sl), m ∈ ms → tAnd (tCmp ninR (eC (.non)) (eV 5)) (tCmp eqR (eOp addR (eC (.int 1)) (eBi maxR [(eOp addR (eLst [(eC (.int 0))]) (eV 5))])) (eV 2)) (lmE T X h (.v (.d (.str m.1))) (.v (.d (encF m.2))) (.v (.d (.lst ((m.2.map fun k => (F k).getD 0).map dn)))) x6) μ = .ok (decide (mh F m = h)) μ := fun m x6 hm => by
    have hm2 := hf2 m hm
    rw [← Bool.true_and (decide (mh F m = h))]
    exact tAnd_ok (tCmp_ok eC_ok (eV_at rfl) (by rw [vw_d, vw_d]; exact no_non _)) (tCmp_eqn (one_hgt (hgt_of (F := F) (m := m) (by omega) (eV_at rfl))) (eV_at rfl))
  have key := forL_find (t := tgT [(tgN 3), (tgN 4)]) (b := (sq (sAs (tgN 5) (eComp [6] (tgN 6) (iE (eV 4)) tYes (eCall C "least_height" [(eV 0), (eV 6)])))
  (sIf (tAnd (tCmp ninR (eC (.non)) (eV 5)) (tCmp eqR (eOp addR (eC (.int 1)) (eBi maxR [(eOp addR (eLst [(eC (.int 0))]) (eV 5))])) (eV 2))) (sRet (eTup [(eC (.str "make")), (eV 3), (eBi tupleR [(eComp [6] (tgN 6) (iE (eV 4)) tYes (eCall C "least_value" [(eV 0), (eV 6)]))])])) sNil))) (μ := μ)
    (fun m : Mk => R.d (encM m)) (fun m => decide (mh F m = h)) (fun m => R.d (encV (.mk m.1 (m.2.map lv)))) (fun ρ => ∃ x3 x4 x5 x6, ρ = lmE T X h x3 x4 x5 x6) (xs := ms) (ρ := lmE T X h .un .un .un .un) ⟨_, _, _, _, rfl⟩ (by
      rintro m hm ρ ⟨x3, x4, x5, x6, rfl⟩
      have hm2 := hf2 m hm
      refine ⟨lmE T X h (.v (.d (.str m.1))) (.v (.d (encF m.2))) x5 x6, by simp only [encM, tgT, tgs, tgN, lmE, List.map_cons, List.map_nil, Option.bind_some, List.set_cons_succ, List.set_cons_zero], ?_⟩
      have hc := hcond m x6 hm
      rw [sq_as (hcmp m x5 x6 hm)]
      simp only [lmE, List.set_cons_succ, List.set_cons_zero]
      by_cases hp : mh F m = h
      · refine .inl ⟨decide_eq_true hp, ?_⟩
        rw [decide_eq_true hp] at hc
        rw [sIf_t hc]
        refine sRet_ok (mkV (eV_at rfl) ?_)
        have h2 := compL_each (t := tgN 6) (e := eCall C "least_value" [(eV 0), (eV 6)]) (ρ := lmE T X h (.v (.d (.str m.1))) (.v (.d (encF m.2))) (.v (.d (.lst ((m.2.map fun k => (F k).getD 0).map dn)))) .un) (μ := μ) (fun f : String => R.d (.str f)) (fun f => R.d (encV (lv f))) (xs := m.2) fun f hf =>
          ⟨lmE T X h (.v (.d (.str m.1))) (.v (.d (encF m.2))) (.v (.d (.lst ((m.2.map fun k => (F k).getD 0).map dn)))) (.v (.d (.str f))), by simp only [tgN, lmE, List.set_cons_succ, List.set_cons_zero], call2 (eV_at rfl) (eV_at rfl) (hl m hm hp f hf)⟩
        rw [eComp_ok (iE_tup (ds := m.2.map .str) (eV_at rfl)) (by simp only [wipeE, lmE, List.set_cons_succ, List.set_cons_zero]; rw [List.map_map]; exact h2) (by rw [List.length_map]; omega), mkL_map]
      · refine .inr ⟨decide_eq_false hp, lmE T X h (.v (.d (.str m.1))) (.v (.d (encF m.2))) (.v (.d (.lst ((m.2.map fun k => (F k).getD 0).map dn)))) x6, ⟨_, _, _, _, rfl⟩, ?_⟩
        rw [decide_eq_false hp] at hc
        rw [sIf_f hc]
        exact sNil_ok)
  unfold madeV
  rcases key with ⟨m, hm, hr⟩ | ⟨hn, _⟩
  · rw [hm]
    exact sq_rt (sFor_rt (hX _ rfl) hr)
  · obtain ⟨m, hm, e⟩ := hex
    exact absurd (decide_eq_true e) (List.find?_eq_none.mp hn m hm)
theorem Mins.bdn {T : Ty} {F : Hf} (M : Mins T F) {x : String} (hx : TyNm T x) : ∃ a, F x = some a ∧ a ≤ 3 := by
  obtain ⟨a, ha⟩ := M.tot x hx
  exact ⟨a, ha, (M.bd x a ha).1⟩
theorem makers_nm {T : Ty} (g : GoodT T) {name : String} {m : Mk} (hm : m ∈ makersOf T name) : m.2.length ≤ 2 ∧ ∀ f ∈ m.2, TyNm T f := by
  obtain ⟨a, b, c, d⟩ := maker_fields g hm
  exact ⟨b, c⟩
theorem Mins.ex {T : Ty} {F : Hf} (M : Mins T F) (g : GoodT T) {name : String} (hty : TyNm T name) (hint : name ≠ "Int") {h : Nat} (hF : F name = some h) : ∃ m ∈ makersOf T name, mh F m = h := by
  obtain ⟨row, hr, e1, e2⟩ := mkrow g hty hint
  obtain ⟨m, hm, e⟩ := M.att row hr
  rw [e1, hF] at e
  exact ⟨m, by rw [e2]; exact hm, (Option.some.inj e).symm⟩
theorem least_value_spec {T : Ty} (g : GoodT T) {F : Hf} (M : Mins T F) (μ : Mem) : ∀ (d n : Nat) (name : String) (h : Nat), TyNm T name → F name = some h → h + 1 ≤ d → 2 * d + 5 ≤ n →
    callN P n "least_value" [.d (encT T), .d (.str name)] μ = .ok (.d (encV (leastV T F d name))) μ
  | 0, _, _, _, _, _, hd, _ => by omega
  | d + 1, 0, _, _, _, _, _, hn => by omega
  | d + 1, 1, _, _, _, _, _, hn => by omega
  | d + 1, n + 2, name, h, hty, hF, hd, hn => by
    have ih := fun (name : String) (h : Nat) (a : TyNm T name) (b : F name = some h) (c : h + 1 ≤ d) => least_value_spec g M μ d n name h a b c (by omega)
    rw [callN_run (d := f_least_value) rfl rfl]
    have hc := cons_spec n T name μ
    have hlh := fun {x : String} {a : Nat} (ha : F x = some a) => least_height_spec (n - 2) g M ha μ
    rw [show n - 2 + 3 = n + 1 by omega] at hlh
    have hlh2 := fun {x : String} {a : Nat} (ha : F x = some a) => least_height_spec (n - 3) g M ha μ
    rw [show n - 3 + 3 = n by omega] at hlh2
    have hi : ∀ (C : Fn), tCmp eqR (eV 1) (eC (.str "Int")) [.v (.d (encT T)), .v (.d (.str name))] μ = .ok (decide (name = "Int")) μ := fun _ => tCmp_eqs (eV_at rfl) eC_ok
    refine runB_rt (μ' := μ) ?_ rfl
    simp only [f_least_value, List.map_cons, List.map_nil, List.length_cons, List.length_nil, Nat.reduceAdd, Nat.reduceSub, List.replicate_succ, List.replicate_zero, List.cons_append, List.nil_append]
    simp only [leastV]
    by_cases hint : name = "Int"
    · rw [decide_eq_true hint] at hi
      rw [if_pos hint]
      refine sq_rt ?_
      rw [sIf_t (hi (callN P 0))]
      exact sRet_ok ((eTup2 eC_ok eC_ok).trans (by simp [encV]))
    · rw [decide_eq_false hint] at hi
      rw [if_neg hint, hF]
      rw [sq_if_f (hi (callN P 0))]
      refine sRet_ok (call3 (eV_at rfl) (call2 (eV_at rfl) (eV_at rfl) hc) (call2 (eV_at rfl) (eV_at rfl) (hlh hF)) ?_)
      rw [callN_run (d := f_least_made) rfl rfl]
      refine least_made_ok (fun ρ hρ => ?_) (by have := makersOf_le g name; omega) (fun m hm => (makers_nm g hm).1) (fun m hm f hf => ?_) (fun m hm e f hf => ?_) (M.ex g hty hint hF)
      · rw [iE_tup (ds := (makersOf T name).map encM) (eV_at hρ), List.map_map]; rfl
      · obtain ⟨a, ha, _⟩ := M.bdn ((makers_nm g hm).2 f hf)
        exact ⟨a, ha, hlh2 ha⟩
      · obtain ⟨a, ha, _⟩ := M.bdn ((makers_nm g hm).2 f hf)
        have := mh_field hf ha
        exact ih f a ((makers_nm g hm).2 f hf) ha (by omega)
/-- the law's least value -/
theorem lleast_spec {T : Ty} (g : GoodT T) {F : Hf} {kvs : List (Ky × R)} (hK : DicF kvs F) (M : Mins T F) (μ : Mem) : ∀ (d n : Nat) (name : String) (h : Nat), TyNm T name → F name = some h → h + 1 ≤ d → d + 1 ≤ n →
    callN P n "_law_least" [.d (encT T), .dic kvs, .d (.str name)] μ = .ok (.d (encV (leastV T F d name))) μ
  | 0, _, _, _, _, _, hd, _ => by omega
  | d + 1, 0, _, _, _, _, _, hn => by omega
  | d + 1, 1, _, _, _, _, _, hn => by omega
  | d + 1, n + 2, name, h, hty, hF, hd, hn => by
    have ih := fun (name : String) (h : Nat) (a : TyNm T name) (b : F name = some h) (c : h + 1 ≤ d) => lleast_spec g hK M μ d (n + 1) name h a b c (by omega)
    rw [callN_run (d := f_law_least) rfl rfl]
    have hmk := makers_spec n T name μ
    generalize callN P (n + 1) = C at ih hmk ⊢
    have hi : tCmp eqR (eV 2) (eC (.str "Int")) (leE T kvs name .un .un .un) μ = .ok (decide (name = "Int")) μ := tCmp_eqs (eV_at rfl) eC_ok
    refine runB_rt (μ' := μ) ?_ rfl
    simp only [f_law_least, List.map_cons, List.map_nil, List.length_cons, List.length_nil, Nat.reduceAdd, Nat.reduceSub, List.replicate_succ, List.replicate_zero, List.cons_append, List.nil_append]
    simp only [leastV]
    by_cases hint : name = "Int"
    · rw [decide_eq_true hint] at hi
      rw [if_pos hint]
      refine sq_rt ?_
      rw [sIf_t hi]
      exact sRet_ok ((eTup2 eC_ok eC_ok).trans (by simp [encV]))
    · rw [decide_eq_false hint] at hi
      rw [if_neg hint, hF, sq_if_f hi]
      have hcond : ∀ (m : Mk) (x5 : Sl), m ∈ makersOf T name → tCmp eqR (eOp addR (eBi maxR [(eOp addR (eLst [(eC (.int 0))]) (eComp [5] (tgN 5) (iE (eV 4)) tYes (eGet2 (eV 1) (eV 5) (eC (.int 99)))))]) (eC (.int 1))) (eIdx (eV 1) (eV 2)) (leE T kvs name (.v (.d (.str m.1))) (.v (.d (encF m.2))) x5) μ = .ok (decide (mh F m = h)) μ := fun m x5 hm => by
        have hm2 := (makers_nm g hm).1
        have h2 := compL_each (t := tgN 5) (e := eGet2 (eV 1) (eV 5) (eC (.int 99))) (ρ := leE T kvs name (.v (.d (.str m.1))) (.v (.d (encF m.2))) .un) (μ := μ) (fun f : String => R.d (.str f)) (fun f => R.d (dn ((F f).getD 0))) (xs := m.2) fun f hf => by
          refine ⟨leE T kvs name (.v (.d (.str m.1))) (.v (.d (encF m.2))) (.v (.d (.str f))), by simp only [tgN, leE, List.set_cons_succ, List.set_cons_zero], ?_⟩
          obtain ⟨a, ha, _⟩ := M.bdn ((makers_nm g hm).2 f hf)
          unfold eGet2
          rw [eV_at rfl, bind_ok]
          show (eV 5 _ _).bind _ = _
          rw [eV_at rfl, bind_ok, eC_ok, bind_ok]
          show lift (some ((valK kvs (.s f)).getD (.d (.int 99)))) _ = _
          rw [hK f, ha]
          rfl
        refine tCmp_eqn (hgt_one (hgt_of (F := F) (m := m) (by omega) ?_)) ?_
        · rw [eComp_ok (iE_tup (ds := m.2.map .str) (eV_at rfl)) (by simp only [wipeE, leE, List.set_cons_succ, List.set_cons_zero]; rw [List.map_map]; exact h2) (by rw [List.length_map]; omega), mkL_map, List.map_map]; rfl
        · unfold eIdx
          refine eOp_ok (eV_at rfl) (eV_at rfl) ?_
          rw [vw_dic, vw_d]
          show valK kvs (.s name) = _
          rw [hK name, hF]; rfl
      have key := forL_find (t := tgT [(tgN 3), (tgN 4)]) (b := sIf (tCmp eqR (eOp addR (eBi maxR [(eOp addR (eLst [(eC (.int 0))]) (eComp [5] (tgN 5) (iE (eV 4)) tYes (eGet2 (eV 1) (eV 5) (eC (.int 99)))))]) (eC (.int 1))) (eIdx (eV 1) (eV 2))) (sRet (eTup [(eC (.str "make")), (eV 3), (eBi tupleR [(eComp [5] (tgN 5) (iE (eV 4)) tYes (eCall C "_law_least" [(eV 0), (eV 1), (eV 5)]))])])) sNil) (μ := μ)
        (fun m : Mk => R.d (encM m)) (fun m => decide (mh F m = h)) (fun m => R.d (encV (.mk m.1 (m.2.map (leastV T F d))))) (fun ρ => ∃ x3 x4 x5, ρ = leE T kvs name x3 x4 x5) (xs := makersOf T name) (ρ := leE T kvs name .un .un .un) ⟨_, _, _, rfl⟩ (by
          rintro m hm ρ ⟨x3, x4, x5, rfl⟩
          have hm2 := (makers_nm g hm).1
          refine ⟨leE T kvs name (.v (.d (.str m.1))) (.v (.d (encF m.2))) x5, by simp only [encM, tgT, tgs, tgN, leE, List.map_cons, List.map_nil, Option.bind_some, List.set_cons_succ, List.set_cons_zero], ?_⟩
          have hc := hcond m x5 hm
          by_cases hp : mh F m = h
          · refine .inl ⟨decide_eq_true hp, ?_⟩
            rw [decide_eq_true hp] at hc
            rw [sIf_t hc]
            refine sRet_ok (mkV (eV_at rfl) ?_)
            have h2 := compL_each (t := tgN 5) (e := eCall C "_law_least" [(eV 0), (eV 1), (eV 5)]) (ρ := leE T kvs name (.v (.d (.str m.1))) (.v (.d (encF m.2))) .un) (μ := μ) (fun f : String => R.d (.str f)) (fun f => R.d (encV (leastV T F d f))) (xs := m.2) fun f hf => by
              refine ⟨leE T kvs name (.v (.d (.str m.1))) (.v (.d (encF m.2))) (.v (.d (.str f))), by simp only [tgN, leE, List.set_cons_succ, List.set_cons_zero], ?_⟩
              obtain ⟨a, ha, _⟩ := M.bdn ((makers_nm g hm).2 f hf)
              have := mh_field hf ha
              exact call3 (eV_at rfl) (eV_at rfl) (eV_at rfl) (ih f a ((makers_nm g hm).2 f hf) ha (by omega))
            rw [eComp_ok (iE_tup (ds := m.2.map .str) (eV_at rfl)) (by simp only [wipeE, leE, List.set_cons_succ, List.set_cons_zero]; rw [List.map_map]; exact h2) (by rw [List.length_map]; omega), mkL_map]
          · refine .inr ⟨decide_eq_false hp, leE T kvs name (.v (.d (.str m.1))) (.v (.d (encF m.2))) x5, ⟨_, _, _, rfl⟩, ?_⟩
            rw [decide_eq_false hp] at hc
            rw [sIf_f hc]
            exact sNil_ok)
      unfold madeV
      rcases key with ⟨m, hm, hr⟩ | ⟨hn, _⟩
      · rw [show (some h).getD 0 = h from rfl, hm]
        refine sq_rt (sFor_rt (iE_tup (ds := (makersOf T name).map encM) (call2 (eV_at rfl) (eV_at rfl) hmk)) (by rw [List.map_map]; exact hr))
      · obtain ⟨m, hm, e⟩ := M.ex g hty hint hF
        exact absurd (decide_eq_true e) (List.find?_eq_none.mp hn m hm)
/-! ### heights of values -/
mutual
def vh : Vl → Nat
  | .int _ => 0
  | .mk _ vs => vhL vs + 1
def vhL : List Vl → Nat
  | [] => 0
  | v :: vs => max (vh v) (vhL vs)
end
theorem vhL_fold : ∀ (vs : List Vl) (a : Nat), (vs.map vh).foldl max a = max a (vhL vs)
  | [], a => by simp [vhL]
  | v :: vs, a => by
    rw [List.map_cons, List.foldl_cons, vhL_fold vs, vhL]
    omega
theorem vhL_mem : ∀ {vs : List Vl} {v : Vl}, v ∈ vs → vh v ≤ vhL vs
  | w :: vs, v, h => by
    rw [vhL]
    rcases List.mem_cons.mp h with rfl | h
    · omega
    · have := vhL_mem h
      omega
theorem vhL_le {b : Nat} : ∀ {vs : List Vl}, (∀ v ∈ vs, vh v ≤ b) → vhL vs ≤ b
  | [], _ => by simp [vhL]
  | v :: vs, h => by
    rw [vhL]
    have := h v List.mem_cons_self
    have := vhL_le fun w hw => h w (List.mem_cons_of_mem _ hw)
    omega
end K06
end

section
set_option maxHeartbeats 0
set_option linter.all false
set_option maxRecDepth 100000
namespace K06
open Ev
/-! ### heights of values, as written -/
theorem Wv.parts {T : Ty} (g : GoodT T) {d : Nat} {name : String} {c : String} {vs : List Vl} (h : Wv T d name (.mk c vs)) : vs.length ≤ 2 ∧ ∃ d', d = d' + 1 ∧ ∀ v ∈ vs, ∃ f, TyNm T f ∧ Wv T d' f v := by
  obtain ⟨d', e, hne, fs, h1, h2, h3⟩ := h.mk
  obtain ⟨a, b⟩ := makers_nm g h1
  simp only at a b
  refine ⟨by omega, d', e, fun v hv => ?_⟩
  obtain ⟨i, hi, e2⟩ := List.mem_iff_getElem.mp hv
  have hif : i < fs.length := by omega
  exact ⟨fs[i], b _ (List.getElem_mem hif), h3 i fs[i] v (List.getElem?_eq_getElem hif) (by rw [List.getElem?_eq_getElem hi, e2])⟩
def isIntV : Vl → Bool
  | .int _ => true
  | .mk _ _ => false
theorem kind_int {v : Vl} {ρ : Env} {μ : Mem} {i : Nat} (h : ρ[i]? = some (.v (.d (encV v)))) : tCmp eqR (eIdx (eV i) (eC (.int 0))) (eC (.str "int")) ρ μ = .ok (isIntV v) μ := by
  cases v with
  | int k => exact tCmp_ok (ixc_ok (ds := [.str "int", .int k]) ((eV_at h).trans (by simp [encV])) rfl) eC_ok (by rw [vw_d, str_eq]; rfl)
  | mk c vs => exact tCmp_ok (ixc_ok (ds := [.str "make", .str c, .tup (encVs vs)]) ((eV_at h).trans (by simp [encV])) rfl) eC_ok (by rw [vw_d, vw_d, str_eq]; rfl)
theorem hgt_sum {ρ : Env} {μ : Mem} {e : E} {vs : List Vl} (hl : vs.length ≤ 1000) (h : e ρ μ = .ok (.d (.lst ((vs.map vh).map dn))) μ) : eBi maxR [(eOp addR (eLst [(eC (.int 0))]) e)] ρ μ = .ok (.d (.int ((vhL vs : Nat) : Int))) μ :=
  eBi1_ok (eOp_ok (x := .d (.lst [.int 0])) (eLst1 eC_ok) h (z := .d (.lst (.int 0 :: (vs.map vh).map dn))) (by rw [vw_d, vw_d, addR_lst, if_pos (le_SL (by simp; omega))]; rfl)) (by rw [vw_d, maxR_nat, vhL_fold]; simp)
theorem height_spec {T : Ty} (g : GoodT T) : ∀ (n d : Nat) (name : String) (v : Vl) (μ : Mem), Wv T d name v → vh v < n → callN P n "height" [.d (encV v)] μ = .ok (.d (.int ((vh v : Nat) : Int))) μ
  | 0, _, _, _, _, _, h => absurd h (Nat.not_lt_zero _)
  | n + 1, d, name, v, μ, hw, hn => by
    rw [callN_run (d := f_height) rfl rfl]
    have ih := height_spec g n
    generalize callN P n = C at ih ⊢
    refine runB_rt (μ' := μ) ?_ rfl
    simp only [f_height, List.map_cons, List.map_nil, List.length_cons, List.length_nil, Nat.reduceAdd, Nat.reduceSub, List.replicate_succ, List.replicate_zero, List.cons_append, List.nil_append]
    have hk := kind_int (v := v) (ρ := [.v (.d (encV v)), .un]) (μ := μ) (i := 0) rfl
    cases v with
    | int i =>
      refine sq_rt ?_
      rw [sIf_t hk]
      exact sRet_ok (eC_ok.trans (by simp [vh]))
    | mk c vs =>
      rw [sq_if_f hk]
      obtain ⟨h2, d', _, hp⟩ := hw.parts g
      have e0 : eIdx (eV 0) (eC (.int 2)) [.v (.d (encV (.mk c vs))), .un] μ = .ok (.d (.tup (encVs vs))) μ := ixc_ok (ds := [.str "make", .str c, .tup (encVs vs)]) ((eV_at rfl).trans (by simp [encV])) rfl
      have hc := compL_each (t := tgN 1) (e := eCall C "height" [(eV 1)]) (ρ := [.v (.d (encV (.mk c vs))), .un]) (μ := μ) (fun v : Vl => R.d (encV v)) (fun v => R.d (dn (vh v))) (xs := vs) fun v hv => by
        obtain ⟨f, _, hwv⟩ := hp v hv
        have := vhL_mem hv
        simp only [vh] at hn
        exact ⟨[.v (.d (encV (.mk c vs))), .v (.d (encV v))], by simp only [tgN, List.set_cons_succ, List.set_cons_zero], call1 (eV_at rfl) (ih d' f v μ hwv (by omega))⟩
      refine sRet_ok (eOp_ok eC_ok (hgt_sum (vs := vs) (by omega) ?_) ?_)
      · rw [eComp_ok (iE_tup e0) (by simp only [wipeE, List.set_cons_succ, List.set_cons_zero]; rw [encVs_map, List.map_map]; exact hc) (by rw [List.length_map]; omega), mkL_map, List.map_map]; rfl
      · rw [vw_d, vw_d, addR_int, vh]; congr 3; omega
theorem lheight_spec {T : Ty} (g : GoodT T) : ∀ (n d : Nat) (name : String) (v : Vl) (μ : Mem), Wv T d name v → vh v < n → callN P n "_law_height" [.d (encV v)] μ = .ok (.d (.int ((vh v : Nat) : Int))) μ
  | 0, _, _, _, _, _, h => absurd h (Nat.not_lt_zero _)
  | n + 1, d, name, v, μ, hw, hn => by
    rw [callN_run (d := f_law_height) rfl rfl]
    have ih := lheight_spec g n
    generalize callN P n = C at ih ⊢
    refine runB_rt (μ' := μ) ?_ rfl
    simp only [f_law_height, List.map_cons, List.map_nil, List.length_cons, List.length_nil, Nat.reduceAdd, Nat.reduceSub, List.replicate_succ, List.replicate_zero, List.cons_append, List.nil_append]
    have hk := kind_int (v := v) (ρ := [.v (.d (encV v)), .un]) (μ := μ) (i := 0) rfl
    cases v with
    | int i =>
      refine sq_rt ?_
      rw [sIf_t hk]
      exact sRet_ok (eC_ok.trans (by simp [vh]))
    | mk c vs =>
      rw [sq_if_f hk]
      obtain ⟨h2, d', _, hp⟩ := hw.parts g
      have e0 : eIdx (eV 0) (eC (.int 2)) [.v (.d (encV (.mk c vs))), .un] μ = .ok (.d (.tup (encVs vs))) μ := ixc_ok (ds := [.str "make", .str c, .tup (encVs vs)]) ((eV_at rfl).trans (by simp [encV])) rfl
      have hc := compL_each (t := tgN 1) (e := eCall C "_law_height" [(eV 1)]) (ρ := [.v (.d (encV (.mk c vs))), .un]) (μ := μ) (fun v : Vl => R.d (encV v)) (fun v => R.d (dn (vh v))) (xs := vs) fun v hv => by
        obtain ⟨f, _, hwv⟩ := hp v hv
        have := vhL_mem hv
        simp only [vh] at hn
        exact ⟨[.v (.d (encV (.mk c vs))), .v (.d (encV v))], by simp only [tgN, List.set_cons_succ, List.set_cons_zero], call1 (eV_at rfl) (ih d' f v μ hwv (by omega))⟩
      refine sRet_ok (eOp_ok (hgt_sum (vs := vs) (by omega) ?_) eC_ok ?_)
      · rw [eComp_ok (iE_tup e0) (by simp only [wipeE, List.set_cons_succ, List.set_cons_zero]; rw [encVs_map, List.map_map]; exact hc) (by rw [List.length_map]; omega), mkL_map, List.map_map]; rfl
      · rw [vw_d, vw_d, addR_int, vh]; congr 3
/-! ### the least value of a region -/
def leftOf (T : Ty) (name : String) (l : List String) : List Mk := (makersOf T name).filter fun m => !decide (m.1 ∈ l)
mutual
def leastIn (T : Ty) (F : Hf) : String → Rg → Vl
  | name, .any => leastV T F 4 name
  | _, .rng a b => .int (max a (min 0 b))
  | name, .nt l => madeV F (leastV T F 4) (leftOf T name l) (mn ((leftOf T name l).map (mh F)))
  | _, .mk c rs => .mk c (leastInL T F (fieldsOf T c) rs)
def leastInL (T : Ty) (F : Hf) : List String → List Rg → List Vl
  | f :: fs, r :: rs => leastIn T F f r :: leastInL T F fs rs
  | [], _ => []
  | _ :: _, [] => []
end
theorem leastInL_get {T : Ty} {F : Hf} : ∀ {fs : List String} {rs : List Rg} {i : Nat} {f : String} {r : Rg}, fs[i]? = some f → rs[i]? = some r → (leastInL T F fs rs)[i]? = some (leastIn T F f r)
  | f :: fs, r :: rs, 0, _, _, h1, h2 => by
    simp at h1 h2; subst h1 h2; rw [leastInL]; rfl
  | f :: fs, r :: rs, i + 1, _, _, h1, h2 => by
    rw [leastInL]
    have := leastInL_get (T := T) (F := F) (fs := fs) (rs := rs) (i := i) (by simpa using h1) (by simpa using h2)
    simpa using this
  | [], _, i, _, _, h1, _ => by simp at h1
  | _ :: _, [], i, _, _, _, h2 => by simp at h2
theorem leastInL_len {T : Ty} {F : Hf} : ∀ {fs : List String} {rs : List Rg}, fs.length = rs.length → (leastInL T F fs rs).length = rs.length
  | f :: fs, r :: rs, h => by
    rw [leastInL, List.length_cons, List.length_cons, leastInL_len (by simpa using h)]
  | [], [], _ => by rw [leastInL]; rfl
  | [], _ :: _, h => by simp at h
  | _ :: _, [], h => by simp at h
theorem flat_one {α β : Type} (f : α → β) : ∀ l : List α, (l.flatMap fun m => [f m]) = l.map f
  | [] => rfl
  | a :: l => by rw [List.flatMap_cons, flat_one f l]; rfl
theorem left_ne {T : Ty} (g : GoodT T) {fl : Bool} {d : Nat} {name : String} {l : List String} (h : Wr fl T d name (.nt l)) : leftOf T name l ≠ [] := by
  obtain ⟨_, hne, nd, hs, hl⟩ := h.nt2
  intro e
  have hall : ∀ m ∈ makersOf T name, m.1 ∈ l := fun m hm => by
    have := List.filter_eq_nil_iff.mp e m hm
    simpa using this
  have hsub : ∀ x ∈ namesOf T name, x ∈ l := fun x hx => by
    obtain ⟨m, hm, rfl⟩ := List.mem_map.mp hx
    exact hall m hm
  have := (namesOf_nodup g name).length_le_of_subset (fun x hx => hsub x hx)
  unfold namesOf at this
  rw [List.length_map] at this
  omega
theorem left_mem {T : Ty} {name : String} {l : List String} {m : Mk} : m ∈ leftOf T name l ↔ m ∈ makersOf T name ∧ m.1 ∉ l := by
  unfold leftOf
  rw [List.mem_filter]
  simp
theorem left_ex {T : Ty} (g : GoodT T) {F : Hf} {fl : Bool} {d : Nat} {name : String} {l : List String} (h : Wr fl T d name (.nt l)) : ∃ m ∈ leftOf T name l, mh F m = mn ((leftOf T name l).map (mh F)) := by
  have hne : (leftOf T name l).map (mh F) ≠ [] := fun e => left_ne g h (List.map_eq_nil_iff.mp e)
  obtain ⟨m, hm, e⟩ := List.mem_map.mp (mn_mem hne)
  exact ⟨m, hm, e⟩
theorem is_kind {i : Nat} {ρ : Env} {μ : Mem} {r : Rg} {s : String} (h : ρ[i]? = some (.v (.d (enc r)))) : tCmp eqR (eIdx (eV i) (eC (.int 0))) (eC (.str s)) ρ μ = .ok (decide (hdS r = s)) μ := is_hd h rfl
theorem maxmin (a b : Int) : maxR [.d (.int a), .d (.int (if b < 0 then b else 0))] = some (.d (.int (max a (min 0 b)))) := by
  rw [maxR_two]
  congr 3
  split <;> split <;> omega
abbrev liE (T : Ty) (name : String) (r : Rg) (x3 x4 x5 x6 x7 x8 x9 x10 : Sl) : Env := [.v (.d (encT T)), .v (.d (.str name)), .v (.d (enc r)), x3, x4, x5, x6, x7, x8, x9, x10]
theorem least_in_spec {T : Ty} (g : GoodT T) {F : Hf} (M : Mins T F) (μ : Mem) : ∀ (n d : Nat) (name : String) (r : Rg), Wr true T d name r → TyNm T name → hgt r + 15 ≤ n →
    callN P n "least_in" [.d (encT T), .d (.str name), .d (enc r)] μ = .ok (.d (encV (leastIn T F name r))) μ
  | 0, _, _, _, _, _, hn => by omega
  | n + 1, d, name, r, hr, hty, hn => by
    have ih := least_in_spec g M μ n
    have hlv := fun (name : String) (h : TyNm T name) => (M.bdn h).elim fun a ha => least_value_spec g M μ 4 n name a h ha.1 (by omega) (by omega)
    have hlv1 := fun (name : String) (h : TyNm T name) => (M.bdn h).elim fun a ha => least_value_spec g M μ 4 (n - 1) name a h ha.1 (by omega) (by omega)
    have hlh := fun {x : String} {a : Nat} (ha : F x = some a) => least_height_spec (n - 3) g M ha μ
    rw [show n - 3 + 3 = n by omega] at hlh
    have hlh1 := fun {x : String} {a : Nat} (ha : F x = some a) => least_height_spec (n - 4) g M ha μ
    rw [show n - 4 + 3 = n - 1 by omega] at hlh1
    have hcons := cons_spec (n - 1) T name μ
    have hfld := fun c => fields_spec (n - 1) T c μ
    rw [show n - 1 + 1 = n by omega] at hcons hfld
    have hlm : ∀ X h, callN P n "least_made" [.d (encT T), .d X, .d (.int h)] μ = runB 7 (f_least_made.body (callN P (n - 1))) [.d (encT T), .d X, .d (.int h)] μ := fun X h => by
      obtain ⟨n', rfl⟩ : ∃ n', n = n' + 1 := ⟨n - 1, by omega⟩
      exact callN_run (d := f_least_made) rfl rfl
    rw [callN_run (d := f_least_in) rfl rfl]
    generalize callN P (n - 1) = C1 at hlm hlv1 hlh1
    generalize callN P n = C at ih hlv hlh hcons hfld hlm ⊢
    refine runB_rt (μ' := μ) ?_ rfl
    simp only [f_least_in, List.map_cons, List.map_nil, List.length_cons, List.length_nil, Nat.reduceAdd, Nat.reduceSub, List.replicate_succ, List.replicate_zero, List.cons_append, List.nil_append]
    cases r with
    | any =>
      refine sq_rt ?_
      rw [sIf_t (is_any (r := .any) rfl rfl)]
      exact sRet_ok (call2 (eV_at rfl) (eV_at rfl) (by rw [leastIn]; exact hlv name hty))
    | rng a b =>
      rw [sq_if_f (is_any (r := .rng a b) rfl rfl)]
      refine sq_rt ?_
      rw [sIf_t (is_hd (r := .rng a b) rfl rfl)]
      have e2 : eV 2 (liE T name (.rng a b) .un .un .un .un .un .un .un .un) μ = .ok (.d (.tup [.str "range", .int a, .int b])) μ := (eV_at rfl).trans (by simp [enc])
      refine sRet_ok ((eTup2 (μ1 := μ) (μ2 := μ) (y := .int (max a (min 0 b))) eC_ok ?_).trans (by simp [leastIn, encV]))
      exact eBi2_ok (y := .d (.int (if b < 0 then b else 0))) (ixc_ok (x := .int a) e2 rfl) (eBi2_ok eC_ok (ixc_ok (x := .int b) e2 rfl) (by rw [vw_d, vw_d, minR_two])) (by rw [vw_d, vw_d, maxmin])
    | mk c rs =>
      obtain ⟨d', rfl, hne, fs, hm, hl, hparts⟩ := hr.mk
      obtain ⟨hf2, hfn⟩ := makers_nm g hm
      simp only at hf2 hfn
      have hfo : fieldsOf T c = fs := (maker_fields g hm).1
      rw [sq_if_f (is_any (r := .mk c rs) rfl rfl), sq_if_f (is_hd (r := .mk c rs) rfl rfl)]
      have e2 : ∀ x3 x4 x5, eV 2 (liE T name (.mk c rs) x3 x4 x5 .un .un .un .un .un) μ = .ok (.d (.tup [.str "make", .str c, .tup (encL rs)])) μ := fun _ _ _ => (eV_at rfl).trans (by simp [enc])
      refine sq_rt ?_
      rw [sIf_t (is_hd (r := .mk c rs) rfl rfl)]
      rw [sq_as (call2 (eV_at rfl) (ixc_ok (x := .str c) (e2 _ _ _) rfl) (hfld c)), hfo]
      simp only [List.set_cons_succ, List.set_cons_zero]
      refine sRet_ok ?_
      rw [leastIn, hfo]
      refine mk_tupV (ixc_ok (e2 _ _ _) rfl) ?_
      have hcomp : compL (tgT [(tgN 4), (tgN 5)]) tYes (eCall C "least_in" [(eV 0), (eV 5), (eIdx (eIdx (eV 2) (eC (.int 2))) (eV 4))]) (enumF 0 (fs.map .str)) (liE T name (.mk c rs) (.v (.d (encF fs))) .un .un .un .un .un .un .un) μ = .ok ((leastInL T F fs rs).map fun v => R.d (encV v)) μ := by
        refine compL_map (by rw [length_enumF, List.length_map, List.length_map, leastInL_len (by omega)]; omega) fun i x y hx hy => ?_
        rw [getElem_enumF, List.getElem?_map] at hx
        obtain ⟨z, hz, hx⟩ := Option.map_eq_some_iff.mp hx
        obtain ⟨f, hf, hz⟩ := Option.map_eq_some_iff.mp hz
        subst hx hz
        have hi : i < rs.length := by have := (List.getElem?_eq_some_iff.mp hf).1; omega
        have hri : rs[i]? = some rs[i] := List.getElem?_eq_getElem hi
        rw [List.getElem?_map, leastInL_get hf hri] at hy
        obtain rfl := Option.some.inj hy
        rw [Nat.zero_add]
        refine ⟨liE T name (.mk c rs) (.v (.d (encF fs))) (.v (.d (.int (i : Int)))) (.v (.d (.str f))) .un .un .un .un .un, by simp only [tgT, tgs, tgN, liE, List.map_cons, List.map_nil, Option.bind_some, List.set_cons_succ, List.set_cons_zero], by simp [tYes], ?_⟩
        have hg := hgt_get hri
        refine call3 (eV_at rfl) (eV_at rfl) (ix_ok (ixc_ok (e2 _ _ _) rfl) (eV_at rfl) (encL_get' hri)) (ih d' f rs[i] (hparts i f rs[i] hf hri) (hfn f (List.mem_of_getElem? hf)) ?_)
        simp only [hgt] at hn
        omega
      rw [eComp_ok (iEnum_tup (ds := fs.map .str) (eV_at rfl)) (by simp only [wipeE, List.set_cons_succ, List.set_cons_zero]; exact hcomp) (by rw [List.length_map, leastInL_len (by omega)]; omega), mkL_map, encVs_map]
    | nt l =>
      obtain ⟨_, hne, nd, hs, hlen⟩ := hr.nt2
      have hm3 := makersOf_le g name
      rw [sq_if_f (is_any (r := .nt l) rfl rfl), sq_if_f (is_hd (r := .nt l) rfl rfl), sq_if_f (is_hd (r := .nt l) rfl rfl)]
      have e2 : ∀ x3 x4 x5 x6 x7 x8 x9 x10, eV 2 (liE T name (.nt l) x3 x4 x5 x6 x7 x8 x9 x10) μ = .ok (.d (.tup [.str "not", .tup (l.map .str)])) μ := fun _ _ _ _ _ _ _ _ => (eV_at rfl).trans (by simp [enc])
      have hflt := compL_filter (t := tgN 7) (c := tCmp ninR (eIdx (eV 7) (eC (.int 0))) (eIdx (eV 2) (eC (.int 1)))) (e := eV 7) (ρ := liE T name (.nt l) .un .un .un .un .un .un .un .un) (μ := μ) (fun m : Mk => R.d (encM m)) (fun m => R.d (encM m)) (fun m => !decide (m.1 ∈ l)) (xs := makersOf T name) fun m hm =>
        ⟨liE T name (.nt l) .un .un .un .un (.v (.d (encM m))) .un .un .un, by simp only [tgN, liE, List.set_cons_succ, List.set_cons_zero], tCmp_ok (ixc_ok (ds := [.str m.1, encF m.2]) (eV_at rfl) rfl) (ixc_ok (e2 _ _ _ _ _ _ _ _) rfl) (by rw [vw_d, vw_d, nin_str]), fun _ => eV_at rfl⟩
      have hcmp : eComp [7] (tgN 7) (iE (eCall C "constructors" [(eV 0), (eV 1)])) (tCmp ninR (eIdx (eV 7) (eC (.int 0))) (eIdx (eV 2) (eC (.int 1)))) (eV 7) (liE T name (.nt l) .un .un .un .un .un .un .un .un) μ = .ok (.d (.lst ((leftOf T name l).map encM))) μ := by
        rw [eComp_ok (iE_tup (ds := (makersOf T name).map encM) (call2 (eV_at rfl) (eV_at rfl) hcons)) (by simp only [wipeE, liE, List.set_cons_succ, List.set_cons_zero]; rw [List.map_map]; exact hflt) (by rw [List.length_map]; exact Nat.le_trans (List.length_filter_le _ _) (by omega)), mkL_map]
        rfl
      rw [sq_as hcmp]
      simp only [liE, List.set_cons_succ, List.set_cons_zero]
      rw [sq_nx (sOwn_lst (ds := []) eLst0)]
      simp only [List.set_cons_succ, List.set_cons_zero]
      have hll : (leftOf T name l).length ≤ 3 := Nat.le_trans (List.length_filter_le _ _) hm3
      obtain ⟨ρ', ⟨y3, y5, y9, y10, rfl⟩, hloop⟩ := forL_push (t := tgT [(tgN 9), (tgN 3)]) (b := (sq (sAs (tgN 10) (eComp [5] (tgN 5) (iE (eV 3)) tYes (eCall C "least_height" [(eV 0), (eV 5)])))
  (sApp 8 (eOp addR (eC (.int 1)) (eBi maxR [(eOp addR (eLst [(eC (.int 0))]) (eV 10))]))))) (μ := μ) (fun m : Mk => R.d (encM m)) (fun m => [R.d (dn (mh F m))]) (fun acc ρ => ∃ y3 y5 y9 y10, ρ = liE T name (.nt l) y3 .un y5 (.v (.d (.lst ((leftOf T name l).map encM)))) .un (.own acc) y9 y10) 100 (xs := leftOf T name l) (acc := []) (ρ := liE T name (.nt l) .un .un .un (.v (.d (.lst ((leftOf T name l).map encM)))) .un (.own []) .un .un) ⟨_, _, _, _, rfl⟩
        (by
          have : ((leftOf T name l).flatMap fun m => [R.d (dn (mh F m))]).length = (leftOf T name l).length := by rw [flat_one, List.length_map]
          rw [this]; simp; omega) (by
          rintro m hm acc ρ ⟨y3, y5, y9, y10, rfl⟩ hacc
          obtain ⟨hmm, hml⟩ := left_mem.mp hm
          obtain ⟨hm2, hmn⟩ := makers_nm g hmm
          refine ⟨liE T name (.nt l) (.v (.d (encF m.2))) .un y5 (.v (.d (.lst ((leftOf T name l).map encM)))) .un (.own acc) (.v (.d (.str m.1))) y10, by simp only [encM, tgT, tgs, tgN, liE, List.map_cons, List.map_nil, Option.bind_some, List.set_cons_succ, List.set_cons_zero], ?_⟩
          have h2 := compL_each (t := tgN 5) (e := eCall C "least_height" [(eV 0), (eV 5)]) (ρ := liE T name (.nt l) (.v (.d (encF m.2))) .un .un (.v (.d (.lst ((leftOf T name l).map encM)))) .un (.own acc) (.v (.d (.str m.1))) y10) (μ := μ) (fun f : String => R.d (.str f)) (fun f => R.d (dn ((F f).getD 0))) (xs := m.2) fun f hf => by
            refine ⟨liE T name (.nt l) (.v (.d (encF m.2))) .un (.v (.d (.str f))) (.v (.d (.lst ((leftOf T name l).map encM)))) .un (.own acc) (.v (.d (.str m.1))) y10, by simp only [tgN, liE, List.set_cons_succ, List.set_cons_zero], ?_⟩
            obtain ⟨a, ha, _⟩ := M.bdn (hmn f hf)
            rw [ha]
            exact call2 (eV_at rfl) (eV_at rfl) (hlh ha)
          have hcc : eComp [5] (tgN 5) (iE (eV 3)) tYes (eCall C "least_height" [(eV 0), (eV 5)]) (liE T name (.nt l) (.v (.d (encF m.2))) .un y5 (.v (.d (.lst ((leftOf T name l).map encM)))) .un (.own acc) (.v (.d (.str m.1))) y10) μ = .ok (.d (.lst ((m.2.map fun k => (F k).getD 0).map dn))) μ := by
            rw [eComp_ok (iE_tup (ds := m.2.map .str) (eV_at rfl)) (by simp only [wipeE, liE, List.set_cons_succ, List.set_cons_zero]; rw [List.map_map]; exact h2) (by rw [List.length_map]; omega), mkL_map, List.map_map]; rfl
          refine ⟨liE T name (.nt l) (.v (.d (encF m.2))) .un y5 (.v (.d (.lst ((leftOf T name l).map encM)))) .un (.own (acc ++ [R.d (dn (mh F m))])) (.v (.d (.str m.1))) (.v (.d (.lst ((m.2.map fun k => (F k).getD 0).map dn)))), ⟨_, _, _, _, rfl⟩, ?_⟩
          rw [sq_as hcc]
          simp only [liE, List.set_cons_succ, List.set_cons_zero]
          simp only [List.length_cons, List.length_nil] at hacc
          rw [sApp_ok rfl (one_hgt (hgt_of (F := F) (m := m) (by omega) (eV_at rfl))) (by omega)]
          simp only [List.set_cons_succ, List.set_cons_zero]
          rfl)
      refine (sq_nx (sFor_rt (iE_lst (ds := (leftOf T name l).map encM) (eV_at rfl)) (by rw [List.map_map]; exact hloop))).trans ?_
      rw [List.nil_append]
      have hmin : eBi minR [(eB 8)] (liE T name (.nt l) y3 .un y5 (.v (.d (.lst ((leftOf T name l).map encM)))) .un (.own ((leftOf T name l).flatMap fun m => [R.d (dn (mh F m))])) y9 y10) μ = .ok (.d (.int ((mn ((leftOf T name l).map (mh F)) : Nat) : Int))) μ := by
        have hB : eB 8 (liE T name (.nt l) y3 .un y5 (.v (.d (.lst ((leftOf T name l).map encM)))) .un (.own ((leftOf T name l).flatMap fun m => [R.d (dn (mh F m))])) y9 y10) μ = .ok (.d (.lst (((leftOf T name l).map (mh F)).map dn))) μ := by
          unfold eB
          show Out.ok (mkL ((leftOf T name l).flatMap fun m => [R.d (dn (mh F m))])) μ = _
          rw [flat_one, mkL_map, List.map_map]; rfl
        exact eBi1_ok hB (by rw [vw_d]; exact minR_nat _ fun e => left_ne g hr (List.map_eq_nil_iff.mp e))
      refine sRet_ok (call3 (eV_at rfl) (eV_at rfl) hmin ?_)
      rw [hlm, leastIn]
      refine least_made_ok (fun ρ hρ => ?_) (by omega) (fun m hm => (makers_nm g (left_mem.mp hm).1).1) (fun m hm f hf => ?_) (fun m hm e f hf => ?_) (left_ex g hr)
      · rw [iE_lst (ds := (leftOf T name l).map encM) (eV_at hρ), List.map_map]; rfl
      · obtain ⟨a, ha, _⟩ := M.bdn ((makers_nm g (left_mem.mp hm).1).2 f hf)
        exact ⟨a, ha, hlh1 ha⟩
      · exact hlv1 f ((makers_nm g (left_mem.mp hm).1).2 f hf)
end K06
end

section
set_option maxHeartbeats 0
set_option linter.all false
set_option maxRecDepth 100000
namespace K06
open Ev
/-! ### the law's least value of a region -/
abbrev llE (T : Ty) (kvs : List (Ky × R)) (name : String) (r : Rg) (x4 x5 x6 x7 x8 x9 x10 x11 x12 x13 : Sl) : Env := [.v (.d (encT T)), .v (.dic kvs), .v (.d (.str name)), .v (.d (enc r)), x4, x5, x6, x7, x8, x9, x10, x11, x12, x13]
theorem lrange {a b : Int} (h : a ≤ b) : max a (min 0 b) = if a ≤ 0 ∧ 0 ≤ b then 0 else if b < 0 then b else a := by
  split
  · omega
  · split <;> omega
theorem find_makers {T : Ty} (g : GoodT T) {name c : String} {fs : List String} (hm : (c, fs) ∈ makersOf T name) : ∃ row, T.find? (fun r => (r.2.find? fun m => m.1 == c).isSome) = some row ∧ ∃ m, row.2.find? (fun m => m.1 == c) = some m ∧ m.1 = c ∧ m.2 = fs := by
  have hfo := (maker_fields g hm).1
  simp only at hfo
  unfold fieldsOf at hfo
  cases hf : T.find? (fun r => (r.2.find? fun m => m.1 == c).isSome) with
  | none =>
    exfalso
    unfold makersOf at hm
    cases hr : T.find? (fun r => r.1 == name) with
    | none => rw [hr] at hm; cases hm
    | some row =>
      rw [hr] at hm
      have := List.find?_eq_none.mp hf row (List.mem_of_find?_eq_some hr)
      rw [Option.not_isSome_iff_eq_none] at this
      have := List.find?_eq_none.mp this _ hm
      simp at this
  | some row =>
    rw [hf] at hfo
    have hs := List.find?_some hf
    obtain ⟨m, hm2⟩ := Option.isSome_iff_exists.mp hs
    refine ⟨row, rfl, m, hm2, by simpa using List.find?_some hm2, ?_⟩
    simpa [hm2] using hfo
theorem sRow {T : Ty} {kvs : List (Ky × R)} {name : String} {r : Rg} {x4 x5 x8 x10 x11 x12 x13 : Sl} {acc : List R} {F : Hf} {m : Mk} {μ : Mem} (hm2 : m.2.length ≤ 2) (hacc : acc.length ≤ 1000) (hK : DicF kvs F) (hf : ∀ f ∈ m.2, ∃ a, F f = some a) :
    sApp 9 (eLst [(eOp addR (eBi maxR [(eOp addR (eLst [(eC (.int 0))]) (eComp [10] (tgN 10) (iE (eV 7)) tYes (eIdx (eV 1) (eV 10))))]) (eC (.int 1))), (eV 6), (eV 7)]) (llE T kvs name r x4 x5 (.v (.d (.str m.1))) (.v (.d (encF m.2))) x8 (.own acc) x10 x11 x12 x13) μ =
      .ok (.nx (llE T kvs name r x4 x5 (.v (.d (.str m.1))) (.v (.d (encF m.2))) x8 (.own (acc ++ [R.d (.lst [dn (mh F m), .str m.1, encF m.2])])) x10 x11 x12 x13)) μ := by
  have h2 := compL_each (t := tgN 10) (e := eIdx (eV 1) (eV 10)) (ρ := llE T kvs name r x4 x5 (.v (.d (.str m.1))) (.v (.d (encF m.2))) x8 (.own acc) .un x11 x12 x13) (μ := μ) (fun f : String => R.d (.str f)) (fun f => R.d (dn ((F f).getD 0))) (xs := m.2) fun f hff => by
    refine ⟨llE T kvs name r x4 x5 (.v (.d (.str m.1))) (.v (.d (encF m.2))) x8 (.own acc) (.v (.d (.str f))) x11 x12 x13, by simp only [tgN, llE, List.set_cons_succ, List.set_cons_zero], ?_⟩
    unfold eIdx
    refine eOp_ok (eV_at rfl) (eV_at rfl) ?_
    rw [vw_dic, vw_d]
    show valK kvs (.s f) = _
    obtain ⟨a, ha⟩ := hf f hff
    rw [hK f, ha]; rfl
  have hc : eComp [10] (tgN 10) (iE (eV 7)) tYes (eIdx (eV 1) (eV 10)) (llE T kvs name r x4 x5 (.v (.d (.str m.1))) (.v (.d (encF m.2))) x8 (.own acc) x10 x11 x12 x13) μ = .ok (.d (.lst ((m.2.map fun k => (F k).getD 0).map dn))) μ := by
    rw [eComp_ok (iE_tup (ds := m.2.map .str) (eV_at rfl)) (by simp only [wipeE, llE, List.set_cons_succ, List.set_cons_zero]; rw [List.map_map]; exact h2) (by rw [List.length_map]; omega), mkL_map, List.map_map]; rfl
  rw [sApp_ok rfl (eLst3 (hgt_one (hgt_of (F := F) (m := m) (by omega) hc)) (eV_at rfl) (eV_at rfl)) (by omega)]
  simp only [llE, List.set_cons_succ, List.set_cons_zero]
  rfl
theorem lleast_in_spec {T : Ty} (g : GoodT T) {F : Hf} {kvs : List (Ky × R)} (hK : DicF kvs F) (M : Mins T F) (μ : Mem) : ∀ (n d : Nat) (name : String) (r : Rg), Wr true T d name r → TyNm T name → hgt r + 8 ≤ n →
    callN P n "_law_least_in" [.d (encT T), .dic kvs, .d (.str name), .d (enc r)] μ = .ok (.d (encV (leastIn T F name r))) μ
  | 0, _, _, _, _, _, hn => by omega
  | n + 1, d, name, r, hr, hty, hn => by
    have ih := lleast_in_spec g hK M μ n
    have hlv := fun (name : String) (h : TyNm T name) => (M.bdn h).elim fun a ha => lleast_spec g hK M μ 4 n name a h ha.1 (by omega) (by omega)
    have hmk := makers_spec (n - 1) T name μ
    rw [show n - 1 + 1 = n by omega] at hmk
    rw [callN_run (d := f_law_least_in) rfl rfl]
    generalize callN P n = C at ih hlv hmk ⊢
    refine runB_rt (μ' := μ) ?_ rfl
    simp only [f_law_least_in, List.map_cons, List.map_nil, List.length_cons, List.length_nil, Nat.reduceAdd, Nat.reduceSub, List.replicate_succ, List.replicate_zero, List.cons_append, List.nil_append]
    cases r with
    | any =>
      refine sq_rt ?_
      rw [sIf_t (is_hd (r := .any) rfl rfl)]
      exact sRet_ok (call3 (eV_at rfl) (eV_at rfl) (eV_at rfl) (by rw [leastIn]; exact hlv name hty))
    | rng a b =>
      obtain ⟨_, _, _, _, _, hab⟩ := hr.rng2
      rw [sq_if_f (is_hd (r := .rng a b) rfl rfl)]
      refine sq_rt ?_
      rw [sIf_t (is_hd (r := .rng a b) rfl rfl)]
      have e3 : eV 3 (llE T kvs name (.rng a b) .un .un .un .un .un .un .un .un .un .un) μ = .ok (.d (.tup [.str "range", .int a, .int b])) μ := (eV_at rfl).trans (by simp [enc])
      have hch : tCh leR leR (eIdx (eV 3) (eC (.int 1))) (eC (.int 0)) (eIdx (eV 3) (eC (.int 2))) (llE T kvs name (.rng a b) .un .un .un .un .un .un .un .un .un .un) μ = .ok (decide (a ≤ 0) && decide (0 ≤ b)) μ :=
        tCh_ok (ixc_ok (x := .int a) e3 rfl) eC_ok (ixc_ok (x := .int b) e3 rfl) (by rw [vw_d, vw_d, leR_int]) (by rw [vw_d, vw_d, leR_int])
      rw [leastIn, lrange hab]
      by_cases h : a ≤ 0 ∧ 0 ≤ b
      · rw [if_pos h]
        rw [show (decide (a ≤ 0) && decide (0 ≤ b)) = true by simp [h]] at hch
        refine sq_rt ?_
        rw [sIf_t hch]
        exact sRet_ok ((eTup2 (μ1 := μ) (μ2 := μ) eC_ok eC_ok).trans (by simp [encV]))
      · rw [if_neg h]
        rw [show (decide (a ≤ 0) && decide (0 ≤ b)) = false by rw [← Bool.decide_and]; exact decide_eq_false h] at hch
        rw [sq_if_f hch]
        refine sRet_ok ((eTup2 (μ1 := μ) (μ2 := μ) (y := .int (if b < 0 then b else a)) eC_ok ?_).trans (by simp [encV]))
        refine ixl_ok (ds := [.int a, .int b]) (k := if b < 0 then 1 else 0) (eLst2 (ixc_ok (x := .int a) e3 rfl) (ixc_ok (x := .int b) e3 rfl)) (eBi1_ok (eT_ok (tCmp_ok (z := decide (b < 0)) (ixc_ok (x := .int b) e3 rfl) eC_ok (by rw [vw_d, vw_d, ltR_int]))) ?_) ?_
        · rw [vw_d, intR_bl]
          by_cases hb : b < 0 <;> simp [hb]
        · by_cases hb : b < 0 <;> simp [hb]
    | mk c rs =>
      obtain ⟨d', rfl, hne, fs, hm, hl, hparts⟩ := hr.mk
      obtain ⟨hf2, hfn⟩ := makers_nm g hm
      simp only at hf2 hfn
      have hfo : fieldsOf T c = fs := (maker_fields g hm).1
      rw [sq_if_f (is_hd (r := .mk c rs) rfl rfl), sq_if_f (is_hd (r := .mk c rs) rfl rfl)]
      have e3 : ∀ x4 x5 x6 x7 x8, eV 3 (llE T kvs name (.mk c rs) x4 x5 x6 x7 x8 .un .un .un .un .un) μ = .ok (.d (.tup [.str "make", .str c, .tup (encL rs)])) μ := fun _ _ _ _ _ => (eV_at rfl).trans (by simp [enc])
      obtain ⟨row, hrow, mm, hmm, hm1, hm2⟩ := find_makers g hm
      have key := forL_find (t := tgT [tgN 4, tgN 5]) (b := (sFor (tgT [(tgN 6), (tgN 7)]) (iE (eV 5))
  (sIf (tCmp eqR (eV 6) (eIdx (eV 3) (eC (.int 1)))) (sRet (eTup [(eC (.str "make")), (eV 6), (eBi tupleR [(eComp [8] (tgN 8) (iRange1 (eBi lenR [(eV 7)])) tYes (eCall C "_law_least_in" [(eV 0), (eV 1), (eIdx (eV 7) (eV 8)), (eIdx (eIdx (eV 3) (eC (.int 2))) (eV 8))]))])])) sNil))) (μ := μ)
        (fun r : String × List Mk => .d (encRow r)) (fun r => (r.2.find? (fun m => m.1 == c)).isSome) (fun r => .d (encV (.mk c (leastInL T F fs rs))))
        (fun ρ => ∃ x4 x5 x6 x7, ρ = llE T kvs name (.mk c rs) x4 x5 x6 x7 .un .un .un .un .un .un) (xs := T) (ρ := llE T kvs name (.mk c rs) .un .un .un .un .un .un .un .un .un .un) ⟨_, _, _, _, rfl⟩ (by
          rintro x hx ρ ⟨x4, x5, x6, x7, rfl⟩
          refine ⟨llE T kvs name (.mk c rs) (.v (.d (.str x.1))) (.v (.d (encMs x.2))) x6 x7 .un .un .un .un .un .un, by simp only [encRow, tgT, tgs, tgN, llE, List.map_cons, List.map_nil, Option.bind_some, List.set_cons_succ, List.set_cons_zero], ?_⟩
          have h := forL_find (t := tgT [tgN 6, tgN 7]) (b := (sIf (tCmp eqR (eV 6) (eIdx (eV 3) (eC (.int 1)))) (sRet (eTup [(eC (.str "make")), (eV 6), (eBi tupleR [(eComp [8] (tgN 8) (iRange1 (eBi lenR [(eV 7)])) tYes (eCall C "_law_least_in" [(eV 0), (eV 1), (eIdx (eV 7) (eV 8)), (eIdx (eIdx (eV 3) (eC (.int 2))) (eV 8))]))])])) sNil)) (μ := μ) (fun m : Mk => .d (encM m)) (fun m => m.1 == c) (fun _ => .d (encV (.mk c (leastInL T F fs rs))))
            (fun ρ => ∃ x6 x7, ρ = llE T kvs name (.mk c rs) (.v (.d (.str x.1))) (.v (.d (encMs x.2))) x6 x7 .un .un .un .un .un .un) (xs := x.2) (ρ := llE T kvs name (.mk c rs) (.v (.d (.str x.1))) (.v (.d (encMs x.2))) x6 x7 .un .un .un .un .un .un) ⟨_, _, rfl⟩ (by
              rintro m hmem ρ ⟨x6, x7, rfl⟩
              refine ⟨llE T kvs name (.mk c rs) (.v (.d (.str x.1))) (.v (.d (encMs x.2))) (.v (.d (.str m.1))) (.v (.d (encF m.2))) .un .un .un .un .un .un, by simp only [encM, tgT, tgs, tgN, llE, List.map_cons, List.map_nil, Option.bind_some, List.set_cons_succ, List.set_cons_zero], ?_⟩
              have hc : tCmp eqR (eV 6) (eIdx (eV 3) (eC (.int 1))) (llE T kvs name (.mk c rs) (.v (.d (.str x.1))) (.v (.d (encMs x.2))) (.v (.d (.str m.1))) (.v (.d (encF m.2))) .un .un .un .un .un .un) μ = .ok (decide (m.1 = c)) μ := tCmp_eqs (eV_at rfl) (ixc_ok (x := .str c) (e3 _ _ _ _ _) rfl)
              by_cases hmc : m.1 = c
              · refine .inl ⟨by simp [hmc], ?_⟩
                rw [decide_eq_true hmc] at hc
                rw [sIf_t hc]
                have hmf : m.2 = fs := by
                  obtain ⟨kk, k1, k2, hT, hrows⟩ := id g
                  have hmn : ∃ nm, m ∈ makersOf T nm := by
                    refine ⟨x.1, ?_⟩
                    obtain ⟨j, hj, e1, e2⟩ := row_nm g hx
                    have hf : T.find? (fun r => r.1 == x.1) ≠ none := fun z => by
                      have := List.find?_eq_none.mp z x hx
                      simp at this
                    unfold makersOf
                    cases hq : T.find? (fun r => r.1 == x.1) with
                    | none => exact absurd hq hf
                    | some row2 =>
                      obtain ⟨_, i2, b1, b2, _⟩ := makers_row g hq
                      obtain rfl := nms_inj b2 e2
                      rw [e1] at b1
                      obtain rfl := Option.some.inj b1
                      exact hmem
                  obtain ⟨nm, hnm⟩ := hmn
                  have := (maker_fields g hnm).1
                  rw [hmc, hfo] at this
                  exact this.symm
                refine sRet_ok ?_
                refine mk_tupV ((eV_at (r := .d (.str m.1)) rfl).trans (by rw [hmc])) ?_
                have hcomp : compL (tgN 8) tYes (eCall C "_law_least_in" [(eV 0), (eV 1), (eIdx (eV 7) (eV 8)), (eIdx (eIdx (eV 3) (eC (.int 2))) (eV 8))]) (rangeF 0 fs.length) (llE T kvs name (.mk c rs) (.v (.d (.str x.1))) (.v (.d (encMs x.2))) (.v (.d (.str m.1))) (.v (.d (encF m.2))) .un .un .un .un .un .un) μ = .ok ((leastInL T F fs rs).map fun v => R.d (encV v)) μ := by
                  refine compL_map (by rw [length_rangeF, List.length_map, leastInL_len (by omega)]; omega) fun i x y hx hy => ?_
                  have hil : i < fs.length := by
                    have := (List.getElem?_eq_some_iff.mp hx).1
                    simpa using this
                  rw [getElem_rangeF _ _ _ hil, Int.zero_add] at hx
                  obtain rfl := Option.some.inj hx
                  have hf : fs[i]? = some fs[i] := List.getElem?_eq_getElem hil
                  have hri : rs[i]? = some (rs[i]'(by omega)) := List.getElem?_eq_getElem _
                  rw [List.getElem?_map, leastInL_get hf hri] at hy
                  obtain rfl := Option.some.inj hy
                  refine ⟨llE T kvs name (.mk c rs) (.v (.d (.str x.1))) (.v (.d (encMs x.2))) (.v (.d (.str m.1))) (.v (.d (encF m.2))) (.v (.d (.int (i : Int)))) .un .un .un .un .un, by simp only [tgN, llE, List.set_cons_succ, List.set_cons_zero], by simp [tYes], ?_⟩
                  have hg := hgt_get hri
                  refine call4 (eV_at rfl) (eV_at rfl) (ix_ok (ds := m.2.map .str) (eV_at rfl) (eV_at rfl) (by rw [hmf, List.getElem?_map, hf]; rfl)) (ix_ok (ixc_ok (e3 _ _ _ _ _) rfl) (eV_at rfl) (encL_get' hri)) (ih d' fs[i] _ (hparts i _ _ hf hri) (hfn _ (List.getElem_mem hil)) ?_)
                  simp only [hgt] at hn
                  omega
                rw [eComp_ok (iRange1_nat (n := fs.length) (eBi1_ok (eV_at rfl) (by rw [vw_d, encF, lenR_tup, List.length_map, hmf])) (by omega)) (by simp only [wipeE, llE, List.set_cons_succ, List.set_cons_zero]; exact hcomp) (by rw [List.length_map, leastInL_len (by omega)]; omega), mkL_map, encVs_map]
              · rw [decide_eq_false hmc] at hc
                refine .inr ⟨by simp [hmc], llE T kvs name (.mk c rs) (.v (.d (.str x.1))) (.v (.d (encMs x.2))) (.v (.d (.str m.1))) (.v (.d (encF m.2))) .un .un .un .un .un .un, ⟨_, _, rfl⟩, ?_⟩
                rw [sIf_f hc]
                exact sNil_ok)
          have hit : iE (eV 5) (llE T kvs name (.mk c rs) (.v (.d (.str x.1))) (.v (.d (encMs x.2))) x6 x7 .un .un .un .un .un .un) μ = .ok (x.2.map fun m => .d (encM m)) μ := by rw [iE_tup (ds := x.2.map encM) (eV_at rfl), List.map_map]; rfl
          rcases h with ⟨m, h1, h2⟩ | ⟨h1, ρ', ⟨x6', x7', rfl⟩, h2⟩
          · exact .inl ⟨by simp [h1], sFor_rt hit h2⟩
          · exact .inr ⟨by simp only [h1]; rfl, _, ⟨.v (.d (.str x.1)), .v (.d (encMs x.2)), x6', x7', rfl⟩, sFor_rt hit h2⟩)
      have hit : iE (eV 0) (llE T kvs name (.mk c rs) .un .un .un .un .un .un .un .un .un .un) μ = .ok (T.map fun r => .d (encRow r)) μ := by rw [iE_tup (ds := T.map encRow) (eV_at rfl), List.map_map]; rfl
      refine sq_rt ?_
      rw [sIf_t (is_hd (r := .mk c rs) rfl rfl)]
      rw [leastIn, hfo]
      rcases key with ⟨x, h1, h2⟩ | ⟨h1, _⟩
      · exact sFor_rt hit h2
      · rw [hrow] at h1; cases h1
    | nt l =>
      obtain ⟨_, hne, nd, hs, hlen⟩ := hr.nt2
      have hm3 := makersOf_le g name
      rw [sq_if_f (is_hd (r := .nt l) rfl rfl), sq_if_f (is_hd (r := .nt l) rfl rfl), sq_if_f (is_hd (r := .nt l) rfl rfl)]
      have e3 : ∀ x4 x5 x6 x7 x8 x9 x10 x11 x12 x13, eV 3 (llE T kvs name (.nt l) x4 x5 x6 x7 x8 x9 x10 x11 x12 x13) μ = .ok (.d (.tup [.str "not", .tup (l.map .str)])) μ := fun _ _ _ _ _ _ _ _ _ _ => (eV_at rfl).trans (by simp [enc])
      rw [sq_nx (sOwn_lst (ds := []) eLst0)]
      simp only [List.set_cons_succ, List.set_cons_zero, List.map_nil]
      have hll : (leftOf T name l).length ≤ 3 := Nat.le_trans (List.length_filter_le _ _) hm3
      have hout : ∀ ms : List Mk, (ms.flatMap fun m => if m.1 ∈ l then [] else [R.d (.lst [dn (mh F m), .str m.1, encF m.2])]) = (ms.filter fun m => !decide (m.1 ∈ l)).map fun m => R.d (.lst [dn (mh F m), .str m.1, encF m.2]) := fun ms => by
        induction ms with
        | nil => rfl
        | cons m ms ih =>
          rw [List.flatMap_cons, ih, List.filter_cons]
          by_cases h : m.1 ∈ l <;> simp [h]
      obtain ⟨ρ', ⟨x6, x7, rfl⟩, hloop⟩ := forL_push (t := tgT [(tgN 6), (tgN 7)]) (b := (sIf (tCmp ninR (eV 6) (eIdx (eV 3) (eC (.int 1)))) (sApp 9 (eLst [(eOp addR (eBi maxR [(eOp addR (eLst [(eC (.int 0))]) (eComp [10] (tgN 10) (iE (eV 7)) tYes (eIdx (eV 1) (eV 10))))]) (eC (.int 1))), (eV 6), (eV 7)])) sNil)) (μ := μ) (fun m : Mk => R.d (encM m)) (fun m => if m.1 ∈ l then [] else [R.d (.lst [dn (mh F m), .str m.1, encF m.2])])
        (fun acc ρ => ∃ x6 x7, ρ = llE T kvs name (.nt l) .un .un x6 x7 .un (.own acc) .un .un .un .un) 100 (xs := makersOf T name) (acc := []) (ρ := llE T kvs name (.nt l) .un .un .un .un .un (.own []) .un .un .un .un) ⟨_, _, rfl⟩
        (by rw [hout, List.length_map]; have := List.length_filter_le (fun m : Mk => !decide (m.1 ∈ l)) (makersOf T name); simp only [List.length_nil]; omega) (by
          rintro m hmm acc ρ ⟨x6, x7, rfl⟩ hacc
          obtain ⟨hm2, hmn⟩ := makers_nm g hmm
          refine ⟨llE T kvs name (.nt l) .un .un (.v (.d (.str m.1))) (.v (.d (encF m.2))) .un (.own acc) .un .un .un .un, by simp only [encM, tgT, tgs, tgN, llE, List.map_cons, List.map_nil, Option.bind_some, List.set_cons_succ, List.set_cons_zero], ?_⟩
          have hc : tCmp ninR (eV 6) (eIdx (eV 3) (eC (.int 1))) (llE T kvs name (.nt l) .un .un (.v (.d (.str m.1))) (.v (.d (encF m.2))) .un (.own acc) .un .un .un .un) μ = .ok (!decide (m.1 ∈ l)) μ := tCmp_ok (eV_at rfl) (ixc_ok (e3 _ _ _ _ _ _ _ _ _ _) rfl) (by rw [vw_d, vw_d, nin_str])
          by_cases h : m.1 ∈ l
          · rw [decide_eq_true h] at hc
            refine ⟨llE T kvs name (.nt l) .un .un (.v (.d (.str m.1))) (.v (.d (encF m.2))) .un (.own acc) .un .un .un .un, ⟨_, _, by rw [if_pos h, List.append_nil]⟩, ?_⟩
            rw [sIf_f hc]
            exact sNil_ok
          · rw [decide_eq_false h] at hc
            rw [if_neg h] at hacc
            refine ⟨llE T kvs name (.nt l) .un .un (.v (.d (.str m.1))) (.v (.d (encF m.2))) .un (.own (acc ++ [R.d (.lst [dn (mh F m), .str m.1, encF m.2])])) .un .un .un .un, ⟨_, _, by rw [if_neg h]⟩, ?_⟩
            rw [sIf_t hc]
            exact sRow hm2 (by omega) hK fun f hf => (M.bdn (hmn f hf)).elim fun a ha => ⟨a, ha.1⟩)
      have hit : iE (eCall C "_law_makers" [(eV 0), (eV 2)]) (llE T kvs name (.nt l) .un .un .un .un .un (.own []) .un .un .un .un) μ = .ok ((makersOf T name).map fun m => R.d (encM m)) μ := by
        rw [iE_tup (ds := (makersOf T name).map encM) (call2 (eV_at rfl) (eV_at rfl) hmk), List.map_map]; rfl
      refine (sq_nx (sFor_rt hit hloop)).trans ?_
      rw [List.nil_append, hout]
      show sq _ _ (llE T kvs name (.nt l) .un .un x6 x7 .un (.own ((leftOf T name l).map fun m => R.d (.lst [dn (mh F m), .str m.1, encF m.2]))) .un .un .un .un) μ = _
      rw [sq_nx (sFrz_ok rfl), mkL_map]
      simp only [llE, List.set_cons_succ, List.set_cons_zero]
      -- the least height
      have hmin : eBi minR [(eComp [12] (tgN 12) (iE (eV 9)) tYes (eIdx (eV 12) (eC (.int 0))))] (llE T kvs name (.nt l) .un .un x6 x7 .un (.v (.d (.lst ((leftOf T name l).map fun m => .lst [dn (mh F m), .str m.1, encF m.2])))) .un .un .un .un) μ = .ok (.d (.int ((mn ((leftOf T name l).map (mh F)) : Nat) : Int))) μ := by
        have h2 := compL_each (t := tgN 12) (e := eIdx (eV 12) (eC (.int 0))) (ρ := llE T kvs name (.nt l) .un .un x6 x7 .un (.v (.d (.lst ((leftOf T name l).map fun m => .lst [dn (mh F m), .str m.1, encF m.2])))) .un .un .un .un) (μ := μ) (fun m : Mk => R.d (.lst [dn (mh F m), .str m.1, encF m.2])) (fun m => R.d (dn (mh F m))) (xs := leftOf T name l) fun m _ =>
          ⟨llE T kvs name (.nt l) .un .un x6 x7 .un (.v (.d (.lst ((leftOf T name l).map fun m => .lst [dn (mh F m), .str m.1, encF m.2])))) .un .un (.v (.d (.lst [dn (mh F m), .str m.1, encF m.2]))) .un, by simp only [tgN, llE, List.set_cons_succ, List.set_cons_zero], ixl_ok (ds := [dn (mh F m), .str m.1, encF m.2]) (k := 0) (eV_at rfl) eC_ok rfl⟩
        refine eBi1_ok (x := .d (.lst (((leftOf T name l).map (mh F)).map dn))) ?_ (by rw [vw_d]; exact minR_nat _ fun e => left_ne g hr (List.map_eq_nil_iff.mp e))
        rw [eComp_ok (iE_lst (ds := (leftOf T name l).map fun m => .lst [dn (mh F m), .str m.1, encF m.2]) (eV_at rfl)) (by simp only [wipeE, llE, List.set_cons_succ, List.set_cons_zero]; rw [List.map_map]; exact h2) (by rw [List.length_map]; omega), mkL_map, List.map_map]; rfl
      rw [sq_as hmin]
      simp only [llE, List.set_cons_succ, List.set_cons_zero]
      have key := forL_find (t := tgT [(tgN 13), (tgN 6), (tgN 7)]) (b := (sIf (tCmp eqR (eV 13) (eV 11)) (sRet (eTup [(eC (.str "make")), (eV 6), (eBi tupleR [(eComp [10] (tgN 10) (iE (eV 7)) tYes (eCall C "_law_least" [(eV 0), (eV 1), (eV 10)]))])])) sNil)) (μ := μ)
        (fun m : Mk => R.d (.lst [dn (mh F m), .str m.1, encF m.2])) (fun m => decide (mh F m = mn ((leftOf T name l).map (mh F)))) (fun m => R.d (encV (.mk m.1 (m.2.map (leastV T F 4)))))
        (fun ρ => ∃ x6 x7 x13, ρ = llE T kvs name (.nt l) .un .un x6 x7 .un (.v (.d (.lst ((leftOf T name l).map fun m => .lst [dn (mh F m), .str m.1, encF m.2])))) .un (.v (.d (.int ((mn ((leftOf T name l).map (mh F)) : Nat) : Int)))) .un x13) (xs := leftOf T name l)
        (ρ := llE T kvs name (.nt l) .un .un x6 x7 .un (.v (.d (.lst ((leftOf T name l).map fun m => .lst [dn (mh F m), .str m.1, encF m.2])))) .un (.v (.d (.int ((mn ((leftOf T name l).map (mh F)) : Nat) : Int)))) .un .un) ⟨_, _, _, rfl⟩ (by
          rintro m hm ρ ⟨x6, x7, x13, rfl⟩
          obtain ⟨hmm, hml⟩ := left_mem.mp hm
          obtain ⟨hm2, hmn⟩ := makers_nm g hmm
          refine ⟨llE T kvs name (.nt l) .un .un (.v (.d (.str m.1))) (.v (.d (encF m.2))) .un (.v (.d (.lst ((leftOf T name l).map fun m => .lst [dn (mh F m), .str m.1, encF m.2])))) .un (.v (.d (.int ((mn ((leftOf T name l).map (mh F)) : Nat) : Int)))) .un (.v (.d (dn (mh F m)))), by simp only [tgT, tgs, tgN, llE, List.map_cons, List.map_nil, Option.bind_some, List.set_cons_succ, List.set_cons_zero], ?_⟩
          have hc : tCmp eqR (eV 13) (eV 11) (llE T kvs name (.nt l) .un .un (.v (.d (.str m.1))) (.v (.d (encF m.2))) .un (.v (.d (.lst ((leftOf T name l).map fun m => .lst [dn (mh F m), .str m.1, encF m.2])))) .un (.v (.d (.int ((mn ((leftOf T name l).map (mh F)) : Nat) : Int)))) .un (.v (.d (dn (mh F m))))) μ = .ok (decide (mh F m = mn ((leftOf T name l).map (mh F)))) μ := tCmp_eqn (eV_at rfl) (eV_at rfl)
          by_cases hp : mh F m = mn ((leftOf T name l).map (mh F))
          · refine .inl ⟨decide_eq_true hp, ?_⟩
            rw [decide_eq_true hp] at hc
            rw [sIf_t hc]
            refine sRet_ok (mkV (eV_at rfl) ?_)
            have h2 := compL_each (t := tgN 10) (e := eCall C "_law_least" [(eV 0), (eV 1), (eV 10)]) (ρ := llE T kvs name (.nt l) .un .un (.v (.d (.str m.1))) (.v (.d (encF m.2))) .un (.v (.d (.lst ((leftOf T name l).map fun m => .lst [dn (mh F m), .str m.1, encF m.2])))) .un (.v (.d (.int ((mn ((leftOf T name l).map (mh F)) : Nat) : Int)))) .un (.v (.d (dn (mh F m))))) (μ := μ) (fun f : String => R.d (.str f)) (fun f => R.d (encV (leastV T F 4 f))) (xs := m.2) fun f hf =>
              ⟨llE T kvs name (.nt l) .un .un (.v (.d (.str m.1))) (.v (.d (encF m.2))) .un (.v (.d (.lst ((leftOf T name l).map fun m => .lst [dn (mh F m), .str m.1, encF m.2])))) (.v (.d (.str f))) (.v (.d (.int ((mn ((leftOf T name l).map (mh F)) : Nat) : Int)))) .un (.v (.d (dn (mh F m)))), by simp only [tgN, llE, List.set_cons_succ, List.set_cons_zero], call3 (eV_at rfl) (eV_at rfl) (eV_at rfl) (hlv f (hmn f hf))⟩
            rw [eComp_ok (iE_tup (ds := m.2.map .str) (eV_at rfl)) (by simp only [wipeE, llE, List.set_cons_succ, List.set_cons_zero]; rw [List.map_map]; exact h2) (by rw [List.length_map]; omega), mkL_map]
          · refine .inr ⟨decide_eq_false hp, llE T kvs name (.nt l) .un .un (.v (.d (.str m.1))) (.v (.d (encF m.2))) .un (.v (.d (.lst ((leftOf T name l).map fun m => .lst [dn (mh F m), .str m.1, encF m.2])))) .un (.v (.d (.int ((mn ((leftOf T name l).map (mh F)) : Nat) : Int)))) .un (.v (.d (dn (mh F m)))), ⟨_, _, _, rfl⟩, ?_⟩
            rw [decide_eq_false hp] at hc
            rw [sIf_f hc]
            exact sNil_ok)
      rw [leastIn]
      unfold madeV
      rcases key with ⟨m, hm, hr2⟩ | ⟨hn2, _⟩
      · rw [hm]
        exact sq_rt (sFor_rt (iE_lst (ds := (leftOf T name l).map fun m => .lst [dn (mh F m), .str m.1, encF m.2]) (eV_at rfl)) (by rw [List.map_map]; exact hr2))
      · obtain ⟨m, hm, e⟩ := left_ex g (F := F) hr
        exact absurd (decide_eq_true e) (List.find?_eq_none.mp hn2 m hm)
end K06
end

section
set_option maxHeartbeats 0
set_option linter.all false
set_option maxRecDepth 100000
namespace K06
open Ev
/-! ### texts -/
theorem tx100 : ∀ n : Fin 201, (toString ((n.1 : Int) - 100)).length ≤ 4 ∧ shortInt ((n.1 : Int) - 100) = true := by decide +kernel
theorem int_tx {i : Int} (h1 : -100 ≤ i) (h2 : i ≤ 100) : (toString i).length ≤ 4 ∧ shortInt i = true := by
  have := tx100 ⟨(i + 100).toNat, by omega⟩
  rwa [show (((i + 100).toNat : Nat) : Int) - 100 = i by omega] at this
theorem joinS_len (a : String) : ∀ l : List String, (joinS a l).length ≤ (l.map (·.length)).sum + l.length * a.length
  | [] => by simp [joinS]
  | [x] => by simp [joinS]
  | x :: y :: r => by
    have ih := joinS_len a (y :: r)
    rw [joinS, String.length_append, String.length_append]
    simp only [List.map_cons, List.sum_cons, List.length_cons, Nat.add_mul, Nat.one_mul] at ih ⊢
    omega
theorem strsD_str : ∀ l : List String, strsD (l.map .str) = some l
  | [] => rfl
  | x :: l => by rw [List.map_cons]; show (strsD (l.map .str)).map (x :: ·) = _; rw [strsD_str l]; rfl
theorem eJoin_lst {s : String} {e : E} {ρ : Env} {μ μ1 : Mem} {ss : List String} (h : e ρ μ = .ok (.d (.lst (ss.map .str))) μ1) (hb : (ss.map (·.length)).sum + ss.length * s.length ≤ 1000000) : eJoin (eC (.str s)) e ρ μ = .ok (.d (.str (joinS s ss))) μ1 := by
  unfold eJoin
  rw [eC_ok, bind_ok]
  show (e ρ μ).bind _ = _
  rw [h, bind_ok, vw_d]
  show lift ((strsD (ss.map .str)).bind fun ss => if joinOk s ss = true then some (R.d (.str (joinS s ss))) else none) μ1 = _
  rw [strsD_str]
  show lift (if joinOk s ss = true then _ else _) μ1 = _
  rw [if_pos (by unfold joinOk; exact decide_eq_true (le_SL hb))]; rfl
theorem eJoin_tup {s : String} {e : E} {ρ : Env} {μ μ1 : Mem} {ss : List String} (h : e ρ μ = .ok (.d (.tup (ss.map .str))) μ1) (hb : (ss.map (·.length)).sum + ss.length * s.length ≤ 1000000) : eJoin (eC (.str s)) e ρ μ = .ok (.d (.str (joinS s ss))) μ1 := by
  unfold eJoin
  rw [eC_ok, bind_ok]
  show (e ρ μ).bind _ = _
  rw [h, bind_ok, vw_d]
  show lift ((strsD (ss.map .str)).bind fun ss => if joinOk s ss = true then some (R.d (.str (joinS s ss))) else none) μ1 = _
  rw [strsD_str]
  show lift (if joinOk s ss = true then _ else _) μ1 = _
  rw [if_pos (by unfold joinOk; exact decide_eq_true (le_SL hb))]; rfl
theorem strR_int {i : Int} (h : shortInt i = true) : strR [.d (.int i)] = some (.d (.str (toString i))) := by
  show (if shortInt i = true then some (R.d (.str (toString i))) else none) = _; rw [if_pos h]
theorem fmt_int {a : E} {ρ : Env} {μ μ1 : Mem} {i : Int} (h : shortInt i = true) (ha : a ρ μ = .ok (.d (.int i)) μ1) : eFmt a ρ μ = .ok (.d (.str (toString i))) μ1 := by
  unfold eFmt; rw [ha, bind_ok]
  show lift (if shortInt i = true then some (R.d (.str (toString i))) else none) μ1 = _; rw [if_pos h]; rfl
theorem addS {a b : E} {ρ : Env} {μ μ1 μ2 : Mem} {x y : String} (ha : a ρ μ = .ok (.d (.str x)) μ1) (hb : b ρ μ1 = .ok (.d (.str y)) μ2) (hl : x.length + y.length ≤ 1000000) : eOp addR a b ρ μ = .ok (.d (.str (x ++ y))) μ2 :=
  eOp_ok ha hb (by rw [vw_d, vw_d, addR_str, if_pos (le_SL hl)])
mutual
def rgT : Rg → String
  | .any => "_"
  | .rng a b => if a = b then toString a else toString a ++ ".." ++ toString b
  | .nt l => if l.length = 1 then "not " ++ joinS " | " l else "not (" ++ joinS " | " l ++ ")"
  | .mk c rs => if rs.length = 0 then c else c ++ "(" ++ joinS ", " (rgTL rs) ++ ")"
def rgTL : List Rg → List String
  | [] => []
  | r :: rs => rgT r :: rgTL rs
end
theorem rgTL_map : ∀ rs : List Rg, rgTL rs = rs.map rgT
  | [] => rfl
  | r :: rs => by rw [rgTL, rgTL_map rs]; rfl
theorem sum_le {b : Nat} : ∀ {l : List String}, (∀ x ∈ l, x.length ≤ b) → (l.map (·.length)).sum ≤ l.length * b
  | [], _ => by simp
  | x :: l, h => by
    have := sum_le (l := l) fun y hy => h y (List.mem_cons_of_mem _ hy)
    have := h x List.mem_cons_self
    simp only [List.map_cons, List.sum_cons, List.length_cons, Nat.add_mul, Nat.one_mul]
    omega
theorem mul2 {n b : Nat} (h : n ≤ 2) : n * b ≤ 2 * b := Nat.mul_le_mul_right b h
theorem mul3 {n b : Nat} (h : n ≤ 3) : n * b ≤ 3 * b := Nat.mul_le_mul_right b h
theorem rgT_len : ∀ {d : Nat} {r : Rg}, Bd 100 d r → (rgT r).length ≤ 40 * 4 ^ d
  | d, .any, _ => by
    have : 0 < 4 ^ d := Nat.pow_pos (by omega)
    rw [rgT, show ("_" : String).length = 1 from rfl]; omega
  | d, .rng a b, h => by
    have : 0 < 4 ^ d := Nat.pow_pos (by omega)
    obtain ⟨a1, a2, b1, b2⟩ := Bd_rng.mp h
    have := (int_tx a1 a2).1
    have := (int_tx b1 b2).1
    rw [rgT]
    split
    · omega
    · rw [String.length_append, String.length_append, show (".." : String).length = 2 from rfl]; omega
  | d, .nt l, h => by
    have : 0 < 4 ^ d := Nat.pow_pos (by omega)
    obtain ⟨a1, a2⟩ := Bd_nt.mp h
    have h1 := joinS_len " | " l
    rw [show (" | " : String).length = 3 from rfl] at h1
    have h2 := sum_le a2
    rw [rgT]
    split
    · rw [String.length_append, show ("not " : String).length = 4 from rfl]; omega
    · rw [String.length_append, String.length_append, show ("not (" : String).length = 5 from rfl, show (")" : String).length = 1 from rfl]; omega
  | d, .mk c rs, h => by
    obtain ⟨d', rfl, a1, a2, a3⟩ := Bd_mk.mp h
    have hp : 0 < 4 ^ d' := Nat.pow_pos (by omega)
    have h1 := joinS_len ", " (rgTL rs)
    rw [show (", " : String).length = 2 from rfl, rgTL_map, List.length_map] at h1
    have h2 : ((rs.map rgT).map (·.length)).sum ≤ rs.length * (40 * 4 ^ d') := by
      have := sum_le (l := rs.map rgT) (b := 40 * 4 ^ d') fun x hx => by
        obtain ⟨r, hr, rfl⟩ := List.mem_map.mp hx
        exact rgT_len (a3 r hr)
      rwa [List.length_map] at this
    have h3 := mul2 (b := 40 * 4 ^ d') a2
    rw [rgT, Nat.pow_succ, rgTL_map]
    split
    · omega
    · rw [String.length_append, String.length_append, String.length_append, show ("(" : String).length = 1 from rfl, show (")" : String).length = 1 from rfl]; omega
termination_by _ r => sizeOf r
decreasing_by
  have := List.sizeOf_lt_of_mem hr
  simp only [Rg.mk.sizeOf_spec]; omega
theorem tx_sum {rs : List Rg} {d' : Nat} (a2 : rs.length ≤ 2) (hd : d' ≤ 3) (a3 : ∀ r ∈ rs, Bd 100 d' r) : ((rgTL rs).map (·.length)).sum + (rgTL rs).length * (", " : String).length ≤ 5200 := by
  have h2 := sum_le (l := rgTL rs) (b := 40 * 4 ^ 3) fun x hx => by
    rw [rgTL_map] at hx
    obtain ⟨r, hr, rfl⟩ := List.mem_map.mp hx
    exact Nat.le_trans (rgT_len (a3 r hr)) (Nat.mul_le_mul_left 40 (Nat.pow_le_pow_right (by omega) hd))
  have h3 := mul2 (b := 40 * 4 ^ 3) (n := (rgTL rs).length) (by rw [rgTL_map, List.length_map]; omega)
  rw [show (", " : String).length = 2 from rfl]
  rw [rgTL_map, List.length_map] at *
  omega
theorem eIf_ok {c : T} {a b : E} {ρ : Env} {μ μ1 μ2 : Mem} {k : Bool} {x y : R} (hc : c ρ μ = .ok k μ1) (ha : k = true → a ρ μ1 = .ok x μ2) (hb : k = false → b ρ μ1 = .ok y μ2) : eIf c a b ρ μ = .ok (if k then x else y) μ2 := by
  unfold eIf; rw [hc, bind_ok]
  cases k with
  | true => exact ha rfl
  | false => exact hb rfl
theorem eJs3 {a b c : E} {ρ : Env} {μ μ1 μ2 μ3 : Mem} {x y z : String} (ha : a ρ μ = .ok (.d (.str x)) μ1) (hb : b ρ μ1 = .ok (.d (.str y)) μ2) (hc : c ρ μ2 = .ok (.d (.str z)) μ3) (hl : x.length + y.length + z.length ≤ 1000000) : eJs [a, b, c] ρ μ = .ok (.d (.str (x ++ y ++ z))) μ3 := by
  unfold eJs
  simp only [jsR]
  rw [ha, bind_ok]
  have e : "" ++ x = x := String.empty_append
  simp only [e]
  rw [if_pos (le_SL (by omega)), hb, bind_ok]
  simp only []
  rw [if_pos (le_SL (by rw [String.length_append]; omega)), hc, bind_ok]
  simp only []
  rw [if_pos (le_SL (by rw [String.length_append, String.length_append]; omega))]
  rfl
theorem pow43 {d : Nat} (h : d ≤ 3) : 40 * 4 ^ d ≤ 2560 := Nat.le_trans (Nat.mul_le_mul_left 40 (Nat.pow_le_pow_right (by omega) h)) (by decide)
theorem len_eq {n : Nat} {e : E} {ρ : Env} {μ : Mem} {ds : List D} (k : Nat) {i : Int} (hk : i = k) (h : e ρ μ = .ok (.d (.tup ds)) μ) (hn : ds.length = n) : tCmp eqR (eBi lenR [e]) (eC (.int i)) ρ μ = .ok (decide (n = k)) μ := by
  subst hk
  exact tCmp_eqn (eBi1_ok h (by rw [vw_d, lenR_tup, hn])) eC_ok
theorem hgtL_mem {rs : List Rg} {r : Rg} (h : r ∈ rs) : hgt r ≤ hgtL rs := by
  obtain ⟨i, hi⟩ := List.getElem?_of_mem h
  exact hgt_get hi
theorem region_text_spec : ∀ (n d : Nat) (r : Rg) (μ : Mem), Bd 100 d r → d ≤ 3 → hgt r < n → callN P n "region_text" [.d (enc r)] μ = .ok (.d (.str (rgT r))) μ
  | 0, _, _, _, _, _, h => absurd h (Nat.not_lt_zero _)
  | n + 1, d, r, μ, hb, hd, hn => by
    rw [callN_run (d := f_region_text) rfl rfl]
    have ih := region_text_spec n
    generalize callN P n = C at ih ⊢
    refine runB_rt (μ' := μ) ?_ rfl
    simp only [f_region_text, List.map_cons, List.map_nil, List.length_cons, List.length_nil, Nat.reduceAdd, Nat.reduceSub, List.replicate_succ, List.replicate_zero, List.cons_append, List.nil_append]
    cases r with
    | any =>
      refine sq_rt ?_
      rw [sIf_t (is_any (r := .any) rfl rfl)]
      exact sRet_ok (eC_ok.trans (by rw [rgT]))
    | rng a b =>
      obtain ⟨a1, a2, b1, b2⟩ := Bd_rng.mp hb
      obtain ⟨ta, sa⟩ := int_tx a1 a2
      obtain ⟨tb, sb⟩ := int_tx b1 b2
      rw [sq_if_f (is_any (r := .rng a b) rfl rfl)]
      refine sq_rt ?_
      rw [sIf_t (is_hd (r := .rng a b) rfl rfl)]
      have e0 : eV 0 [.v (.d (enc (.rng a b))), .un, .un] μ = .ok (.d (.tup [.str "range", .int a, .int b])) μ := (eV_at rfl).trans (by simp [enc])
      have i1 := ixc_ok (i := 1) (x := .int a) e0 rfl
      have i2 := ixc_ok (i := 2) (x := .int b) e0 rfl
      refine sRet_ok ((eIf_ok (tCmp_eqI i1 i2) (fun _ => eBi1_ok i1 (strR_int sa)) (fun _ => eJs3 (fmt_int sa i1) eC_ok (fmt_int sb i2) (by rw [show (".." : String).length = 2 from rfl]; omega))).trans ?_)
      rw [rgT]
      by_cases h : a = b <;> simp [h]
    | nt l =>
      obtain ⟨a1, a2⟩ := Bd_nt.mp hb
      rw [sq_if_f (is_any (r := .nt l) rfl rfl), sq_if_f (is_hd (r := .nt l) rfl rfl)]
      refine sq_rt ?_
      rw [sIf_t (is_hd (r := .nt l) rfl rfl)]
      have e0 : ∀ x, eV 0 [.v (.d (enc (.nt l))), x, .un] μ = .ok (.d (.tup [.str "not", .tup (l.map .str)])) μ := fun _ => (eV_at rfl).trans (by simp [enc])
      have hs := sum_le a2
      have hj := joinS_len " | " l
      rw [show (" | " : String).length = 3 from rfl] at hj
      rw [sq_as (eJoin_tup (ixc_ok (e0 _) rfl) (by rw [show (" | " : String).length = 3 from rfl]; omega))]
      simp only [List.set_cons_succ, List.set_cons_zero]
      refine sRet_ok ((eIf_ok (len_eq 1 rfl (ixc_ok (e0 _) rfl) (List.length_map _)) (fun _ => addS eC_ok (eV_at rfl) (by rw [show ("not " : String).length = 4 from rfl]; omega)) (fun _ => addS (addS eC_ok (eV_at rfl) (by rw [show ("not (" : String).length = 5 from rfl]; omega)) eC_ok (by rw [String.length_append, show ("not (" : String).length = 5 from rfl, show (")" : String).length = 1 from rfl]; omega))).trans ?_)
      rw [rgT]
      by_cases h : l.length = 1 <;> simp [h]
    | mk c rs =>
      obtain ⟨d', rfl, a1, a2, a3⟩ := Bd_mk.mp hb
      rw [sq_if_f (is_any (r := .mk c rs) rfl rfl), sq_if_f (is_hd (r := .mk c rs) rfl rfl), sq_if_f (is_hd (r := .mk c rs) rfl rfl)]
      have e0 : ∀ x, eV 0 [.v (.d (enc (.mk c rs))), .un, x] μ = .ok (.d (.tup [.str "make", .str c, .tup (encL rs)])) μ := fun _ => (eV_at rfl).trans (by simp [enc])
      have hl := len_eq 0 (i := 0) (n := rs.length) rfl (ixc_ok (i := 2) (e0 .un) rfl) (encL_len rs)
      rw [rgT]
      by_cases h : rs.length = 0
      · rw [decide_eq_true h] at hl
        refine sq_rt ?_
        rw [sIf_t hl, if_pos h]
        exact sRet_ok (ixc_ok (e0 _) rfl)
      · rw [decide_eq_false h] at hl
        rw [sq_if_f hl, if_neg h]
        have hc := compL_each (t := tgN 2) (e := eCall C "region_text" [(eV 2)]) (ρ := [.v (.d (enc (.mk c rs))), .un, .un]) (μ := μ) (fun r : Rg => R.d (enc r)) (fun r => R.d (.str (rgT r))) (xs := rs) fun r hr => by
          have := hgtL_mem hr
          simp only [hgt] at hn
          exact ⟨[.v (.d (enc (.mk c rs))), .un, .v (.d (enc r))], by simp only [tgN, List.set_cons_succ, List.set_cons_zero], call1 (eV_at rfl) (ih d' r μ (a3 r hr) (by omega) (by omega))⟩
        have hcc : eComp [2] (tgN 2) (iE (eIdx (eV 0) (eC (.int 2)))) tYes (eCall C "region_text" [(eV 2)]) [.v (.d (enc (.mk c rs))), .un, .un] μ = .ok (.d (.lst ((rgTL rs).map .str))) μ := by
          rw [eComp_ok (iE_tup (ixc_ok (e0 _) rfl)) (by simp only [wipeE, List.set_cons_succ, List.set_cons_zero]; rw [encL_map, List.map_map]; exact hc) (by rw [List.length_map]; omega), mkL_map, rgTL_map, List.map_map]; rfl
        have hs := tx_sum a2 (by omega) a3
        have hj := joinS_len ", " (rgTL rs)
        refine sRet_ok (addS (addS (addS (ixc_ok (e0 _) rfl) eC_ok ?_) (eJoin_lst hcc (by omega)) ?_) eC_ok ?_)
        · rw [show ("(" : String).length = 1 from rfl]; omega
        · rw [String.length_append, show ("(" : String).length = 1 from rfl]; omega
        · rw [String.length_append, String.length_append, show ("(" : String).length = 1 from rfl, show (")" : String).length = 1 from rfl]; omega
end K06
end

section
set_option maxHeartbeats 0
set_option linter.all false
set_option maxRecDepth 100000
namespace K06
open Ev
theorem lregion_text_spec (T : Ty) : ∀ (n d : Nat) (r : Rg) (μ : Mem), Bd 100 d r → d ≤ 3 → hgt r < n → callN P n "_law_region_text" [.d (encT T), .d (enc r)] μ = .ok (.d (.str (rgT r))) μ
  | 0, _, _, _, _, _, h => absurd h (Nat.not_lt_zero _)
  | n + 1, d, r, μ, hb, hd, hn => by
    rw [callN_run (d := f_law_region_text) rfl rfl]
    have ih := lregion_text_spec T n
    generalize callN P n = C at ih ⊢
    refine runB_rt (μ' := μ) ?_ rfl
    simp only [f_law_region_text, List.map_cons, List.map_nil, List.length_cons, List.length_nil, Nat.reduceAdd, Nat.reduceSub, List.replicate_succ, List.replicate_zero, List.cons_append, List.nil_append]
    cases r with
    | any =>
      refine sq_rt ?_
      rw [sIf_t (is_hd (r := .any) rfl rfl)]
      exact sRet_ok (eC_ok.trans (by rw [rgT]))
    | rng a b =>
      obtain ⟨a1, a2, b1, b2⟩ := Bd_rng.mp hb
      obtain ⟨ta, sa⟩ := int_tx a1 a2
      obtain ⟨tb, sb⟩ := int_tx b1 b2
      rw [sq_if_f (is_hd (r := .rng a b) rfl rfl)]
      refine sq_rt ?_
      rw [sIf_t (is_hd (r := .rng a b) rfl rfl)]
      have e0 : eV 1 [.v (.d (encT T)), .v (.d (enc (.rng a b))), .un] μ = .ok (.d (.tup [.str "range", .int a, .int b])) μ := (eV_at rfl).trans (by simp [enc])
      have i1 := ixc_ok (i := 1) (x := .int a) e0 rfl
      have i2 := ixc_ok (i := 2) (x := .int b) e0 rfl
      have hc := tCmp_eqI i1 i2
      rw [rgT]
      by_cases h : a = b
      · rw [decide_eq_true h] at hc
        refine sq_rt ?_
        rw [sIf_t hc, if_pos h]
        exact sRet_ok (eBi1_ok i1 (strR_int sa))
      · rw [decide_eq_false h] at hc
        rw [sq_if_f hc, if_neg h]
        exact sRet_ok (addS (addS (eBi1_ok i1 (strR_int sa)) eC_ok (by rw [show (".." : String).length = 2 from rfl]; omega)) (eBi1_ok i2 (strR_int sb)) (by rw [String.length_append, show (".." : String).length = 2 from rfl]; omega))
    | nt l =>
      obtain ⟨a1, a2⟩ := Bd_nt.mp hb
      rw [sq_if_f (is_hd (r := .nt l) rfl rfl), sq_if_f (is_hd (r := .nt l) rfl rfl)]
      refine sq_rt ?_
      rw [sIf_t (is_hd (r := .nt l) rfl rfl)]
      have e0 : eV 1 [.v (.d (encT T)), .v (.d (enc (.nt l))), .un] μ = .ok (.d (.tup [.str "not", .tup (l.map .str)])) μ := (eV_at rfl).trans (by simp [enc])
      have hs := sum_le a2
      have hj := joinS_len " | " l
      rw [show (" | " : String).length = 3 from rfl] at hj
      have hl := len_eq 1 (i := 1) (n := l.length) rfl (ixc_ok (i := 1) e0 rfl) (List.length_map _)
      rw [rgT]
      by_cases h : l.length = 1
      · rw [decide_eq_true h] at hl
        refine sq_rt ?_
        rw [sIf_t hl, if_pos h]
        obtain ⟨x, rfl⟩ := List.length_eq_one_iff.mp h
        have := a2 x List.mem_cons_self
        exact sRet_ok (addS eC_ok (ixc_ok (ixc_ok e0 rfl) rfl) (by rw [show ("not " : String).length = 4 from rfl]; omega))
      · rw [decide_eq_false h] at hl
        rw [sq_if_f hl, if_neg h]
        exact sRet_ok (addS (addS eC_ok (eJoin_tup (ixc_ok e0 rfl) (by rw [show (" | " : String).length = 3 from rfl]; omega)) (by rw [show ("not (" : String).length = 5 from rfl]; omega)) eC_ok (by rw [String.length_append, show ("not (" : String).length = 5 from rfl, show (")" : String).length = 1 from rfl]; omega))
    | mk c rs =>
      obtain ⟨d', rfl, a1, a2, a3⟩ := Bd_mk.mp hb
      rw [sq_if_f (is_hd (r := .mk c rs) rfl rfl), sq_if_f (is_hd (r := .mk c rs) rfl rfl), sq_if_f (is_hd (r := .mk c rs) rfl rfl)]
      have e0 : ∀ x, eV 1 [.v (.d (encT T)), .v (.d (enc (.mk c rs))), x] μ = .ok (.d (.tup [.str "make", .str c, .tup (encL rs)])) μ := fun _ => (eV_at rfl).trans (by simp [enc])
      have hl := len_eq 0 (i := 0) (n := rs.length) rfl (ixc_ok (i := 2) (e0 .un) rfl) (encL_len rs)
      rw [rgT]
      by_cases h : rs.length = 0
      · rw [decide_eq_true h] at hl
        refine sq_rt ?_
        rw [sIf_t hl, if_pos h]
        exact sRet_ok (ixc_ok (e0 _) rfl)
      · rw [decide_eq_false h] at hl
        rw [sq_if_f hl, if_neg h]
        have hc := compL_each (t := tgN 2) (e := eCall C "_law_region_text" [(eV 0), (eV 2)]) (ρ := [.v (.d (encT T)), .v (.d (enc (.mk c rs))), .un]) (μ := μ) (fun r : Rg => R.d (enc r)) (fun r => R.d (.str (rgT r))) (xs := rs) fun r hr => by
          have := hgtL_mem hr
          simp only [hgt] at hn
          exact ⟨[.v (.d (encT T)), .v (.d (enc (.mk c rs))), .v (.d (enc r))], by simp only [tgN, List.set_cons_succ, List.set_cons_zero], call2 (eV_at rfl) (eV_at rfl) (ih d' r μ (a3 r hr) (by omega) (by omega))⟩
        have hcc : eComp [2] (tgN 2) (iE (eIdx (eV 1) (eC (.int 2)))) tYes (eCall C "_law_region_text" [(eV 0), (eV 2)]) [.v (.d (encT T)), .v (.d (enc (.mk c rs))), .un] μ = .ok (.d (.lst ((rgTL rs).map .str))) μ := by
          rw [eComp_ok (iE_tup (ixc_ok (e0 _) rfl)) (by simp only [wipeE, List.set_cons_succ, List.set_cons_zero]; rw [encL_map, List.map_map]; exact hc) (by rw [List.length_map]; omega), mkL_map, rgTL_map, List.map_map]; rfl
        have hs := tx_sum a2 (by omega) a3
        have hj := joinS_len ", " (rgTL rs)
        refine sRet_ok (addS (addS (addS (ixc_ok (e0 _) rfl) eC_ok ?_) (eJoin_lst hcc (by omega)) ?_) eC_ok ?_)
        · rw [show ("(" : String).length = 1 from rfl]; omega
        · rw [String.length_append, show ("(" : String).length = 1 from rfl]; omega
        · rw [String.length_append, String.length_append, show ("(" : String).length = 1 from rfl, show (")" : String).length = 1 from rfl]; omega
end K06
end

section
set_option maxHeartbeats 0
set_option linter.all false
set_option maxRecDepth 100000
namespace K06
open Ev
theorem same_spec (n : Nat) (x : D) (μ : Mem) (h1 : x.dep ≤ EqDep) (h2 : x.cost ≤ SL) : callN P (n + 1) "_law_same" [.d x, .d x] μ = .ok (.d (.bl true)) μ := by
  rw [callN_run (d := f_law_same) rfl rfl]
  refine runB_rt (μ' := μ) ?_ rfl
  generalize callN P n = C
  simp only [f_law_same, List.map_cons, List.map_nil, List.length_cons, List.length_nil, Nat.reduceAdd, Nat.reduceSub, List.replicate_succ, List.replicate_zero, List.cons_append, List.nil_append]
  refine sRet_ok ?_
  unfold eT
  rw [tCmp_ok (z := true) (eBi1_ok (μ1 := μ) (z := .rep x) (eV_at rfl) (by rw [vw_d]; exact repr_ok h1 h2)) (eBi1_ok (μ1 := μ) (z := .rep x) (eV_at rfl) (by rw [vw_d]; exact repr_ok h1 h2)) (by simp [vw, D.same_self]), bind_ok]
theorem Wv.cost {T : Ty} (g : GoodT T) : ∀ {d : Nat} {name : String} {v : Vl}, Wv T d name v → (encV v).cost ≤ Kc d ∧ (encV v).dep ≤ 2 * d + 2
  | d, name, .int i, h => by
    have := h.int.2
    have hk := Kc_ge d
    simp only [encV, D.cost, D.costL, D.dep, D.depL]
    rw [if_pos (by omega)]
    have : ("int" : String).length = 3 := rfl
    omega
  | d, name, .mk c vs, h => by
    obtain ⟨d', rfl, hne, fs, h2, h3, h4⟩ := h.mk
    have hf := maker_fields g h2
    have hfl := hf.2.1
    have hcl := hf.2.2.2
    simp only at hfl hcl
    have ih : ∀ v ∈ vs, (encV v).cost ≤ Kc d' ∧ (encV v).dep ≤ 2 * d' + 2 := fun v hv => by
      obtain ⟨i, hi⟩ := List.getElem?_of_mem hv
      have hil := (List.getElem?_eq_some_iff.mp hi).1
      exact Wv.cost g (h4 i (fs[i]'(by omega)) v (by simp) hi)
    have a := costL_le (K := Kc d') (ds := encVs vs) fun x hx => by
      rw [encVs_map] at hx
      obtain ⟨v, hv, rfl⟩ := List.mem_map.mp hx
      exact (ih v hv).1
    have b := depL_le (K := 2 * d' + 2) (ds := encVs vs) fun x hx => by
      rw [encVs_map] at hx
      obtain ⟨v, hv, rfl⟩ := List.mem_map.mp hx
      exact (ih v hv).2
    have hl : (encVs vs).length ≤ 2 := by rw [encVs_map, List.length_map]; omega
    have hm : (encVs vs).length * (Kc d' + 2) ≤ 2 * (Kc d' + 2) := Nat.mul_le_mul_right _ hl
    have : ("make" : String).length = 4 := rfl
    simp only [encV, D.cost, D.costL, D.dep, D.depL, Kc]
    omega
termination_by d => d
def RowT (T : Ty) (kinds : List String) (r : List Rg × List B1) : Prop := r.1.length = kinds.length ∧ ∀ (i : Nat) (x : String) (s : Rg), kinds[i]? = some x → r.1[i]? = some s → Wr false T 7 x s

/-! ### what least values are -/
theorem vh_map {F : Hf} {lv : String → Vl} {m : Mk} (h : ∀ f ∈ m.2, F f = some (vh (lv f))) : vh (.mk m.1 (m.2.map lv)) = mh F m := by
  have e : (m.2.map lv).map vh = m.2.map fun k => (F k).getD 0 := by
    rw [List.map_map]
    exact List.map_congr_left fun f hf => by rw [h f hf]; rfl
  have := vhL_fold (m.2.map lv) 0
  rw [e] at this
  rw [vh]; unfold mh; omega
theorem madeV_ok {T : Ty} (g : GoodT T) {F : Hf} (M : Mins T F) {d h : Nat} {name : String} (hint : name ≠ "Int") {lv : String → Vl} {ms : List Mk} (hms : ∀ m ∈ ms, m ∈ makersOf T name) (hex : ∃ m ∈ ms, mh F m = h) (hd : h ≤ d)
    (ih : ∀ f a, TyNm T f → F f = some a → a + 1 ≤ d → Wv T d f (lv f) ∧ vh (lv f) = a) : ∃ m ∈ ms, madeV F lv ms h = .mk m.1 (m.2.map lv) ∧ Wv T (d + 1) name (madeV F lv ms h) ∧ vh (madeV F lv ms h) = h := by
  unfold madeV
  cases hf : ms.find? (fun m => decide (mh F m = h)) with
  | none =>
    obtain ⟨m, hm, e⟩ := hex
    exact absurd (decide_eq_true e) (List.find?_eq_none.mp hf m hm)
  | some m =>
    have hm := List.mem_of_find?_eq_some hf
    have he : mh F m = h := of_decide_eq_true (List.find?_some (p := fun m => decide (mh F m = h)) hf)
    obtain ⟨h2, hn⟩ := makers_nm g (hms m hm)
    have hfl : ∀ f ∈ m.2, ∃ a, F f = some a ∧ Wv T d f (lv f) ∧ vh (lv f) = a := fun f hff => by
      obtain ⟨a, ha⟩ := M.tot f (hn f hff)
      have := mh_field hff ha
      obtain ⟨w1, w2⟩ := ih f a (hn f hff) ha (by omega)
      exact ⟨a, ha, w1, w2⟩
    refine ⟨m, hm, rfl, ?_, ?_⟩
    · show Wv T (d + 1) name (.mk m.1 (m.2.map lv))
      simp only [Wv]
      refine ⟨hint, m.2, hms m hm, by rw [List.length_map], fun i f v h1 h2 => ?_⟩
      rw [List.getElem?_map, h1] at h2
      obtain rfl := Option.some.inj h2
      exact (hfl f (List.mem_of_getElem? h1)).elim fun a ha => ha.2.1
    · show vh (.mk m.1 (m.2.map lv)) = h
      rw [vh_map fun f hff => ?_, he]
      obtain ⟨a, h1, h2, h3⟩ := hfl f hff
      rw [h1, h3]
theorem lv_ok {T : Ty} (g : GoodT T) {F : Hf} (M : Mins T F) : ∀ (d : Nat) (name : String) (h : Nat), TyNm T name → F name = some h → h + 1 ≤ d → Wv T d name (leastV T F d name) ∧ vh (leastV T F d name) = h
  | 0, _, _, _, _, hd => by omega
  | d + 1, name, h, hty, hF, hd => by
    rw [leastV]
    by_cases hint : name = "Int"
    · rw [if_pos hint]
      subst hint
      rw [M.int] at hF
      have := Option.some.inj hF
      exact ⟨by simp [Wv], by rw [vh]; exact this⟩
    · rw [if_neg hint, hF]
      obtain ⟨m, _, _, a, b⟩ := madeV_ok g M (d := d) (h := h) hint (lv := leastV T F d) (ms := makersOf T name) (fun m hm => hm) (M.ex g hty hint hF) (by omega) fun f a h1 h2 h3 => lv_ok g M d f a h1 h2 h3
      exact ⟨a, b⟩
/-- no value is lower -/
theorem mh_low {F : Hf} {c : String} {fs : List String} {vs : List Vl} (hl : fs.length = vs.length) (h : ∀ (i : Nat) (f : String) (v : Vl), fs[i]? = some f → vs[i]? = some v → (F f).getD 0 ≤ vh v) : mh F (c, fs) ≤ vh (.mk c vs) := by
  rw [vh]
  refine mh_le fun f hf => ?_
  obtain ⟨i, hi⟩ := List.getElem?_of_mem (l := fs) hf
  have hlt := (List.getElem?_eq_some_iff.mp hi).1
  have := h i f (vs[i]'(by omega)) hi (List.getElem?_eq_getElem _)
  exact Nat.le_trans this (vhL_mem (List.getElem_mem _))
theorem low_ok {T : Ty} (g : GoodT T) {F : Hf} (M : Mins T F) : ∀ (d : Nat) (name : String) (v : Vl), Wv T d name v → (F name).getD 0 ≤ vh v
  | d, name, .int i, h => by
    rw [h.int.1, M.int]; exact Nat.zero_le _
  | d, name, .mk c vs, h => by
    obtain ⟨d', rfl, hne, fs, hm, hl, hp⟩ := h.mk
    have ih := mh_low (F := F) (c := c) hl fun i f v a b => low_ok g M d' f v (hp i f v a b)
    refine Nat.le_trans ?_ ih
    cases hF : F name with
    | none => exact Nat.zero_le _
    | some a =>
      rcases M.dom name (by rw [hF]; rfl) with z | ⟨row, hr, z⟩
      · exact absurd z hne
      · have hty : TyNm T name := by
          obtain ⟨j, hj, e1, e2⟩ := row_nm g hr
          exact .inr ⟨j, hj, by rw [← z]; exact e2⟩
        obtain ⟨row2, hr2, e1, e2⟩ := mkrow g hty hne
        rw [e2] at hm
        exact M.low row2 hr2 _ hm a (by rw [e1]; exact hF)
/-- a region's least value -/
theorem li_ok {T : Ty} (g : GoodT T) {F : Hf} (M : Mins T F) : ∀ (d : Nat) (name : String) (r : Rg), Wr true T d name r → TyNm T name → hd r (leastIn T F name r) = true ∧ Wv T (d + 5) name (leastIn T F name r)
  | d, name, .any, h, hty => by
    obtain ⟨a, h1, h2⟩ := M.bdn hty
    rw [leastIn]
    exact ⟨by rw [hd], (lv_ok g M 4 name a hty h1 (by omega)).1.mono (by omega)⟩
  | d, name, .rng a b, h, hty => by
    obtain ⟨h0, h1, h2, h3, h4, h5⟩ := h.rng2
    rw [leastIn, hd]
    refine ⟨?_, ?_⟩
    · rw [Bool.and_eq_true, decide_eq_true_eq, decide_eq_true_eq]; omega
    · simp only [Wv]
      exact ⟨h0, by omega, by omega⟩
  | d, name, .nt l, h, hty => by
    have hne := h.nt2.2.1
    rw [leastIn]
    obtain ⟨m, h1, h2, h3, _⟩ := madeV_ok g M (d := 4) hne (lv := leastV T F 4) (ms := leftOf T name l) (fun m hm => (left_mem.mp hm).1) (left_ex g h) (by
      obtain ⟨m, hm, e⟩ := left_ex g (F := F) h
      rw [← e]
      obtain ⟨_, hn⟩ := makers_nm g (left_mem.mp hm).1
      refine mh_le fun f hf => ?_
      obtain ⟨a, ha, ha2⟩ := M.bdn (hn f hf)
      rw [ha]; exact ha2) fun f a h1 h2 h3 => lv_ok g M 4 f a h1 h2 h3
    refine ⟨?_, h3.mono (by omega)⟩
    rw [h2, hd]
    simpa using (left_mem.mp h1).2
  | d, name, .mk c rs, h, hty => by
    obtain ⟨d', rfl, hne, fs, hm, hl, hp⟩ := h.mk
    obtain ⟨hf2, hfn⟩ := makers_nm g hm
    simp only at hf2 hfn
    have hfo : fieldsOf T c = fs := (maker_fields g hm).1
    have ih : ∀ (i : Nat) (f : String) (r : Rg), fs[i]? = some f → rs[i]? = some r → hd r (leastIn T F f r) = true ∧ Wv T (d' + 5) f (leastIn T F f r) := fun i f r a b => li_ok g M d' f r (hp i f r a b) (hfn f (List.mem_of_getElem? a))
    rw [leastIn, hfo, hd]
    have hll := leastInL_len (T := T) (F := F) hl
    refine ⟨?_, ?_⟩
    · rw [decide_eq_true rfl, Bool.true_and, hdL_zip hll.symm, List.all_eq_true]
      intro b hb
      obtain ⟨i, hi⟩ := List.getElem?_of_mem hb
      obtain ⟨p, v, h1, h2, rfl⟩ := zip_row hi
      have hlt := (List.getElem?_eq_some_iff.mp h1).1
      have hf : fs[i]? = some (fs[i]'(by omega)) := List.getElem?_eq_getElem _
      rw [leastInL_get hf h1] at h2
      obtain rfl := Option.some.inj h2
      exact (ih i _ p hf h1).1
    · show Wv T (d' + 5 + 1) name _
      simp only [Wv]
      refine ⟨hne, fs, hm, by omega, fun i f v h1 h2 => ?_⟩
      have hlt := (List.getElem?_eq_some_iff.mp h1).1
      have hr : rs[i]? = some (rs[i]'(by omega)) := List.getElem?_eq_getElem _
      rw [leastInL_get h1 hr] at h2
      obtain rfl := Option.some.inj h2
      exact (ih i f _ h1 hr).2
/-- .. is the least one of any, of a not-region -/
theorem li_low {T : Ty} (g : GoodT T) {F : Hf} (M : Mins T F) {d d2 : Nat} {name : String} {r : Rg} {v : Vl} (h : Wr true T d name r) (hty : TyNm T name) (hw : Wv T d2 name v) (hh : hd r v = true) (hk : r = .any ∨ ∃ l, r = .nt l) : vh (leastIn T F name r) ≤ vh v := by
  rcases hk with rfl | ⟨l, rfl⟩
  · obtain ⟨a, h1, h2⟩ := M.bdn hty
    have := low_ok g M d2 name v hw
    rw [h1] at this
    rw [leastIn, (lv_ok g M 4 name a hty h1 (by omega)).2]
    exact this
  · have hne := h.nt2.2.1
    rw [leastIn]
    obtain ⟨m, h1, h2, _, h3⟩ := madeV_ok g M (d := 4) hne (lv := leastV T F 4) (ms := leftOf T name l) (fun m hm => (left_mem.mp hm).1) (left_ex g h) (by
      obtain ⟨m, hm, e⟩ := left_ex g (F := F) h
      rw [← e]
      obtain ⟨_, hn⟩ := makers_nm g (left_mem.mp hm).1
      refine mh_le fun f hf => ?_
      obtain ⟨a, ha, ha2⟩ := M.bdn (hn f hf)
      rw [ha]; exact ha2) fun f a h1 h2 h3 => lv_ok g M 4 f a h1 h2 h3
    rw [h3]
    cases v with
    | int i => simp [hd] at hh
    | mk c vs =>
      obtain ⟨d', rfl, _, fs, hm, hl, hp⟩ := hw.mk
      rw [hd] at hh
      have := mh_low (F := F) (c := c) hl fun i f v a b => low_ok g M d' f v (hp i f v a b)
      refine Nat.le_trans (mn_le (List.mem_map.mpr ⟨(c, fs), left_mem.mpr ⟨hm, by simpa using hh⟩, rfl⟩)) this
end K06
end

section
set_option maxHeartbeats 0
set_option linter.all false
set_option maxRecDepth 100000
namespace K06
open Ev
/-! ### the law -/
def inner (C : Fn) : S := (sq (sAs (tgN 10) (eCall C "_law_value" [(eV 1), (eV 2), (eV 3), (eV 5), (eC (.int 4))]))
  (sIf (tAnd (tCmp neR (eIdx (eV 7) (eC (.int 0))) (eC (.str "range"))) (tAnd (tCmp neR (eIdx (eV 7) (eC (.int 0))) (eC (.str "make"))) (tAnd (tE (eCall C "_law_holds" [(eV 7), (eV 10)])) (tCmp ltR (eCall C "_law_height" [(eV 10)]) (eCall C "height" [(eV 8)]))))) (sRet (eC (.bl false))) sNil))
def tbody (C : Fn) : S := (sq (sAs (tgN 5) (eIdx (eOp addR (eLst [(eC (.str "Int"))]) (eOp mulR (eComp [6] (tgN 6) (iE (eV 2)) tYes (eIdx (eV 6) (eC (.int 0)))) (eC (.int 3)))) (eOp modR (eBi intR [(eCall C "_law_draw" [(eV 1), (eC (.int 90))])]) (eOp addR (eC (.int 1)) (eOp mulR (eC (.int 3)) (eBi lenR [(eV 2)]))))))
  (sq (sAs (tgN 7) (eCall C "_law_region" [(eV 1), (eV 2), (eV 5), (eC (.int 3))]))
  (sq (sAs (tgN 8) (eCall C "least_in" [(eV 2), (eV 5), (eV 7)]))
  (sq (sIf (tOr (tNot (tE (eCall C "_law_same" [(eV 8), (eCall C "_law_least_in" [(eV 2), (eV 3), (eV 5), (eV 7)])]))) (tNot (tE (eCall C "holds" [(eV 7), (eV 8)])))) (sRet (eC (.bl false))) sNil)
  (sq (sIf (tCmp neR (eCall C "region_text" [(eV 7)]) (eCall C "_law_region_text" [(eV 2), (eV 7)])) (sRet (eC (.bl false))) sNil)
  (sq (sFor (tgN 9) (iRange1 (eC (.int 4)))
  (inner C))
  (sIf (tNot (tE (eCall C "_law_same" [(eCall C "least_value" [(eV 2), (eV 5)]), (eCall C "_law_least" [(eV 2), (eV 3), (eV 5)])]))) (sRet (eC (.bl false))) sNil)))))))
theorem body_eq (C : Fn) : f_law_7.body C = 
  (sq (sCell 1 (eLst [(eCall C "_law_digits" [(eV 0), (eC (.int 0)), (eC (.int 50))]), (eC (.int 0))]))
  (sq (sAs (tgN 2) (eCall C "_law_types" [(eV 1)]))
  (sq (sAs (tgN 3) (eCall C "_law_heights" [(eV 2)]))
  (sq (sFor (tgN 4) (iRange1 (eC (.int 5)))
  (tbody C))
  (sRet (eC (.bl true))))))) := rfl
/-- the names of the types -/
theorem rows_any {j : Nat} {T : Ty} {ρ ρw : Env} {μ : Mem} (hw : wipeE ρ [j] = ρw) (hs : ∀ x, (ρw.set j x)[j]? = some x) (h2 : ρ[2]? = some (.v (.d (encT T)))) (hT : T.length ≤ 1000) :
    eComp [j] (tgN j) (iE (eV 2)) tYes (eIdx (eV j) (eC (.int 0))) ρ μ = .ok (.d (.lst (T.map fun r => .str r.1))) μ := by
  have hc := compL_each (t := tgN j) (e := eIdx (eV j) (eC (.int 0))) (ρ := ρw) (μ := μ) (fun r : String × List Mk => R.d (encRow r)) (fun r => R.d (.str r.1)) (xs := T) fun r _ =>
    ⟨ρw.set j (.v (.d (encRow r))), by simp only [tgN], ixc_ok (ds := [.str r.1, encMs r.2]) (eV_at (hs _)) rfl⟩
  rw [eComp_ok (iE_tup (ds := T.map encRow) (eV_at h2)) (by rw [hw, List.map_map]; exact hc) (by rw [List.length_map]; omega), mkL_map (fun r : String × List Mk => D.str r.1)]
theorem pool_any {j : Nat} {T : Ty} {ρ ρw : Env} {μ : Mem} (hw : wipeE ρ [j] = ρw) (hs : ∀ x, (ρw.set j x)[j]? = some x) (h2 : ρ[2]? = some (.v (.d (encT T)))) (hT : T.length ≤ 1000) :
    eOp addR (eLst [(eC (.str "Int"))]) (eOp mulR (eComp [j] (tgN j) (iE (eV 2)) tYes (eIdx (eV j) (eC (.int 0)))) (eC (.int 3))) ρ μ = .ok (.d (.lst (("Int" :: (T.map (·.1) ++ T.map (·.1) ++ T.map (·.1))).map .str))) μ := by
  refine eOp_ok (x := .d (.lst [.str "Int"])) (eLst1 eC_ok) (eOp_ok (z := .d (.lst ((T.map (·.1) ++ T.map (·.1) ++ T.map (·.1)).map .str))) (rows_any hw hs h2 hT) eC_ok ?_) ?_
  · rw [vw_d, vw_d]
    show (if small 3 && decide (-9223372036854775808 ≤ (3 : Int)) && decide ((3 : Int) < 9223372036854775808) && decide ((T.map fun r => D.str r.1).length * (3 : Int).toNat ≤ SL) then some (R.d (.lst (List.replicate (3 : Int).toNat (T.map fun r => D.str r.1)).flatten)) else none) = _
    have hsl : decide ((T.map fun r => D.str r.1).length * (3 : Int).toNat ≤ SL) = true := by
      rw [List.length_map, decide_eq_true_eq]
      refine le_SL ?_
      show T.length * 3 ≤ _
      omega
    rw [hsl, if_pos (by decide)]
    show some (R.d (.lst (List.replicate 3 (T.map fun r => D.str r.1)).flatten)) = _
    simp [List.replicate_succ]
    rfl
  · rw [vw_d, vw_d]
    simp [addR]
    exact le_SL (by omega)
theorem pool_ty {T : Ty} (g : GoodT T) : ∀ x ∈ "Int" :: (T.map (·.1) ++ T.map (·.1) ++ T.map (·.1)), TyNm T x := by
  intro x hx
  rcases List.mem_cons.mp hx with rfl | hx
  · exact .inl rfl
  · have hx : x ∈ T.map (·.1) := by simpa using hx
    obtain ⟨row, hrow, rfl⟩ := List.mem_map.mp hx
    obtain ⟨i, hi, hr⟩ := List.mem_iff_getElem.mp hrow
    obtain ⟨kk, a, b, c, d⟩ := g
    obtain ⟨nm, n1, n2⟩ := d i row (by rw [List.getElem?_eq_getElem hi, hr])
    exact .inr ⟨i, hi, by rw [n2.1]; exact n1⟩
/-- the name of a turn -/
theorem name_any {C : Fn} (hC : Draws C) {T : Ty} (g : GoodT T) {j : Nat} {ρ ρw : Env} {digs : List Int} {k : Nat} (hw : wipeE ρ [j] = ρw) (hs : ∀ x, (ρw.set j x)[j]? = some x) (h1 : ρ[1]? = some (.v (.p 0))) (h2 : ρ[2]? = some (.v (.d (encT T)))) :
    ∃ (name : String) (k' : Nat), TyNm T name ∧ eIdx (eOp addR (eLst [(eC (.str "Int"))]) (eOp mulR (eComp [j] (tgN j) (iE (eV 2)) tYes (eIdx (eV j) (eC (.int 0)))) (eC (.int 3)))) (eOp modR (eBi intR [(eCall C "_law_draw" [(eV 1), (eC (.int 90))])]) (eOp addR (eC (.int 1)) (eOp mulR (eC (.int 3)) (eBi lenR [(eV 2)])))) ρ (Bx digs k) = .ok (.d (.str name)) (Bx digs k') := by
  have hTl : T.length ≤ 3 := by obtain ⟨kk, a, b, c, d⟩ := g; omega
  have e3 := pool_any (μ := Bx digs k) hw hs h2 (by omega)
  have hTy := pool_ty g
  generalize hpl : "Int" :: (T.map (·.1) ++ T.map (·.1) ++ T.map (·.1)) = pl at hTy e3
  have hlen : pl.length = 1 + 3 * T.length := by rw [← hpl]; simp; omega
  obtain ⟨v, hv, hd⟩ := hC digs k 90 (by omega)
  have hlt : v % (1 + 3 * T.length) < pl.length := by rw [hlen]; exact Nat.mod_lt _ (by omega)
  refine ⟨pl[v % (1 + 3 * T.length)], k + 1, hTy _ (List.getElem_mem hlt), ?_⟩
  refine ixl_ok e3 (k := v % (1 + 3 * T.length)) (eOp_ok (eBi1_ok (eDraw h1 hd) rfl) (eOp_ok eC_ok (eOp_ok eC_ok (eBi1_ok (eV_at h2) (z := .d (.int (T.length : Int))) (by rw [vw_d, encT, lenR_tup, List.length_map])) (mulR_l (by decide))) rfl) ?_) (by rw [List.getElem?_map, List.getElem?_eq_getElem hlt]; rfl)
  rw [vw_d, vw_d, modR_ok (by omega)]
  congr 3
abbrev lE (x0 : Sl) (T : Ty) (kvs : List (Ky × R)) (x4 x5 x6 x7 x8 x9 x10 : Sl) : Env := [x0, .v (.p 0), .v (.d (encT T)), .v (.dic kvs), x4, x5, x6, x7, x8, x9, x10]
theorem ne_hd {i : Nat} {ρ : Env} {μ : Mem} {r : Rg} {s : String} (h : ρ[i]? = some (.v (.d (enc r)))) : tCmp neR (eIdx (eV i) (eC (.int 0))) (eC (.str s)) ρ μ = .ok (!decide (hdS r = s)) μ := by
  have e0 : ∃ ds, eV i ρ μ = .ok (.d (.tup (.str (hdS r) :: ds))) μ := by
    cases r with
    | any => exact ⟨[], (eV_at h).trans (by simp [enc, hdS])⟩
    | rng a b => exact ⟨[.int a, .int b], (eV_at h).trans (by simp [enc, hdS])⟩
    | nt l => exact ⟨[.tup (l.map .str)], (eV_at h).trans (by simp [enc, hdS])⟩
    | mk c ps => exact ⟨[.str c, .tup (encL ps)], (eV_at h).trans (by simp [enc, hdS])⟩
  obtain ⟨ds, e0⟩ := e0
  exact tCmp_ok (ixc_ok (i := 0) (x := .str (hdS r)) e0 (by simp)) eC_ok (by rw [vw_d, vw_d, str_ne])
theorem ne_str {a b : E} {ρ : Env} {μ : Mem} {s : String} (ha : a ρ μ = .ok (.d (.str s)) μ) (hb : b ρ μ = .ok (.d (.str s)) μ) : tCmp neR a b ρ μ = .ok false μ :=
  tCmp_ok ha hb (by rw [vw_d, str_ne]; simp)
theorem and_sc {a b : T} {ρ : Env} {μ : Mem} {x y : Bool} (ha : a ρ μ = .ok x μ) (hb : x = true → b ρ μ = .ok y μ) : tAnd a b ρ μ = .ok (x && y) μ := by
  unfold tAnd
  rw [ha, bind_ok]
  cases x with
  | true => rw [if_pos rfl, hb rfl, Bool.true_and]
  | false => rw [if_neg (by simp), Bool.false_and]
theorem vh_le {T : Ty} (g : GoodT T) : ∀ {d : Nat} {name : String} {v : Vl}, Wv T d name v → vh v ≤ d
  | d, name, .int i, _ => by rw [vh]; omega
  | d, name, .mk c vs, h => by
    obtain ⟨_, d', rfl, hp⟩ := h.parts g
    rw [vh]
    have := vhL_le (b := d') fun v hv => (hp v hv).elim fun f hf => vh_le g hf.2
    omega
/-- a value is drawn and looked at -/
theorem inner_ok {C : Fn} {T : Ty} {F : Hf} {kvs : List (Ky × R)} {digs : List Int} {name : String} {r : Rg} (g : GoodT T) (M : Mins T F) (wr : Wr true T 3 name r) (hty : TyNm T name)
    (hv : ∀ k, ∃ (v : Vl) (k' : Nat), Wv T 7 name v ∧ C "_law_value" [.p 0, .d (encT T), .dic kvs, .d (.str name), .d (.int 4)] (Bx digs k) = .ok (.d (encV v)) (Bx digs k'))
    (hh : ∀ v μ, Wv T 7 name v → C "_law_holds" [.d (enc r), .d (encV v)] μ = .ok (.d (.bl (hd r v))) μ)
    (hl : ∀ v μ, Wv T 7 name v → C "_law_height" [.d (encV v)] μ = .ok (.d (.int ((vh v : Nat) : Int))) μ)
    (hg : ∀ μ, C "height" [.d (encV (leastIn T F name r))] μ = .ok (.d (.int ((vh (leastIn T F name r) : Nat) : Int))) μ)
    {x0 x4 x6 x9 x10 : Sl} {k : Nat} :
    ∃ (y10 : Sl) (k' : Nat), inner C (lE x0 T kvs x4 (.v (.d (.str name))) x6 (.v (.d (enc r))) (.v (.d (encV (leastIn T F name r)))) x9 x10) (Bx digs k) = .ok (.nx (lE x0 T kvs x4 (.v (.d (.str name))) x6 (.v (.d (enc r))) (.v (.d (encV (leastIn T F name r)))) x9 y10)) (Bx digs k') := by
  obtain ⟨v, k', wv, ev⟩ := hv k
  refine ⟨.v (.d (encV v)), k', ?_⟩
  unfold inner
  rw [sq_as (call5' (eV_at rfl) (eV_at rfl) (eV_at rfl) (eV_at rfl) eC_ok ev)]
  simp only [lE, List.set_cons_succ, List.set_cons_zero]
  have hc : tAnd (tCmp neR (eIdx (eV 7) (eC (.int 0))) (eC (.str "range"))) (tAnd (tCmp neR (eIdx (eV 7) (eC (.int 0))) (eC (.str "make"))) (tAnd (tE (eCall C "_law_holds" [(eV 7), (eV 10)])) (tCmp ltR (eCall C "_law_height" [(eV 10)]) (eCall C "height" [(eV 8)])))) (lE x0 T kvs x4 (.v (.d (.str name))) x6 (.v (.d (enc r))) (.v (.d (encV (leastIn T F name r)))) x9 (.v (.d (encV v)))) (Bx digs k') = .ok false (Bx digs k') := by
    refine (and_sc (y := !decide (hdS r = "make") && (hd r v && decide ((vh v : Int) < (vh (leastIn T F name r) : Int)))) (ne_hd rfl) fun _ => and_sc (ne_hd rfl) fun _ => tAnd_ok (tE_bl (call2 (eV_at rfl) (eV_at rfl) (hh v _ wv))) (tCmp_ok (call1 (eV_at rfl) (hl v _ wv)) (call1 (eV_at rfl) (hg _)) (by rw [vw_d, vw_d, ltR_int]))).trans ?_
    congr 1
    have key : ∀ (hk : r = .any ∨ ∃ l, r = .nt l), (hd r v && decide ((vh v : Int) < (vh (leastIn T F name r) : Int))) = false := fun hk => by
      cases hh : hd r v with
      | false => rfl
      | true =>
        have := li_low g M wr hty wv hh hk
        rw [Bool.true_and]
        exact decide_eq_false (by omega)
    cases r with
    | any => rw [key (.inl rfl)]; rfl
    | nt l => rw [key (.inr ⟨l, rfl⟩)]; rfl
    | rng a b => rfl
    | mk c ps => rfl
  rw [sIf_f hc]
  exact sNil_ok
theorem or_ff {a b : T} {ρ : Env} {μ : Mem} (ha : a ρ μ = .ok false μ) (hb : b ρ μ = .ok false μ) : tOr a b ρ μ = .ok false μ := tOr_pure ha hb
theorem turn_ok {n : Nat} (hn : n = 199) {T : Ty} (g : GoodT T) {F : Hf} {kvs : List (Ky × R)} (H : HtOk T F kvs) (digs : List Int) {x0 x4 x5 x6 x7 x8 x9 x10 : Sl} {k : Nat} :
    ∃ (y5 y7 y8 y9 y10 : Sl) (k' : Nat), tbody (callN P n) (lE x0 T kvs x4 x5 x6 x7 x8 x9 x10) (Bx digs k) = .ok (.nx (lE x0 T kvs x4 y5 x6 y7 y8 y9 y10)) (Bx digs k') := by
  subst hn
  have M := mins_of g H
  obtain ⟨name, k1, hty, n2⟩ := name_any (draws 198) g (digs := digs) (k := k) (j := 6) (ρ := lE x0 T kvs x4 x5 x6 x7 x8 x9 x10) (ρw := lE x0 T kvs x4 x5 .un x7 x8 x9 x10) rfl (fun _ => rfl) rfl rfl
  obtain ⟨r, k2, wr, r2⟩ := region_spec g 3 199 digs k1 name hty (by omega)
  have bd := wr.bd g
  have hh := bd.hgt
  obtain ⟨l1, l2⟩ := li_ok g M 3 name r wr hty
  have e1 := fun μ => least_in_spec g M μ 199 3 name r wr hty (by omega)
  have e2 := fun μ => lleast_in_spec g H.dic M μ 199 3 name r wr hty (by omega)
  have l3 := l2.cost g
  have e3 := fun μ => same_spec 198 (encV (leastIn T F name r)) μ (Nat.le_trans l3.2 (by decide)) (Nat.le_trans l3.1 (by decide))
  have e4 := fun μ => holds_spec 199 r (leastIn T F name r) μ (wr.hv g l2) (by omega)
  rw [l1] at e4
  have e5 := fun μ => region_text_spec 199 3 r μ bd (by omega) (by omega)
  have e6 := fun μ => lregion_text_spec T 199 3 r μ bd (by omega) (by omega)
  have e7 := fun k => value_spec g H digs 4 199 name k hty (by omega) (by omega)
  obtain ⟨a, ha, ha3⟩ := M.bdn hty
  have e8 := fun μ => least_value_spec g M μ 4 199 name a hty ha (by omega) (by omega)
  have e9 := fun μ => lleast_spec g H.dic M μ 4 199 name a hty ha (by omega) (by omega)
  have l4 := (lv_ok g M 4 name a hty ha (by omega)).1.cost g
  have e10 := fun μ => same_spec 198 (encV (leastV T F 4 name)) μ (Nat.le_trans l4.2 (by decide)) (Nat.le_trans l4.1 (by decide))
  have vhb : ∀ {d : Nat} {v : Vl}, Wv T d name v → d ≤ 20 → vh v < 199 := fun {d v} w hd => by
    have := vh_le g w
    omega
  have e11 := fun (v : Vl) (μ : Mem) (w : Wv T 7 name v) => lholds_spec g 199 7 name r v μ w (wr.hv g w) (by omega)
  have e12 := fun (v : Vl) (μ : Mem) (w : Wv T 7 name v) => lheight_spec g 199 7 name v μ w (vhb w (by omega))
  have e13 := fun μ => height_spec g 199 8 name (leastIn T F name r) μ l2 (vhb l2 (by omega))
  generalize callN P 199 = C at n2 r2 e1 e2 e3 e4 e5 e6 e7 e8 e9 e10 e11 e12 e13 ⊢
  obtain ⟨ρ', μ', ⟨y9, y10, k5, rfl, rfl⟩, hl⟩ := forL_invM (t := tgN 9) (b := inner C)
    (fun _ ρ μ => ∃ (y9 y10 : Sl) (k' : Nat), ρ = lE x0 T kvs x4 (.v (.d (.str name))) x6 (.v (.d (enc r))) (.v (.d (encV (leastIn T F name r)))) y9 y10 ∧ μ = Bx digs k')
    (xs := rangeF 0 4) (k := 0) (ρ := lE x0 T kvs x4 (.v (.d (.str name))) x6 (.v (.d (enc r))) (.v (.d (encV (leastIn T F name r)))) x9 x10) (μ := Bx digs k2) ⟨_, _, k2, rfl, rfl⟩ (by
      rintro i x ρ μ hx ⟨y9, y10, k', rfl, rfl⟩
      refine ⟨lE x0 T kvs x4 (.v (.d (.str name))) x6 (.v (.d (enc r))) (.v (.d (encV (leastIn T F name r)))) (.v x) y10, by simp only [tgN, lE, List.set_cons_succ, List.set_cons_zero], ?_⟩
      obtain ⟨z10, k6, h⟩ := inner_ok g M wr hty e7 e11 e12 e13 (x0 := x0) (x4 := x4) (x6 := x6) (x9 := .v x) (x10 := y10) (k := k')
      exact ⟨_, _, ⟨_, _, k6, rfl, rfl⟩, h⟩)
  refine ⟨.v (.d (.str name)), .v (.d (enc r)), .v (.d (encV (leastIn T F name r))), y9, y10, k5, ?_⟩
  unfold tbody
  rw [sq_as n2]
  simp only [lE, List.set_cons_succ, List.set_cons_zero]
  rw [sq_as (call4 (eV_at rfl) (eV_at rfl) (eV_at rfl) (eC_ok (x := .int 3)) r2)]
  simp only [lE, List.set_cons_succ, List.set_cons_zero]
  rw [sq_as (call3 (eV_at rfl) (eV_at rfl) (eV_at rfl) (e1 _))]
  simp only [lE, List.set_cons_succ, List.set_cons_zero]
  rw [sq_if_f (or_ff (tNot_ok (b := true) (tE_bl (call2 (eV_at rfl) (call4 (eV_at rfl) (eV_at rfl) (eV_at rfl) (eV_at rfl) (e2 _)) (e3 _)))) (tNot_ok (b := true) (tE_bl (call2 (eV_at rfl) (eV_at rfl) (e4 _))))),
    sq_if_f (ne_str (call1 (eV_at rfl) (e5 _)) (call2 (eV_at rfl) (eV_at rfl) (e6 _))), sq_nx (sFor_rt (iRangeC 4 (i := 4) rfl (by omega)) hl),
    sIf_f (tNot_ok (b := true) (tE_bl (call2 (call2 (eV_at rfl) (eV_at rfl) (e8 _)) (call3 (eV_at rfl) (eV_at rfl) (eV_at rfl) (e9 _)) (e10 _))))]
  exact sNil_ok
theorem plain0 (ns : List Int) : Ev.callN P 200 "law" [.scr ns] [] = .ok (.d (.bl true)) [] := by
  rw [callN_run (n := 199) (d := f_law_7) rfl rfl, body_eq]
  obtain ⟨digs, hd⟩ := digits_spec 197 ns []
  obtain ⟨T, k1, g, ht⟩ := types_spec 197 digs 0
  obtain ⟨kvs, hdic, hh⟩ := heights_spec 198 g (Bx digs k1)
  have H : HtOk T (passN T (T.length + 1)) kvs := ⟨hdic, passN_don g T.length⟩
  have hturn := fun x0 x4 x5 x6 x7 x8 x9 x10 k => turn_ok (n := 199) rfl g H digs (x0 := x0) (x4 := x4) (x5 := x5) (x6 := x6) (x7 := x7) (x8 := x8) (x9 := x9) (x10 := x10) (k := k)
  generalize callN P 199 = C at hd ht hh hturn ⊢
  have e1 : sCell 1 (eLst [(eCall C "_law_digits" [(eV 0), (eC (.int 0)), (eC (.int 50))]), (eC (.int 0))]) [.v (.scr ns), .un, .un, .un, .un, .un, .un, .un, .un, .un, .un] [] = .ok (.nx [.v (.scr ns), .v (.p 0), .un, .un, .un, .un, .un, .un, .un, .un, .un]) (Bx digs 0) := by
    unfold sCell
    rw [eLst2 (call3 (eV_at rfl) eC_ok eC_ok hd) eC_ok]
    rfl
  obtain ⟨ρ', μ', ⟨y4, y5, y6, y7, y8, y9, y10, k', rfl, rfl⟩, hl⟩ := forL_invM (t := tgN 4) (b := tbody C)
    (fun _ ρ μ => ∃ (y4 y5 y6 y7 y8 y9 y10 : Sl) (k' : Nat), ρ = lE (.v (.scr ns)) T kvs y4 y5 y6 y7 y8 y9 y10 ∧ μ = Bx digs k')
    (xs := rangeF 0 5) (k := 0) (ρ := lE (.v (.scr ns)) T kvs .un .un .un .un .un .un .un) (μ := Bx digs k1) ⟨_, _, _, _, _, _, _, k1, rfl, rfl⟩ (by
      rintro i x ρ μ hx ⟨y4, y5, y6, y7, y8, y9, y10, k', rfl, rfl⟩
      refine ⟨lE (.v (.scr ns)) T kvs (.v x) y5 y6 y7 y8 y9 y10, by simp only [tgN, lE, List.set_cons_succ, List.set_cons_zero], ?_⟩
      obtain ⟨z5, z7, z8, z9, z10, k2, h⟩ := hturn (.v (.scr ns)) (.v x) y5 y6 y7 y8 y9 y10 k'
      exact ⟨_, _, ⟨_, _, _, _, _, _, _, k2, rfl, rfl⟩, h⟩)
  unfold runB
  simp only [f_law_7, List.map_cons, List.map_nil, List.length_cons, List.length_nil, Nat.reduceAdd, Nat.reduceSub, List.replicate_succ, List.replicate_zero, List.cons_append, List.nil_append]
  rw [sq_nx e1, sq_as (call1 (eV_at rfl) ht)]
  simp only [List.set_cons_succ, List.set_cons_zero]
  rw [sq_as (call1 (eV_at rfl) hh)]
  simp only [List.set_cons_succ, List.set_cons_zero]
  rw [sq_nx (sFor_rt (iRangeC 5 (i := 5) rfl (by omega)) hl), sRet_ok eC_ok]
  rfl
end K06
end

section
set_option maxHeartbeats 0
namespace K06
theorem plain (ns : List Int) (h1 : ns.length ≤ 63) (h2 : ∀ k ∈ ns, PySem.Builtin.Int.intBits k ≤ 1048576) : Ev.callN P 200 "law" [.scr ns] [] = .ok (.d (.bl true)) [] := plain0 ns
end K06
end

section
set_option maxHeartbeats 0
set_option Elab.async false
set_option linter.all false
set_option maxRecDepth 100000
set_option maxHeartbeats 0
namespace K06
open PySem PySem.Spec PyProof.Rows L2 EvS
def top (i : Nat) : Stmt := PySem.Challenge.pw_matchgraph_k06_least_in_regions.main.body.getD i (.Pass ⟨0, 0, 0, 0⟩)
/-- what the module holds -/
structure Gx (K : PySem.W.Frag) (mg : Str → Option Value) : Prop where
  f_all : mg "all" = none
  f_any : mg "any" = none
  f_bool : mg "bool" = none
  f_dict : mg "dict" = none
  f_enumerate : mg "enumerate" = none
  f_int : mg "int" = none
  f_isinstance : mg "isinstance" = none
  f_len : mg "len" = none
  f_list : mg "list" = none
  f_max : mg "max" = none
  f_min : mg "min" = none
  f_range : mg "range" = none
  f_repr : mg "repr" = none
  f_str : mg "str" = none
  f_tuple : mg "tuple" = none
  c_ANY : GC K mg (Str.ofString "ANY") (.tup [.str "any"])
def d_f_constructors : He.DefD := ⟨("constructors", none), "constructors", "constructors", defArgs (top 1), defBody (top 1), defScope (top 1), [], []⟩
def d_f_fields_of : He.DefD := ⟨("fields_of", none), "fields_of", "fields_of", defArgs (top 2), defBody (top 2), defScope (top 2), [], []⟩
def d_f_made_height : He.DefD := ⟨("made_height", none), "made_height", "made_height", defArgs (top 3), defBody (top 3), defScope (top 3), [], []⟩
def d_f_heights_of : He.DefD := ⟨("heights_of", none), "heights_of", "heights_of", defArgs (top 4), defBody (top 4), defScope (top 4), [], []⟩
def d_f_least_height : He.DefD := ⟨("least_height", none), "least_height", "least_height", defArgs (top 5), defBody (top 5), defScope (top 5), [], []⟩
def d_f_height : He.DefD := ⟨("height", none), "height", "height", defArgs (top 7), defBody (top 7), defScope (top 7), [], []⟩
def d_f_least_made : He.DefD := ⟨("least_made", none), "least_made", "least_made", defArgs (top 8), defBody (top 8), defScope (top 8), [], []⟩
def d_f_least_value : He.DefD := ⟨("least_value", none), "least_value", "least_value", defArgs (top 9), defBody (top 9), defScope (top 9), [], []⟩
def d_f_holds : He.DefD := ⟨("holds", none), "holds", "holds", defArgs (top 12), defBody (top 12), defScope (top 12), [], []⟩
def d_f_least_in : He.DefD := ⟨("least_in", none), "least_in", "least_in", defArgs (top 13), defBody (top 13), defScope (top 13), [], []⟩
def d_f_region_text : He.DefD := ⟨("region_text", none), "region_text", "region_text", defArgs (top 14), defBody (top 14), defScope (top 14), [], []⟩
def d_f_law_is_integer : He.DefD := ⟨("_law_is_integer", none), "_law_is_integer", "_law_is_integer", defArgs (top 16), defBody (top 16), defScope (top 16), [], []⟩
def d_f_law_cell : He.DefD := ⟨("_law_cell", none), "_law_cell", "_law_cell", defArgs (top 17), defBody (top 17), defScope (top 17), [], []⟩
def d_f_law_list_is : He.DefD := ⟨("_law_list_is", none), "_law_list_is", "_law_list_is", defArgs (top 18), defBody (top 18), defScope (top 18), [], []⟩
def d_f_law_same : He.DefD := ⟨("_law_same", none), "_law_same", "_law_same", defArgs (top 19), defBody (top 19), defScope (top 19), [], []⟩
def d_f_law_digits : He.DefD := ⟨("_law_digits", none), "_law_digits", "_law_digits", defArgs (top 20), defBody (top 20), defScope (top 20), [], []⟩
def d_f_law_draw : He.DefD := ⟨("_law_draw", none), "_law_draw", "_law_draw", defArgs (top 21), defBody (top 21), defScope (top 21), [], []⟩
def d_f_law_types : He.DefD := ⟨("_law_types", none), "_law_types", "_law_types", defArgs (top 22), defBody (top 22), defScope (top 22), [], []⟩
def d_f_law_makers : He.DefD := ⟨("_law_makers", none), "_law_makers", "_law_makers", defArgs (top 23), defBody (top 23), defScope (top 23), [], []⟩
def d_f_law_heights : He.DefD := ⟨("_law_heights", none), "_law_heights", "_law_heights", defArgs (top 24), defBody (top 24), defScope (top 24), [], []⟩
def d_f_law_least : He.DefD := ⟨("_law_least", none), "_law_least", "_law_least", defArgs (top 25), defBody (top 25), defScope (top 25), [], []⟩
def d_f_law_height : He.DefD := ⟨("_law_height", none), "_law_height", "_law_height", defArgs (top 26), defBody (top 26), defScope (top 26), [], []⟩
def d_f_law_value : He.DefD := ⟨("_law_value", none), "_law_value", "_law_value", defArgs (top 27), defBody (top 27), defScope (top 27), [], []⟩
def d_f_law_value_text : He.DefD := ⟨("_law_value_text", none), "_law_value_text", "_law_value_text", defArgs (top 28), defBody (top 28), defScope (top 28), [], []⟩
def d_f_law_region : He.DefD := ⟨("_law_region", none), "_law_region", "_law_region", defArgs (top 29), defBody (top 29), defScope (top 29), [], []⟩
def d_f_law_holds : He.DefD := ⟨("_law_holds", none), "_law_holds", "_law_holds", defArgs (top 30), defBody (top 30), defScope (top 30), [], []⟩
def d_f_law_plain_simple : He.DefD := ⟨("_law_plain_simple", none), "_law_plain_simple", "_law_plain_simple", defArgs (top 31), defBody (top 31), defScope (top 31), [], []⟩
def d_f_law_least_in : He.DefD := ⟨("_law_least_in", none), "_law_least_in", "_law_least_in", defArgs (top 32), defBody (top 32), defScope (top 32), [], []⟩
def d_f_law_region_text : He.DefD := ⟨("_law_region_text", none), "_law_region_text", "_law_region_text", defArgs (top 33), defBody (top 33), defScope (top 33), [], []⟩
def d_f_law_7 : He.DefD := ⟨("law", none), "law", "law", defArgs (top 34), defBody (top 34), defScope (top 34), [], []⟩
def fn : List He.DefD := [d_f_constructors, d_f_fields_of, d_f_made_height, d_f_heights_of, d_f_least_height, d_f_height, d_f_least_made, d_f_least_value, d_f_holds, d_f_least_in, d_f_region_text, d_f_law_is_integer, d_f_law_cell, d_f_law_list_is, d_f_law_same, d_f_law_digits, d_f_law_draw, d_f_law_types, d_f_law_makers, d_f_law_heights, d_f_law_least, d_f_law_height, d_f_law_value, d_f_law_value_text, d_f_law_region, d_f_law_holds, d_f_law_plain_simple, d_f_law_least_in, d_f_law_region_text, d_f_law_7]
def fa : List He.Fa := [.glo "constructors", .glo "fields_of", .glo "made_height", .glo "heights_of", .glo "least_height", .glo "height", .glo "least_made", .glo "least_value", .glo "holds", .glo "least_in", .glo "region_text", .glo "_law_is_integer", .glo "_law_cell", .glo "_law_list_is", .glo "_law_same", .glo "_law_digits", .glo "_law_draw", .glo "_law_types", .glo "_law_makers", .glo "_law_heights", .glo "_law_least", .glo "_law_height", .glo "_law_value", .glo "_law_value_text", .glo "_law_region", .glo "_law_holds", .glo "_law_plain_simple", .glo "_law_least_in", .glo "_law_region_text", .glo "law", .free "all", .free "any", .free "bool", .free "dict", .free "enumerate", .free "int", .free "isinstance", .free "len", .free "list", .free "max", .free "min", .free "range", .free "repr", .free "str", .free "tuple"]
def cs : List (String × Ev.D) := [("ANY", .tup [.str "any"])]
def tf : List He.Defn := [("made_height", none), ("holds", none)]
section
variable {Pg : Program} {w : World} {K : PySem.W.Frag} {mg : Str → Option Value} {h : Heap} {ca : Cn}
theorem gx (X : K.In h) (G : h.Ns mainGlobals mg) (c : He.SaysD fa fn K) (cc : gcs K cs = true) : Gx K mg where
  f_all := He.free_ok X G (c.fact 30 (f := .free "all") rfl)
  f_any := He.free_ok X G (c.fact 31 (f := .free "any") rfl)
  f_bool := He.free_ok X G (c.fact 32 (f := .free "bool") rfl)
  f_dict := He.free_ok X G (c.fact 33 (f := .free "dict") rfl)
  f_enumerate := He.free_ok X G (c.fact 34 (f := .free "enumerate") rfl)
  f_int := He.free_ok X G (c.fact 35 (f := .free "int") rfl)
  f_isinstance := He.free_ok X G (c.fact 36 (f := .free "isinstance") rfl)
  f_len := He.free_ok X G (c.fact 37 (f := .free "len") rfl)
  f_list := He.free_ok X G (c.fact 38 (f := .free "list") rfl)
  f_max := He.free_ok X G (c.fact 39 (f := .free "max") rfl)
  f_min := He.free_ok X G (c.fact 40 (f := .free "min") rfl)
  f_range := He.free_ok X G (c.fact 41 (f := .free "range") rfl)
  f_repr := He.free_ok X G (c.fact 42 (f := .free "repr") rfl)
  f_str := He.free_ok X G (c.fact 43 (f := .free "str") rfl)
  f_tuple := He.free_ok X G (c.fact 44 (f := .free "tuple") rfl)
  c_ANY := gcs_ok X G cc (List.mem_of_getElem? (i := 0) rfl)
theorem sc_f_constructors : FnScope ["types", "name", "declared", "made"] ["types", "name"] (defScope (top 1)) := ⟨rfl, rfl, rfl, by decide +kernel, rfl, by decide +kernel, by decide +kernel⟩
theorem dv_f_constructors {base : Heap} {a : Addr} {cdv : Value} {A : Around} {out : List Env} {s : Shared} {H : Hp} {E : XK} {e : En} {n : Nat} (g : Gx K mg)
    (cal : ∀ g d, P g = some d → Callee (cx Pg w K mg base ["types", "name", "declared", "made"] "constructors" (defScope (top 1)) a cdv A out s H E) ca n (Ev.callN P n) g d.np) (xs : XS (cx Pg w K mg base ["types", "name", "declared", "made"] "constructors" (defScope (top 1)) a cdv A out s H E) (wE E) n) (sl : Slk (cx Pg w K mg base ["types", "name", "declared", "made"] "constructors" (defScope (top 1)) a cdv A out s H E) n) :
    PSs (cx Pg w K mg base ["types", "name", "declared", "made"] "constructors" (defScope (top 1)) a cdv A out s H E) (defBody (top 1)) (tS (ct (cx Pg w K mg base ["types", "name", "declared", "made"] "constructors" (defScope (top 1)) a cdv A out s H E) ca) (wE E) e (f_constructors.body (Ev.callN P n))) :=
  (ss_cons xs (s_for xs (si_e (se_v rfl (by first | exact .inl rfl | exact .inr (.inl rfl) | exact .inr (.inr rfl)))) (pg_seq xs.calm (pgs_cons (pg_name xs.nd rfl (by first | exact .inl rfl | exact .inr rfl)) (pgs_cons (pg_name xs.nd rfl (by first | exact .inl rfl | exact .inr rfl)) pgs_nil))) (gok_seq rfl (gsok_cons gok_name (gsok_cons gok_name gsok_nil))) (ss_one (s_if xs (st_cmp (opC_eq xs.u64) (SV (se_v rfl (by first | exact .inl rfl | exact .inr (.inl rfl) | exact .inr (.inr rfl)))) (SV (se_v rfl (by first | exact .inl rfl | exact .inr (.inl rfl) | exact .inr (.inr rfl)))) rfl) (ss_one (s_ret (se_v rfl (by first | exact .inl rfl | exact .inr (.inl rfl) | exact .inr (.inr rfl))))) ss_nil)))
  (ss_one (s_ret (se_tup sa_nil))))
theorem dn_f_constructors (X : K.In h) (G : h.Ns mainGlobals mg) (c : He.SaysD fa fn K) (g : Gx K mg) : Dn Pg w K mg (caK K tf) P "constructors" f_constructors := by
  obtain ⟨fd, F⟩ := c.def_ 0 (d := d_f_constructors) rfl
  exact ⟨_, _, _, _, _, _, fd, ["types", "name", "declared", "made"], ["types", "name"], F, He.glo_ok X G (c.fact 0 (f := .glo "constructors") rfl), sc_f_constructors, rfl, rfl, F.bindsN fun _ _ _ _ _ _ us hl => match us, hl with | [_, _], _ => rfl, fun base cdv A out s H E e n tb hc cal xs sl => dv_f_constructors g cal xs sl⟩
theorem sc_f_fields_of : FnScope ["types", "constructor", "_", "made", "name", "fields"] ["types", "constructor"] (defScope (top 2)) := ⟨rfl, rfl, rfl, by decide +kernel, rfl, by decide +kernel, by decide +kernel⟩
theorem dv_f_fields_of {base : Heap} {a : Addr} {cdv : Value} {A : Around} {out : List Env} {s : Shared} {H : Hp} {E : XK} {e : En} {n : Nat} (g : Gx K mg)
    (cal : ∀ g d, P g = some d → Callee (cx Pg w K mg base ["types", "constructor", "_", "made", "name", "fields"] "fields_of" (defScope (top 2)) a cdv A out s H E) ca n (Ev.callN P n) g d.np) (xs : XS (cx Pg w K mg base ["types", "constructor", "_", "made", "name", "fields"] "fields_of" (defScope (top 2)) a cdv A out s H E) (wE E) n) (sl : Slk (cx Pg w K mg base ["types", "constructor", "_", "made", "name", "fields"] "fields_of" (defScope (top 2)) a cdv A out s H E) n) :
    PSs (cx Pg w K mg base ["types", "constructor", "_", "made", "name", "fields"] "fields_of" (defScope (top 2)) a cdv A out s H E) (defBody (top 2)) (tS (ct (cx Pg w K mg base ["types", "constructor", "_", "made", "name", "fields"] "fields_of" (defScope (top 2)) a cdv A out s H E) ca) (wE E) e (f_fields_of.body (Ev.callN P n))) :=
  (ss_cons xs (s_for xs (si_e (se_v rfl (by first | exact .inl rfl | exact .inr (.inl rfl) | exact .inr (.inr rfl)))) (pg_seq xs.calm (pgs_cons (pg_name xs.nd rfl (by first | exact .inl rfl | exact .inr rfl)) (pgs_cons (pg_name xs.nd rfl (by first | exact .inl rfl | exact .inr rfl)) pgs_nil))) (gok_seq rfl (gsok_cons gok_name (gsok_cons gok_name gsok_nil))) (ss_one (s_for xs (si_e (se_v rfl (by first | exact .inl rfl | exact .inr (.inl rfl) | exact .inr (.inr rfl)))) (pg_seq xs.calm (pgs_cons (pg_name xs.nd rfl (by first | exact .inl rfl | exact .inr rfl)) (pgs_cons (pg_name xs.nd rfl (by first | exact .inl rfl | exact .inr rfl)) pgs_nil))) (gok_seq rfl (gsok_cons gok_name (gsok_cons gok_name gsok_nil))) (ss_one (s_if xs (st_cmp (opC_eq xs.u64) (SV (se_v rfl (by first | exact .inl rfl | exact .inr (.inl rfl) | exact .inr (.inr rfl)))) (SV (se_v rfl (by first | exact .inl rfl | exact .inr (.inl rfl) | exact .inr (.inr rfl)))) rfl) (ss_one (s_ret (se_v rfl (by first | exact .inl rfl | exact .inr (.inl rfl) | exact .inr (.inr rfl))))) ss_nil)))))
  (ss_one (s_ret (se_tup sa_nil))))
theorem dn_f_fields_of (X : K.In h) (G : h.Ns mainGlobals mg) (c : He.SaysD fa fn K) (g : Gx K mg) : Dn Pg w K mg (caK K tf) P "fields_of" f_fields_of := by
  obtain ⟨fd, F⟩ := c.def_ 1 (d := d_f_fields_of) rfl
  exact ⟨_, _, _, _, _, _, fd, ["types", "constructor", "_", "made", "name", "fields"], ["types", "constructor"], F, He.glo_ok X G (c.fact 1 (f := .glo "fields_of") rfl), sc_f_fields_of, rfl, rfl, F.bindsN fun _ _ _ _ _ _ us hl => match us, hl with | [_, _], _ => rfl, fun base cdv A out s H E e n tb hc cal xs sl => dv_f_fields_of g cal xs sl⟩
theorem sc_f_made_height : FnScope ["heights", "fields", "field"] ["heights", "fields"] (defScope (top 3)) := ⟨rfl, rfl, rfl, by decide +kernel, rfl, by decide +kernel, by decide +kernel⟩
theorem dv_f_made_height {base : Heap} {a : Addr} {cdv : Value} {A : Around} {out : List Env} {s : Shared} {H : Hp} {E : XK} {e : En} {n : Nat} (g : Gx K mg)
    (cal : ∀ g d, P g = some d → Callee (cx Pg w K mg base ["heights", "fields", "field"] "made_height" (defScope (top 3)) a cdv A out s H E) ca n (Ev.callN P n) g d.np) (xs : XS (cx Pg w K mg base ["heights", "fields", "field"] "made_height" (defScope (top 3)) a cdv A out s H E) (wE E) n) (sl : Slk (cx Pg w K mg base ["heights", "fields", "field"] "made_height" (defScope (top 3)) a cdv A out s H E) n) (tbx : Tbx (cx Pg w K mg base ["heights", "fields", "field"] "made_height" (defScope (top 3)) a cdv A out s H E) ca) :
    PSs (cx Pg w K mg base ["heights", "fields", "field"] "made_height" (defScope (top 3)) a cdv A out s H E) (defBody (top 3)) (tS (ct (cx Pg w K mg base ["heights", "fields", "field"] "made_height" (defScope (top 3)) a cdv A out s H E) ca) (wE E) e (f_made_height.body (Ev.callN P n))) :=
  (ss_cons xs (s_if xs (st_e (SV (se_any (own := [("field", 2)]) xs sl tbx rfl g.f_any (si_e (se_v rfl (by first | exact .inl rfl | exact .inr (.inl rfl) | exact .inr (.inr rfl)))) (blkOk_by (by kernel_rfl)) ⟨by decide +kernel, by rfl, rfl⟩ (fun _ _ _ _ _ _ _ r => (pg_name (xs.gen r).nd rfl (by first | exact .inl rfl | exact .inr rfl))) gok_name (by decide) (fun _ _ _ _ _ _ _ r => (se_cmp (opC_nin (xs.gen r).u65) (SV (se_v rfl (by first | exact .inl rfl | exact .inr (.inl rfl) | exact .inr (.inr rfl)))) (SV (se_v rfl (by first | exact .inl rfl | exact .inr (.inl rfl) | exact .inr (.inr rfl)))) rfl))))) (ss_one (s_ret se_non)) ss_nil)
  (ss_one (s_ret (se_op opD_add (SV se_int) (SV (se_bi (pe_callB (cb_max xs.calm) rfl g.f_max rfl (sav_cons (SV (se_op opD_add (SV (SN (sn_lst (sa_cons se_int sa_nil)))) (SV (SN (sn_comp0 (own := [("field", 2)]) xs (si_e (se_v rfl (by first | exact .inl rfl | exact .inr (.inl rfl) | exact .inr (.inr rfl)))) (blkOk_by (by kernel_rfl)) (fun _ _ _ _ _ => (pg_name xs.blk.nd rfl (by first | exact .inl rfl | exact .inr rfl))) gok_name (by decide) (fun _ _ _ _ _ => (se_ix xs.blk.u1 (SV (se_v rfl (by first | exact .inl rfl | exact .inr (.inl rfl) | exact .inr (.inr rfl)))) (se_v rfl (by first | exact .inl rfl | exact .inr (.inl rfl) | exact .inr (.inr rfl)))))))))) sav_nil))))))))
theorem dn_f_made_height (X : K.In h) (G : h.Ns mainGlobals mg) (c : He.SaysD fa fn K) (g : Gx K mg) : Dn Pg w K mg (caK K tf) P "made_height" f_made_height := by
  obtain ⟨fd, F⟩ := c.def_ 2 (d := d_f_made_height) rfl
  exact ⟨_, _, _, _, _, _, fd, ["heights", "fields", "field"], ["heights", "fields"], F, He.glo_ok X G (c.fact 2 (f := .glo "made_height") rfl), sc_f_made_height, rfl, rfl, F.bindsN fun _ _ _ _ _ _ us hl => match us, hl with | [_, _], _ => rfl, fun base cdv A out s H E e n tb hc cal xs sl => dv_f_made_height g cal xs sl (tbx_of tb hc (List.mem_of_getElem? (i := 0) rfl))⟩
theorem sc_f_heights_of : FnScope ["types", "heights", "most", "known", "name", "made", "_", "fields"] ["types"] (defScope (top 4)) := ⟨rfl, rfl, rfl, by decide +kernel, rfl, by decide +kernel, by decide +kernel⟩
theorem dv_f_heights_of {base : Heap} {a : Addr} {cdv : Value} {A : Around} {out : List Env} {s : Shared} {H : Hp} {E : XK} {e : En} {n : Nat} (g : Gx K mg)
    (cal : ∀ g d, P g = some d → Callee (cx Pg w K mg base ["types", "heights", "most", "known", "name", "made", "_", "fields"] "heights_of" (defScope (top 4)) a cdv A out s H E) ca n (Ev.callN P n) g d.np) (xs : XS (cx Pg w K mg base ["types", "heights", "most", "known", "name", "made", "_", "fields"] "heights_of" (defScope (top 4)) a cdv A out s H E) (wE E) n) (sl : Slk (cx Pg w K mg base ["types", "heights", "most", "known", "name", "made", "_", "fields"] "heights_of" (defScope (top 4)) a cdv A out s H E) n) :
    PSs (cx Pg w K mg base ["types", "heights", "most", "known", "name", "made", "_", "fields"] "heights_of" (defScope (top 4)) a cdv A out s H E) (defBody (top 4)) (tS (ct (cx Pg w K mg base ["types", "heights", "most", "known", "name", "made", "_", "fields"] "heights_of" (defScope (top 4)) a cdv A out s H E) ca) (wE E) e (f_heights_of.body (Ev.callN P n))) :=
  (ss_cons xs (s_own xs.nd rfl (by first | exact .inl rfl | exact .inr rfl) (sn_dic (fps := [(_, _)]) (sps_cons se_str se_int sps_nil)))
  (ss_cons xs (s_for xs (si_range2 rfl g.f_range se_int (se_op opD_add (SV (se_bi (pe_callB cb_len rfl g.f_len rfl (sav_cons (SV (se_v rfl (by first | exact .inl rfl | exact .inr (.inl rfl) | exact .inr (.inr rfl)))) sav_nil)))) (SV se_int))) (pg_name xs.nd rfl (by first | exact .inl rfl | exact .inr rfl)) gok_name (ss_cons xs (s_as xs.nd rfl (by first | exact .inl rfl | exact .inr rfl) (SN (sn_bi (pe_callTy cb_dict rfl g.f_dict rfl (sav_cons (sv_b rfl (by first | exact .inl rfl | exact .inr (.inl rfl) | exact .inr (.inr rfl))) sav_nil)))))
  (ss_one (s_for xs (si_e (se_v rfl (by first | exact .inl rfl | exact .inr (.inl rfl) | exact .inr (.inr rfl)))) (pg_seq xs.calm (pgs_cons (pg_name xs.nd rfl (by first | exact .inl rfl | exact .inr rfl)) (pgs_cons (pg_name xs.nd rfl (by first | exact .inl rfl | exact .inr rfl)) pgs_nil))) (gok_seq rfl (gsok_cons gok_name (gsok_cons gok_name gsok_nil))) (ss_one (s_if xs (st_cmp (opC_nin xs.u65) (SV (se_v rfl (by first | exact .inl rfl | exact .inr (.inl rfl) | exact .inr (.inr rfl)))) (sv_b rfl (by first | exact .inl rfl | exact .inr (.inl rfl) | exact .inr (.inr rfl))) rfl) (ss_one (s_for xs (si_e (se_v rfl (by first | exact .inl rfl | exact .inr (.inl rfl) | exact .inr (.inr rfl)))) (pg_seq xs.calm (pgs_cons (pg_name xs.nd rfl (by first | exact .inl rfl | exact .inr rfl)) (pgs_cons (pg_name xs.nd rfl (by first | exact .inl rfl | exact .inr rfl)) pgs_nil))) (gok_seq rfl (gsok_cons gok_name (gsok_cons gok_name gsok_nil))) (ss_one (s_if xs (st_cmp (opC_eq xs.u64) (SV (se_call ⟨(cal "made_height" _ rfl).at_⟩ xs rfl rfl (sa_cons (se_v rfl (by first | exact .inl rfl | exact .inr (.inl rfl) | exact .inr (.inr rfl))) (sa_cons (se_v rfl (by first | exact .inl rfl | exact .inr (.inl rfl) | exact .inr (.inr rfl))) sa_nil)) rfl)) (SV (se_v rfl (by first | exact .inl rfl | exact .inr (.inl rfl) | exact .inr (.inr rfl)))) rfl) (ss_one (s_dput xs.u1 xs rfl (by first | exact .inl rfl | exact .inr (.inl rfl) | exact .inr (.inr rfl)) (se_v rfl (by first | exact .inl rfl | exact .inr (.inl rfl) | exact .inr (.inr rfl))) (se_v rfl (by first | exact .inl rfl | exact .inr (.inl rfl) | exact .inr (.inr rfl))))) ss_nil)))) ss_nil))))))
  (ss_frz xs (ss_one (s_ret (se_v rfl (by first | exact .inl rfl | exact .inr (.inl rfl) | exact .inr (.inr rfl))))))))
theorem dn_f_heights_of (X : K.In h) (G : h.Ns mainGlobals mg) (c : He.SaysD fa fn K) (g : Gx K mg) : Dn Pg w K mg (caK K tf) P "heights_of" f_heights_of := by
  obtain ⟨fd, F⟩ := c.def_ 3 (d := d_f_heights_of) rfl
  exact ⟨_, _, _, _, _, _, fd, ["types", "heights", "most", "known", "name", "made", "_", "fields"], ["types"], F, He.glo_ok X G (c.fact 3 (f := .glo "heights_of") rfl), sc_f_heights_of, rfl, rfl, F.bindsN fun _ _ _ _ _ _ us hl => match us, hl with | [_], _ => rfl, fun base cdv A out s H E e n tb hc cal xs sl => dv_f_heights_of g cal xs sl⟩
theorem sc_f_least_height : FnScope ["types", "name"] ["types", "name"] (defScope (top 5)) := ⟨rfl, rfl, rfl, by decide +kernel, rfl, by decide +kernel, by decide +kernel⟩
theorem dv_f_least_height {base : Heap} {a : Addr} {cdv : Value} {A : Around} {out : List Env} {s : Shared} {H : Hp} {E : XK} {e : En} {n : Nat} (g : Gx K mg)
    (cal : ∀ g d, P g = some d → Callee (cx Pg w K mg base ["types", "name"] "least_height" (defScope (top 5)) a cdv A out s H E) ca n (Ev.callN P n) g d.np) (xs : XS (cx Pg w K mg base ["types", "name"] "least_height" (defScope (top 5)) a cdv A out s H E) (wE E) n) (sl : Slk (cx Pg w K mg base ["types", "name"] "least_height" (defScope (top 5)) a cdv A out s H E) n) :
    PSs (cx Pg w K mg base ["types", "name"] "least_height" (defScope (top 5)) a cdv A out s H E) (defBody (top 5)) (tS (ct (cx Pg w K mg base ["types", "name"] "least_height" (defScope (top 5)) a cdv A out s H E) ca) (wE E) e (f_least_height.body (Ev.callN P n))) :=
  (ss_one (s_ret (se_get1 xs.u1 (SV (se_call ⟨(cal "heights_of" _ rfl).at_⟩ xs rfl rfl (sa_cons (se_v rfl (by first | exact .inl rfl | exact .inr (.inl rfl) | exact .inr (.inr rfl))) sa_nil) rfl)) (se_v rfl (by first | exact .inl rfl | exact .inr (.inl rfl) | exact .inr (.inr rfl))) ⟨rfl, rfl, rfl, rfl⟩)))
theorem dn_f_least_height (X : K.In h) (G : h.Ns mainGlobals mg) (c : He.SaysD fa fn K) (g : Gx K mg) : Dn Pg w K mg (caK K tf) P "least_height" f_least_height := by
  obtain ⟨fd, F⟩ := c.def_ 4 (d := d_f_least_height) rfl
  exact ⟨_, _, _, _, _, _, fd, ["types", "name"], ["types", "name"], F, He.glo_ok X G (c.fact 4 (f := .glo "least_height") rfl), sc_f_least_height, rfl, rfl, F.bindsN fun _ _ _ _ _ _ us hl => match us, hl with | [_, _], _ => rfl, fun base cdv A out s H E e n tb hc cal xs sl => dv_f_least_height g cal xs sl⟩
theorem sc_f_height : FnScope ["value", "field"] ["value"] (defScope (top 7)) := ⟨rfl, rfl, rfl, by decide +kernel, rfl, by decide +kernel, by decide +kernel⟩
theorem dv_f_height {base : Heap} {a : Addr} {cdv : Value} {A : Around} {out : List Env} {s : Shared} {H : Hp} {E : XK} {e : En} {n : Nat} (g : Gx K mg)
    (cal : ∀ g d, P g = some d → Callee (cx Pg w K mg base ["value", "field"] "height" (defScope (top 7)) a cdv A out s H E) ca n (Ev.callN P n) g d.np) (xs : XS (cx Pg w K mg base ["value", "field"] "height" (defScope (top 7)) a cdv A out s H E) (wE E) n) (sl : Slk (cx Pg w K mg base ["value", "field"] "height" (defScope (top 7)) a cdv A out s H E) n) :
    PSs (cx Pg w K mg base ["value", "field"] "height" (defScope (top 7)) a cdv A out s H E) (defBody (top 7)) (tS (ct (cx Pg w K mg base ["value", "field"] "height" (defScope (top 7)) a cdv A out s H E) ca) (wE E) e (f_height.body (Ev.callN P n))) :=
  (ss_cons xs (s_if xs (st_cmp (opC_eq xs.u64) (SV (se_ix xs.u1 (SV (se_v rfl (by first | exact .inl rfl | exact .inr (.inl rfl) | exact .inr (.inr rfl)))) se_int)) (SV se_str) rfl) (ss_one (s_ret se_int)) ss_nil)
  (ss_one (s_ret (se_op opD_add (SV se_int) (SV (se_bi (pe_callB (cb_max xs.calm) rfl g.f_max rfl (sav_cons (SV (se_op opD_add (SV (SN (sn_lst (sa_cons se_int sa_nil)))) (SV (SN (sn_comp0 (own := [("field", 1)]) xs (si_e (se_ix xs.u1 (SV (se_v rfl (by first | exact .inl rfl | exact .inr (.inl rfl) | exact .inr (.inr rfl)))) se_int)) (blkOk_by (by kernel_rfl)) (fun _ _ _ _ _ => (pg_name xs.blk.nd rfl (by first | exact .inl rfl | exact .inr rfl))) gok_name (by decide) (fun _ _ _ _ _ => (se_call ⟨(cal "height" _ rfl).at_⟩ xs.blk rfl rfl (sa_cons (se_v rfl (by first | exact .inl rfl | exact .inr (.inl rfl) | exact .inr (.inr rfl))) sa_nil) rfl))))))) sav_nil))))))))
theorem dn_f_height (X : K.In h) (G : h.Ns mainGlobals mg) (c : He.SaysD fa fn K) (g : Gx K mg) : Dn Pg w K mg (caK K tf) P "height" f_height := by
  obtain ⟨fd, F⟩ := c.def_ 5 (d := d_f_height) rfl
  exact ⟨_, _, _, _, _, _, fd, ["value", "field"], ["value"], F, He.glo_ok X G (c.fact 5 (f := .glo "height") rfl), sc_f_height, rfl, rfl, F.bindsN fun _ _ _ _ _ _ us hl => match us, hl with | [_], _ => rfl, fun base cdv A out s H E e n tb hc cal xs sl => dv_f_height g cal xs sl⟩
theorem sc_f_least_made : FnScope ["types", "names", "most", "name", "fields", "heights", "field"] ["types", "names", "most"] (defScope (top 8)) := ⟨rfl, rfl, rfl, by decide +kernel, rfl, by decide +kernel, by decide +kernel⟩
theorem dv_f_least_made {base : Heap} {a : Addr} {cdv : Value} {A : Around} {out : List Env} {s : Shared} {H : Hp} {E : XK} {e : En} {n : Nat} (g : Gx K mg)
    (cal : ∀ g d, P g = some d → Callee (cx Pg w K mg base ["types", "names", "most", "name", "fields", "heights", "field"] "least_made" (defScope (top 8)) a cdv A out s H E) ca n (Ev.callN P n) g d.np) (xs : XS (cx Pg w K mg base ["types", "names", "most", "name", "fields", "heights", "field"] "least_made" (defScope (top 8)) a cdv A out s H E) (wE E) n) (sl : Slk (cx Pg w K mg base ["types", "names", "most", "name", "fields", "heights", "field"] "least_made" (defScope (top 8)) a cdv A out s H E) n) :
    PSs (cx Pg w K mg base ["types", "names", "most", "name", "fields", "heights", "field"] "least_made" (defScope (top 8)) a cdv A out s H E) (defBody (top 8)) (tS (ct (cx Pg w K mg base ["types", "names", "most", "name", "fields", "heights", "field"] "least_made" (defScope (top 8)) a cdv A out s H E) ca) (wE E) e (f_least_made.body (Ev.callN P n))) :=
  (ss_cons xs (s_for xs (si_e (se_v rfl (by first | exact .inl rfl | exact .inr (.inl rfl) | exact .inr (.inr rfl)))) (pg_seq xs.calm (pgs_cons (pg_name xs.nd rfl (by first | exact .inl rfl | exact .inr rfl)) (pgs_cons (pg_name xs.nd rfl (by first | exact .inl rfl | exact .inr rfl)) pgs_nil))) (gok_seq rfl (gsok_cons gok_name (gsok_cons gok_name gsok_nil))) (ss_cons xs (s_asOf (SA (pa_comp0 (own := [("field", 6)]) xs rfl rfl (si_e (se_v rfl (by first | exact .inl rfl | exact .inr (.inl rfl) | exact .inr (.inr rfl)))) (blkOk_by (by kernel_rfl)) (fun _ _ _ _ _ => (pg_name xs.blk.nd rfl (by first | exact .inl rfl | exact .inr rfl))) gok_name (by decide) (fun _ _ _ _ _ => (se_call ⟨(cal "least_height" _ rfl).at_⟩ xs.blk rfl rfl (sa_cons (se_v rfl (by first | exact .inl rfl | exact .inr (.inl rfl) | exact .inr (.inr rfl))) (sa_cons (se_v rfl (by first | exact .inl rfl | exact .inr (.inl rfl) | exact .inr (.inr rfl))) sa_nil)) rfl)))) gok_name)
  (ss_one (s_if xs (PW.pt (sw_and (st_cmp (opC_nin xs.u65) (SV se_non) (SV (se_v rfl (by first | exact .inl rfl | exact .inr (.inl rfl) | exact .inr (.inr rfl)))) rfl) (sw_and1 (st_cmp (opC_eq xs.u64) (SV (se_op opD_add (SV se_int) (SV (se_bi (pe_callB (cb_max xs.calm) rfl g.f_max rfl (sav_cons (SV (se_op opD_add (SV (SN (sn_lst (sa_cons se_int sa_nil)))) (SV (se_v rfl (by first | exact .inl rfl | exact .inr (.inl rfl) | exact .inr (.inr rfl)))))) sav_nil)))))) (SV (se_v rfl (by first | exact .inl rfl | exact .inr (.inl rfl) | exact .inr (.inr rfl)))) rfl)))) (ss_one (s_ret (se_tup (sa_cons se_str (sa_cons (se_v rfl (by first | exact .inl rfl | exact .inr (.inl rfl) | exact .inr (.inr rfl))) (sa_cons (se_bi (pe_callTy cb_tuple rfl g.f_tuple rfl (sav_cons (SV (SN (sn_comp0 (own := [("field", 6)]) xs (si_e (se_v rfl (by first | exact .inl rfl | exact .inr (.inl rfl) | exact .inr (.inr rfl)))) (blkOk_by (by kernel_rfl)) (fun _ _ _ _ _ => (pg_name xs.blk.nd rfl (by first | exact .inl rfl | exact .inr rfl))) gok_name (by decide) (fun _ _ _ _ _ => (se_call ⟨(cal "least_value" _ rfl).at_⟩ xs.blk rfl rfl (sa_cons (se_v rfl (by first | exact .inl rfl | exact .inr (.inl rfl) | exact .inr (.inr rfl))) (sa_cons (se_v rfl (by first | exact .inl rfl | exact .inr (.inl rfl) | exact .inr (.inr rfl))) sa_nil)) rfl))))) sav_nil))) sa_nil)))))) ss_nil))))
  (ss_one (s_ret se_non)))
theorem dn_f_least_made (X : K.In h) (G : h.Ns mainGlobals mg) (c : He.SaysD fa fn K) (g : Gx K mg) : Dn Pg w K mg (caK K tf) P "least_made" f_least_made := by
  obtain ⟨fd, F⟩ := c.def_ 6 (d := d_f_least_made) rfl
  exact ⟨_, _, _, _, _, _, fd, ["types", "names", "most", "name", "fields", "heights", "field"], ["types", "names", "most"], F, He.glo_ok X G (c.fact 6 (f := .glo "least_made") rfl), sc_f_least_made, rfl, rfl, F.bindsN fun _ _ _ _ _ _ us hl => match us, hl with | [_, _, _], _ => rfl, fun base cdv A out s H E e n tb hc cal xs sl => dv_f_least_made g cal xs sl⟩
theorem sc_f_least_value : FnScope ["types", "name"] ["types", "name"] (defScope (top 9)) := ⟨rfl, rfl, rfl, by decide +kernel, rfl, by decide +kernel, by decide +kernel⟩
theorem dv_f_least_value {base : Heap} {a : Addr} {cdv : Value} {A : Around} {out : List Env} {s : Shared} {H : Hp} {E : XK} {e : En} {n : Nat} (g : Gx K mg)
    (cal : ∀ g d, P g = some d → Callee (cx Pg w K mg base ["types", "name"] "least_value" (defScope (top 9)) a cdv A out s H E) ca n (Ev.callN P n) g d.np) (xs : XS (cx Pg w K mg base ["types", "name"] "least_value" (defScope (top 9)) a cdv A out s H E) (wE E) n) (sl : Slk (cx Pg w K mg base ["types", "name"] "least_value" (defScope (top 9)) a cdv A out s H E) n) :
    PSs (cx Pg w K mg base ["types", "name"] "least_value" (defScope (top 9)) a cdv A out s H E) (defBody (top 9)) (tS (ct (cx Pg w K mg base ["types", "name"] "least_value" (defScope (top 9)) a cdv A out s H E) ca) (wE E) e (f_least_value.body (Ev.callN P n))) :=
  (ss_cons xs (s_if xs (st_cmp (opC_eq xs.u64) (SV (se_v rfl (by first | exact .inl rfl | exact .inr (.inl rfl) | exact .inr (.inr rfl)))) (SV se_str) rfl) (ss_one (s_ret (se_tup (sa_cons se_str (sa_cons se_int sa_nil))))) ss_nil)
  (ss_one (s_ret (se_call ⟨(cal "least_made" _ rfl).at_⟩ xs rfl rfl (sa_cons (se_v rfl (by first | exact .inl rfl | exact .inr (.inl rfl) | exact .inr (.inr rfl))) (sa_cons (se_call ⟨(cal "constructors" _ rfl).at_⟩ xs rfl rfl (sa_cons (se_v rfl (by first | exact .inl rfl | exact .inr (.inl rfl) | exact .inr (.inr rfl))) (sa_cons (se_v rfl (by first | exact .inl rfl | exact .inr (.inl rfl) | exact .inr (.inr rfl))) sa_nil)) rfl) (sa_cons (se_call ⟨(cal "least_height" _ rfl).at_⟩ xs rfl rfl (sa_cons (se_v rfl (by first | exact .inl rfl | exact .inr (.inl rfl) | exact .inr (.inr rfl))) (sa_cons (se_v rfl (by first | exact .inl rfl | exact .inr (.inl rfl) | exact .inr (.inr rfl))) sa_nil)) rfl) sa_nil))) rfl))))
theorem dn_f_least_value (X : K.In h) (G : h.Ns mainGlobals mg) (c : He.SaysD fa fn K) (g : Gx K mg) : Dn Pg w K mg (caK K tf) P "least_value" f_least_value := by
  obtain ⟨fd, F⟩ := c.def_ 7 (d := d_f_least_value) rfl
  exact ⟨_, _, _, _, _, _, fd, ["types", "name"], ["types", "name"], F, He.glo_ok X G (c.fact 7 (f := .glo "least_value") rfl), sc_f_least_value, rfl, rfl, F.bindsN fun _ _ _ _ _ _ us hl => match us, hl with | [_, _], _ => rfl, fun base cdv A out s H E e n tb hc cal xs sl => dv_f_least_value g cal xs sl⟩
theorem sc_f_holds : FnScope ["region", "value", "at", "part"] ["region", "value"] (defScope (top 12)) := ⟨rfl, rfl, rfl, by decide +kernel, rfl, by decide +kernel, by decide +kernel⟩
theorem dv_f_holds {base : Heap} {a : Addr} {cdv : Value} {A : Around} {out : List Env} {s : Shared} {H : Hp} {E : XK} {e : En} {n : Nat} (g : Gx K mg)
    (cal : ∀ g d, P g = some d → Callee (cx Pg w K mg base ["region", "value", "at", "part"] "holds" (defScope (top 12)) a cdv A out s H E) ca n (Ev.callN P n) g d.np) (xs : XS (cx Pg w K mg base ["region", "value", "at", "part"] "holds" (defScope (top 12)) a cdv A out s H E) (wE E) n) (sl : Slk (cx Pg w K mg base ["region", "value", "at", "part"] "holds" (defScope (top 12)) a cdv A out s H E) n) (tbx : Tbx (cx Pg w K mg base ["region", "value", "at", "part"] "holds" (defScope (top 12)) a cdv A out s H E) ca) :
    PSs (cx Pg w K mg base ["region", "value", "at", "part"] "holds" (defScope (top 12)) a cdv A out s H E) (defBody (top 12)) (tS (ct (cx Pg w K mg base ["region", "value", "at", "part"] "holds" (defScope (top 12)) a cdv A out s H E) ca) (wE E) e (f_holds.body (Ev.callN P n))) :=
  (ss_cons xs (s_if xs (st_cmp (opC_eq xs.u64) (SV (se_v rfl (by first | exact .inl rfl | exact .inr (.inl rfl) | exact .inr (.inr rfl)))) (SV (se_gc g.c_ANY rfl)) rfl) (ss_one (s_ret se_bl)) ss_nil)
  (ss_cons xs (s_if xs (st_cmp (opC_eq xs.u64) (SV (se_ix xs.u1 (SV (se_v rfl (by first | exact .inl rfl | exact .inr (.inl rfl) | exact .inr (.inr rfl)))) se_int)) (SV se_str) rfl) (ss_one (s_ret (se_ch opC_le opC_le (SV (se_ix xs.u1 (SV (se_v rfl (by first | exact .inl rfl | exact .inr (.inl rfl) | exact .inr (.inr rfl)))) se_int)) (SV (se_ix xs.u1 (SV (se_v rfl (by first | exact .inl rfl | exact .inr (.inl rfl) | exact .inr (.inr rfl)))) se_int)) (SV (se_ix xs.u1 (SV (se_v rfl (by first | exact .inl rfl | exact .inr (.inl rfl) | exact .inr (.inr rfl)))) se_int))))) ss_nil)
  (ss_cons xs (s_if xs (st_cmp (opC_eq xs.u64) (SV (se_ix xs.u1 (SV (se_v rfl (by first | exact .inl rfl | exact .inr (.inl rfl) | exact .inr (.inr rfl)))) se_int)) (SV se_str) rfl) (ss_one (s_ret (se_cmp (opC_nin xs.u65) (SV (se_ix xs.u1 (SV (se_v rfl (by first | exact .inl rfl | exact .inr (.inl rfl) | exact .inr (.inr rfl)))) se_int)) (SV (se_ix xs.u1 (SV (se_v rfl (by first | exact .inl rfl | exact .inr (.inl rfl) | exact .inr (.inr rfl)))) se_int)) rfl))) ss_nil)
  (ss_one (s_ret (se_and (se_cmp (opC_eq xs.u64) (SV (se_ix xs.u1 (SV (se_v rfl (by first | exact .inl rfl | exact .inr (.inl rfl) | exact .inr (.inr rfl)))) se_int)) (SV (se_ix xs.u1 (SV (se_v rfl (by first | exact .inl rfl | exact .inr (.inl rfl) | exact .inr (.inr rfl)))) se_int)) rfl) (se_one (se_all (own := [("at", 2), ("part", 3)]) xs sl tbx rfl g.f_all (si_enum rfl g.f_enumerate (se_ix xs.u1 (SV (se_v rfl (by first | exact .inl rfl | exact .inr (.inl rfl) | exact .inr (.inr rfl)))) se_int)) (blkOk_by (by kernel_rfl)) ⟨by decide +kernel, by rfl, rfl⟩ (fun _ _ _ _ _ _ _ r => (pg_seq (xs.gen r).calm (pgs_cons (pg_name (xs.gen r).nd rfl (by first | exact .inl rfl | exact .inr rfl)) (pgs_cons (pg_name (xs.gen r).nd rfl (by first | exact .inl rfl | exact .inr rfl)) pgs_nil)))) (gok_seq rfl (gsok_cons gok_name (gsok_cons gok_name gsok_nil))) (by decide) (fun _ _ _ _ _ _ _ r => (se_call ⟨(cal "holds" _ rfl).at_⟩ (xs.gen r) rfl rfl (sa_cons (se_v rfl (by first | exact .inl rfl | exact .inr (.inl rfl) | exact .inr (.inr rfl))) (sa_cons (se_ix (xs.gen r).u1 (SV (se_ix (xs.gen r).u1 (SV (se_v rfl (by first | exact .inl rfl | exact .inr (.inl rfl) | exact .inr (.inr rfl)))) se_int)) (se_v rfl (by first | exact .inl rfl | exact .inr (.inl rfl) | exact .inr (.inr rfl)))) sa_nil)) rfl))))))))))
theorem dn_f_holds (X : K.In h) (G : h.Ns mainGlobals mg) (c : He.SaysD fa fn K) (g : Gx K mg) : Dn Pg w K mg (caK K tf) P "holds" f_holds := by
  obtain ⟨fd, F⟩ := c.def_ 8 (d := d_f_holds) rfl
  exact ⟨_, _, _, _, _, _, fd, ["region", "value", "at", "part"], ["region", "value"], F, He.glo_ok X G (c.fact 8 (f := .glo "holds") rfl), sc_f_holds, rfl, rfl, F.bindsN fun _ _ _ _ _ _ us hl => match us, hl with | [_, _], _ => rfl, fun base cdv A out s H E e n tb hc cal xs sl => dv_f_holds g cal xs sl (tbx_of tb hc (List.mem_of_getElem? (i := 1) rfl))⟩
theorem sc_f_least_in : FnScope ["types", "name", "region", "fields", "at", "field", "left", "row", "heights", "_", "inner"] ["types", "name", "region"] (defScope (top 13)) := ⟨rfl, rfl, rfl, by decide +kernel, rfl, by decide +kernel, by decide +kernel⟩
theorem dv_f_least_in {base : Heap} {a : Addr} {cdv : Value} {A : Around} {out : List Env} {s : Shared} {H : Hp} {E : XK} {e : En} {n : Nat} (g : Gx K mg)
    (cal : ∀ g d, P g = some d → Callee (cx Pg w K mg base ["types", "name", "region", "fields", "at", "field", "left", "row", "heights", "_", "inner"] "least_in" (defScope (top 13)) a cdv A out s H E) ca n (Ev.callN P n) g d.np) (xs : XS (cx Pg w K mg base ["types", "name", "region", "fields", "at", "field", "left", "row", "heights", "_", "inner"] "least_in" (defScope (top 13)) a cdv A out s H E) (wE E) n) (sl : Slk (cx Pg w K mg base ["types", "name", "region", "fields", "at", "field", "left", "row", "heights", "_", "inner"] "least_in" (defScope (top 13)) a cdv A out s H E) n) :
    PSs (cx Pg w K mg base ["types", "name", "region", "fields", "at", "field", "left", "row", "heights", "_", "inner"] "least_in" (defScope (top 13)) a cdv A out s H E) (defBody (top 13)) (tS (ct (cx Pg w K mg base ["types", "name", "region", "fields", "at", "field", "left", "row", "heights", "_", "inner"] "least_in" (defScope (top 13)) a cdv A out s H E) ca) (wE E) e (f_least_in.body (Ev.callN P n))) :=
  (ss_cons xs (s_if xs (st_cmp (opC_eq xs.u64) (SV (se_v rfl (by first | exact .inl rfl | exact .inr (.inl rfl) | exact .inr (.inr rfl)))) (SV (se_gc g.c_ANY rfl)) rfl) (ss_one (s_ret (se_call ⟨(cal "least_value" _ rfl).at_⟩ xs rfl rfl (sa_cons (se_v rfl (by first | exact .inl rfl | exact .inr (.inl rfl) | exact .inr (.inr rfl))) (sa_cons (se_v rfl (by first | exact .inl rfl | exact .inr (.inl rfl) | exact .inr (.inr rfl))) sa_nil)) rfl))) ss_nil)
  (ss_cons xs (s_if xs (st_cmp (opC_eq xs.u64) (SV (se_ix xs.u1 (SV (se_v rfl (by first | exact .inl rfl | exact .inr (.inl rfl) | exact .inr (.inr rfl)))) se_int)) (SV se_str) rfl) (ss_one (s_ret (se_tup (sa_cons se_str (sa_cons (se_bi (pe_callB (cb_max xs.calm) rfl g.f_max rfl (sav_cons (SV (se_ix xs.u1 (SV (se_v rfl (by first | exact .inl rfl | exact .inr (.inl rfl) | exact .inr (.inr rfl)))) se_int)) (sav_cons (SV (se_bi (pe_callB (cb_min xs.calm) rfl g.f_min rfl (sav_cons (SV se_int) (sav_cons (SV (se_ix xs.u1 (SV (se_v rfl (by first | exact .inl rfl | exact .inr (.inl rfl) | exact .inr (.inr rfl)))) se_int)) sav_nil))))) sav_nil)))) sa_nil))))) ss_nil)
  (ss_cons xs (s_if xs (st_cmp (opC_eq xs.u64) (SV (se_ix xs.u1 (SV (se_v rfl (by first | exact .inl rfl | exact .inr (.inl rfl) | exact .inr (.inr rfl)))) se_int)) (SV se_str) rfl) (ss_cons xs (s_as xs.nd rfl (by first | exact .inl rfl | exact .inr rfl) (se_call ⟨(cal "fields_of" _ rfl).at_⟩ xs rfl rfl (sa_cons (se_v rfl (by first | exact .inl rfl | exact .inr (.inl rfl) | exact .inr (.inr rfl))) (sa_cons (se_ix xs.u1 (SV (se_v rfl (by first | exact .inl rfl | exact .inr (.inl rfl) | exact .inr (.inr rfl)))) se_int) sa_nil)) rfl))
  (ss_one (s_ret (se_tup (sa_cons se_str (sa_cons (se_ix xs.u1 (SV (se_v rfl (by first | exact .inl rfl | exact .inr (.inl rfl) | exact .inr (.inr rfl)))) se_int) (sa_cons (se_bi (pe_callTy cb_tuple rfl g.f_tuple rfl (sav_cons (SV (SN (sn_comp0 (own := [("at", 4), ("field", 5)]) xs (si_enum rfl g.f_enumerate (se_v rfl (by first | exact .inl rfl | exact .inr (.inl rfl) | exact .inr (.inr rfl)))) (blkOk_by (by kernel_rfl)) (fun _ _ _ _ _ => (pg_seq xs.blk.calm (pgs_cons (pg_name xs.blk.nd rfl (by first | exact .inl rfl | exact .inr rfl)) (pgs_cons (pg_name xs.blk.nd rfl (by first | exact .inl rfl | exact .inr rfl)) pgs_nil)))) (gok_seq rfl (gsok_cons gok_name (gsok_cons gok_name gsok_nil))) (by decide) (fun _ _ _ _ _ => (se_call ⟨(cal "least_in" _ rfl).at_⟩ xs.blk rfl rfl (sa_cons (se_v rfl (by first | exact .inl rfl | exact .inr (.inl rfl) | exact .inr (.inr rfl))) (sa_cons (se_v rfl (by first | exact .inl rfl | exact .inr (.inl rfl) | exact .inr (.inr rfl))) (sa_cons (se_ix xs.blk.u1 (SV (se_ix xs.blk.u1 (SV (se_v rfl (by first | exact .inl rfl | exact .inr (.inl rfl) | exact .inr (.inr rfl)))) se_int)) (se_v rfl (by first | exact .inl rfl | exact .inr (.inl rfl) | exact .inr (.inr rfl)))) sa_nil))) rfl))))) sav_nil))) sa_nil))))))) ss_nil)
  (ss_cons xs (s_asOf (SA (pa_comp1 (own := [("row", 7)]) xs rfl rfl (si_e (se_call ⟨(cal "constructors" _ rfl).at_⟩ xs rfl rfl (sa_cons (se_v rfl (by first | exact .inl rfl | exact .inr (.inl rfl) | exact .inr (.inr rfl))) (sa_cons (se_v rfl (by first | exact .inl rfl | exact .inr (.inl rfl) | exact .inr (.inr rfl))) sa_nil)) rfl)) (blkOk_by (by kernel_rfl)) (fun _ _ _ _ _ => (pg_name xs.blk.nd rfl (by first | exact .inl rfl | exact .inr rfl))) gok_name (by decide) (fun _ _ _ _ _ => (st_cmp (opC_nin xs.blk.u65) (SV (se_ix xs.blk.u1 (SV (se_v rfl (by first | exact .inl rfl | exact .inr (.inl rfl) | exact .inr (.inr rfl)))) se_int)) (SV (se_ix xs.blk.u1 (SV (se_v rfl (by first | exact .inl rfl | exact .inr (.inl rfl) | exact .inr (.inr rfl)))) se_int)) rfl)) (fun _ _ _ _ _ => (se_v rfl (by first | exact .inl rfl | exact .inr (.inl rfl) | exact .inr (.inr rfl)))))) gok_name)
  (ss_cons xs (s_own xs.nd rfl (by first | exact .inl rfl | exact .inr rfl) (sn_lst sa_nil))
  (ss_cons xs (s_for xs (si_e (se_v rfl (by first | exact .inl rfl | exact .inr (.inl rfl) | exact .inr (.inr rfl)))) (pg_seq xs.calm (pgs_cons (pg_name xs.nd rfl (by first | exact .inl rfl | exact .inr rfl)) (pgs_cons (pg_name xs.nd rfl (by first | exact .inl rfl | exact .inr rfl)) pgs_nil))) (gok_seq rfl (gsok_cons gok_name (gsok_cons gok_name gsok_nil))) (ss_cons xs (s_asOf (SA (pa_comp0 (own := [("field", 5)]) xs rfl rfl (si_e (se_v rfl (by first | exact .inl rfl | exact .inr (.inl rfl) | exact .inr (.inr rfl)))) (blkOk_by (by kernel_rfl)) (fun _ _ _ _ _ => (pg_name xs.blk.nd rfl (by first | exact .inl rfl | exact .inr rfl))) gok_name (by decide) (fun _ _ _ _ _ => (se_call ⟨(cal "least_height" _ rfl).at_⟩ xs.blk rfl rfl (sa_cons (se_v rfl (by first | exact .inl rfl | exact .inr (.inl rfl) | exact .inr (.inr rfl))) (sa_cons (se_v rfl (by first | exact .inl rfl | exact .inr (.inl rfl) | exact .inr (.inr rfl))) sa_nil)) rfl)))) gok_name)
  (ss_one (s_app rfl (by first | exact .inl rfl | exact .inr (.inl rfl) | exact .inr (.inr rfl)) (se_op opD_add (SV se_int) (SV (se_bi (pe_callB (cb_max xs.calm) rfl g.f_max rfl (sav_cons (SV (se_op opD_add (SV (SN (sn_lst (sa_cons se_int sa_nil)))) (SV (se_v rfl (by first | exact .inl rfl | exact .inr (.inl rfl) | exact .inr (.inr rfl)))))) sav_nil)))))))))
  (ss_one (s_ret (se_call ⟨(cal "least_made" _ rfl).at_⟩ xs rfl rfl (sa_cons (se_v rfl (by first | exact .inl rfl | exact .inr (.inl rfl) | exact .inr (.inr rfl))) (sa_cons (se_v rfl (by first | exact .inl rfl | exact .inr (.inl rfl) | exact .inr (.inr rfl))) (sa_cons (se_bi (pe_callB (cb_min xs.calm) rfl g.f_min rfl (sav_cons (sv_b rfl (by first | exact .inl rfl | exact .inr (.inl rfl) | exact .inr (.inr rfl))) sav_nil))) sa_nil))) rfl)))))))))
theorem dn_f_least_in (X : K.In h) (G : h.Ns mainGlobals mg) (c : He.SaysD fa fn K) (g : Gx K mg) : Dn Pg w K mg (caK K tf) P "least_in" f_least_in := by
  obtain ⟨fd, F⟩ := c.def_ 9 (d := d_f_least_in) rfl
  exact ⟨_, _, _, _, _, _, fd, ["types", "name", "region", "fields", "at", "field", "left", "row", "heights", "_", "inner"], ["types", "name", "region"], F, He.glo_ok X G (c.fact 9 (f := .glo "least_in") rfl), sc_f_least_in, rfl, rfl, F.bindsN fun _ _ _ _ _ _ us hl => match us, hl with | [_, _, _], _ => rfl, fun base cdv A out s H E e n tb hc cal xs sl => dv_f_least_in g cal xs sl⟩
theorem sc_f_region_text : FnScope ["region", "names", "part"] ["region"] (defScope (top 14)) := ⟨rfl, rfl, rfl, by decide +kernel, rfl, by decide +kernel, by decide +kernel⟩
theorem dv_f_region_text {base : Heap} {a : Addr} {cdv : Value} {A : Around} {out : List Env} {s : Shared} {H : Hp} {E : XK} {e : En} {n : Nat} (g : Gx K mg)
    (cal : ∀ g d, P g = some d → Callee (cx Pg w K mg base ["region", "names", "part"] "region_text" (defScope (top 14)) a cdv A out s H E) ca n (Ev.callN P n) g d.np) (xs : XS (cx Pg w K mg base ["region", "names", "part"] "region_text" (defScope (top 14)) a cdv A out s H E) (wE E) n) (sl : Slk (cx Pg w K mg base ["region", "names", "part"] "region_text" (defScope (top 14)) a cdv A out s H E) n) :
    PSs (cx Pg w K mg base ["region", "names", "part"] "region_text" (defScope (top 14)) a cdv A out s H E) (defBody (top 14)) (tS (ct (cx Pg w K mg base ["region", "names", "part"] "region_text" (defScope (top 14)) a cdv A out s H E) ca) (wE E) e (f_region_text.body (Ev.callN P n))) :=
  (ss_cons xs (s_if xs (st_cmp (opC_eq xs.u64) (SV (se_v rfl (by first | exact .inl rfl | exact .inr (.inl rfl) | exact .inr (.inr rfl)))) (SV (se_gc g.c_ANY rfl)) rfl) (ss_one (s_ret se_str)) ss_nil)
  (ss_cons xs (s_if xs (st_cmp (opC_eq xs.u64) (SV (se_ix xs.u1 (SV (se_v rfl (by first | exact .inl rfl | exact .inr (.inl rfl) | exact .inr (.inr rfl)))) se_int)) (SV se_str) rfl) (ss_one (s_ret (se_if (st_cmp (opC_eq xs.u64) (SV (se_ix xs.u1 (SV (se_v rfl (by first | exact .inl rfl | exact .inr (.inl rfl) | exact .inr (.inr rfl)))) se_int)) (SV (se_ix xs.u1 (SV (se_v rfl (by first | exact .inl rfl | exact .inr (.inl rfl) | exact .inr (.inr rfl)))) se_int)) rfl) (se_bi (pe_callTy cb_str rfl g.f_str rfl (sav_cons (SV (se_ix xs.u1 (SV (se_v rfl (by first | exact .inl rfl | exact .inr (.inl rfl) | exact .inr (.inr rfl)))) se_int)) sav_nil))) (se_js (sj_cons (se_fmt (se_ix xs.u1 (SV (se_v rfl (by first | exact .inl rfl | exact .inr (.inl rfl) | exact .inr (.inr rfl)))) se_int)) (sj_cons se_str (sj_cons (se_fmt (se_ix xs.u1 (SV (se_v rfl (by first | exact .inl rfl | exact .inr (.inl rfl) | exact .inr (.inr rfl)))) se_int)) sj_nil))))))) ss_nil)
  (ss_cons xs (s_if xs (st_cmp (opC_eq xs.u64) (SV (se_ix xs.u1 (SV (se_v rfl (by first | exact .inl rfl | exact .inr (.inl rfl) | exact .inr (.inr rfl)))) se_int)) (SV se_str) rfl) (ss_cons xs (s_as xs.nd rfl (by first | exact .inl rfl | exact .inr rfl) (se_join se_str (SV (se_ix xs.u1 (SV (se_v rfl (by first | exact .inl rfl | exact .inr (.inl rfl) | exact .inr (.inr rfl)))) se_int))))
  (ss_one (s_ret (se_if (st_cmp (opC_eq xs.u64) (SV (se_bi (pe_callB cb_len rfl g.f_len rfl (sav_cons (SV (se_ix xs.u1 (SV (se_v rfl (by first | exact .inl rfl | exact .inr (.inl rfl) | exact .inr (.inr rfl)))) se_int)) sav_nil)))) (SV se_int) rfl) (se_op opD_add (SV se_str) (SV (se_v rfl (by first | exact .inl rfl | exact .inr (.inl rfl) | exact .inr (.inr rfl))))) (se_op opD_add (SV (se_op opD_add (SV se_str) (SV (se_v rfl (by first | exact .inl rfl | exact .inr (.inl rfl) | exact .inr (.inr rfl)))))) (SV se_str)))))) ss_nil)
  (ss_cons xs (s_if xs (st_cmp (opC_eq xs.u64) (SV (se_bi (pe_callB cb_len rfl g.f_len rfl (sav_cons (SV (se_ix xs.u1 (SV (se_v rfl (by first | exact .inl rfl | exact .inr (.inl rfl) | exact .inr (.inr rfl)))) se_int)) sav_nil)))) (SV se_int) rfl) (ss_one (s_ret (se_ix xs.u1 (SV (se_v rfl (by first | exact .inl rfl | exact .inr (.inl rfl) | exact .inr (.inr rfl)))) se_int))) ss_nil)
  (ss_one (s_ret (se_op opD_add (SV (se_op opD_add (SV (se_op opD_add (SV (se_ix xs.u1 (SV (se_v rfl (by first | exact .inl rfl | exact .inr (.inl rfl) | exact .inr (.inr rfl)))) se_int)) (SV se_str))) (SV (se_join se_str (SV (SN (sn_comp0 (own := [("part", 2)]) xs (si_e (se_ix xs.u1 (SV (se_v rfl (by first | exact .inl rfl | exact .inr (.inl rfl) | exact .inr (.inr rfl)))) se_int)) (blkOk_by (by kernel_rfl)) (fun _ _ _ _ _ => (pg_name xs.blk.nd rfl (by first | exact .inl rfl | exact .inr rfl))) gok_name (by decide) (fun _ _ _ _ _ => (se_call ⟨(cal "region_text" _ rfl).at_⟩ xs.blk rfl rfl (sa_cons (se_v rfl (by first | exact .inl rfl | exact .inr (.inl rfl) | exact .inr (.inr rfl))) sa_nil) rfl))))))))) (SV se_str))))))))
theorem dn_f_region_text (X : K.In h) (G : h.Ns mainGlobals mg) (c : He.SaysD fa fn K) (g : Gx K mg) : Dn Pg w K mg (caK K tf) P "region_text" f_region_text := by
  obtain ⟨fd, F⟩ := c.def_ 10 (d := d_f_region_text) rfl
  exact ⟨_, _, _, _, _, _, fd, ["region", "names", "part"], ["region"], F, He.glo_ok X G (c.fact 10 (f := .glo "region_text") rfl), sc_f_region_text, rfl, rfl, F.bindsN fun _ _ _ _ _ _ us hl => match us, hl with | [_], _ => rfl, fun base cdv A out s H E e n tb hc cal xs sl => dv_f_region_text g cal xs sl⟩
theorem sc_f_law_is_integer : FnScope ["actual"] ["actual"] (defScope (top 16)) := ⟨rfl, rfl, rfl, by decide +kernel, rfl, by decide +kernel, by decide +kernel⟩
theorem dv_f_law_is_integer {base : Heap} {a : Addr} {cdv : Value} {A : Around} {out : List Env} {s : Shared} {H : Hp} {E : XK} {e : En} {n : Nat} (g : Gx K mg)
    (cal : ∀ g d, P g = some d → Callee (cx Pg w K mg base ["actual"] "_law_is_integer" (defScope (top 16)) a cdv A out s H E) ca n (Ev.callN P n) g d.np) (xs : XS (cx Pg w K mg base ["actual"] "_law_is_integer" (defScope (top 16)) a cdv A out s H E) (wE E) n) (sl : Slk (cx Pg w K mg base ["actual"] "_law_is_integer" (defScope (top 16)) a cdv A out s H E) n) :
    PSs (cx Pg w K mg base ["actual"] "_law_is_integer" (defScope (top 16)) a cdv A out s H E) (defBody (top 16)) (tS (ct (cx Pg w K mg base ["actual"] "_law_is_integer" (defScope (top 16)) a cdv A out s H E) ca) (wE E) e (f_law_is_integer.body (Ev.callN P n))) :=
  (ss_one (s_ret (se_and (se_isin (T := "int") (by decide +kernel) (SV (se_v rfl (by first | exact .inl rfl | exact .inr (.inl rfl) | exact .inr (.inr rfl)))) rfl g.f_isinstance rfl rfl g.f_int rfl) (se_one (se_not (se_isin (T := "bool") (by decide +kernel) (SV (se_v rfl (by first | exact .inl rfl | exact .inr (.inl rfl) | exact .inr (.inr rfl)))) rfl g.f_isinstance rfl rfl g.f_bool rfl))))))
theorem dn_f_law_is_integer (X : K.In h) (G : h.Ns mainGlobals mg) (c : He.SaysD fa fn K) (g : Gx K mg) : Dn Pg w K mg (caK K tf) P "_law_is_integer" f_law_is_integer := by
  obtain ⟨fd, F⟩ := c.def_ 11 (d := d_f_law_is_integer) rfl
  exact ⟨_, _, _, _, _, _, fd, ["actual"], ["actual"], F, He.glo_ok X G (c.fact 11 (f := .glo "_law_is_integer") rfl), sc_f_law_is_integer, rfl, rfl, F.bindsN fun _ _ _ _ _ _ us hl => match us, hl with | [_], _ => rfl, fun base cdv A out s H E e n tb hc cal xs sl => dv_f_law_is_integer g cal xs sl⟩
theorem sc_f_law_cell : FnScope ["script", "k"] ["script", "k"] (defScope (top 17)) := ⟨rfl, rfl, rfl, by decide +kernel, rfl, by decide +kernel, by decide +kernel⟩
theorem dv_f_law_cell {base : Heap} {a : Addr} {cdv : Value} {A : Around} {out : List Env} {s : Shared} {H : Hp} {E : XK} {e : En} {n : Nat} (g : Gx K mg)
    (cal : ∀ g d, P g = some d → Callee (cx Pg w K mg base ["script", "k"] "_law_cell" (defScope (top 17)) a cdv A out s H E) ca n (Ev.callN P n) g d.np) (xs : XS (cx Pg w K mg base ["script", "k"] "_law_cell" (defScope (top 17)) a cdv A out s H E) (wE E) n) (sl : Slk (cx Pg w K mg base ["script", "k"] "_law_cell" (defScope (top 17)) a cdv A out s H E) n) :
    PSs (cx Pg w K mg base ["script", "k"] "_law_cell" (defScope (top 17)) a cdv A out s H E) (defBody (top 17)) (tS (ct (cx Pg w K mg base ["script", "k"] "_law_cell" (defScope (top 17)) a cdv A out s H E) ca) (wE E) e (f_law_cell.body (Ev.callN P n))) :=
  (ss_cons xs (s_if xs (st_cmp opC_lt (SV (se_v rfl (by first | exact .inl rfl | exact .inr (.inl rfl) | exact .inr (.inr rfl)))) (SV (se_bi (pe_callB cb_len rfl g.f_len rfl (sav_cons (SV (se_v rfl (by first | exact .inl rfl | exact .inr (.inl rfl) | exact .inr (.inr rfl)))) sav_nil)))) rfl) (ss_one (s_ret (se_ix xs.u1 (SV (se_v rfl (by first | exact .inl rfl | exact .inr (.inl rfl) | exact .inr (.inr rfl)))) (se_v rfl (by first | exact .inl rfl | exact .inr (.inl rfl) | exact .inr (.inr rfl)))))) ss_nil)
  (ss_one (s_ret se_int)))
theorem dn_f_law_cell (X : K.In h) (G : h.Ns mainGlobals mg) (c : He.SaysD fa fn K) (g : Gx K mg) : Dn Pg w K mg (caK K tf) P "_law_cell" f_law_cell := by
  obtain ⟨fd, F⟩ := c.def_ 12 (d := d_f_law_cell) rfl
  exact ⟨_, _, _, _, _, _, fd, ["script", "k"], ["script", "k"], F, He.glo_ok X G (c.fact 12 (f := .glo "_law_cell") rfl), sc_f_law_cell, rfl, rfl, F.bindsN fun _ _ _ _ _ _ us hl => match us, hl with | [_, _], _ => rfl, fun base cdv A out s H E e n tb hc cal xs sl => dv_f_law_cell g cal xs sl⟩
theorem sc_f_law_list_is : FnScope ["actual", "due"] ["actual", "due"] (defScope (top 18)) := ⟨rfl, rfl, rfl, by decide +kernel, rfl, by decide +kernel, by decide +kernel⟩
theorem dv_f_law_list_is {base : Heap} {a : Addr} {cdv : Value} {A : Around} {out : List Env} {s : Shared} {H : Hp} {E : XK} {e : En} {n : Nat} (g : Gx K mg)
    (cal : ∀ g d, P g = some d → Callee (cx Pg w K mg base ["actual", "due"] "_law_list_is" (defScope (top 18)) a cdv A out s H E) ca n (Ev.callN P n) g d.np) (xs : XS (cx Pg w K mg base ["actual", "due"] "_law_list_is" (defScope (top 18)) a cdv A out s H E) (wE E) n) (sl : Slk (cx Pg w K mg base ["actual", "due"] "_law_list_is" (defScope (top 18)) a cdv A out s H E) n) :
    PSs (cx Pg w K mg base ["actual", "due"] "_law_list_is" (defScope (top 18)) a cdv A out s H E) (defBody (top 18)) (tS (ct (cx Pg w K mg base ["actual", "due"] "_law_list_is" (defScope (top 18)) a cdv A out s H E) ca) (wE E) e (f_law_list_is.body (Ev.callN P n))) :=
  (ss_one (s_ret (se_and (se_isin (T := "list") (by decide +kernel) (SV (se_v rfl (by first | exact .inl rfl | exact .inr (.inl rfl) | exact .inr (.inr rfl)))) rfl g.f_isinstance rfl rfl g.f_list rfl) (se_one (se_cmp (opC_eq xs.u64) (SV (se_bi (pe_callB (cb_repr xs.room.g xs.u65) rfl g.f_repr rfl (sav_cons (SV (se_v rfl (by first | exact .inl rfl | exact .inr (.inl rfl) | exact .inr (.inr rfl)))) sav_nil)))) (SV (se_bi (pe_callB (cb_repr xs.room.g xs.u65) rfl g.f_repr rfl (sav_cons (SV (SN (sn_bi (pe_callTy cb_list rfl g.f_list rfl (sav_cons (SV (se_v rfl (by first | exact .inl rfl | exact .inr (.inl rfl) | exact .inr (.inr rfl)))) sav_nil))))) sav_nil)))) rfl)))))
theorem dn_f_law_list_is (X : K.In h) (G : h.Ns mainGlobals mg) (c : He.SaysD fa fn K) (g : Gx K mg) : Dn Pg w K mg (caK K tf) P "_law_list_is" f_law_list_is := by
  obtain ⟨fd, F⟩ := c.def_ 13 (d := d_f_law_list_is) rfl
  exact ⟨_, _, _, _, _, _, fd, ["actual", "due"], ["actual", "due"], F, He.glo_ok X G (c.fact 13 (f := .glo "_law_list_is") rfl), sc_f_law_list_is, rfl, rfl, F.bindsN fun _ _ _ _ _ _ us hl => match us, hl with | [_, _], _ => rfl, fun base cdv A out s H E e n tb hc cal xs sl => dv_f_law_list_is g cal xs sl⟩
theorem sc_f_law_same : FnScope ["actual", "due"] ["actual", "due"] (defScope (top 19)) := ⟨rfl, rfl, rfl, by decide +kernel, rfl, by decide +kernel, by decide +kernel⟩
theorem dv_f_law_same {base : Heap} {a : Addr} {cdv : Value} {A : Around} {out : List Env} {s : Shared} {H : Hp} {E : XK} {e : En} {n : Nat} (g : Gx K mg)
    (cal : ∀ g d, P g = some d → Callee (cx Pg w K mg base ["actual", "due"] "_law_same" (defScope (top 19)) a cdv A out s H E) ca n (Ev.callN P n) g d.np) (xs : XS (cx Pg w K mg base ["actual", "due"] "_law_same" (defScope (top 19)) a cdv A out s H E) (wE E) n) (sl : Slk (cx Pg w K mg base ["actual", "due"] "_law_same" (defScope (top 19)) a cdv A out s H E) n) :
    PSs (cx Pg w K mg base ["actual", "due"] "_law_same" (defScope (top 19)) a cdv A out s H E) (defBody (top 19)) (tS (ct (cx Pg w K mg base ["actual", "due"] "_law_same" (defScope (top 19)) a cdv A out s H E) ca) (wE E) e (f_law_same.body (Ev.callN P n))) :=
  (ss_one (s_ret (se_cmp (opC_eq xs.u64) (SV (se_bi (pe_callB (cb_repr xs.room.g xs.u65) rfl g.f_repr rfl (sav_cons (SV (se_v rfl (by first | exact .inl rfl | exact .inr (.inl rfl) | exact .inr (.inr rfl)))) sav_nil)))) (SV (se_bi (pe_callB (cb_repr xs.room.g xs.u65) rfl g.f_repr rfl (sav_cons (SV (se_v rfl (by first | exact .inl rfl | exact .inr (.inl rfl) | exact .inr (.inr rfl)))) sav_nil)))) rfl)))
theorem dn_f_law_same (X : K.In h) (G : h.Ns mainGlobals mg) (c : He.SaysD fa fn K) (g : Gx K mg) : Dn Pg w K mg (caK K tf) P "_law_same" f_law_same := by
  obtain ⟨fd, F⟩ := c.def_ 14 (d := d_f_law_same) rfl
  exact ⟨_, _, _, _, _, _, fd, ["actual", "due"], ["actual", "due"], F, He.glo_ok X G (c.fact 14 (f := .glo "_law_same") rfl), sc_f_law_same, rfl, rfl, F.bindsN fun _ _ _ _ _ _ us hl => match us, hl with | [_, _], _ => rfl, fun base cdv A out s H E e n tb hc cal xs sl => dv_f_law_same g cal xs sl⟩
theorem sc_f_law_digits : FnScope ["script", "first", "last", "digits", "k", "cell", "turn", "seed"] ["script", "first", "last"] (defScope (top 20)) := ⟨rfl, rfl, rfl, by decide +kernel, rfl, by decide +kernel, by decide +kernel⟩
theorem dv_f_law_digits {base : Heap} {a : Addr} {cdv : Value} {A : Around} {out : List Env} {s : Shared} {H : Hp} {E : XK} {e : En} {n : Nat} (g : Gx K mg)
    (cal : ∀ g d, P g = some d → Callee (cx Pg w K mg base ["script", "first", "last", "digits", "k", "cell", "turn", "seed"] "_law_digits" (defScope (top 20)) a cdv A out s H E) ca n (Ev.callN P n) g d.np) (xs : XS (cx Pg w K mg base ["script", "first", "last", "digits", "k", "cell", "turn", "seed"] "_law_digits" (defScope (top 20)) a cdv A out s H E) (wE E) n) (sl : Slk (cx Pg w K mg base ["script", "first", "last", "digits", "k", "cell", "turn", "seed"] "_law_digits" (defScope (top 20)) a cdv A out s H E) n) :
    PSs (cx Pg w K mg base ["script", "first", "last", "digits", "k", "cell", "turn", "seed"] "_law_digits" (defScope (top 20)) a cdv A out s H E) (defBody (top 20)) (tS (ct (cx Pg w K mg base ["script", "first", "last", "digits", "k", "cell", "turn", "seed"] "_law_digits" (defScope (top 20)) a cdv A out s H E) ca) (wE E) e (f_law_digits.body (Ev.callN P n))) :=
  (ss_cons xs (s_own xs.nd rfl (by first | exact .inl rfl | exact .inr rfl) (sn_lst sa_nil))
  (ss_cons xs (s_for xs (si_range2 rfl g.f_range (se_v rfl (by first | exact .inl rfl | exact .inr (.inl rfl) | exact .inr (.inr rfl))) (se_v rfl (by first | exact .inl rfl | exact .inr (.inl rfl) | exact .inr (.inr rfl)))) (pg_name xs.nd rfl (by first | exact .inl rfl | exact .inr rfl)) gok_name (ss_cons xs (s_as xs.nd rfl (by first | exact .inl rfl | exact .inr rfl) (se_call ⟨(cal "_law_cell" _ rfl).at_⟩ xs rfl rfl (sa_cons (se_v rfl (by first | exact .inl rfl | exact .inr (.inl rfl) | exact .inr (.inr rfl))) (sa_cons (se_v rfl (by first | exact .inl rfl | exact .inr (.inl rfl) | exact .inr (.inr rfl))) sa_nil)) rfl))
  (ss_cons xs (s_if xs (st_cmp opC_lt (SV (se_v rfl (by first | exact .inl rfl | exact .inr (.inl rfl) | exact .inr (.inr rfl)))) (SV se_int) rfl) (ss_one (s_as xs.nd rfl (by first | exact .inl rfl | exact .inr rfl) (se_op opD_sub (SV se_int) (SV (se_op opD_mul (SV se_int) (SV (se_v rfl (by first | exact .inl rfl | exact .inr (.inl rfl) | exact .inr (.inr rfl))))))))) ss_nil)
  (ss_one (s_if xs (st_cmp opC_ge (SV (se_v rfl (by first | exact .inl rfl | exact .inr (.inl rfl) | exact .inr (.inr rfl)))) (SV (se_op opD_pow (SV se_int) (SV se_int))) rfl) (ss_one (s_for xs (si_range1 rfl g.f_range se_int) (pg_name xs.nd rfl (by first | exact .inl rfl | exact .inr rfl)) gok_name (ss_one (s_if xs (st_cmp opC_gt (SV (se_v rfl (by first | exact .inl rfl | exact .inr (.inl rfl) | exact .inr (.inr rfl)))) (SV se_int) rfl) (ss_cons xs (s_app rfl (by first | exact .inl rfl | exact .inr (.inl rfl) | exact .inr (.inr rfl)) (se_op opD_mod (SV (se_bi (pe_callTy cb_int rfl g.f_int rfl (sav_cons (SV (se_v rfl (by first | exact .inl rfl | exact .inr (.inl rfl) | exact .inr (.inr rfl)))) sav_nil)))) (SV se_int)))
  (ss_one (s_as xs.nd rfl (by first | exact .inl rfl | exact .inr rfl) (se_op opD_fdiv (SV (se_v rfl (by first | exact .inl rfl | exact .inr (.inl rfl) | exact .inr (.inr rfl)))) (SV se_int))))) ss_nil)))) (ss_cons xs (s_as xs.nd rfl (by first | exact .inl rfl | exact .inr rfl) (se_op opD_mod (SV (se_bi (pe_callTy cb_int rfl g.f_int rfl (sav_cons (SV (se_op opD_add (SV (se_op opD_add (SV (se_op opD_mul (SV (se_v rfl (by first | exact .inl rfl | exact .inr (.inl rfl) | exact .inr (.inr rfl)))) (SV se_int))) (SV (se_op opD_mul (SV (se_v rfl (by first | exact .inl rfl | exact .inr (.inl rfl) | exact .inr (.inr rfl)))) (SV se_int))))) (SV se_int))) sav_nil)))) (SV se_int)))
  (ss_one (s_for xs (si_range1 rfl g.f_range se_int) (pg_name xs.nd rfl (by first | exact .inl rfl | exact .inr rfl)) gok_name (ss_cons xs (s_as xs.nd rfl (by first | exact .inl rfl | exact .inr rfl) (se_op opD_mod (SV (se_bi (pe_callTy cb_int rfl g.f_int rfl (sav_cons (SV (se_op opD_add (SV (se_op opD_add (SV (se_op opD_mul (SV (se_v rfl (by first | exact .inl rfl | exact .inr (.inl rfl) | exact .inr (.inr rfl)))) (SV se_int))) (SV (se_op opD_mul (SV se_int) (SV (se_v rfl (by first | exact .inl rfl | exact .inr (.inl rfl) | exact .inr (.inr rfl)))))))) (SV se_int))) sav_nil)))) (SV se_int)))
  (ss_one (s_app rfl (by first | exact .inl rfl | exact .inr (.inl rfl) | exact .inr (.inr rfl)) (se_op opD_mod (SV (se_bi (pe_callTy cb_int rfl g.f_int rfl (sav_cons (SV (se_op opD_fdiv (SV (se_v rfl (by first | exact .inl rfl | exact .inr (.inl rfl) | exact .inr (.inr rfl)))) (SV se_int))) sav_nil)))) (SV se_int)))))))))))))
  (ss_frz xs (ss_one (s_ret (se_v rfl (by first | exact .inl rfl | exact .inr (.inl rfl) | exact .inr (.inr rfl))))))))
theorem dn_f_law_digits (X : K.In h) (G : h.Ns mainGlobals mg) (c : He.SaysD fa fn K) (g : Gx K mg) : Dn Pg w K mg (caK K tf) P "_law_digits" f_law_digits := by
  obtain ⟨fd, F⟩ := c.def_ 15 (d := d_f_law_digits) rfl
  exact ⟨_, _, _, _, _, _, fd, ["script", "first", "last", "digits", "k", "cell", "turn", "seed"], ["script", "first", "last"], F, He.glo_ok X G (c.fact 15 (f := .glo "_law_digits") rfl), sc_f_law_digits, rfl, rfl, F.bindsN fun _ _ _ _ _ _ us hl => match us, hl with | [_, _, _], _ => rfl, fun base cdv A out s H E e n tb hc cal xs sl => dv_f_law_digits g cal xs sl⟩
theorem sc_f_law_draw : FnScope ["box", "many", "at"] ["box", "many"] (defScope (top 21)) := ⟨rfl, rfl, rfl, by decide +kernel, rfl, by decide +kernel, by decide +kernel⟩
theorem dv_f_law_draw {base : Heap} {a : Addr} {cdv : Value} {A : Around} {out : List Env} {s : Shared} {H : Hp} {E : XK} {e : En} {n : Nat} (g : Gx K mg)
    (cal : ∀ g d, P g = some d → Callee (cx Pg w K mg base ["box", "many", "at"] "_law_draw" (defScope (top 21)) a cdv A out s H E) ca n (Ev.callN P n) g d.np) (xs : XS (cx Pg w K mg base ["box", "many", "at"] "_law_draw" (defScope (top 21)) a cdv A out s H E) (wE E) n) (sl : Slk (cx Pg w K mg base ["box", "many", "at"] "_law_draw" (defScope (top 21)) a cdv A out s H E) n) :
    PSs (cx Pg w K mg base ["box", "many", "at"] "_law_draw" (defScope (top 21)) a cdv A out s H E) (defBody (top 21)) (tS (ct (cx Pg w K mg base ["box", "many", "at"] "_law_draw" (defScope (top 21)) a cdv A out s H E) ca) (wE E) e (f_law_draw.body (Ev.callN P n))) :=
  (ss_cons xs (s_as xs.nd rfl (by first | exact .inl rfl | exact .inr rfl) (se_ix xs.u1 (SV (se_v rfl (by first | exact .inl rfl | exact .inr (.inl rfl) | exact .inr (.inr rfl)))) se_int))
  (ss_cons xs (s_set xs (se_v rfl (by first | exact .inl rfl | exact .inr (.inl rfl) | exact .inr (.inr rfl))) se_int (se_op opD_add (SV (se_v rfl (by first | exact .inl rfl | exact .inr (.inl rfl) | exact .inr (.inr rfl)))) (SV se_int)))
  (ss_cons xs (s_if xs (st_cmp opC_lt (SV (se_v rfl (by first | exact .inl rfl | exact .inr (.inl rfl) | exact .inr (.inr rfl)))) (SV (se_bi (pe_callB cb_len rfl g.f_len rfl (sav_cons (SV (se_ix xs.u1 (SV (se_v rfl (by first | exact .inl rfl | exact .inr (.inl rfl) | exact .inr (.inr rfl)))) se_int)) sav_nil)))) rfl) (ss_one (s_ret (se_op opD_mod (SV (se_bi (pe_callTy cb_int rfl g.f_int rfl (sav_cons (SV (se_ix xs.u1 (SV (se_ix xs.u1 (SV (se_v rfl (by first | exact .inl rfl | exact .inr (.inl rfl) | exact .inr (.inr rfl)))) se_int)) (se_v rfl (by first | exact .inl rfl | exact .inr (.inl rfl) | exact .inr (.inr rfl))))) sav_nil)))) (SV (se_v rfl (by first | exact .inl rfl | exact .inr (.inl rfl) | exact .inr (.inr rfl))))))) ss_nil)
  (ss_one (s_ret (se_op opD_mod (SV (se_bi (pe_callTy cb_int rfl g.f_int rfl (sav_cons (SV (se_op opD_add (SV (se_op opD_mul (SV (se_v rfl (by first | exact .inl rfl | exact .inr (.inl rfl) | exact .inr (.inr rfl)))) (SV se_int))) (SV se_int))) sav_nil)))) (SV (se_v rfl (by first | exact .inl rfl | exact .inr (.inl rfl) | exact .inr (.inr rfl))))))))))
theorem dn_f_law_draw (X : K.In h) (G : h.Ns mainGlobals mg) (c : He.SaysD fa fn K) (g : Gx K mg) : Dn Pg w K mg (caK K tf) P "_law_draw" f_law_draw := by
  obtain ⟨fd, F⟩ := c.def_ 16 (d := d_f_law_draw) rfl
  exact ⟨_, _, _, _, _, _, fd, ["box", "many", "at"], ["box", "many"], F, He.glo_ok X G (c.fact 16 (f := .glo "_law_draw") rfl), sc_f_law_draw, rfl, rfl, F.bindsN fun _ _ _ _ _ _ us hl => match us, hl with | [_, _], _ => rfl, fun base cdv A out s H E e n tb hc cal xs sl => dv_f_law_draw g cal xs sl⟩
theorem sc_f_law_types : FnScope ["box", "names", "found", "k", "makers", "m", "pool", "fields", "f"] ["box"] (defScope (top 22)) := ⟨rfl, rfl, rfl, by decide +kernel, rfl, by decide +kernel, by decide +kernel⟩
theorem dv_f_law_types {base : Heap} {a : Addr} {cdv : Value} {A : Around} {out : List Env} {s : Shared} {H : Hp} {E : XK} {e : En} {n : Nat} (g : Gx K mg)
    (cal : ∀ g d, P g = some d → Callee (cx Pg w K mg base ["box", "names", "found", "k", "makers", "m", "pool", "fields", "f"] "_law_types" (defScope (top 22)) a cdv A out s H E) ca n (Ev.callN P n) g d.np) (xs : XS (cx Pg w K mg base ["box", "names", "found", "k", "makers", "m", "pool", "fields", "f"] "_law_types" (defScope (top 22)) a cdv A out s H E) (wE E) n) (sl : Slk (cx Pg w K mg base ["box", "names", "found", "k", "makers", "m", "pool", "fields", "f"] "_law_types" (defScope (top 22)) a cdv A out s H E) n) :
    PSs (cx Pg w K mg base ["box", "names", "found", "k", "makers", "m", "pool", "fields", "f"] "_law_types" (defScope (top 22)) a cdv A out s H E) (defBody (top 22)) (tS (ct (cx Pg w K mg base ["box", "names", "found", "k", "makers", "m", "pool", "fields", "f"] "_law_types" (defScope (top 22)) a cdv A out s H E) ca) (wE E) e (f_law_types.body (Ev.callN P n))) :=
  (ss_cons xs (s_as xs.nd rfl (by first | exact .inl rfl | exact .inr rfl) (se_slc (SV (SN (sn_lst (sa_cons se_str (sa_cons se_str (sa_cons se_str sa_nil)))))) so_n (so_e (se_op opD_add (SV se_int) (SV (se_call ⟨(cal "_law_draw" _ rfl).at_⟩ xs rfl rfl (sa_cons (se_v rfl (by first | exact .inl rfl | exact .inr (.inl rfl) | exact .inr (.inr rfl))) (sa_cons se_int sa_nil)) rfl))))))
  (ss_cons xs (s_own xs.nd rfl (by first | exact .inl rfl | exact .inr rfl) (sn_lst sa_nil))
  (ss_cons xs (s_for xs (si_range1 rfl g.f_range (se_bi (pe_callB cb_len rfl g.f_len rfl (sav_cons (SV (se_v rfl (by first | exact .inl rfl | exact .inr (.inl rfl) | exact .inr (.inr rfl)))) sav_nil)))) (pg_name xs.nd rfl (by first | exact .inl rfl | exact .inr rfl)) gok_name (ss_cons xs (s_own xs.nd rfl (by first | exact .inl rfl | exact .inr rfl) (sn_lst sa_nil))
  (ss_cons xs (s_for xs (si_range1 rfl g.f_range (se_op opD_add (SV se_int) (SV (se_call ⟨(cal "_law_draw" _ rfl).at_⟩ xs rfl rfl (sa_cons (se_v rfl (by first | exact .inl rfl | exact .inr (.inl rfl) | exact .inr (.inr rfl))) (sa_cons se_int sa_nil)) rfl)))) (pg_name xs.nd rfl (by first | exact .inl rfl | exact .inr rfl)) gok_name (ss_cons xs (s_as xs.nd rfl (by first | exact .inl rfl | exact .inr rfl) (se_op opD_add (SV (SN (sn_lst (sa_cons se_str sa_nil)))) (SV (se_v rfl (by first | exact .inl rfl | exact .inr (.inl rfl) | exact .inr (.inr rfl))))))
  (ss_cons xs (s_if xs (st_cmp (opC_eq xs.u64) (SV (se_v rfl (by first | exact .inl rfl | exact .inr (.inl rfl) | exact .inr (.inr rfl)))) (SV se_int) rfl) (ss_one (s_as xs.nd rfl (by first | exact .inl rfl | exact .inr rfl) (se_op opD_add (SV (SN (sn_lst (sa_cons se_str sa_nil)))) (SV (se_slc (SV (se_v rfl (by first | exact .inl rfl | exact .inr (.inl rfl) | exact .inr (.inr rfl)))) so_n (so_e (se_v rfl (by first | exact .inl rfl | exact .inr (.inl rfl) | exact .inr (.inr rfl))))))))) ss_nil)
  (ss_cons xs (s_asOf (SA (pa_comp0 (own := [("f", 8)]) xs rfl rfl (si_range1 rfl g.f_range (se_op opD_mul (SV (se_call ⟨(cal "_law_draw" _ rfl).at_⟩ xs rfl rfl (sa_cons (se_v rfl (by first | exact .inl rfl | exact .inr (.inl rfl) | exact .inr (.inr rfl))) (sa_cons se_int sa_nil)) rfl)) (SV (se_bi (pe_callTy cb_int rfl g.f_int rfl (sav_cons (SV (se_or (se_cmp opC_gt (SV (se_v rfl (by first | exact .inl rfl | exact .inr (.inl rfl) | exact .inr (.inr rfl)))) (SV se_int) rfl) (se_one (se_cmp (opC_eq xs.u64) (SV (se_call ⟨(cal "_law_draw" _ rfl).at_⟩ xs rfl rfl (sa_cons (se_v rfl (by first | exact .inl rfl | exact .inr (.inl rfl) | exact .inr (.inr rfl))) (sa_cons se_int sa_nil)) rfl)) (SV se_int) rfl)))) sav_nil)))))) (blkOk_by (by kernel_rfl)) (fun _ _ _ _ _ => (pg_name xs.blk.nd rfl (by first | exact .inl rfl | exact .inr rfl))) gok_name (by decide) (fun _ _ _ _ _ => (se_ix xs.blk.u1 (SV (se_v rfl (by first | exact .inl rfl | exact .inr (.inl rfl) | exact .inr (.inr rfl)))) (se_op opD_mod (SV (se_bi (pe_callTy cb_int rfl g.f_int rfl (sav_cons (SV (se_call ⟨(cal "_law_draw" _ rfl).at_⟩ xs.blk rfl rfl (sa_cons (se_v rfl (by first | exact .inl rfl | exact .inr (.inl rfl) | exact .inr (.inr rfl))) (sa_cons se_int sa_nil)) rfl)) sav_nil)))) (SV (se_bi (pe_callB cb_len rfl g.f_len rfl (sav_cons (SV (se_v rfl (by first | exact .inl rfl | exact .inr (.inl rfl) | exact .inr (.inr rfl)))) sav_nil))))))))) gok_name)
  (ss_one (s_app rfl (by first | exact .inl rfl | exact .inr (.inl rfl) | exact .inr (.inr rfl)) (se_tup (sa_cons (se_op opD_add (SV (se_ix xs.u1 (SV (SN (sn_lst (sa_cons se_str (sa_cons se_str (sa_cons se_str sa_nil)))))) (se_v rfl (by first | exact .inl rfl | exact .inr (.inl rfl) | exact .inr (.inr rfl))))) (SV (se_ix xs.u1 (SV (se_v rfl (by first | exact .inl rfl | exact .inr (.inl rfl) | exact .inr (.inr rfl)))) (se_v rfl (by first | exact .inl rfl | exact .inr (.inl rfl) | exact .inr (.inr rfl)))))) (sa_cons (se_bi (pe_callTy cb_tuple rfl g.f_tuple rfl (sav_cons (SV (se_v rfl (by first | exact .inl rfl | exact .inr (.inl rfl) | exact .inr (.inr rfl)))) sav_nil))) sa_nil)))))))))
  (ss_cons xs (s_if xs (st_cmp (opC_eq xs.u64) (SV (se_call ⟨(cal "_law_draw" _ rfl).at_⟩ xs rfl rfl (sa_cons (se_v rfl (by first | exact .inl rfl | exact .inr (.inl rfl) | exact .inr (.inr rfl))) (sa_cons se_int sa_nil)) rfl)) (SV se_int) rfl) (ss_one (s_rev rfl (by first | exact .inl rfl | exact .inr (.inl rfl) | exact .inr (.inr rfl)))) ss_nil)
  (ss_one (s_app rfl (by first | exact .inl rfl | exact .inr (.inl rfl) | exact .inr (.inr rfl)) (se_tup (sa_cons (se_ix xs.u1 (SV (se_v rfl (by first | exact .inl rfl | exact .inr (.inl rfl) | exact .inr (.inr rfl)))) (se_v rfl (by first | exact .inl rfl | exact .inr (.inl rfl) | exact .inr (.inr rfl)))) (sa_cons (se_bi (pe_callTy cb_tuple rfl g.f_tuple rfl (sav_cons (sv_b rfl (by first | exact .inl rfl | exact .inr (.inl rfl) | exact .inr (.inr rfl))) sav_nil))) sa_nil)))))))))
  (ss_one (s_ret (se_bi (pe_callTy cb_tuple rfl g.f_tuple rfl (sav_cons (sv_b rfl (by first | exact .inl rfl | exact .inr (.inl rfl) | exact .inr (.inr rfl))) sav_nil))))))))
theorem dn_f_law_types (X : K.In h) (G : h.Ns mainGlobals mg) (c : He.SaysD fa fn K) (g : Gx K mg) : Dn Pg w K mg (caK K tf) P "_law_types" f_law_types := by
  obtain ⟨fd, F⟩ := c.def_ 17 (d := d_f_law_types) rfl
  exact ⟨_, _, _, _, _, _, fd, ["box", "names", "found", "k", "makers", "m", "pool", "fields", "f"], ["box"], F, He.glo_ok X G (c.fact 17 (f := .glo "_law_types") rfl), sc_f_law_types, rfl, rfl, F.bindsN fun _ _ _ _ _ _ us hl => match us, hl with | [_], _ => rfl, fun base cdv A out s H E e n tb hc cal xs sl => dv_f_law_types g cal xs sl⟩
theorem sc_f_law_makers : FnScope ["types", "name", "row"] ["types", "name"] (defScope (top 23)) := ⟨rfl, rfl, rfl, by decide +kernel, rfl, by decide +kernel, by decide +kernel⟩
theorem dv_f_law_makers {base : Heap} {a : Addr} {cdv : Value} {A : Around} {out : List Env} {s : Shared} {H : Hp} {E : XK} {e : En} {n : Nat} (g : Gx K mg)
    (cal : ∀ g d, P g = some d → Callee (cx Pg w K mg base ["types", "name", "row"] "_law_makers" (defScope (top 23)) a cdv A out s H E) ca n (Ev.callN P n) g d.np) (xs : XS (cx Pg w K mg base ["types", "name", "row"] "_law_makers" (defScope (top 23)) a cdv A out s H E) (wE E) n) (sl : Slk (cx Pg w K mg base ["types", "name", "row"] "_law_makers" (defScope (top 23)) a cdv A out s H E) n) :
    PSs (cx Pg w K mg base ["types", "name", "row"] "_law_makers" (defScope (top 23)) a cdv A out s H E) (defBody (top 23)) (tS (ct (cx Pg w K mg base ["types", "name", "row"] "_law_makers" (defScope (top 23)) a cdv A out s H E) ca) (wE E) e (f_law_makers.body (Ev.callN P n))) :=
  (ss_cons xs (s_for xs (si_e (se_v rfl (by first | exact .inl rfl | exact .inr (.inl rfl) | exact .inr (.inr rfl)))) (pg_name xs.nd rfl (by first | exact .inl rfl | exact .inr rfl)) gok_name (ss_one (s_if xs (st_cmp (opC_eq xs.u64) (SV (se_ix xs.u1 (SV (se_v rfl (by first | exact .inl rfl | exact .inr (.inl rfl) | exact .inr (.inr rfl)))) se_int)) (SV (se_v rfl (by first | exact .inl rfl | exact .inr (.inl rfl) | exact .inr (.inr rfl)))) rfl) (ss_one (s_ret (se_ix xs.u1 (SV (se_v rfl (by first | exact .inl rfl | exact .inr (.inl rfl) | exact .inr (.inr rfl)))) se_int))) ss_nil)))
  (ss_one (s_ret (se_tup sa_nil))))
theorem dn_f_law_makers (X : K.In h) (G : h.Ns mainGlobals mg) (c : He.SaysD fa fn K) (g : Gx K mg) : Dn Pg w K mg (caK K tf) P "_law_makers" f_law_makers := by
  obtain ⟨fd, F⟩ := c.def_ 18 (d := d_f_law_makers) rfl
  exact ⟨_, _, _, _, _, _, fd, ["types", "name", "row"], ["types", "name"], F, He.glo_ok X G (c.fact 18 (f := .glo "_law_makers") rfl), sc_f_law_makers, rfl, rfl, F.bindsN fun _ _ _ _ _ _ us hl => match us, hl with | [_, _], _ => rfl, fun base cdv A out s H E e n tb hc cal xs sl => dv_f_law_makers g cal xs sl⟩
theorem sc_f_law_heights : FnScope ["types", "found", "turn", "name", "makers", "rows", "kind", "maker", "fields"] ["types"] (defScope (top 24)) := ⟨rfl, rfl, rfl, by decide +kernel, rfl, by decide +kernel, by decide +kernel⟩
theorem dv_f_law_heights {base : Heap} {a : Addr} {cdv : Value} {A : Around} {out : List Env} {s : Shared} {H : Hp} {E : XK} {e : En} {n : Nat} (g : Gx K mg)
    (cal : ∀ g d, P g = some d → Callee (cx Pg w K mg base ["types", "found", "turn", "name", "makers", "rows", "kind", "maker", "fields"] "_law_heights" (defScope (top 24)) a cdv A out s H E) ca n (Ev.callN P n) g d.np) (xs : XS (cx Pg w K mg base ["types", "found", "turn", "name", "makers", "rows", "kind", "maker", "fields"] "_law_heights" (defScope (top 24)) a cdv A out s H E) (wE E) n) (sl : Slk (cx Pg w K mg base ["types", "found", "turn", "name", "makers", "rows", "kind", "maker", "fields"] "_law_heights" (defScope (top 24)) a cdv A out s H E) n) :
    PSs (cx Pg w K mg base ["types", "found", "turn", "name", "makers", "rows", "kind", "maker", "fields"] "_law_heights" (defScope (top 24)) a cdv A out s H E) (defBody (top 24)) (tS (ct (cx Pg w K mg base ["types", "found", "turn", "name", "makers", "rows", "kind", "maker", "fields"] "_law_heights" (defScope (top 24)) a cdv A out s H E) ca) (wE E) e (f_law_heights.body (Ev.callN P n))) :=
  (ss_cons xs (s_own xs.nd rfl (by first | exact .inl rfl | exact .inr rfl) (sn_dic (fps := [(_, _)]) (sps_cons se_str se_int sps_nil)))
  (ss_cons xs (s_for xs (si_range1 rfl g.f_range (se_op opD_add (SV (se_bi (pe_callB cb_len rfl g.f_len rfl (sav_cons (SV (se_v rfl (by first | exact .inl rfl | exact .inr (.inl rfl) | exact .inr (.inr rfl)))) sav_nil)))) (SV se_int))) (pg_name xs.nd rfl (by first | exact .inl rfl | exact .inr rfl)) gok_name (ss_one (s_for xs (si_e (se_v rfl (by first | exact .inl rfl | exact .inr (.inl rfl) | exact .inr (.inr rfl)))) (pg_seq xs.calm (pgs_cons (pg_name xs.nd rfl (by first | exact .inl rfl | exact .inr rfl)) (pgs_cons (pg_name xs.nd rfl (by first | exact .inl rfl | exact .inr rfl)) pgs_nil))) (gok_seq rfl (gsok_cons gok_name (gsok_cons gok_name gsok_nil))) (ss_cons xs (s_asOf (SA (pa_comp1 (own := [("maker", 7), ("fields", 8)]) xs rfl rfl (si_e (se_v rfl (by first | exact .inl rfl | exact .inr (.inl rfl) | exact .inr (.inr rfl)))) (blkOk_by (by kernel_rfl)) (fun _ _ _ _ _ => (pg_seq xs.blk.calm (pgs_cons (pg_name xs.blk.nd rfl (by first | exact .inl rfl | exact .inr rfl)) (pgs_cons (pg_name xs.blk.nd rfl (by first | exact .inl rfl | exact .inr rfl)) pgs_nil)))) (gok_seq rfl (gsok_cons gok_name (gsok_cons gok_name gsok_nil))) (by decide) (fun _ _ _ _ _ => (st_cmp (opC_eq xs.blk.u64) (SV (se_bi (pe_callB cb_len rfl g.f_len rfl (sav_cons (SV (SN (sn_comp1 (own := [("kind", 6)]) xs.blk (si_e (se_v rfl (by first | exact .inl rfl | exact .inr (.inl rfl) | exact .inr (.inr rfl)))) (blkOk_by (by kernel_rfl)) (fun _ _ _ _ _ => (pg_name xs.blk.blk.nd rfl (by first | exact .inl rfl | exact .inr rfl))) gok_name (by decide) (fun _ _ _ _ _ => (st_cmp (opC_nin xs.blk.blk.u65) (SV (se_v rfl (by first | exact .inl rfl | exact .inr (.inl rfl) | exact .inr (.inr rfl)))) (sv_b rfl (by first | exact .inl rfl | exact .inr (.inl rfl) | exact .inr (.inr rfl))) rfl)) (fun _ _ _ _ _ => (se_v rfl (by first | exact .inl rfl | exact .inr (.inl rfl) | exact .inr (.inr rfl))))))) sav_nil)))) (SV se_int) rfl)) (fun _ _ _ _ _ => (se_op opD_add (SV (se_bi (pe_callB (cb_max xs.blk.calm) rfl g.f_max rfl (sav_cons (SV (se_op opD_add (SV (SN (sn_lst (sa_cons se_int sa_nil)))) (SV (SN (sn_comp0 (own := [("kind", 6)]) xs.blk (si_e (se_v rfl (by first | exact .inl rfl | exact .inr (.inl rfl) | exact .inr (.inr rfl)))) (blkOk_by (by kernel_rfl)) (fun _ _ _ _ _ => (pg_name xs.blk.blk.nd rfl (by first | exact .inl rfl | exact .inr rfl))) gok_name (by decide) (fun _ _ _ _ _ => (se_ix xs.blk.blk.u1 (sv_b rfl (by first | exact .inl rfl | exact .inr (.inl rfl) | exact .inr (.inr rfl))) (se_v rfl (by first | exact .inl rfl | exact .inr (.inl rfl) | exact .inr (.inr rfl)))))))))) sav_nil)))) (SV se_int))))) gok_name)
  (ss_one (s_if xs (st_cmp opC_gt (SV (se_bi (pe_callB cb_len rfl g.f_len rfl (sav_cons (SV (se_v rfl (by first | exact .inl rfl | exact .inr (.inl rfl) | exact .inr (.inr rfl)))) sav_nil)))) (SV se_int) rfl) (ss_one (s_dput xs.u1 xs rfl (by first | exact .inl rfl | exact .inr (.inl rfl) | exact .inr (.inr rfl)) (se_v rfl (by first | exact .inl rfl | exact .inr (.inl rfl) | exact .inr (.inr rfl))) (se_bi (pe_callB (cb_min xs.calm) rfl g.f_min rfl (sav_cons (SV (se_v rfl (by first | exact .inl rfl | exact .inr (.inl rfl) | exact .inr (.inr rfl)))) sav_nil))))) ss_nil))))))
  (ss_frz xs (ss_one (s_ret (se_v rfl (by first | exact .inl rfl | exact .inr (.inl rfl) | exact .inr (.inr rfl))))))))
theorem dn_f_law_heights (X : K.In h) (G : h.Ns mainGlobals mg) (c : He.SaysD fa fn K) (g : Gx K mg) : Dn Pg w K mg (caK K tf) P "_law_heights" f_law_heights := by
  obtain ⟨fd, F⟩ := c.def_ 19 (d := d_f_law_heights) rfl
  exact ⟨_, _, _, _, _, _, fd, ["types", "found", "turn", "name", "makers", "rows", "kind", "maker", "fields"], ["types"], F, He.glo_ok X G (c.fact 19 (f := .glo "_law_heights") rfl), sc_f_law_heights, rfl, rfl, F.bindsN fun _ _ _ _ _ _ us hl => match us, hl with | [_], _ => rfl, fun base cdv A out s H E e n tb hc cal xs sl => dv_f_law_heights g cal xs sl⟩
theorem sc_f_law_least : FnScope ["types", "heights", "name", "maker", "fields", "kind"] ["types", "heights", "name"] (defScope (top 25)) := ⟨rfl, rfl, rfl, by decide +kernel, rfl, by decide +kernel, by decide +kernel⟩
theorem dv_f_law_least {base : Heap} {a : Addr} {cdv : Value} {A : Around} {out : List Env} {s : Shared} {H : Hp} {E : XK} {e : En} {n : Nat} (g : Gx K mg)
    (cal : ∀ g d, P g = some d → Callee (cx Pg w K mg base ["types", "heights", "name", "maker", "fields", "kind"] "_law_least" (defScope (top 25)) a cdv A out s H E) ca n (Ev.callN P n) g d.np) (xs : XS (cx Pg w K mg base ["types", "heights", "name", "maker", "fields", "kind"] "_law_least" (defScope (top 25)) a cdv A out s H E) (wE E) n) (sl : Slk (cx Pg w K mg base ["types", "heights", "name", "maker", "fields", "kind"] "_law_least" (defScope (top 25)) a cdv A out s H E) n) :
    PSs (cx Pg w K mg base ["types", "heights", "name", "maker", "fields", "kind"] "_law_least" (defScope (top 25)) a cdv A out s H E) (defBody (top 25)) (tS (ct (cx Pg w K mg base ["types", "heights", "name", "maker", "fields", "kind"] "_law_least" (defScope (top 25)) a cdv A out s H E) ca) (wE E) e (f_law_least.body (Ev.callN P n))) :=
  (ss_cons xs (s_if xs (st_cmp (opC_eq xs.u64) (SV (se_v rfl (by first | exact .inl rfl | exact .inr (.inl rfl) | exact .inr (.inr rfl)))) (SV se_str) rfl) (ss_one (s_ret (se_tup (sa_cons se_str (sa_cons se_int sa_nil))))) ss_nil)
  (ss_cons xs (s_for xs (si_e (se_call ⟨(cal "_law_makers" _ rfl).at_⟩ xs rfl rfl (sa_cons (se_v rfl (by first | exact .inl rfl | exact .inr (.inl rfl) | exact .inr (.inr rfl))) (sa_cons (se_v rfl (by first | exact .inl rfl | exact .inr (.inl rfl) | exact .inr (.inr rfl))) sa_nil)) rfl)) (pg_seq xs.calm (pgs_cons (pg_name xs.nd rfl (by first | exact .inl rfl | exact .inr rfl)) (pgs_cons (pg_name xs.nd rfl (by first | exact .inl rfl | exact .inr rfl)) pgs_nil))) (gok_seq rfl (gsok_cons gok_name (gsok_cons gok_name gsok_nil))) (ss_one (s_if xs (st_cmp (opC_eq xs.u64) (SV (se_op opD_add (SV (se_bi (pe_callB (cb_max xs.calm) rfl g.f_max rfl (sav_cons (SV (se_op opD_add (SV (SN (sn_lst (sa_cons se_int sa_nil)))) (SV (SN (sn_comp0 (own := [("kind", 5)]) xs (si_e (se_v rfl (by first | exact .inl rfl | exact .inr (.inl rfl) | exact .inr (.inr rfl)))) (blkOk_by (by kernel_rfl)) (fun _ _ _ _ _ => (pg_name xs.blk.nd rfl (by first | exact .inl rfl | exact .inr rfl))) gok_name (by decide) (fun _ _ _ _ _ => (se_get2 xs.blk.u1 (SV (se_v rfl (by first | exact .inl rfl | exact .inr (.inl rfl) | exact .inr (.inr rfl)))) (se_v rfl (by first | exact .inl rfl | exact .inr (.inl rfl) | exact .inr (.inr rfl))) se_int ⟨rfl, rfl, rfl, rfl⟩))))))) sav_nil)))) (SV se_int))) (SV (se_ix xs.u1 (SV (se_v rfl (by first | exact .inl rfl | exact .inr (.inl rfl) | exact .inr (.inr rfl)))) (se_v rfl (by first | exact .inl rfl | exact .inr (.inl rfl) | exact .inr (.inr rfl))))) rfl) (ss_one (s_ret (se_tup (sa_cons se_str (sa_cons (se_v rfl (by first | exact .inl rfl | exact .inr (.inl rfl) | exact .inr (.inr rfl))) (sa_cons (se_bi (pe_callTy cb_tuple rfl g.f_tuple rfl (sav_cons (SV (SN (sn_comp0 (own := [("kind", 5)]) xs (si_e (se_v rfl (by first | exact .inl rfl | exact .inr (.inl rfl) | exact .inr (.inr rfl)))) (blkOk_by (by kernel_rfl)) (fun _ _ _ _ _ => (pg_name xs.blk.nd rfl (by first | exact .inl rfl | exact .inr rfl))) gok_name (by decide) (fun _ _ _ _ _ => (se_call ⟨(cal "_law_least" _ rfl).at_⟩ xs.blk rfl rfl (sa_cons (se_v rfl (by first | exact .inl rfl | exact .inr (.inl rfl) | exact .inr (.inr rfl))) (sa_cons (se_v rfl (by first | exact .inl rfl | exact .inr (.inl rfl) | exact .inr (.inr rfl))) (sa_cons (se_v rfl (by first | exact .inl rfl | exact .inr (.inl rfl) | exact .inr (.inr rfl))) sa_nil))) rfl))))) sav_nil))) sa_nil)))))) ss_nil)))
  (ss_one (s_ret se_non))))
theorem dn_f_law_least (X : K.In h) (G : h.Ns mainGlobals mg) (c : He.SaysD fa fn K) (g : Gx K mg) : Dn Pg w K mg (caK K tf) P "_law_least" f_law_least := by
  obtain ⟨fd, F⟩ := c.def_ 20 (d := d_f_law_least) rfl
  exact ⟨_, _, _, _, _, _, fd, ["types", "heights", "name", "maker", "fields", "kind"], ["types", "heights", "name"], F, He.glo_ok X G (c.fact 20 (f := .glo "_law_least") rfl), sc_f_law_least, rfl, rfl, F.bindsN fun _ _ _ _ _ _ us hl => match us, hl with | [_, _, _], _ => rfl, fun base cdv A out s H E e n tb hc cal xs sl => dv_f_law_least g cal xs sl⟩
theorem sc_f_law_height : FnScope ["value", "part"] ["value"] (defScope (top 26)) := ⟨rfl, rfl, rfl, by decide +kernel, rfl, by decide +kernel, by decide +kernel⟩
theorem dv_f_law_height {base : Heap} {a : Addr} {cdv : Value} {A : Around} {out : List Env} {s : Shared} {H : Hp} {E : XK} {e : En} {n : Nat} (g : Gx K mg)
    (cal : ∀ g d, P g = some d → Callee (cx Pg w K mg base ["value", "part"] "_law_height" (defScope (top 26)) a cdv A out s H E) ca n (Ev.callN P n) g d.np) (xs : XS (cx Pg w K mg base ["value", "part"] "_law_height" (defScope (top 26)) a cdv A out s H E) (wE E) n) (sl : Slk (cx Pg w K mg base ["value", "part"] "_law_height" (defScope (top 26)) a cdv A out s H E) n) :
    PSs (cx Pg w K mg base ["value", "part"] "_law_height" (defScope (top 26)) a cdv A out s H E) (defBody (top 26)) (tS (ct (cx Pg w K mg base ["value", "part"] "_law_height" (defScope (top 26)) a cdv A out s H E) ca) (wE E) e (f_law_height.body (Ev.callN P n))) :=
  (ss_cons xs (s_if xs (st_cmp (opC_eq xs.u64) (SV (se_ix xs.u1 (SV (se_v rfl (by first | exact .inl rfl | exact .inr (.inl rfl) | exact .inr (.inr rfl)))) se_int)) (SV se_str) rfl) (ss_one (s_ret se_int)) ss_nil)
  (ss_one (s_ret (se_op opD_add (SV (se_bi (pe_callB (cb_max xs.calm) rfl g.f_max rfl (sav_cons (SV (se_op opD_add (SV (SN (sn_lst (sa_cons se_int sa_nil)))) (SV (SN (sn_comp0 (own := [("part", 1)]) xs (si_e (se_ix xs.u1 (SV (se_v rfl (by first | exact .inl rfl | exact .inr (.inl rfl) | exact .inr (.inr rfl)))) se_int)) (blkOk_by (by kernel_rfl)) (fun _ _ _ _ _ => (pg_name xs.blk.nd rfl (by first | exact .inl rfl | exact .inr rfl))) gok_name (by decide) (fun _ _ _ _ _ => (se_call ⟨(cal "_law_height" _ rfl).at_⟩ xs.blk rfl rfl (sa_cons (se_v rfl (by first | exact .inl rfl | exact .inr (.inl rfl) | exact .inr (.inr rfl))) sa_nil) rfl))))))) sav_nil)))) (SV se_int)))))
theorem dn_f_law_height (X : K.In h) (G : h.Ns mainGlobals mg) (c : He.SaysD fa fn K) (g : Gx K mg) : Dn Pg w K mg (caK K tf) P "_law_height" f_law_height := by
  obtain ⟨fd, F⟩ := c.def_ 21 (d := d_f_law_height) rfl
  exact ⟨_, _, _, _, _, _, fd, ["value", "part"], ["value"], F, He.glo_ok X G (c.fact 21 (f := .glo "_law_height") rfl), sc_f_law_height, rfl, rfl, F.bindsN fun _ _ _ _ _ _ us hl => match us, hl with | [_], _ => rfl, fun base cdv A out s H E e n tb hc cal xs sl => dv_f_law_height g cal xs sl⟩
theorem sc_f_law_value : FnScope ["box", "types", "heights", "name", "depth", "makers", "maker", "fields", "kind"] ["box", "types", "heights", "name", "depth"] (defScope (top 27)) := ⟨rfl, rfl, rfl, by decide +kernel, rfl, by decide +kernel, by decide +kernel⟩
theorem dv_f_law_value {base : Heap} {a : Addr} {cdv : Value} {A : Around} {out : List Env} {s : Shared} {H : Hp} {E : XK} {e : En} {n : Nat} (g : Gx K mg)
    (cal : ∀ g d, P g = some d → Callee (cx Pg w K mg base ["box", "types", "heights", "name", "depth", "makers", "maker", "fields", "kind"] "_law_value" (defScope (top 27)) a cdv A out s H E) ca n (Ev.callN P n) g d.np) (xs : XS (cx Pg w K mg base ["box", "types", "heights", "name", "depth", "makers", "maker", "fields", "kind"] "_law_value" (defScope (top 27)) a cdv A out s H E) (wE E) n) (sl : Slk (cx Pg w K mg base ["box", "types", "heights", "name", "depth", "makers", "maker", "fields", "kind"] "_law_value" (defScope (top 27)) a cdv A out s H E) n) :
    PSs (cx Pg w K mg base ["box", "types", "heights", "name", "depth", "makers", "maker", "fields", "kind"] "_law_value" (defScope (top 27)) a cdv A out s H E) (defBody (top 27)) (tS (ct (cx Pg w K mg base ["box", "types", "heights", "name", "depth", "makers", "maker", "fields", "kind"] "_law_value" (defScope (top 27)) a cdv A out s H E) ca) (wE E) e (f_law_value.body (Ev.callN P n))) :=
  (ss_cons xs (s_if xs (st_cmp (opC_eq xs.u64) (SV (se_v rfl (by first | exact .inl rfl | exact .inr (.inl rfl) | exact .inr (.inr rfl)))) (SV se_str) rfl) (ss_one (s_ret (se_tup (sa_cons se_str (sa_cons (se_ix xs.u1 (SV (SN (sn_lst (sa_cons (se_op opD_sub (SV (se_call ⟨(cal "_law_draw" _ rfl).at_⟩ xs rfl rfl (sa_cons (se_v rfl (by first | exact .inl rfl | exact .inr (.inl rfl) | exact .inr (.inr rfl))) (sa_cons se_int sa_nil)) rfl)) (SV se_int)) (sa_cons (se_op opD_sub (SV (se_call ⟨(cal "_law_draw" _ rfl).at_⟩ xs rfl rfl (sa_cons (se_v rfl (by first | exact .inl rfl | exact .inr (.inl rfl) | exact .inr (.inr rfl))) (sa_cons se_int sa_nil)) rfl)) (SV se_int)) sa_nil))))) (se_call ⟨(cal "_law_draw" _ rfl).at_⟩ xs rfl rfl (sa_cons (se_v rfl (by first | exact .inl rfl | exact .inr (.inl rfl) | exact .inr (.inr rfl))) (sa_cons se_int sa_nil)) rfl)) sa_nil))))) ss_nil)
  (ss_cons xs (s_as xs.nd rfl (by first | exact .inl rfl | exact .inr rfl) (se_call ⟨(cal "_law_makers" _ rfl).at_⟩ xs rfl rfl (sa_cons (se_v rfl (by first | exact .inl rfl | exact .inr (.inl rfl) | exact .inr (.inr rfl))) (sa_cons (se_v rfl (by first | exact .inl rfl | exact .inr (.inl rfl) | exact .inr (.inr rfl))) sa_nil)) rfl))
  (ss_cons xs (s_asT (pg_seq xs.calm (pgs_cons (pg_name xs.nd rfl (by first | exact .inl rfl | exact .inr rfl)) (pgs_cons (pg_name xs.nd rfl (by first | exact .inl rfl | exact .inr rfl)) pgs_nil))) (gok_seq rfl (gsok_cons gok_name (gsok_cons gok_name gsok_nil))) (se_ix xs.u1 (SV (se_v rfl (by first | exact .inl rfl | exact .inr (.inl rfl) | exact .inr (.inr rfl)))) (se_op opD_mod (SV (se_bi (pe_callTy cb_int rfl g.f_int rfl (sav_cons (SV (se_call ⟨(cal "_law_draw" _ rfl).at_⟩ xs rfl rfl (sa_cons (se_v rfl (by first | exact .inl rfl | exact .inr (.inl rfl) | exact .inr (.inr rfl))) (sa_cons se_int sa_nil)) rfl)) sav_nil)))) (SV (se_bi (pe_callB cb_len rfl g.f_len rfl (sav_cons (SV (se_v rfl (by first | exact .inl rfl | exact .inr (.inl rfl) | exact .inr (.inr rfl)))) sav_nil)))))))
  (ss_cons xs (s_if xs (st_cmp opC_le (SV (se_v rfl (by first | exact .inl rfl | exact .inr (.inl rfl) | exact .inr (.inr rfl)))) (SV (se_ix xs.u1 (SV (se_v rfl (by first | exact .inl rfl | exact .inr (.inl rfl) | exact .inr (.inr rfl)))) (se_v rfl (by first | exact .inl rfl | exact .inr (.inl rfl) | exact .inr (.inr rfl))))) rfl) (ss_one (s_ret (se_call ⟨(cal "_law_least" _ rfl).at_⟩ xs rfl rfl (sa_cons (se_v rfl (by first | exact .inl rfl | exact .inr (.inl rfl) | exact .inr (.inr rfl))) (sa_cons (se_v rfl (by first | exact .inl rfl | exact .inr (.inl rfl) | exact .inr (.inr rfl))) (sa_cons (se_v rfl (by first | exact .inl rfl | exact .inr (.inl rfl) | exact .inr (.inr rfl))) sa_nil))) rfl))) ss_nil)
  (ss_one (s_ret (se_tup (sa_cons se_str (sa_cons (se_v rfl (by first | exact .inl rfl | exact .inr (.inl rfl) | exact .inr (.inr rfl))) (sa_cons (se_bi (pe_callTy cb_tuple rfl g.f_tuple rfl (sav_cons (SV (SN (sn_comp0 (own := [("kind", 8)]) xs (si_e (se_v rfl (by first | exact .inl rfl | exact .inr (.inl rfl) | exact .inr (.inr rfl)))) (blkOk_by (by kernel_rfl)) (fun _ _ _ _ _ => (pg_name xs.blk.nd rfl (by first | exact .inl rfl | exact .inr rfl))) gok_name (by decide) (fun _ _ _ _ _ => (se_call ⟨(cal "_law_value" _ rfl).at_⟩ xs.blk rfl rfl (sa_cons (se_v rfl (by first | exact .inl rfl | exact .inr (.inl rfl) | exact .inr (.inr rfl))) (sa_cons (se_v rfl (by first | exact .inl rfl | exact .inr (.inl rfl) | exact .inr (.inr rfl))) (sa_cons (se_v rfl (by first | exact .inl rfl | exact .inr (.inl rfl) | exact .inr (.inr rfl))) (sa_cons (se_v rfl (by first | exact .inl rfl | exact .inr (.inl rfl) | exact .inr (.inr rfl))) (sa_cons (se_op opD_sub (SV (se_v rfl (by first | exact .inl rfl | exact .inr (.inl rfl) | exact .inr (.inr rfl)))) (SV se_int)) sa_nil))))) rfl))))) sav_nil))) sa_nil))))))))))
theorem dn_f_law_value (X : K.In h) (G : h.Ns mainGlobals mg) (c : He.SaysD fa fn K) (g : Gx K mg) : Dn Pg w K mg (caK K tf) P "_law_value" f_law_value := by
  obtain ⟨fd, F⟩ := c.def_ 22 (d := d_f_law_value) rfl
  exact ⟨_, _, _, _, _, _, fd, ["box", "types", "heights", "name", "depth", "makers", "maker", "fields", "kind"], ["box", "types", "heights", "name", "depth"], F, He.glo_ok X G (c.fact 22 (f := .glo "_law_value") rfl), sc_f_law_value, rfl, rfl, F.bindsN fun _ _ _ _ _ _ us hl => match us, hl with | [_, _, _, _, _], _ => rfl, fun base cdv A out s H E e n tb hc cal xs sl => dv_f_law_value g cal xs sl⟩
theorem sc_f_law_value_text : FnScope ["value", "part"] ["value"] (defScope (top 28)) := ⟨rfl, rfl, rfl, by decide +kernel, rfl, by decide +kernel, by decide +kernel⟩
theorem dv_f_law_value_text {base : Heap} {a : Addr} {cdv : Value} {A : Around} {out : List Env} {s : Shared} {H : Hp} {E : XK} {e : En} {n : Nat} (g : Gx K mg)
    (cal : ∀ g d, P g = some d → Callee (cx Pg w K mg base ["value", "part"] "_law_value_text" (defScope (top 28)) a cdv A out s H E) ca n (Ev.callN P n) g d.np) (xs : XS (cx Pg w K mg base ["value", "part"] "_law_value_text" (defScope (top 28)) a cdv A out s H E) (wE E) n) (sl : Slk (cx Pg w K mg base ["value", "part"] "_law_value_text" (defScope (top 28)) a cdv A out s H E) n) :
    PSs (cx Pg w K mg base ["value", "part"] "_law_value_text" (defScope (top 28)) a cdv A out s H E) (defBody (top 28)) (tS (ct (cx Pg w K mg base ["value", "part"] "_law_value_text" (defScope (top 28)) a cdv A out s H E) ca) (wE E) e (f_law_value_text.body (Ev.callN P n))) :=
  (ss_cons xs (s_if xs (st_cmp (opC_eq xs.u64) (SV (se_ix xs.u1 (SV (se_v rfl (by first | exact .inl rfl | exact .inr (.inl rfl) | exact .inr (.inr rfl)))) se_int)) (SV se_str) rfl) (ss_one (s_ret (se_bi (pe_callTy cb_str rfl g.f_str rfl (sav_cons (SV (se_ix xs.u1 (SV (se_v rfl (by first | exact .inl rfl | exact .inr (.inl rfl) | exact .inr (.inr rfl)))) se_int)) sav_nil))))) ss_nil)
  (ss_cons xs (s_if xs (st_cmp (opC_eq xs.u64) (SV (se_bi (pe_callB cb_len rfl g.f_len rfl (sav_cons (SV (se_ix xs.u1 (SV (se_v rfl (by first | exact .inl rfl | exact .inr (.inl rfl) | exact .inr (.inr rfl)))) se_int)) sav_nil)))) (SV se_int) rfl) (ss_one (s_ret (se_ix xs.u1 (SV (se_v rfl (by first | exact .inl rfl | exact .inr (.inl rfl) | exact .inr (.inr rfl)))) se_int))) ss_nil)
  (ss_one (s_ret (se_op opD_add (SV (se_op opD_add (SV (se_op opD_add (SV (se_ix xs.u1 (SV (se_v rfl (by first | exact .inl rfl | exact .inr (.inl rfl) | exact .inr (.inr rfl)))) se_int)) (SV se_str))) (SV (se_join se_str (SV (SN (sn_comp0 (own := [("part", 1)]) xs (si_e (se_ix xs.u1 (SV (se_v rfl (by first | exact .inl rfl | exact .inr (.inl rfl) | exact .inr (.inr rfl)))) se_int)) (blkOk_by (by kernel_rfl)) (fun _ _ _ _ _ => (pg_name xs.blk.nd rfl (by first | exact .inl rfl | exact .inr rfl))) gok_name (by decide) (fun _ _ _ _ _ => (se_call ⟨(cal "_law_value_text" _ rfl).at_⟩ xs.blk rfl rfl (sa_cons (se_v rfl (by first | exact .inl rfl | exact .inr (.inl rfl) | exact .inr (.inr rfl))) sa_nil) rfl))))))))) (SV se_str))))))
theorem dn_f_law_value_text (X : K.In h) (G : h.Ns mainGlobals mg) (c : He.SaysD fa fn K) (g : Gx K mg) : Dn Pg w K mg (caK K tf) P "_law_value_text" f_law_value_text := by
  obtain ⟨fd, F⟩ := c.def_ 23 (d := d_f_law_value_text) rfl
  exact ⟨_, _, _, _, _, _, fd, ["value", "part"], ["value"], F, He.glo_ok X G (c.fact 23 (f := .glo "_law_value_text") rfl), sc_f_law_value_text, rfl, rfl, F.bindsN fun _ _ _ _ _ _ us hl => match us, hl with | [_], _ => rfl, fun base cdv A out s H E e n tb hc cal xs sl => dv_f_law_value_text g cal xs sl⟩
theorem sc_f_law_region : FnScope ["box", "types", "name", "depth", "kind", "low", "makers", "left", "maker", "fields", "field"] ["box", "types", "name", "depth"] (defScope (top 29)) := ⟨rfl, rfl, rfl, by decide +kernel, rfl, by decide +kernel, by decide +kernel⟩
theorem dv_f_law_region {base : Heap} {a : Addr} {cdv : Value} {A : Around} {out : List Env} {s : Shared} {H : Hp} {E : XK} {e : En} {n : Nat} (g : Gx K mg)
    (cal : ∀ g d, P g = some d → Callee (cx Pg w K mg base ["box", "types", "name", "depth", "kind", "low", "makers", "left", "maker", "fields", "field"] "_law_region" (defScope (top 29)) a cdv A out s H E) ca n (Ev.callN P n) g d.np) (xs : XS (cx Pg w K mg base ["box", "types", "name", "depth", "kind", "low", "makers", "left", "maker", "fields", "field"] "_law_region" (defScope (top 29)) a cdv A out s H E) (wE E) n) (sl : Slk (cx Pg w K mg base ["box", "types", "name", "depth", "kind", "low", "makers", "left", "maker", "fields", "field"] "_law_region" (defScope (top 29)) a cdv A out s H E) n) :
    PSs (cx Pg w K mg base ["box", "types", "name", "depth", "kind", "low", "makers", "left", "maker", "fields", "field"] "_law_region" (defScope (top 29)) a cdv A out s H E) (defBody (top 29)) (tS (ct (cx Pg w K mg base ["box", "types", "name", "depth", "kind", "low", "makers", "left", "maker", "fields", "field"] "_law_region" (defScope (top 29)) a cdv A out s H E) ca) (wE E) e (f_law_region.body (Ev.callN P n))) :=
  (ss_cons xs (s_as xs.nd rfl (by first | exact .inl rfl | exact .inr rfl) (se_call ⟨(cal "_law_draw" _ rfl).at_⟩ xs rfl rfl (sa_cons (se_v rfl (by first | exact .inl rfl | exact .inr (.inl rfl) | exact .inr (.inr rfl))) (sa_cons se_int sa_nil)) rfl))
  (ss_cons xs (s_if xs (PW.pt (sw_or (st_cmp (opC_eq xs.u64) (SV (se_v rfl (by first | exact .inl rfl | exact .inr (.inl rfl) | exact .inr (.inr rfl)))) (SV se_int) rfl) (sw_or1 (st_cmp (opC_eq xs.u64) (SV (se_v rfl (by first | exact .inl rfl | exact .inr (.inl rfl) | exact .inr (.inr rfl)))) (SV se_int) rfl)))) (ss_one (s_ret (se_tup (sa_cons se_str sa_nil)))) ss_nil)
  (ss_cons xs (s_if xs (st_cmp (opC_eq xs.u64) (SV (se_v rfl (by first | exact .inl rfl | exact .inr (.inl rfl) | exact .inr (.inr rfl)))) (SV se_str) rfl) (ss_cons xs (s_as xs.nd rfl (by first | exact .inl rfl | exact .inr rfl) (se_op opD_sub (SV (se_call ⟨(cal "_law_draw" _ rfl).at_⟩ xs rfl rfl (sa_cons (se_v rfl (by first | exact .inl rfl | exact .inr (.inl rfl) | exact .inr (.inr rfl))) (sa_cons se_int sa_nil)) rfl)) (SV se_int)))
  (ss_one (s_ret (se_tup (sa_cons se_str (sa_cons (se_v rfl (by first | exact .inl rfl | exact .inr (.inl rfl) | exact .inr (.inr rfl))) (sa_cons (se_op opD_add (SV (se_v rfl (by first | exact .inl rfl | exact .inr (.inl rfl) | exact .inr (.inr rfl)))) (SV (se_call ⟨(cal "_law_draw" _ rfl).at_⟩ xs rfl rfl (sa_cons (se_v rfl (by first | exact .inl rfl | exact .inr (.inl rfl) | exact .inr (.inr rfl))) (sa_cons se_int sa_nil)) rfl))) sa_nil))))))) ss_nil)
  (ss_cons xs (s_as xs.nd rfl (by first | exact .inl rfl | exact .inr rfl) (se_call ⟨(cal "_law_makers" _ rfl).at_⟩ xs rfl rfl (sa_cons (se_v rfl (by first | exact .inl rfl | exact .inr (.inl rfl) | exact .inr (.inr rfl))) (sa_cons (se_v rfl (by first | exact .inl rfl | exact .inr (.inl rfl) | exact .inr (.inr rfl))) sa_nil)) rfl))
  (ss_cons xs (s_if xs (PW.pt (sw_and (st_cmp (opC_eq xs.u64) (SV (se_v rfl (by first | exact .inl rfl | exact .inr (.inl rfl) | exact .inr (.inr rfl)))) (SV se_int) rfl) (sw_and1 (st_cmp opC_gt (SV (se_bi (pe_callB cb_len rfl g.f_len rfl (sav_cons (SV (se_v rfl (by first | exact .inl rfl | exact .inr (.inl rfl) | exact .inr (.inr rfl)))) sav_nil)))) (SV se_int) rfl)))) (ss_cons xs (s_asOf (SA (pa_comp1 (own := [("maker", 8), ("fields", 9)]) xs rfl rfl (si_e (se_v rfl (by first | exact .inl rfl | exact .inr (.inl rfl) | exact .inr (.inr rfl)))) (blkOk_by (by kernel_rfl)) (fun _ _ _ _ _ => (pg_seq xs.blk.calm (pgs_cons (pg_name xs.blk.nd rfl (by first | exact .inl rfl | exact .inr rfl)) (pgs_cons (pg_name xs.blk.nd rfl (by first | exact .inl rfl | exact .inr rfl)) pgs_nil)))) (gok_seq rfl (gsok_cons gok_name (gsok_cons gok_name gsok_nil))) (by decide) (fun _ _ _ _ _ => (st_cmp (opC_eq xs.blk.u64) (SV (se_call ⟨(cal "_law_draw" _ rfl).at_⟩ xs.blk rfl rfl (sa_cons (se_v rfl (by first | exact .inl rfl | exact .inr (.inl rfl) | exact .inr (.inr rfl))) (sa_cons se_int sa_nil)) rfl)) (SV se_int) rfl)) (fun _ _ _ _ _ => (se_v rfl (by first | exact .inl rfl | exact .inr (.inl rfl) | exact .inr (.inr rfl)))))) gok_name)
  (ss_one (s_if xs (st_ch opC_lt opC_lt (SV se_int) (SV (se_bi (pe_callB cb_len rfl g.f_len rfl (sav_cons (SV (se_v rfl (by first | exact .inl rfl | exact .inr (.inl rfl) | exact .inr (.inr rfl)))) sav_nil)))) (SV (se_bi (pe_callB cb_len rfl g.f_len rfl (sav_cons (SV (se_v rfl (by first | exact .inl rfl | exact .inr (.inl rfl) | exact .inr (.inr rfl)))) sav_nil))))) (ss_one (s_ret (se_tup (sa_cons se_str (sa_cons (se_bi (pe_callTy cb_tuple rfl g.f_tuple rfl (sav_cons (SV (se_v rfl (by first | exact .inl rfl | exact .inr (.inl rfl) | exact .inr (.inr rfl)))) sav_nil))) sa_nil))))) ss_nil))) ss_nil)
  (ss_cons xs (s_asT (pg_seq xs.calm (pgs_cons (pg_name xs.nd rfl (by first | exact .inl rfl | exact .inr rfl)) (pgs_cons (pg_name xs.nd rfl (by first | exact .inl rfl | exact .inr rfl)) pgs_nil))) (gok_seq rfl (gsok_cons gok_name (gsok_cons gok_name gsok_nil))) (se_ix xs.u1 (SV (se_v rfl (by first | exact .inl rfl | exact .inr (.inl rfl) | exact .inr (.inr rfl)))) (se_op opD_mod (SV (se_bi (pe_callTy cb_int rfl g.f_int rfl (sav_cons (SV (se_call ⟨(cal "_law_draw" _ rfl).at_⟩ xs rfl rfl (sa_cons (se_v rfl (by first | exact .inl rfl | exact .inr (.inl rfl) | exact .inr (.inr rfl))) (sa_cons se_int sa_nil)) rfl)) sav_nil)))) (SV (se_bi (pe_callB cb_len rfl g.f_len rfl (sav_cons (SV (se_v rfl (by first | exact .inl rfl | exact .inr (.inl rfl) | exact .inr (.inr rfl)))) sav_nil)))))))
  (ss_one (s_ret (se_tup (sa_cons se_str (sa_cons (se_v rfl (by first | exact .inl rfl | exact .inr (.inl rfl) | exact .inr (.inr rfl))) (sa_cons (se_bi (pe_callTy cb_tuple rfl g.f_tuple rfl (sav_cons (SV (SN (sn_comp0 (own := [("field", 10)]) xs (si_e (se_v rfl (by first | exact .inl rfl | exact .inr (.inl rfl) | exact .inr (.inr rfl)))) (blkOk_by (by kernel_rfl)) (fun _ _ _ _ _ => (pg_name xs.blk.nd rfl (by first | exact .inl rfl | exact .inr rfl))) gok_name (by decide) (fun _ _ _ _ _ => (se_call ⟨(cal "_law_region" _ rfl).at_⟩ xs.blk rfl rfl (sa_cons (se_v rfl (by first | exact .inl rfl | exact .inr (.inl rfl) | exact .inr (.inr rfl))) (sa_cons (se_v rfl (by first | exact .inl rfl | exact .inr (.inl rfl) | exact .inr (.inr rfl))) (sa_cons (se_v rfl (by first | exact .inl rfl | exact .inr (.inl rfl) | exact .inr (.inr rfl))) (sa_cons (se_op opD_sub (SV (se_v rfl (by first | exact .inl rfl | exact .inr (.inl rfl) | exact .inr (.inr rfl)))) (SV se_int)) sa_nil)))) rfl))))) sav_nil))) sa_nil))))))))))))
theorem dn_f_law_region (X : K.In h) (G : h.Ns mainGlobals mg) (c : He.SaysD fa fn K) (g : Gx K mg) : Dn Pg w K mg (caK K tf) P "_law_region" f_law_region := by
  obtain ⟨fd, F⟩ := c.def_ 24 (d := d_f_law_region) rfl
  exact ⟨_, _, _, _, _, _, fd, ["box", "types", "name", "depth", "kind", "low", "makers", "left", "maker", "fields", "field"], ["box", "types", "name", "depth"], F, He.glo_ok X G (c.fact 24 (f := .glo "_law_region") rfl), sc_f_law_region, rfl, rfl, F.bindsN fun _ _ _ _ _ _ us hl => match us, hl with | [_, _, _, _], _ => rfl, fun base cdv A out s H E e n tb hc cal xs sl => dv_f_law_region g cal xs sl⟩
theorem sc_f_law_holds : FnScope ["region", "value", "k"] ["region", "value"] (defScope (top 30)) := ⟨rfl, rfl, rfl, by decide +kernel, rfl, by decide +kernel, by decide +kernel⟩
theorem dv_f_law_holds {base : Heap} {a : Addr} {cdv : Value} {A : Around} {out : List Env} {s : Shared} {H : Hp} {E : XK} {e : En} {n : Nat} (g : Gx K mg)
    (cal : ∀ g d, P g = some d → Callee (cx Pg w K mg base ["region", "value", "k"] "_law_holds" (defScope (top 30)) a cdv A out s H E) ca n (Ev.callN P n) g d.np) (xs : XS (cx Pg w K mg base ["region", "value", "k"] "_law_holds" (defScope (top 30)) a cdv A out s H E) (wE E) n) (sl : Slk (cx Pg w K mg base ["region", "value", "k"] "_law_holds" (defScope (top 30)) a cdv A out s H E) n) :
    PSs (cx Pg w K mg base ["region", "value", "k"] "_law_holds" (defScope (top 30)) a cdv A out s H E) (defBody (top 30)) (tS (ct (cx Pg w K mg base ["region", "value", "k"] "_law_holds" (defScope (top 30)) a cdv A out s H E) ca) (wE E) e (f_law_holds.body (Ev.callN P n))) :=
  (ss_cons xs (s_if xs (st_cmp (opC_eq xs.u64) (SV (se_ix xs.u1 (SV (se_v rfl (by first | exact .inl rfl | exact .inr (.inl rfl) | exact .inr (.inr rfl)))) se_int)) (SV se_str) rfl) (ss_one (s_ret se_bl)) ss_nil)
  (ss_cons xs (s_if xs (st_cmp (opC_eq xs.u64) (SV (se_ix xs.u1 (SV (se_v rfl (by first | exact .inl rfl | exact .inr (.inl rfl) | exact .inr (.inr rfl)))) se_int)) (SV se_str) rfl) (ss_one (s_ret (se_ch opC_le opC_le (SV (se_ix xs.u1 (SV (se_v rfl (by first | exact .inl rfl | exact .inr (.inl rfl) | exact .inr (.inr rfl)))) se_int)) (SV (se_ix xs.u1 (SV (se_v rfl (by first | exact .inl rfl | exact .inr (.inl rfl) | exact .inr (.inr rfl)))) se_int)) (SV (se_ix xs.u1 (SV (se_v rfl (by first | exact .inl rfl | exact .inr (.inl rfl) | exact .inr (.inr rfl)))) se_int))))) ss_nil)
  (ss_cons xs (s_if xs (st_cmp (opC_eq xs.u64) (SV (se_ix xs.u1 (SV (se_v rfl (by first | exact .inl rfl | exact .inr (.inl rfl) | exact .inr (.inr rfl)))) se_int)) (SV se_str) rfl) (ss_one (s_ret (se_cmp (opC_nin xs.u65) (SV (se_ix xs.u1 (SV (se_v rfl (by first | exact .inl rfl | exact .inr (.inl rfl) | exact .inr (.inr rfl)))) se_int)) (SV (se_ix xs.u1 (SV (se_v rfl (by first | exact .inl rfl | exact .inr (.inl rfl) | exact .inr (.inr rfl)))) se_int)) rfl))) ss_nil)
  (ss_cons xs (s_if xs (st_cmp (opC_ne xs.u64) (SV (se_ix xs.u1 (SV (se_v rfl (by first | exact .inl rfl | exact .inr (.inl rfl) | exact .inr (.inr rfl)))) se_int)) (SV (se_ix xs.u1 (SV (se_v rfl (by first | exact .inl rfl | exact .inr (.inl rfl) | exact .inr (.inr rfl)))) se_int)) rfl) (ss_one (s_ret se_bl)) ss_nil)
  (ss_cons xs (s_for xs (si_range1 rfl g.f_range (se_bi (pe_callB cb_len rfl g.f_len rfl (sav_cons (SV (se_ix xs.u1 (SV (se_v rfl (by first | exact .inl rfl | exact .inr (.inl rfl) | exact .inr (.inr rfl)))) se_int)) sav_nil)))) (pg_name xs.nd rfl (by first | exact .inl rfl | exact .inr rfl)) gok_name (ss_one (s_if xs (st_not (st_e (SV (se_call ⟨(cal "_law_holds" _ rfl).at_⟩ xs rfl rfl (sa_cons (se_ix xs.u1 (SV (se_ix xs.u1 (SV (se_v rfl (by first | exact .inl rfl | exact .inr (.inl rfl) | exact .inr (.inr rfl)))) se_int)) (se_v rfl (by first | exact .inl rfl | exact .inr (.inl rfl) | exact .inr (.inr rfl)))) (sa_cons (se_ix xs.u1 (SV (se_ix xs.u1 (SV (se_v rfl (by first | exact .inl rfl | exact .inr (.inl rfl) | exact .inr (.inr rfl)))) se_int)) (se_v rfl (by first | exact .inl rfl | exact .inr (.inl rfl) | exact .inr (.inr rfl)))) sa_nil)) rfl)))) (ss_one (s_ret se_bl)) ss_nil)))
  (ss_one (s_ret se_bl)))))))
theorem dn_f_law_holds (X : K.In h) (G : h.Ns mainGlobals mg) (c : He.SaysD fa fn K) (g : Gx K mg) : Dn Pg w K mg (caK K tf) P "_law_holds" f_law_holds := by
  obtain ⟨fd, F⟩ := c.def_ 25 (d := d_f_law_holds) rfl
  exact ⟨_, _, _, _, _, _, fd, ["region", "value", "k"], ["region", "value"], F, He.glo_ok X G (c.fact 25 (f := .glo "_law_holds") rfl), sc_f_law_holds, rfl, rfl, F.bindsN fun _ _ _ _ _ _ us hl => match us, hl with | [_, _], _ => rfl, fun base cdv A out s H E e n tb hc cal xs sl => dv_f_law_holds g cal xs sl⟩
theorem sc_f_law_plain_simple : FnScope ["box", "types", "name", "depth", "low", "makers", "maker", "fields", "field"] ["box", "types", "name", "depth"] (defScope (top 31)) := ⟨rfl, rfl, rfl, by decide +kernel, rfl, by decide +kernel, by decide +kernel⟩
theorem dv_f_law_plain_simple {base : Heap} {a : Addr} {cdv : Value} {A : Around} {out : List Env} {s : Shared} {H : Hp} {E : XK} {e : En} {n : Nat} (g : Gx K mg)
    (cal : ∀ g d, P g = some d → Callee (cx Pg w K mg base ["box", "types", "name", "depth", "low", "makers", "maker", "fields", "field"] "_law_plain_simple" (defScope (top 31)) a cdv A out s H E) ca n (Ev.callN P n) g d.np) (xs : XS (cx Pg w K mg base ["box", "types", "name", "depth", "low", "makers", "maker", "fields", "field"] "_law_plain_simple" (defScope (top 31)) a cdv A out s H E) (wE E) n) (sl : Slk (cx Pg w K mg base ["box", "types", "name", "depth", "low", "makers", "maker", "fields", "field"] "_law_plain_simple" (defScope (top 31)) a cdv A out s H E) n) :
    PSs (cx Pg w K mg base ["box", "types", "name", "depth", "low", "makers", "maker", "fields", "field"] "_law_plain_simple" (defScope (top 31)) a cdv A out s H E) (defBody (top 31)) (tS (ct (cx Pg w K mg base ["box", "types", "name", "depth", "low", "makers", "maker", "fields", "field"] "_law_plain_simple" (defScope (top 31)) a cdv A out s H E) ca) (wE E) e (f_law_plain_simple.body (Ev.callN P n))) :=
  (ss_cons xs (s_if xs (PW.pt (sw_or (st_cmp (opC_eq xs.u64) (SV (se_v rfl (by first | exact .inl rfl | exact .inr (.inl rfl) | exact .inr (.inr rfl)))) (SV se_int) rfl) (sw_or1 (st_cmp (opC_eq xs.u64) (SV (se_call ⟨(cal "_law_draw" _ rfl).at_⟩ xs rfl rfl (sa_cons (se_v rfl (by first | exact .inl rfl | exact .inr (.inl rfl) | exact .inr (.inr rfl))) (sa_cons se_int sa_nil)) rfl)) (SV se_int) rfl)))) (ss_one (s_ret (se_tup (sa_cons se_str sa_nil)))) ss_nil)
  (ss_cons xs (s_if xs (st_cmp (opC_eq xs.u64) (SV (se_v rfl (by first | exact .inl rfl | exact .inr (.inl rfl) | exact .inr (.inr rfl)))) (SV se_str) rfl) (ss_cons xs (s_as xs.nd rfl (by first | exact .inl rfl | exact .inr rfl) (se_op opD_sub (SV (se_call ⟨(cal "_law_draw" _ rfl).at_⟩ xs rfl rfl (sa_cons (se_v rfl (by first | exact .inl rfl | exact .inr (.inl rfl) | exact .inr (.inr rfl))) (sa_cons se_int sa_nil)) rfl)) (SV se_int)))
  (ss_one (s_ret (se_tup (sa_cons se_str (sa_cons (se_v rfl (by first | exact .inl rfl | exact .inr (.inl rfl) | exact .inr (.inr rfl))) (sa_cons (se_op opD_add (SV (se_v rfl (by first | exact .inl rfl | exact .inr (.inl rfl) | exact .inr (.inr rfl)))) (SV (se_call ⟨(cal "_law_draw" _ rfl).at_⟩ xs rfl rfl (sa_cons (se_v rfl (by first | exact .inl rfl | exact .inr (.inl rfl) | exact .inr (.inr rfl))) (sa_cons se_int sa_nil)) rfl))) sa_nil))))))) ss_nil)
  (ss_cons xs (s_as xs.nd rfl (by first | exact .inl rfl | exact .inr rfl) (se_call ⟨(cal "_law_makers" _ rfl).at_⟩ xs rfl rfl (sa_cons (se_v rfl (by first | exact .inl rfl | exact .inr (.inl rfl) | exact .inr (.inr rfl))) (sa_cons (se_v rfl (by first | exact .inl rfl | exact .inr (.inl rfl) | exact .inr (.inr rfl))) sa_nil)) rfl))
  (ss_cons xs (s_asT (pg_seq xs.calm (pgs_cons (pg_name xs.nd rfl (by first | exact .inl rfl | exact .inr rfl)) (pgs_cons (pg_name xs.nd rfl (by first | exact .inl rfl | exact .inr rfl)) pgs_nil))) (gok_seq rfl (gsok_cons gok_name (gsok_cons gok_name gsok_nil))) (se_ix xs.u1 (SV (se_v rfl (by first | exact .inl rfl | exact .inr (.inl rfl) | exact .inr (.inr rfl)))) (se_op opD_mod (SV (se_bi (pe_callTy cb_int rfl g.f_int rfl (sav_cons (SV (se_call ⟨(cal "_law_draw" _ rfl).at_⟩ xs rfl rfl (sa_cons (se_v rfl (by first | exact .inl rfl | exact .inr (.inl rfl) | exact .inr (.inr rfl))) (sa_cons se_int sa_nil)) rfl)) sav_nil)))) (SV (se_bi (pe_callB cb_len rfl g.f_len rfl (sav_cons (SV (se_v rfl (by first | exact .inl rfl | exact .inr (.inl rfl) | exact .inr (.inr rfl)))) sav_nil)))))))
  (ss_one (s_ret (se_tup (sa_cons se_str (sa_cons (se_v rfl (by first | exact .inl rfl | exact .inr (.inl rfl) | exact .inr (.inr rfl))) (sa_cons (se_bi (pe_callTy cb_tuple rfl g.f_tuple rfl (sav_cons (SV (SN (sn_comp0 (own := [("field", 8)]) xs (si_e (se_v rfl (by first | exact .inl rfl | exact .inr (.inl rfl) | exact .inr (.inr rfl)))) (blkOk_by (by kernel_rfl)) (fun _ _ _ _ _ => (pg_name xs.blk.nd rfl (by first | exact .inl rfl | exact .inr rfl))) gok_name (by decide) (fun _ _ _ _ _ => (se_call ⟨(cal "_law_plain_simple" _ rfl).at_⟩ xs.blk rfl rfl (sa_cons (se_v rfl (by first | exact .inl rfl | exact .inr (.inl rfl) | exact .inr (.inr rfl))) (sa_cons (se_v rfl (by first | exact .inl rfl | exact .inr (.inl rfl) | exact .inr (.inr rfl))) (sa_cons (se_v rfl (by first | exact .inl rfl | exact .inr (.inl rfl) | exact .inr (.inr rfl))) (sa_cons (se_op opD_sub (SV (se_v rfl (by first | exact .inl rfl | exact .inr (.inl rfl) | exact .inr (.inr rfl)))) (SV se_int)) sa_nil)))) rfl))))) sav_nil))) sa_nil))))))))))
theorem dn_f_law_plain_simple (X : K.In h) (G : h.Ns mainGlobals mg) (c : He.SaysD fa fn K) (g : Gx K mg) : Dn Pg w K mg (caK K tf) P "_law_plain_simple" f_law_plain_simple := by
  obtain ⟨fd, F⟩ := c.def_ 26 (d := d_f_law_plain_simple) rfl
  exact ⟨_, _, _, _, _, _, fd, ["box", "types", "name", "depth", "low", "makers", "maker", "fields", "field"], ["box", "types", "name", "depth"], F, He.glo_ok X G (c.fact 26 (f := .glo "_law_plain_simple") rfl), sc_f_law_plain_simple, rfl, rfl, F.bindsN fun _ _ _ _ _ _ us hl => match us, hl with | [_, _, _, _], _ => rfl, fun base cdv A out s H E e n tb hc cal xs sl => dv_f_law_plain_simple g cal xs sl⟩
theorem sc_f_law_least_in : FnScope ["types", "heights", "name", "region", "other", "makers", "maker", "fields", "k", "rows", "kind", "least", "row", "size"] ["types", "heights", "name", "region"] (defScope (top 32)) := ⟨rfl, rfl, rfl, by decide +kernel, rfl, by decide +kernel, by decide +kernel⟩
theorem dv_f_law_least_in {base : Heap} {a : Addr} {cdv : Value} {A : Around} {out : List Env} {s : Shared} {H : Hp} {E : XK} {e : En} {n : Nat} (g : Gx K mg)
    (cal : ∀ g d, P g = some d → Callee (cx Pg w K mg base ["types", "heights", "name", "region", "other", "makers", "maker", "fields", "k", "rows", "kind", "least", "row", "size"] "_law_least_in" (defScope (top 32)) a cdv A out s H E) ca n (Ev.callN P n) g d.np) (xs : XS (cx Pg w K mg base ["types", "heights", "name", "region", "other", "makers", "maker", "fields", "k", "rows", "kind", "least", "row", "size"] "_law_least_in" (defScope (top 32)) a cdv A out s H E) (wE E) n) (sl : Slk (cx Pg w K mg base ["types", "heights", "name", "region", "other", "makers", "maker", "fields", "k", "rows", "kind", "least", "row", "size"] "_law_least_in" (defScope (top 32)) a cdv A out s H E) n) :
    PSs (cx Pg w K mg base ["types", "heights", "name", "region", "other", "makers", "maker", "fields", "k", "rows", "kind", "least", "row", "size"] "_law_least_in" (defScope (top 32)) a cdv A out s H E) (defBody (top 32)) (tS (ct (cx Pg w K mg base ["types", "heights", "name", "region", "other", "makers", "maker", "fields", "k", "rows", "kind", "least", "row", "size"] "_law_least_in" (defScope (top 32)) a cdv A out s H E) ca) (wE E) e (f_law_least_in.body (Ev.callN P n))) :=
  (ss_cons xs (s_if xs (st_cmp (opC_eq xs.u64) (SV (se_ix xs.u1 (SV (se_v rfl (by first | exact .inl rfl | exact .inr (.inl rfl) | exact .inr (.inr rfl)))) se_int)) (SV se_str) rfl) (ss_one (s_ret (se_call ⟨(cal "_law_least" _ rfl).at_⟩ xs rfl rfl (sa_cons (se_v rfl (by first | exact .inl rfl | exact .inr (.inl rfl) | exact .inr (.inr rfl))) (sa_cons (se_v rfl (by first | exact .inl rfl | exact .inr (.inl rfl) | exact .inr (.inr rfl))) (sa_cons (se_v rfl (by first | exact .inl rfl | exact .inr (.inl rfl) | exact .inr (.inr rfl))) sa_nil))) rfl))) ss_nil)
  (ss_cons xs (s_if xs (st_cmp (opC_eq xs.u64) (SV (se_ix xs.u1 (SV (se_v rfl (by first | exact .inl rfl | exact .inr (.inl rfl) | exact .inr (.inr rfl)))) se_int)) (SV se_str) rfl) (ss_cons xs (s_if xs (st_ch opC_le opC_le (SV (se_ix xs.u1 (SV (se_v rfl (by first | exact .inl rfl | exact .inr (.inl rfl) | exact .inr (.inr rfl)))) se_int)) (SV se_int) (SV (se_ix xs.u1 (SV (se_v rfl (by first | exact .inl rfl | exact .inr (.inl rfl) | exact .inr (.inr rfl)))) se_int))) (ss_one (s_ret (se_tup (sa_cons se_str (sa_cons se_int sa_nil))))) ss_nil)
  (ss_one (s_ret (se_tup (sa_cons se_str (sa_cons (se_ix xs.u1 (SV (SN (sn_lst (sa_cons (se_ix xs.u1 (SV (se_v rfl (by first | exact .inl rfl | exact .inr (.inl rfl) | exact .inr (.inr rfl)))) se_int) (sa_cons (se_ix xs.u1 (SV (se_v rfl (by first | exact .inl rfl | exact .inr (.inl rfl) | exact .inr (.inr rfl)))) se_int) sa_nil))))) (se_bi (pe_callTy cb_int rfl g.f_int rfl (sav_cons (SV (se_cmp opC_lt (SV (se_ix xs.u1 (SV (se_v rfl (by first | exact .inl rfl | exact .inr (.inl rfl) | exact .inr (.inr rfl)))) se_int)) (SV se_int) rfl)) sav_nil)))) sa_nil)))))) ss_nil)
  (ss_cons xs (s_if xs (st_cmp (opC_eq xs.u64) (SV (se_ix xs.u1 (SV (se_v rfl (by first | exact .inl rfl | exact .inr (.inl rfl) | exact .inr (.inr rfl)))) se_int)) (SV se_str) rfl) (ss_one (s_for xs (si_e (se_v rfl (by first | exact .inl rfl | exact .inr (.inl rfl) | exact .inr (.inr rfl)))) (pg_seq xs.calm (pgs_cons (pg_name xs.nd rfl (by first | exact .inl rfl | exact .inr rfl)) (pgs_cons (pg_name xs.nd rfl (by first | exact .inl rfl | exact .inr rfl)) pgs_nil))) (gok_seq rfl (gsok_cons gok_name (gsok_cons gok_name gsok_nil))) (ss_one (s_for xs (si_e (se_v rfl (by first | exact .inl rfl | exact .inr (.inl rfl) | exact .inr (.inr rfl)))) (pg_seq xs.calm (pgs_cons (pg_name xs.nd rfl (by first | exact .inl rfl | exact .inr rfl)) (pgs_cons (pg_name xs.nd rfl (by first | exact .inl rfl | exact .inr rfl)) pgs_nil))) (gok_seq rfl (gsok_cons gok_name (gsok_cons gok_name gsok_nil))) (ss_one (s_if xs (st_cmp (opC_eq xs.u64) (SV (se_v rfl (by first | exact .inl rfl | exact .inr (.inl rfl) | exact .inr (.inr rfl)))) (SV (se_ix xs.u1 (SV (se_v rfl (by first | exact .inl rfl | exact .inr (.inl rfl) | exact .inr (.inr rfl)))) se_int)) rfl) (ss_one (s_ret (se_tup (sa_cons se_str (sa_cons (se_v rfl (by first | exact .inl rfl | exact .inr (.inl rfl) | exact .inr (.inr rfl))) (sa_cons (se_bi (pe_callTy cb_tuple rfl g.f_tuple rfl (sav_cons (SV (SN (sn_comp0 (own := [("k", 8)]) xs (si_range1 rfl g.f_range (se_bi (pe_callB cb_len rfl g.f_len rfl (sav_cons (SV (se_v rfl (by first | exact .inl rfl | exact .inr (.inl rfl) | exact .inr (.inr rfl)))) sav_nil)))) (blkOk_by (by kernel_rfl)) (fun _ _ _ _ _ => (pg_name xs.blk.nd rfl (by first | exact .inl rfl | exact .inr rfl))) gok_name (by decide) (fun _ _ _ _ _ => (se_call ⟨(cal "_law_least_in" _ rfl).at_⟩ xs.blk rfl rfl (sa_cons (se_v rfl (by first | exact .inl rfl | exact .inr (.inl rfl) | exact .inr (.inr rfl))) (sa_cons (se_v rfl (by first | exact .inl rfl | exact .inr (.inl rfl) | exact .inr (.inr rfl))) (sa_cons (se_ix xs.blk.u1 (SV (se_v rfl (by first | exact .inl rfl | exact .inr (.inl rfl) | exact .inr (.inr rfl)))) (se_v rfl (by first | exact .inl rfl | exact .inr (.inl rfl) | exact .inr (.inr rfl)))) (sa_cons (se_ix xs.blk.u1 (SV (se_ix xs.blk.u1 (SV (se_v rfl (by first | exact .inl rfl | exact .inr (.inl rfl) | exact .inr (.inr rfl)))) se_int)) (se_v rfl (by first | exact .inl rfl | exact .inr (.inl rfl) | exact .inr (.inr rfl)))) sa_nil)))) rfl))))) sav_nil))) sa_nil)))))) ss_nil)))))) ss_nil)
  (ss_cons xs (s_own xs.nd rfl (by first | exact .inl rfl | exact .inr rfl) (sn_lst sa_nil))
  (ss_cons xs (s_for xs (si_e (se_call ⟨(cal "_law_makers" _ rfl).at_⟩ xs rfl rfl (sa_cons (se_v rfl (by first | exact .inl rfl | exact .inr (.inl rfl) | exact .inr (.inr rfl))) (sa_cons (se_v rfl (by first | exact .inl rfl | exact .inr (.inl rfl) | exact .inr (.inr rfl))) sa_nil)) rfl)) (pg_seq xs.calm (pgs_cons (pg_name xs.nd rfl (by first | exact .inl rfl | exact .inr rfl)) (pgs_cons (pg_name xs.nd rfl (by first | exact .inl rfl | exact .inr rfl)) pgs_nil))) (gok_seq rfl (gsok_cons gok_name (gsok_cons gok_name gsok_nil))) (ss_one (s_if xs (st_cmp (opC_nin xs.u65) (SV (se_v rfl (by first | exact .inl rfl | exact .inr (.inl rfl) | exact .inr (.inr rfl)))) (SV (se_ix xs.u1 (SV (se_v rfl (by first | exact .inl rfl | exact .inr (.inl rfl) | exact .inr (.inr rfl)))) se_int)) rfl) (ss_one (s_app rfl (by first | exact .inl rfl | exact .inr (.inl rfl) | exact .inr (.inr rfl)) (SN (sn_lst (sa_cons (se_op opD_add (SV (se_bi (pe_callB (cb_max xs.calm) rfl g.f_max rfl (sav_cons (SV (se_op opD_add (SV (SN (sn_lst (sa_cons se_int sa_nil)))) (SV (SN (sn_comp0 (own := [("kind", 10)]) xs (si_e (se_v rfl (by first | exact .inl rfl | exact .inr (.inl rfl) | exact .inr (.inr rfl)))) (blkOk_by (by kernel_rfl)) (fun _ _ _ _ _ => (pg_name xs.blk.nd rfl (by first | exact .inl rfl | exact .inr rfl))) gok_name (by decide) (fun _ _ _ _ _ => (se_ix xs.blk.u1 (SV (se_v rfl (by first | exact .inl rfl | exact .inr (.inl rfl) | exact .inr (.inr rfl)))) (se_v rfl (by first | exact .inl rfl | exact .inr (.inl rfl) | exact .inr (.inr rfl)))))))))) sav_nil)))) (SV se_int)) (sa_cons (se_v rfl (by first | exact .inl rfl | exact .inr (.inl rfl) | exact .inr (.inr rfl))) (sa_cons (se_v rfl (by first | exact .inl rfl | exact .inr (.inl rfl) | exact .inr (.inr rfl))) sa_nil))))))) ss_nil)))
  (ss_frz xs (ss_cons xs (s_as xs.nd rfl (by first | exact .inl rfl | exact .inr rfl) (se_bi (pe_callB (cb_min xs.calm) rfl g.f_min rfl (sav_cons (SV (SN (sn_comp0 (own := [("row", 12)]) xs (si_e (se_v rfl (by first | exact .inl rfl | exact .inr (.inl rfl) | exact .inr (.inr rfl)))) (blkOk_by (by kernel_rfl)) (fun _ _ _ _ _ => (pg_name xs.blk.nd rfl (by first | exact .inl rfl | exact .inr rfl))) gok_name (by decide) (fun _ _ _ _ _ => (se_ix xs.blk.u1 (SV (se_v rfl (by first | exact .inl rfl | exact .inr (.inl rfl) | exact .inr (.inr rfl)))) se_int))))) sav_nil))))
  (ss_cons xs (s_for xs (si_e (se_v rfl (by first | exact .inl rfl | exact .inr (.inl rfl) | exact .inr (.inr rfl)))) (pg_seq xs.calm (pgs_cons (pg_name xs.nd rfl (by first | exact .inl rfl | exact .inr rfl)) (pgs_cons (pg_name xs.nd rfl (by first | exact .inl rfl | exact .inr rfl)) (pgs_cons (pg_name xs.nd rfl (by first | exact .inl rfl | exact .inr rfl)) pgs_nil)))) (gok_seq rfl (gsok_cons gok_name (gsok_cons gok_name (gsok_cons gok_name gsok_nil)))) (ss_one (s_if xs (st_cmp (opC_eq xs.u64) (SV (se_v rfl (by first | exact .inl rfl | exact .inr (.inl rfl) | exact .inr (.inr rfl)))) (SV (se_v rfl (by first | exact .inl rfl | exact .inr (.inl rfl) | exact .inr (.inr rfl)))) rfl) (ss_one (s_ret (se_tup (sa_cons se_str (sa_cons (se_v rfl (by first | exact .inl rfl | exact .inr (.inl rfl) | exact .inr (.inr rfl))) (sa_cons (se_bi (pe_callTy cb_tuple rfl g.f_tuple rfl (sav_cons (SV (SN (sn_comp0 (own := [("kind", 10)]) xs (si_e (se_v rfl (by first | exact .inl rfl | exact .inr (.inl rfl) | exact .inr (.inr rfl)))) (blkOk_by (by kernel_rfl)) (fun _ _ _ _ _ => (pg_name xs.blk.nd rfl (by first | exact .inl rfl | exact .inr rfl))) gok_name (by decide) (fun _ _ _ _ _ => (se_call ⟨(cal "_law_least" _ rfl).at_⟩ xs.blk rfl rfl (sa_cons (se_v rfl (by first | exact .inl rfl | exact .inr (.inl rfl) | exact .inr (.inr rfl))) (sa_cons (se_v rfl (by first | exact .inl rfl | exact .inr (.inl rfl) | exact .inr (.inr rfl))) (sa_cons (se_v rfl (by first | exact .inl rfl | exact .inr (.inl rfl) | exact .inr (.inr rfl))) sa_nil))) rfl))))) sav_nil))) sa_nil)))))) ss_nil)))
  (ss_one (s_ret se_non))))))))))
theorem dn_f_law_least_in (X : K.In h) (G : h.Ns mainGlobals mg) (c : He.SaysD fa fn K) (g : Gx K mg) : Dn Pg w K mg (caK K tf) P "_law_least_in" f_law_least_in := by
  obtain ⟨fd, F⟩ := c.def_ 27 (d := d_f_law_least_in) rfl
  exact ⟨_, _, _, _, _, _, fd, ["types", "heights", "name", "region", "other", "makers", "maker", "fields", "k", "rows", "kind", "least", "row", "size"], ["types", "heights", "name", "region"], F, He.glo_ok X G (c.fact 27 (f := .glo "_law_least_in") rfl), sc_f_law_least_in, rfl, rfl, F.bindsN fun _ _ _ _ _ _ us hl => match us, hl with | [_, _, _, _], _ => rfl, fun base cdv A out s H E e n tb hc cal xs sl => dv_f_law_least_in g cal xs sl⟩
theorem sc_f_law_region_text : FnScope ["types", "region", "part"] ["types", "region"] (defScope (top 33)) := ⟨rfl, rfl, rfl, by decide +kernel, rfl, by decide +kernel, by decide +kernel⟩
theorem dv_f_law_region_text {base : Heap} {a : Addr} {cdv : Value} {A : Around} {out : List Env} {s : Shared} {H : Hp} {E : XK} {e : En} {n : Nat} (g : Gx K mg)
    (cal : ∀ g d, P g = some d → Callee (cx Pg w K mg base ["types", "region", "part"] "_law_region_text" (defScope (top 33)) a cdv A out s H E) ca n (Ev.callN P n) g d.np) (xs : XS (cx Pg w K mg base ["types", "region", "part"] "_law_region_text" (defScope (top 33)) a cdv A out s H E) (wE E) n) (sl : Slk (cx Pg w K mg base ["types", "region", "part"] "_law_region_text" (defScope (top 33)) a cdv A out s H E) n) :
    PSs (cx Pg w K mg base ["types", "region", "part"] "_law_region_text" (defScope (top 33)) a cdv A out s H E) (defBody (top 33)) (tS (ct (cx Pg w K mg base ["types", "region", "part"] "_law_region_text" (defScope (top 33)) a cdv A out s H E) ca) (wE E) e (f_law_region_text.body (Ev.callN P n))) :=
  (ss_cons xs (s_if xs (st_cmp (opC_eq xs.u64) (SV (se_ix xs.u1 (SV (se_v rfl (by first | exact .inl rfl | exact .inr (.inl rfl) | exact .inr (.inr rfl)))) se_int)) (SV se_str) rfl) (ss_one (s_ret se_str)) ss_nil)
  (ss_cons xs (s_if xs (st_cmp (opC_eq xs.u64) (SV (se_ix xs.u1 (SV (se_v rfl (by first | exact .inl rfl | exact .inr (.inl rfl) | exact .inr (.inr rfl)))) se_int)) (SV se_str) rfl) (ss_cons xs (s_if xs (st_cmp (opC_eq xs.u64) (SV (se_ix xs.u1 (SV (se_v rfl (by first | exact .inl rfl | exact .inr (.inl rfl) | exact .inr (.inr rfl)))) se_int)) (SV (se_ix xs.u1 (SV (se_v rfl (by first | exact .inl rfl | exact .inr (.inl rfl) | exact .inr (.inr rfl)))) se_int)) rfl) (ss_one (s_ret (se_bi (pe_callTy cb_str rfl g.f_str rfl (sav_cons (SV (se_ix xs.u1 (SV (se_v rfl (by first | exact .inl rfl | exact .inr (.inl rfl) | exact .inr (.inr rfl)))) se_int)) sav_nil))))) ss_nil)
  (ss_one (s_ret (se_op opD_add (SV (se_op opD_add (SV (se_bi (pe_callTy cb_str rfl g.f_str rfl (sav_cons (SV (se_ix xs.u1 (SV (se_v rfl (by first | exact .inl rfl | exact .inr (.inl rfl) | exact .inr (.inr rfl)))) se_int)) sav_nil)))) (SV se_str))) (SV (se_bi (pe_callTy cb_str rfl g.f_str rfl (sav_cons (SV (se_ix xs.u1 (SV (se_v rfl (by first | exact .inl rfl | exact .inr (.inl rfl) | exact .inr (.inr rfl)))) se_int)) sav_nil)))))))) ss_nil)
  (ss_cons xs (s_if xs (st_cmp (opC_eq xs.u64) (SV (se_ix xs.u1 (SV (se_v rfl (by first | exact .inl rfl | exact .inr (.inl rfl) | exact .inr (.inr rfl)))) se_int)) (SV se_str) rfl) (ss_cons xs (s_if xs (st_cmp (opC_eq xs.u64) (SV (se_bi (pe_callB cb_len rfl g.f_len rfl (sav_cons (SV (se_ix xs.u1 (SV (se_v rfl (by first | exact .inl rfl | exact .inr (.inl rfl) | exact .inr (.inr rfl)))) se_int)) sav_nil)))) (SV se_int) rfl) (ss_one (s_ret (se_op opD_add (SV se_str) (SV (se_ix xs.u1 (SV (se_ix xs.u1 (SV (se_v rfl (by first | exact .inl rfl | exact .inr (.inl rfl) | exact .inr (.inr rfl)))) se_int)) se_int))))) ss_nil)
  (ss_one (s_ret (se_op opD_add (SV (se_op opD_add (SV se_str) (SV (se_join se_str (SV (se_ix xs.u1 (SV (se_v rfl (by first | exact .inl rfl | exact .inr (.inl rfl) | exact .inr (.inr rfl)))) se_int)))))) (SV se_str))))) ss_nil)
  (ss_cons xs (s_if xs (st_cmp (opC_eq xs.u64) (SV (se_bi (pe_callB cb_len rfl g.f_len rfl (sav_cons (SV (se_ix xs.u1 (SV (se_v rfl (by first | exact .inl rfl | exact .inr (.inl rfl) | exact .inr (.inr rfl)))) se_int)) sav_nil)))) (SV se_int) rfl) (ss_one (s_ret (se_ix xs.u1 (SV (se_v rfl (by first | exact .inl rfl | exact .inr (.inl rfl) | exact .inr (.inr rfl)))) se_int))) ss_nil)
  (ss_one (s_ret (se_op opD_add (SV (se_op opD_add (SV (se_op opD_add (SV (se_ix xs.u1 (SV (se_v rfl (by first | exact .inl rfl | exact .inr (.inl rfl) | exact .inr (.inr rfl)))) se_int)) (SV se_str))) (SV (se_join se_str (SV (SN (sn_comp0 (own := [("part", 2)]) xs (si_e (se_ix xs.u1 (SV (se_v rfl (by first | exact .inl rfl | exact .inr (.inl rfl) | exact .inr (.inr rfl)))) se_int)) (blkOk_by (by kernel_rfl)) (fun _ _ _ _ _ => (pg_name xs.blk.nd rfl (by first | exact .inl rfl | exact .inr rfl))) gok_name (by decide) (fun _ _ _ _ _ => (se_call ⟨(cal "_law_region_text" _ rfl).at_⟩ xs.blk rfl rfl (sa_cons (se_v rfl (by first | exact .inl rfl | exact .inr (.inl rfl) | exact .inr (.inr rfl))) (sa_cons (se_v rfl (by first | exact .inl rfl | exact .inr (.inl rfl) | exact .inr (.inr rfl))) sa_nil)) rfl))))))))) (SV se_str))))))))
theorem dn_f_law_region_text (X : K.In h) (G : h.Ns mainGlobals mg) (c : He.SaysD fa fn K) (g : Gx K mg) : Dn Pg w K mg (caK K tf) P "_law_region_text" f_law_region_text := by
  obtain ⟨fd, F⟩ := c.def_ 28 (d := d_f_law_region_text) rfl
  exact ⟨_, _, _, _, _, _, fd, ["types", "region", "part"], ["types", "region"], F, He.glo_ok X G (c.fact 28 (f := .glo "_law_region_text") rfl), sc_f_law_region_text, rfl, rfl, F.bindsN fun _ _ _ _ _ _ us hl => match us, hl with | [_, _], _ => rfl, fun base cdv A out s H E e n tb hc cal xs sl => dv_f_law_region_text g cal xs sl⟩
theorem sc_f_law_7 : FnScope ["script", "box", "types", "heights", "turn", "name", "row", "region", "least", "k", "value"] ["script"] (defScope (top 34)) := ⟨rfl, rfl, rfl, by decide +kernel, rfl, by decide +kernel, by decide +kernel⟩
theorem dv_f_law_7 {base : Heap} {a : Addr} {cdv : Value} {A : Around} {out : List Env} {s : Shared} {H : Hp} {E : XK} {e : En} {n : Nat} (g : Gx K mg)
    (cal : ∀ g d, P g = some d → Callee (cx Pg w K mg base ["script", "box", "types", "heights", "turn", "name", "row", "region", "least", "k", "value"] "law" (defScope (top 34)) a cdv A out s H E) ca n (Ev.callN P n) g d.np) (xs : XS (cx Pg w K mg base ["script", "box", "types", "heights", "turn", "name", "row", "region", "least", "k", "value"] "law" (defScope (top 34)) a cdv A out s H E) (wE E) n) (sl : Slk (cx Pg w K mg base ["script", "box", "types", "heights", "turn", "name", "row", "region", "least", "k", "value"] "law" (defScope (top 34)) a cdv A out s H E) n) :
    PSs (cx Pg w K mg base ["script", "box", "types", "heights", "turn", "name", "row", "region", "least", "k", "value"] "law" (defScope (top 34)) a cdv A out s H E) (defBody (top 34)) (tS (ct (cx Pg w K mg base ["script", "box", "types", "heights", "turn", "name", "row", "region", "least", "k", "value"] "law" (defScope (top 34)) a cdv A out s H E) ca) (wE E) e (f_law_7.body (Ev.callN P n))) :=
  (ss_cons xs (s_cell xs.nd rfl (by first | exact .inl rfl | exact .inr rfl) (sn_lst (sa_cons (se_call ⟨(cal "_law_digits" _ rfl).at_⟩ xs rfl rfl (sa_cons (se_v rfl (by first | exact .inl rfl | exact .inr (.inl rfl) | exact .inr (.inr rfl))) (sa_cons se_int (sa_cons se_int sa_nil))) rfl) (sa_cons se_int sa_nil))))
  (ss_cons xs (s_as xs.nd rfl (by first | exact .inl rfl | exact .inr rfl) (se_call ⟨(cal "_law_types" _ rfl).at_⟩ xs rfl rfl (sa_cons (se_v rfl (by first | exact .inl rfl | exact .inr (.inl rfl) | exact .inr (.inr rfl))) sa_nil) rfl))
  (ss_cons xs (s_as xs.nd rfl (by first | exact .inl rfl | exact .inr rfl) (se_call ⟨(cal "_law_heights" _ rfl).at_⟩ xs rfl rfl (sa_cons (se_v rfl (by first | exact .inl rfl | exact .inr (.inl rfl) | exact .inr (.inr rfl))) sa_nil) rfl))
  (ss_cons xs (s_for xs (si_range1 rfl g.f_range se_int) (pg_name xs.nd rfl (by first | exact .inl rfl | exact .inr rfl)) gok_name (ss_cons xs (s_as xs.nd rfl (by first | exact .inl rfl | exact .inr rfl) (se_ix xs.u1 (SV (se_op opD_add (SV (SN (sn_lst (sa_cons se_str sa_nil)))) (SV (se_op opD_mul (SV (SN (sn_comp0 (own := [("row", 6)]) xs (si_e (se_v rfl (by first | exact .inl rfl | exact .inr (.inl rfl) | exact .inr (.inr rfl)))) (blkOk_by (by kernel_rfl)) (fun _ _ _ _ _ => (pg_name xs.blk.nd rfl (by first | exact .inl rfl | exact .inr rfl))) gok_name (by decide) (fun _ _ _ _ _ => (se_ix xs.blk.u1 (SV (se_v rfl (by first | exact .inl rfl | exact .inr (.inl rfl) | exact .inr (.inr rfl)))) se_int))))) (SV se_int))))) (se_op opD_mod (SV (se_bi (pe_callTy cb_int rfl g.f_int rfl (sav_cons (SV (se_call ⟨(cal "_law_draw" _ rfl).at_⟩ xs rfl rfl (sa_cons (se_v rfl (by first | exact .inl rfl | exact .inr (.inl rfl) | exact .inr (.inr rfl))) (sa_cons se_int sa_nil)) rfl)) sav_nil)))) (SV (se_op opD_add (SV se_int) (SV (se_op opD_mul (SV se_int) (SV (se_bi (pe_callB cb_len rfl g.f_len rfl (sav_cons (SV (se_v rfl (by first | exact .inl rfl | exact .inr (.inl rfl) | exact .inr (.inr rfl)))) sav_nil)))))))))))
  (ss_cons xs (s_as xs.nd rfl (by first | exact .inl rfl | exact .inr rfl) (se_call ⟨(cal "_law_region" _ rfl).at_⟩ xs rfl rfl (sa_cons (se_v rfl (by first | exact .inl rfl | exact .inr (.inl rfl) | exact .inr (.inr rfl))) (sa_cons (se_v rfl (by first | exact .inl rfl | exact .inr (.inl rfl) | exact .inr (.inr rfl))) (sa_cons (se_v rfl (by first | exact .inl rfl | exact .inr (.inl rfl) | exact .inr (.inr rfl))) (sa_cons se_int sa_nil)))) rfl))
  (ss_cons xs (s_as xs.nd rfl (by first | exact .inl rfl | exact .inr rfl) (se_call ⟨(cal "least_in" _ rfl).at_⟩ xs rfl rfl (sa_cons (se_v rfl (by first | exact .inl rfl | exact .inr (.inl rfl) | exact .inr (.inr rfl))) (sa_cons (se_v rfl (by first | exact .inl rfl | exact .inr (.inl rfl) | exact .inr (.inr rfl))) (sa_cons (se_v rfl (by first | exact .inl rfl | exact .inr (.inl rfl) | exact .inr (.inr rfl))) sa_nil))) rfl))
  (ss_cons xs (s_if xs (PW.pt (sw_or (st_not (st_e (SV (se_call ⟨(cal "_law_same" _ rfl).at_⟩ xs rfl rfl (sa_cons (se_v rfl (by first | exact .inl rfl | exact .inr (.inl rfl) | exact .inr (.inr rfl))) (sa_cons (se_call ⟨(cal "_law_least_in" _ rfl).at_⟩ xs rfl rfl (sa_cons (se_v rfl (by first | exact .inl rfl | exact .inr (.inl rfl) | exact .inr (.inr rfl))) (sa_cons (se_v rfl (by first | exact .inl rfl | exact .inr (.inl rfl) | exact .inr (.inr rfl))) (sa_cons (se_v rfl (by first | exact .inl rfl | exact .inr (.inl rfl) | exact .inr (.inr rfl))) (sa_cons (se_v rfl (by first | exact .inl rfl | exact .inr (.inl rfl) | exact .inr (.inr rfl))) sa_nil)))) rfl) sa_nil)) rfl)))) (sw_or1 (st_not (st_e (SV (se_call ⟨(cal "holds" _ rfl).at_⟩ xs rfl rfl (sa_cons (se_v rfl (by first | exact .inl rfl | exact .inr (.inl rfl) | exact .inr (.inr rfl))) (sa_cons (se_v rfl (by first | exact .inl rfl | exact .inr (.inl rfl) | exact .inr (.inr rfl))) sa_nil)) rfl))))))) (ss_one (s_ret se_bl)) ss_nil)
  (ss_cons xs (s_if xs (st_cmp (opC_ne xs.u64) (SV (se_call ⟨(cal "region_text" _ rfl).at_⟩ xs rfl rfl (sa_cons (se_v rfl (by first | exact .inl rfl | exact .inr (.inl rfl) | exact .inr (.inr rfl))) sa_nil) rfl)) (SV (se_call ⟨(cal "_law_region_text" _ rfl).at_⟩ xs rfl rfl (sa_cons (se_v rfl (by first | exact .inl rfl | exact .inr (.inl rfl) | exact .inr (.inr rfl))) (sa_cons (se_v rfl (by first | exact .inl rfl | exact .inr (.inl rfl) | exact .inr (.inr rfl))) sa_nil)) rfl)) rfl) (ss_one (s_ret se_bl)) ss_nil)
  (ss_cons xs (s_for xs (si_range1 rfl g.f_range se_int) (pg_name xs.nd rfl (by first | exact .inl rfl | exact .inr rfl)) gok_name (ss_cons xs (s_as xs.nd rfl (by first | exact .inl rfl | exact .inr rfl) (se_call ⟨(cal "_law_value" _ rfl).at_⟩ xs rfl rfl (sa_cons (se_v rfl (by first | exact .inl rfl | exact .inr (.inl rfl) | exact .inr (.inr rfl))) (sa_cons (se_v rfl (by first | exact .inl rfl | exact .inr (.inl rfl) | exact .inr (.inr rfl))) (sa_cons (se_v rfl (by first | exact .inl rfl | exact .inr (.inl rfl) | exact .inr (.inr rfl))) (sa_cons (se_v rfl (by first | exact .inl rfl | exact .inr (.inl rfl) | exact .inr (.inr rfl))) (sa_cons se_int sa_nil))))) rfl))
  (ss_one (s_if xs (PW.pt (sw_and (st_cmp (opC_ne xs.u64) (SV (se_ix xs.u1 (SV (se_v rfl (by first | exact .inl rfl | exact .inr (.inl rfl) | exact .inr (.inr rfl)))) se_int)) (SV se_str) rfl) (sw_and (st_cmp (opC_ne xs.u64) (SV (se_ix xs.u1 (SV (se_v rfl (by first | exact .inl rfl | exact .inr (.inl rfl) | exact .inr (.inr rfl)))) se_int)) (SV se_str) rfl) (sw_and (st_e (SV (se_call ⟨(cal "_law_holds" _ rfl).at_⟩ xs rfl rfl (sa_cons (se_v rfl (by first | exact .inl rfl | exact .inr (.inl rfl) | exact .inr (.inr rfl))) (sa_cons (se_v rfl (by first | exact .inl rfl | exact .inr (.inl rfl) | exact .inr (.inr rfl))) sa_nil)) rfl))) (sw_and1 (st_cmp opC_lt (SV (se_call ⟨(cal "_law_height" _ rfl).at_⟩ xs rfl rfl (sa_cons (se_v rfl (by first | exact .inl rfl | exact .inr (.inl rfl) | exact .inr (.inr rfl))) sa_nil) rfl)) (SV (se_call ⟨(cal "height" _ rfl).at_⟩ xs rfl rfl (sa_cons (se_v rfl (by first | exact .inl rfl | exact .inr (.inl rfl) | exact .inr (.inr rfl))) sa_nil) rfl)) rfl)))))) (ss_one (s_ret se_bl)) ss_nil))))
  (ss_one (s_if xs (st_not (st_e (SV (se_call ⟨(cal "_law_same" _ rfl).at_⟩ xs rfl rfl (sa_cons (se_call ⟨(cal "least_value" _ rfl).at_⟩ xs rfl rfl (sa_cons (se_v rfl (by first | exact .inl rfl | exact .inr (.inl rfl) | exact .inr (.inr rfl))) (sa_cons (se_v rfl (by first | exact .inl rfl | exact .inr (.inl rfl) | exact .inr (.inr rfl))) sa_nil)) rfl) (sa_cons (se_call ⟨(cal "_law_least" _ rfl).at_⟩ xs rfl rfl (sa_cons (se_v rfl (by first | exact .inl rfl | exact .inr (.inl rfl) | exact .inr (.inr rfl))) (sa_cons (se_v rfl (by first | exact .inl rfl | exact .inr (.inl rfl) | exact .inr (.inr rfl))) (sa_cons (se_v rfl (by first | exact .inl rfl | exact .inr (.inl rfl) | exact .inr (.inr rfl))) sa_nil))) rfl) sa_nil)) rfl)))) (ss_one (s_ret se_bl)) ss_nil)))))))))
  (ss_one (s_ret se_bl))))))
theorem dn_f_law_7 (X : K.In h) (G : h.Ns mainGlobals mg) (c : He.SaysD fa fn K) (g : Gx K mg) : Dn Pg w K mg (caK K tf) P "law" f_law_7 := by
  obtain ⟨fd, F⟩ := c.def_ 29 (d := d_f_law_7) rfl
  exact ⟨_, _, _, _, _, _, fd, ["script", "box", "types", "heights", "turn", "name", "row", "region", "least", "k", "value"], ["script"], F, He.glo_ok X G (c.fact 29 (f := .glo "law") rfl), sc_f_law_7, rfl, rfl, F.bindsN fun _ _ _ _ _ _ us hl => match us, hl with | [_], _ => rfl, fun base cdv A out s H E e n tb hc cal xs sl => dv_f_law_7 g cal xs sl⟩
theorem dns (X : K.In h) (G : h.Ns mainGlobals mg) (c : He.SaysD fa fn K) (g : Gx K mg) : ∀ f d, P f = some d → Dn Pg w K mg (caK K tf) P f d := fun f d hp => by
  have hm := lookup_mem hp
  simp only [tbl, List.mem_cons, Prod.mk.injEq, List.not_mem_nil, or_false] at hm
  rcases hm with ⟨rfl, rfl⟩ | ⟨rfl, rfl⟩ | ⟨rfl, rfl⟩ | ⟨rfl, rfl⟩ | ⟨rfl, rfl⟩ | ⟨rfl, rfl⟩ | ⟨rfl, rfl⟩ | ⟨rfl, rfl⟩ | ⟨rfl, rfl⟩ | ⟨rfl, rfl⟩ | ⟨rfl, rfl⟩ | ⟨rfl, rfl⟩ | ⟨rfl, rfl⟩ | ⟨rfl, rfl⟩ | ⟨rfl, rfl⟩ | ⟨rfl, rfl⟩ | ⟨rfl, rfl⟩ | ⟨rfl, rfl⟩ | ⟨rfl, rfl⟩ | ⟨rfl, rfl⟩ | ⟨rfl, rfl⟩ | ⟨rfl, rfl⟩ | ⟨rfl, rfl⟩ | ⟨rfl, rfl⟩ | ⟨rfl, rfl⟩ | ⟨rfl, rfl⟩ | ⟨rfl, rfl⟩ | ⟨rfl, rfl⟩ | ⟨rfl, rfl⟩ | ⟨rfl, rfl⟩
  · exact dn_f_constructors X G c g
  · exact dn_f_fields_of X G c g
  · exact dn_f_made_height X G c g
  · exact dn_f_heights_of X G c g
  · exact dn_f_least_height X G c g
  · exact dn_f_height X G c g
  · exact dn_f_least_made X G c g
  · exact dn_f_least_value X G c g
  · exact dn_f_holds X G c g
  · exact dn_f_least_in X G c g
  · exact dn_f_region_text X G c g
  · exact dn_f_law_is_integer X G c g
  · exact dn_f_law_cell X G c g
  · exact dn_f_law_list_is X G c g
  · exact dn_f_law_same X G c g
  · exact dn_f_law_digits X G c g
  · exact dn_f_law_draw X G c g
  · exact dn_f_law_types X G c g
  · exact dn_f_law_makers X G c g
  · exact dn_f_law_heights X G c g
  · exact dn_f_law_least X G c g
  · exact dn_f_law_height X G c g
  · exact dn_f_law_value X G c g
  · exact dn_f_law_value_text X G c g
  · exact dn_f_law_region X G c g
  · exact dn_f_law_holds X G c g
  · exact dn_f_law_plain_simple X G c g
  · exact dn_f_law_least_in X G c g
  · exact dn_f_law_region_text X G c g
  · exact dn_f_law_7 X G c g
end
abbrev R : PySem.W.OpenRow := PySem.W.OpenLaw.row PySem.Challenge.rw_matchgraph_k06_least_in_regions
abbrev hk : PySem.W.Hook := He.hookX 4 fa fn [] tf (fun K => gcs K cs)
def ob (s : PySem.W.SharedT) : He.AlX := He.obsX 4 fa fn [] tf (fun K => gcs K cs) (HandSHeadRun.getT s)
theorem ob_eq (s : PySem.W.SharedT) : ob s = hk.obs s.abs := He.obsX_eq (HandSHeadRun.getT_eq s)
def loose : List Str := ["ANY", "_law_cell", "_law_digits", "_law_draw", "_law_height", "_law_heights", "_law_holds", "_law_is_integer", "_law_least", "_law_least_in", "_law_list_is", "_law_makers", "_law_plain_simple", "_law_region", "_law_region_text", "_law_same", "_law_types", "_law_value", "_law_value_text", "constructors", "fields_of", "height", "heights_of", "holds", "least_height", "least_in", "least_made", "least_value", "made_height", "region_text"]
theorem run (w : World) : HandSHeadRun.RunEq R (PySem.W.view R.prog [34]) hk ob 20000 loose w := by
  intro os
  kernel_rfl
end K06
end

section
set_option maxHeartbeats 0
set_option Elab.async false
set_option linter.all false
set_option maxRecDepth 100000
set_option maxHeartbeats 0
open PySem PySem.W PySem.Calls PyProof.Rows
theorem PySem.Challenge.cw_matchgraph_k06_least_in_regions_holds : PySem.Challenge.rw_matchgraph_k06_least_in_regions.Holds := by
  w_on; o_law
  refine HandSHeadRun.head_any (r := OpenLaw.row PySem.Challenge.rw_matchgraph_k06_least_in_regions) (q := view (OpenLaw.row PySem.Challenge.rw_matchgraph_k06_least_in_regions).prog [34]) (H := K06.hk) (ob := K06.ob) (M := 20000) (loose := K06.loose) (d := HandSHeadRun.topDef (OpenLaw.row PySem.Challenge.rw_matchgraph_k06_least_in_regions).prog 34) (kwd := []) K06.ob_eq
    (by kernel_rfl) (fun s => by kernel_rfl) K06.run (by kernel_rfl) (by kernel_rfl) (by kernel_rfl) (by rfl) (by first | assumption | decide +kernel) (by decide +kernel) ⟨rfl, rfl, rfl, rfl, rfl, by decide +kernel⟩ ?hw ?hc
  case hw => w_witness2
  case hc =>
    refine EvS.walk_ev (l := PySem.Challenge.rw_matchgraph_k06_least_in_regions) (n := 63) (k := 200) (P := K06.P) (dl := K06.f_law_7) rfl (by decide) (by kernel_rfl) ⟨rfl, by decide, by decide⟩ (by kernel_rfl) rfl rfl ?F K06.plain
    intro w mg h Y G
    obtain ⟨K, KX, c⟩ := Y
    have cd : He.SaysD K06.fa K06.fn K := congrArg (fun z : He.AlT => z.1) c.t
    exact ⟨K, EvS.caK K K06.tf, KX, EvS.caK_all c.empty, EvS.caK_all c.out, EvS.caK_all fun p hp => PySem.W.codeHd_of_K KX (c.hd p hp), K06.dns KX G cd (K06.gx KX G cd c.more)⟩
end
